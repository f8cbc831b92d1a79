/- The functions in the small code, part 0. No condition. -/
import Derived.Test.YtjhdkimkijhloaaGreatDoorFt3
set_option linter.all false
namespace Go.Abs
def fn3 : AFunc := ⟨93, 3, [(6, none)],
 (.seq (.ops [⟨(some 3), .box (.t 0), none, false⟩,
   ⟨(some 6), .mov (.c (.bool false)), none, false⟩])
 (.seq (.seq (.ops [⟨(some 15), .call (.f 15) [], none, false⟩,
     ⟨(some 16), .un .not (.t 15), none, false⟩,
     ⟨(some 17), .mov (.t 16), none, false⟩,
     ⟨(some 18), .load (some 3) (.t 3), (some (17, false)), false⟩,
     ⟨(some 19), .call (.f 16) [(.t 18)], (some (17, false)), false⟩,
     ⟨(some 20), .un .not (.t 19), (some (17, false)), false⟩,
     ⟨(some 21), .pick (.t 17) (.c (.bool true)) (.t 20), none, false⟩,
     ⟨(some 22), .mov (.t 21), none, false⟩,
     ⟨(some 23), .mov (.t 1), (some (22, false)), false⟩,
     ⟨(some 24), .call (.f 17) [(.t 23)], (some (22, false)), false⟩,
     ⟨(some 25), .un .not (.t 24), (some (22, false)), false⟩,
     ⟨(some 26), .pick (.t 22) (.c (.bool true)) (.t 25), none, false⟩])
   (.cond (.t 26)
     (.seq (.ops [⟨(some 27), .call (.f 15) [], none, false⟩,
       ⟨(some 6), .mov (.t 27), none, false⟩])
     .ret)
     .skip))
  (.seq (.ops [⟨(some 29), .load (some 3) (.t 3), none, false⟩,
     ⟨(some 30), .call (.f 19) [(.t 29)], none, false⟩,
     ⟨(some 31), .mov (.t 2), none, false⟩,
     ⟨(some 32), .call (.f 18) [(.t 30), (.t 31)], none, false⟩,
     ⟨(some 28), .mov (.t 32), none, false⟩,
     ⟨(some 33), .ext (.t 28) 0, none, false⟩,
     ⟨(some 34), .ext (.t 28) 1, none, false⟩,
     ⟨(some 7), .box (.c (.agg [.int .i64 0, .int .i64 0])), none, false⟩,
     ⟨none, .store 2 (.t 7) (.t 33), none, false⟩,
     ⟨(some 8), .mov (.t 34), none, false⟩])
   (.seq (.ops [⟨(some 36), .load (some 3) (.t 3), none, false⟩,
      ⟨(some 37), .call (.f 19) [(.t 36)], none, false⟩,
      ⟨(some 38), .mov (.t 2), none, false⟩,
      ⟨(some 39), .call (.f 20) [(.t 37), (.t 38)], none, false⟩,
      ⟨(some 35), .mov (.t 39), none, false⟩,
      ⟨(some 40), .ext (.t 35) 0, none, false⟩,
      ⟨(some 41), .ext (.t 35) 1, none, false⟩,
      ⟨(some 9), .box (.c (.agg [.int .i64 0, .int .i64 0])), none, false⟩,
      ⟨none, .store 2 (.t 9) (.t 40), none, false⟩,
      ⟨(some 10), .mov (.t 41), none, false⟩])
    (.seq (.ops [⟨(some 42), .load (some 3) (.t 3), none, false⟩,
       ⟨(some 43), .call (.f 21) [(.t 42)], none, false⟩,
       ⟨(some 11), .mov (.t 43), none, false⟩])
     (.seq (.ops [⟨(some 44), .mov (.t 11), none, false⟩,
        ⟨(some 12), .mov (.t 44), none, false⟩])
      (.seq (.ops [⟨(some 13), .box (.c (.agg [.int .i64 0, .int .i64 0])), none, false⟩])
       (.seq (.ops [⟨(some 14), .box (.c (.agg [.int .i64 0, .int .i64 0])), none, false⟩])
        (.seq (.seq (.ops [⟨(some 45), .mov (.t 11), none, false⟩,
            ⟨(some 46), .bin .eql (.t 45) (.c (.int .i64 0)), none, false⟩])
          (.cond (.t 46)
            (.ops [⟨(some 47), .load (some 3) (.t 3), none, false⟩,
             ⟨(some 48), .mov (.t 2), none, false⟩,
             ⟨(some 49), .call (.f 23) [(.t 47), (.t 48)], none, false⟩,
             ⟨(some 50), .un .not (.t 49), none, false⟩,
             ⟨(some 51), .call (.f 22) [(.t 50), (.c (.int .i64 14))], none, false⟩,
             ⟨(some 12), .mov (.t 51), none, false⟩])
            .skip))
         (.seq (.seq (.ops [⟨(some 52), .mov (.t 12), none, false⟩,
             ⟨(some 53), .bin .eql (.t 52) (.c (.int .i64 0)), none, false⟩])
           (.cond (.t 53)
             (.ops [⟨(some 54), .load (some 3) (.t 3), none, true⟩,
              ⟨(some 55), .mov (.t 2), none, true⟩,
              ⟨(some 56), .call (.f 24) [(.t 54), (.t 55)], none, true⟩,
              ⟨(some 57), .load (some 3) (.t 3), none, true⟩,
              ⟨(some 58), .mov (.t 2), none, true⟩,
              ⟨(some 59), .call (.f 25) [(.t 57), (.t 58)], none, false⟩,
              ⟨none, .store 2 (.t 13) (.t 56), none, false⟩,
              ⟨none, .store 2 (.t 14) (.t 59), none, false⟩])
             .skip))
          (.seq (.ops [⟨(some 60), .load (some 3) (.t 3), none, false⟩,
             ⟨(some 61), .call (.f 19) [(.t 60)], none, false⟩,
             ⟨(some 62), .call (.f 26) [(.t 61)], none, false⟩,
             ⟨(some 63), .mov (.t 11), none, false⟩,
             ⟨(some 64), .bin .eql (.t 62) (.t 63), none, false⟩,
             ⟨(some 65), .mov (.t 64), none, false⟩,
             ⟨(some 66), .mov (.t 1), (some (65, true)), false⟩,
             ⟨(some 67), .call (.f 28) [(.t 66)], (some (65, true)), false⟩,
             ⟨(some 68), .call (.f 27) [(.t 67)], (some (65, true)), false⟩,
             ⟨(some 69), .mov (.t 1), (some (65, true)), false⟩,
             ⟨(some 70), .call (.f 29) [(.t 69)], (some (65, true)), false⟩,
             ⟨(some 71), .bin .eql (.t 68) (.t 70), (some (65, true)), false⟩,
             ⟨(some 72), .pick (.t 65) (.t 71) (.c (.bool false)), none, false⟩,
             ⟨(some 73), .mov (.t 72), none, false⟩,
             ⟨(some 74), .load (some 2) (.t 7), (some (73, true)), false⟩,
             ⟨(some 75), .load (some 2) (.t 13), (some (73, true)), false⟩,
             ⟨(some 76), .eqv false (.agg [.i, .i]) (.t 74) (.t 75), (some (73, true)), false⟩,
             ⟨(some 77), .pick (.t 73) (.t 76) (.c (.bool false)), none, false⟩,
             ⟨(some 78), .mov (.t 77), none, false⟩,
             ⟨(some 79), .mov (.t 8), (some (78, true)), false⟩,
             ⟨(some 80), .mov (.t 12), (some (78, true)), false⟩,
             ⟨(some 81), .bin .eql (.t 79) (.t 80), (some (78, true)), false⟩,
             ⟨(some 82), .pick (.t 78) (.t 81) (.c (.bool false)), none, false⟩,
             ⟨(some 83), .mov (.t 82), none, false⟩,
             ⟨(some 84), .load (some 2) (.t 9), (some (83, true)), false⟩,
             ⟨(some 85), .load (some 2) (.t 14), (some (83, true)), false⟩,
             ⟨(some 86), .eqv false (.agg [.i, .i]) (.t 84) (.t 85), (some (83, true)), false⟩,
             ⟨(some 87), .pick (.t 83) (.t 86) (.c (.bool false)), none, false⟩,
             ⟨(some 88), .mov (.t 87), none, false⟩,
             ⟨(some 89), .mov (.t 10), (some (88, true)), false⟩,
             ⟨(some 90), .mov (.t 12), (some (88, true)), false⟩,
             ⟨(some 91), .bin .eql (.t 89) (.t 90), (some (88, true)), false⟩,
             ⟨(some 92), .pick (.t 88) (.t 91) (.c (.bool false)), none, false⟩,
             ⟨(some 6), .mov (.t 92), none, false⟩])
           .ret)))))))))))⟩
def fn4 : AFunc := ⟨98, 3, [(6, none)],
 (.seq (.ops [⟨(some 3), .box (.t 0), none, false⟩,
   ⟨(some 4), .box (.t 1), none, false⟩,
   ⟨(some 6), .mov (.c (.bool false)), none, false⟩])
 (.seq (.seq (.ops [⟨(some 19), .call (.f 15) [], none, false⟩,
     ⟨(some 20), .un .not (.t 19), none, false⟩,
     ⟨(some 21), .mov (.t 20), none, false⟩,
     ⟨(some 22), .load (some 3) (.t 3), (some (21, false)), false⟩,
     ⟨(some 23), .call (.f 16) [(.t 22)], (some (21, false)), false⟩,
     ⟨(some 24), .un .not (.t 23), (some (21, false)), false⟩,
     ⟨(some 25), .pick (.t 21) (.c (.bool true)) (.t 24), none, false⟩])
   (.cond (.t 25)
     (.seq (.ops [⟨(some 26), .call (.f 15) [], none, false⟩,
       ⟨(some 6), .mov (.t 26), none, false⟩])
     .ret)
     .skip))
  (.seq (.ops [⟨(some 28), .load (some 3) (.t 3), none, true⟩,
     ⟨(some 29), .call (.f 19) [(.t 28)], none, true⟩,
     ⟨(some 30), .load (some 2) (.t 4), none, true⟩,
     ⟨(some 31), .call (.f 30) [(.t 29), (.t 30)], none, true⟩,
     ⟨(some 27), .mov (.t 31), none, true⟩,
     ⟨(some 32), .ext (.t 27) 0, none, true⟩,
     ⟨(some 33), .ext (.t 27) 1, none, true⟩,
     ⟨none, .mov (.c (.bool false)), none, true⟩,
     ⟨(some 7), .boxn 3 (.t 32), none, true⟩,
     ⟨(some 8), .mov (.t 33), none, false⟩])
   (.seq (.ops [⟨(some 35), .load (some 3) (.t 3), none, false⟩,
      ⟨(some 36), .call (.f 19) [(.t 35)], none, false⟩,
      ⟨(some 37), .mov (.t 2), none, false⟩,
      ⟨(some 38), .call (.f 31) [(.t 36), (.t 37)], none, false⟩,
      ⟨(some 34), .mov (.t 38), none, false⟩,
      ⟨(some 39), .ext (.t 34) 0, none, false⟩,
      ⟨(some 40), .ext (.t 34) 1, none, false⟩,
      ⟨(some 9), .mov (.t 39), none, false⟩,
      ⟨(some 10), .mov (.t 40), none, false⟩])
    (.seq (.ops [⟨(some 42), .load (some 3) (.t 3), none, false⟩,
       ⟨(some 43), .call (.f 19) [(.t 42)], none, false⟩,
       ⟨(some 44), .call (.f 32) [(.t 43)], none, false⟩,
       ⟨(some 41), .mov (.t 44), none, false⟩,
       ⟨(some 45), .ext (.t 41) 0, none, false⟩,
       ⟨(some 46), .ext (.t 41) 1, none, false⟩,
       ⟨(some 11), .box (.c (.agg [.str [], .int .i64 0, .nilSlice])), none, false⟩,
       ⟨none, .store 3 (.t 11) (.t 45), none, false⟩,
       ⟨(some 12), .mov (.t 46), none, false⟩])
     (.seq (.ops [⟨(some 47), .load (some 3) (.t 3), none, false⟩,
        ⟨(some 48), .call (.f 21) [(.t 47)], none, false⟩,
        ⟨(some 13), .mov (.t 48), none, false⟩])
      (.seq (.ops [⟨(some 49), .mov (.t 13), none, false⟩,
         ⟨(some 50), .load (some 2) (.t 4), none, false⟩,
         ⟨(some 51), .call (.f 34) [(.t 50)], none, false⟩,
         ⟨(some 52), .bslice 1 2 [.int .i64 0] [(0, (.t 49)), (1, (.t 51))], none, false⟩,
         ⟨(some 53), .call (.f 33) [(.t 52)], none, false⟩,
         ⟨(some 54), .mov (.t 13), none, false⟩,
         ⟨(some 55), .mov (.t 2), none, false⟩,
         ⟨(some 56), .call (.f 35) [(.t 55), (.c (.int .i64 0)), (.c (.int .i64 100000))], none, false⟩,
         ⟨(some 57), .bslice 1 2 [.int .i64 0] [(0, (.t 54)), (1, (.t 56))], none, false⟩,
         ⟨(some 58), .call (.f 33) [(.t 57)], none, false⟩,
         ⟨(some 14), .mov (.t 53), none, false⟩,
         ⟨(some 15), .mov (.t 58), none, false⟩])
       (.seq (.ops [⟨(some 16), .box (.c (.agg [.str [], .int .i64 0, .nilSlice])), none, false⟩,
          ⟨(some 17), .box (.c (.agg [.str [], .int .i64 0, .nilSlice])), none, false⟩])
        (.seq (.ops [⟨(some 18), .mov (.c (.nilSlice)), none, false⟩])
         (.seq (.seq (.ops [⟨(some 59), .mov (.t 14), none, false⟩,
             ⟨(some 60), .bin .eql (.t 59) (.c (.int .i64 0)), none, false⟩])
           (.cond (.t 60)
             (.ops [⟨(some 62), .load (some 3) (.t 3), none, false⟩,
              ⟨(some 63), .load (some 2) (.t 4), none, false⟩,
              ⟨(some 64), .call (.f 36) [(.t 62), (.t 63)], none, false⟩,
              ⟨(some 61), .mov (.t 64), none, false⟩,
              ⟨(some 65), .ext (.t 61) 0, none, false⟩,
              ⟨(some 66), .ext (.t 61) 1, none, false⟩,
              ⟨none, .store 3 (.t 16) (.t 65), none, false⟩,
              ⟨(some 14), .mov (.t 66), none, false⟩])
             .skip))
          (.seq (.seq (.ops [⟨(some 67), .mov (.t 15), none, false⟩,
              ⟨(some 68), .bin .eql (.t 67) (.c (.int .i64 0)), none, false⟩])
            (.cond (.t 68)
              (.ops [⟨(some 69), .load (some 3) (.t 3), none, false⟩,
               ⟨(some 70), .mov (.t 2), none, false⟩,
               ⟨(some 71), .call (.f 37) [(.t 69), (.t 70)], none, false⟩,
               ⟨(some 18), .mov (.t 71), none, false⟩])
              .skip))
           (.seq (.seq (.ops [⟨(some 72), .mov (.t 13), none, false⟩,
               ⟨(some 73), .bin .eql (.t 72) (.c (.int .i64 0)), none, false⟩])
             (.cond (.t 73)
               (.ops [⟨(some 74), .load (some 3) (.t 3), none, false⟩,
                ⟨(some 75), .call (.f 38) [(.t 74)], none, false⟩,
                ⟨none, .store 3 (.t 17) (.t 75), none, false⟩])
               .skip))
            (.seq (.ops [⟨(some 76), .load (some 3) (.t 7), none, false⟩,
               ⟨(some 77), .mov (.t 8), none, false⟩,
               ⟨(some 78), .mov (.t 14), none, false⟩,
               ⟨(some 79), .load (some 3) (.t 16), none, false⟩,
               ⟨(some 80), .call (.f 39) [(.t 76), (.t 77), (.t 78), (.t 79)], none, false⟩,
               ⟨(some 81), .mov (.t 80), none, false⟩,
               ⟨(some 82), .mov (.t 9), (some (81, true)), false⟩,
               ⟨(some 83), .mov (.t 18), (some (81, true)), false⟩,
               ⟨(some 84), .call (.f 40) [(.t 82), (.t 83)], (some (81, true)), false⟩,
               ⟨(some 85), .pick (.t 81) (.t 84) (.c (.bool false)), none, false⟩,
               ⟨(some 86), .mov (.t 85), none, false⟩,
               ⟨(some 87), .mov (.t 10), (some (86, true)), false⟩,
               ⟨(some 88), .mov (.t 15), (some (86, true)), false⟩,
               ⟨(some 89), .bin .eql (.t 87) (.t 88), (some (86, true)), false⟩,
               ⟨(some 90), .pick (.t 86) (.t 89) (.c (.bool false)), none, false⟩,
               ⟨(some 91), .mov (.t 90), none, false⟩,
               ⟨(some 92), .load (some 3) (.t 11), (some (91, true)), false⟩,
               ⟨(some 93), .mov (.t 12), (some (91, true)), false⟩,
               ⟨(some 94), .mov (.t 13), (some (91, true)), false⟩,
               ⟨(some 95), .load (some 3) (.t 17), (some (91, true)), false⟩,
               ⟨(some 96), .call (.f 39) [(.t 92), (.t 93), (.t 94), (.t 95)], (some (91, true)), false⟩,
               ⟨(some 97), .pick (.t 91) (.t 96) (.c (.bool false)), none, false⟩,
               ⟨(some 6), .mov (.t 97), none, false⟩])
             .ret)))))))))))))⟩
def fn15 : AFunc := ⟨326, 0, [(0, none)],
 (.seq (.ops [⟨(some 0), .mov (.c (.bool false)), none, false⟩])
 (.seq (.ops [⟨(some 46), .bslice 1 6 [.int .i64 0] [(0, (.c (.int .i64 0))), (1, (.c (.int .i64 100))), (2, (.c (.int .i64 3))), (3, (.c (.int .i64 110))), (4, (.c (.int .i64 6))), (5, (.c (.int .i64 90)))], none, false⟩,
    ⟨(some 47), .call (.f 91) [(.c (.str [116, 111, 112])), (.c (.int .i64 2)), (.t 46)], none, false⟩,
    ⟨(some 48), .bslice 1 4 [.int .i64 0] [(0, (.c (.int .i64 1))), (1, (.c (.int .i64 104))), (2, (.c (.int .i64 6))), (3, (.c (.int .i64 104)))], none, false⟩,
    ⟨(some 49), .call (.f 91) [(.c (.str [98, 97, 115, 101])), (.c (.int .i64 0)), (.t 48)], none, false⟩,
    ⟨(some 1), .box (.c (.agg [.str [], .int .i64 0, .nilSlice])), none, false⟩,
    ⟨(some 2), .box (.c (.agg [.str [], .int .i64 0, .nilSlice])), none, false⟩,
    ⟨none, .store 3 (.t 1) (.t 47), none, false⟩,
    ⟨none, .store 3 (.t 2) (.t 49), none, false⟩])
  (.seq (.ops [⟨(some 51), .load (some 3) (.t 1), none, false⟩,
     ⟨(some 52), .call (.f 18) [(.t 51), (.c (.int .i64 1))], none, false⟩,
     ⟨(some 50), .mov (.t 52), none, false⟩,
     ⟨(some 53), .ext (.t 50) 0, none, false⟩,
     ⟨(some 54), .ext (.t 50) 1, none, false⟩,
     ⟨(some 3), .box (.c (.agg [.int .i64 0, .int .i64 0])), none, false⟩,
     ⟨none, .store 2 (.t 3) (.t 53), none, false⟩,
     ⟨(some 4), .mov (.t 54), none, false⟩])
   (.seq (.ops [⟨(some 56), .load (some 3) (.t 1), none, false⟩,
      ⟨(some 57), .call (.f 20) [(.t 56), (.c (.int .i64 1))], none, false⟩,
      ⟨(some 55), .mov (.t 57), none, false⟩,
      ⟨(some 58), .ext (.t 55) 0, none, false⟩,
      ⟨(some 59), .ext (.t 55) 1, none, false⟩,
      ⟨(some 5), .box (.c (.agg [.int .i64 0, .int .i64 0])), none, false⟩,
      ⟨none, .store 2 (.t 5) (.t 58), none, false⟩,
      ⟨(some 6), .mov (.t 59), none, false⟩])
    (.seq (.ops [⟨(some 61), .load (some 3) (.t 1), none, false⟩,
       ⟨(some 62), .call (.f 20) [(.t 61), (.c (.int .i64 5))], none, false⟩,
       ⟨(some 60), .mov (.t 62), none, false⟩,
       ⟨(some 63), .ext (.t 60) 0, none, false⟩,
       ⟨(some 64), .ext (.t 60) 1, none, false⟩,
       ⟨(some 7), .box (.c (.agg [.int .i64 0, .int .i64 0])), none, false⟩,
       ⟨none, .store 2 (.t 7) (.t 63), none, false⟩,
       ⟨(some 8), .mov (.t 64), none, false⟩])
     (.seq (.ops [⟨(some 66), .load (some 3) (.t 1), none, false⟩,
        ⟨(some 67), .load (some 3) (.t 2), none, false⟩,
        ⟨(some 68), .call (.f 80) [(.t 66), (.t 67)], none, false⟩,
        ⟨(some 65), .mov (.t 68), none, false⟩,
        ⟨(some 69), .ext (.t 65) 0, none, false⟩,
        ⟨(some 70), .ext (.t 65) 1, none, false⟩,
        ⟨(some 71), .ext (.t 65) 2, none, false⟩,
        ⟨(some 9), .mov (.t 69), none, false⟩,
        ⟨(some 10), .mov (.t 70), none, false⟩,
        ⟨(some 11), .mov (.t 71), none, false⟩])
      (.seq (.ops [⟨(some 73), .load (some 3) (.t 2), none, false⟩,
         ⟨(some 74), .load (some 3) (.t 1), none, false⟩,
         ⟨(some 75), .call (.f 80) [(.t 73), (.t 74)], none, false⟩,
         ⟨(some 72), .mov (.t 75), none, false⟩,
         ⟨(some 76), .ext (.t 72) 0, none, false⟩,
         ⟨(some 77), .ext (.t 72) 1, none, false⟩,
         ⟨(some 78), .ext (.t 72) 2, none, false⟩,
         ⟨(some 12), .mov (.t 76), none, false⟩,
         ⟨(some 13), .mov (.t 77), none, false⟩,
         ⟨(some 14), .mov (.t 78), none, false⟩])
       (.seq (.ops [⟨(some 80), .load (some 3) (.t 1), none, false⟩,
          ⟨(some 81), .call (.f 31) [(.t 80), (.c (.int .i64 5))], none, false⟩,
          ⟨(some 79), .mov (.t 81), none, false⟩,
          ⟨(some 82), .ext (.t 79) 0, none, false⟩,
          ⟨(some 83), .ext (.t 79) 1, none, false⟩,
          ⟨(some 15), .mov (.t 82), none, false⟩,
          ⟨(some 16), .mov (.t 83), none, false⟩])
        (.seq (.ops [⟨(some 85), .load (some 3) (.t 1), none, false⟩,
           ⟨(some 86), .build [.int .i64 0, .int .i64 0] [(0, 1, (.c (.int .i64 3))), (1, 1, (.c (.int .i64 7)))], none, false⟩,
           ⟨(some 87), .call (.f 30) [(.t 85), (.t 86)], none, false⟩,
           ⟨(some 84), .mov (.t 87), none, false⟩,
           ⟨(some 88), .ext (.t 84) 0, none, false⟩,
           ⟨(some 89), .ext (.t 84) 1, none, false⟩,
           ⟨(some 17), .box (.c (.agg [.str [], .int .i64 0, .nilSlice])), none, false⟩,
           ⟨none, .store 3 (.t 17) (.t 88), none, false⟩,
           ⟨(some 18), .mov (.t 89), none, false⟩])
         (.seq (.ops [⟨(some 91), .load (some 3) (.t 1), none, false⟩,
            ⟨(some 92), .call (.f 32) [(.t 91)], none, false⟩,
            ⟨(some 90), .mov (.t 92), none, false⟩,
            ⟨(some 93), .ext (.t 90) 0, none, false⟩,
            ⟨(some 94), .ext (.t 90) 1, none, false⟩,
            ⟨(some 19), .box (.c (.agg [.str [], .int .i64 0, .nilSlice])), none, false⟩,
            ⟨none, .store 3 (.t 19) (.t 93), none, false⟩,
            ⟨(some 20), .mov (.t 94), none, false⟩])
          (.seq (.seq (.ops [⟨(some 95), .mov (.t 4), none, true⟩,
              ⟨(some 96), .mov (.t 6), none, true⟩,
              ⟨(some 97), .bin .add (.t 95) (.t 96), none, true⟩,
              ⟨(some 98), .mov (.t 8), none, true⟩,
              ⟨(some 99), .bin .add (.t 97) (.t 98), none, true⟩,
              ⟨(some 100), .mov (.t 11), none, true⟩,
              ⟨(some 101), .bin .add (.t 99) (.t 100), none, true⟩,
              ⟨(some 102), .mov (.t 14), none, true⟩,
              ⟨(some 103), .bin .add (.t 101) (.t 102), none, true⟩,
              ⟨(some 104), .mov (.t 16), none, true⟩,
              ⟨(some 105), .bin .add (.t 103) (.t 104), none, true⟩,
              ⟨(some 106), .mov (.t 18), none, true⟩,
              ⟨(some 107), .bin .add (.t 105) (.t 106), none, true⟩,
              ⟨(some 108), .mov (.t 20), none, true⟩,
              ⟨(some 109), .bin .add (.t 107) (.t 108), none, false⟩,
              ⟨(some 110), .bin .neq (.t 109) (.c (.int .i64 0)), none, false⟩,
              ⟨(some 111), .mov (.t 110), none, false⟩,
              ⟨(some 112), .load (some 2) (.t 3), (some (111, false)), true⟩,
              ⟨(some 113), .build [.int .i64 0, .int .i64 0] [(0, 1, (.c (.int .i64 310))), (1, 1, (.c (.int .i64 3)))], (some (111, false)), true⟩,
              ⟨(some 114), .eqv true (.agg [.i, .i]) (.t 112) (.t 113), (some (111, false)), false⟩,
              ⟨(some 115), .pick (.t 111) (.c (.bool true)) (.t 114), none, false⟩,
              ⟨(some 116), .mov (.t 115), none, false⟩,
              ⟨(some 117), .load (some 2) (.t 5), (some (116, false)), true⟩,
              ⟨(some 118), .call (.f 67) [(.c (.int .i64 101)), (.c (.int .i64 106))], (some (116, false)), true⟩,
              ⟨(some 119), .eqv true (.agg [.i, .i]) (.t 117) (.t 118), (some (116, false)), false⟩,
              ⟨(some 120), .pick (.t 116) (.c (.bool true)) (.t 119), none, false⟩,
              ⟨(some 121), .mov (.t 120), none, false⟩,
              ⟨(some 122), .load (some 2) (.t 7), (some (121, false)), true⟩,
              ⟨(some 123), .call (.f 67) [(.c (.int .i64 94)), (.c (.int .i64 99))], (some (121, false)), true⟩,
              ⟨(some 124), .eqv true (.agg [.i, .i]) (.t 122) (.t 123), (some (121, false)), false⟩,
              ⟨(some 125), .pick (.t 121) (.c (.bool true)) (.t 124), none, false⟩,
              ⟨(some 126), .mov (.t 125), none, false⟩,
              ⟨(some 127), .mov (.t 9), (some (126, false)), false⟩,
              ⟨(some 128), .bin .neq (.t 127) (.c (.int .i64 2)), (some (126, false)), false⟩,
              ⟨(some 129), .pick (.t 126) (.c (.bool true)) (.t 128), none, false⟩,
              ⟨(some 130), .mov (.t 129), none, false⟩,
              ⟨(some 131), .mov (.t 10), (some (130, false)), false⟩,
              ⟨(some 132), .un .not (.t 131), (some (130, false)), false⟩,
              ⟨(some 133), .pick (.t 130) (.c (.bool true)) (.t 132), none, false⟩,
              ⟨(some 134), .mov (.t 133), none, false⟩,
              ⟨(some 135), .mov (.t 12), (some (134, false)), false⟩,
              ⟨(some 136), .bin .neq (.t 135) (.c (.int .i64 1)), (some (134, false)), false⟩,
              ⟨(some 137), .pick (.t 134) (.c (.bool true)) (.t 136), none, false⟩,
              ⟨(some 138), .mov (.t 137), none, false⟩,
              ⟨(some 139), .mov (.t 13), (some (138, false)), false⟩,
              ⟨(some 140), .un .not (.t 139), (some (138, false)), false⟩,
              ⟨(some 141), .pick (.t 138) (.c (.bool true)) (.t 140), none, false⟩,
              ⟨(some 142), .mov (.t 141), none, false⟩,
              ⟨(some 143), .mov (.t 15), (some (142, false)), true⟩,
              ⟨(some 144), .bslice 1 1 [.int .i64 0] [(0, (.c (.int .i64 6)))], (some (142, false)), true⟩,
              ⟨(some 145), .call (.f 40) [(.t 143), (.t 144)], (some (142, false)), false⟩,
              ⟨(some 146), .un .not (.t 145), (some (142, false)), false⟩,
              ⟨(some 147), .pick (.t 142) (.c (.bool true)) (.t 146), none, false⟩,
              ⟨(some 148), .mov (.t 147), none, false⟩,
              ⟨(some 149), .load (some 3) (.t 17), (some (148, false)), true⟩,
              ⟨(some 150), .call (.f 68) [(.t 149)], (some (148, false)), true⟩,
              ⟨(some 151), .bslice 1 6 [.int .i64 0] [(0, (.c (.int .i64 0))), (1, (.c (.int .i64 100))), (2, (.c (.int .i64 3))), (3, (.c (.int .i64 117))), (4, (.c (.int .i64 6))), (5, (.c (.int .i64 97)))], (some (148, false)), true⟩,
              ⟨(some 152), .call (.f 91) [(.c (.str [116, 111, 112])), (.c (.int .i64 2)), (.t 151)], (some (148, false)), false⟩,
              ⟨(some 153), .call (.f 68) [(.t 152)], (some (148, false)), false⟩,
              ⟨(some 154), .call (.f 69) [(.t 150), (.t 153)], (some (148, false)), false⟩,
              ⟨(some 155), .un .not (.t 154), (some (148, false)), false⟩,
              ⟨(some 156), .pick (.t 148) (.c (.bool true)) (.t 155), none, false⟩,
              ⟨(some 157), .mov (.t 156), none, false⟩,
              ⟨(some 158), .load (some 3) (.t 19), (some (157, false)), true⟩,
              ⟨(some 159), .call (.f 68) [(.t 158)], (some (157, false)), true⟩,
              ⟨(some 160), .bslice 1 14 [.int .i64 0] [(0, (.c (.int .i64 0))), (1, (.c (.int .i64 100))), (2, (.c (.int .i64 1))), (3, (.c (.int .i64 103))), (4, (.c (.int .i64 2))), (5, (.c (.int .i64 107))), (6, (.c (.int .i64 3))), (7, (.c (.int .i64 110))), (8, (.c (.int .i64 4))), (9, (.c (.int .i64 103))), (10, (.c (.int .i64 5))), (11, (.c (.int .i64 97))), (12, (.c (.int .i64 6))), (13, (.c (.int .i64 90)))], (some (157, false)), true⟩,
              ⟨(some 161), .call (.f 91) [(.c (.str [116, 111, 112])), (.c (.int .i64 2)), (.t 160)], (some (157, false)), false⟩,
              ⟨(some 162), .call (.f 68) [(.t 161)], (some (157, false)), false⟩,
              ⟨(some 163), .call (.f 69) [(.t 159), (.t 162)], (some (157, false)), false⟩,
              ⟨(some 164), .un .not (.t 163), (some (157, false)), false⟩,
              ⟨(some 165), .pick (.t 157) (.c (.bool true)) (.t 164), none, false⟩])
            (.cond (.t 165)
              (.seq (.ops [⟨(some 0), .mov (.c (.bool false)), none, false⟩])
              .ret)
              .skip))
           (.seq (.ops [⟨(some 167), .call (.f 92) [], none, false⟩,
              ⟨(some 168), .call (.f 93) [], none, false⟩,
              ⟨(some 169), .call (.f 41) [(.t 167), (.t 168), (.c (.int .i64 2))], none, false⟩,
              ⟨(some 166), .mov (.t 169), none, false⟩,
              ⟨(some 170), .ext (.t 166) 0, none, false⟩,
              ⟨(some 171), .ext (.t 166) 1, none, false⟩,
              ⟨(some 21), .mov (.t 170), none, false⟩,
              ⟨(some 22), .mov (.t 171), none, false⟩])
            (.seq (.ops [⟨(some 172), .build [.int .i64 0, .int .i64 0, .int .i64 0, .int .i64 0] [(0, 1, (.c (.int .i64 2))), (1, 1, (.c (.int .i64 1))), (2, 1, (.c (.int .i64 50))), (3, 1, (.c (.int .i64 5)))], none, false⟩,
               ⟨(some 173), .build [.int .i64 0, .int .i64 0, .int .i64 0, .int .i64 0] [(0, 1, (.c (.int .i64 2))), (1, 1, (.c (.int .i64 0))), (2, 1, (.c (.int .i64 30))), (3, 1, (.c (.int .i64 3)))], none, false⟩,
               ⟨(some 174), .bslice 4 2 [.int .i64 0, .int .i64 0, .int .i64 0, .int .i64 0] [(0, (.t 172)), (4, (.t 173))], none, false⟩,
               ⟨(some 23), .mov (.t 174), none, false⟩])
             (.seq (.ops [⟨(some 176), .call (.f 92) [], none, false⟩,
                ⟨(some 177), .call (.f 93) [], none, false⟩,
                ⟨(some 178), .mov (.t 23), none, false⟩,
                ⟨(some 179), .call (.f 43) [(.t 176), (.t 177), (.t 178)], none, false⟩,
                ⟨(some 175), .mov (.t 179), none, false⟩,
                ⟨(some 180), .ext (.t 175) 0, none, false⟩,
                ⟨(some 181), .ext (.t 175) 1, none, false⟩,
                ⟨(some 24), .mov (.t 180), none, false⟩,
                ⟨(some 25), .mov (.t 181), none, false⟩])
              (.seq (.ops [⟨(some 183), .call (.f 92) [], none, false⟩,
                 ⟨(some 184), .call (.f 93) [], none, false⟩,
                 ⟨(some 185), .mov (.t 23), none, false⟩,
                 ⟨(some 186), .call (.f 45) [(.t 183), (.t 184), (.t 185)], none, false⟩,
                 ⟨(some 182), .mov (.t 186), none, false⟩,
                 ⟨(some 187), .ext (.t 182) 0, none, false⟩,
                 ⟨(some 188), .ext (.t 182) 1, none, false⟩,
                 ⟨(some 26), .box (.c (.agg [.int .i64 0, .int .i64 0])), none, false⟩,
                 ⟨none, .store 2 (.t 26) (.t 187), none, false⟩,
                 ⟨(some 27), .mov (.t 188), none, false⟩])
               (.seq (.ops [⟨(some 190), .call (.f 94) [], none, false⟩,
                  ⟨(some 191), .call (.f 54) [(.t 190), (.c (.int .i64 4))], none, false⟩,
                  ⟨(some 189), .mov (.t 191), none, false⟩,
                  ⟨(some 192), .ext (.t 189) 0, none, false⟩,
                  ⟨(some 193), .ext (.t 189) 1, none, false⟩,
                  ⟨(some 28), .box (.c (.agg [.int .i64 0, .int .i64 0])), none, false⟩,
                  ⟨none, .store 2 (.t 28) (.t 192), none, false⟩,
                  ⟨(some 29), .mov (.t 193), none, false⟩])
                (.seq (.ops [⟨(some 195), .call (.f 94) [], none, false⟩,
                   ⟨(some 196), .call (.f 56) [(.t 195), (.c (.int .i64 4)), (.c (.int .i64 8))], none, false⟩,
                   ⟨(some 194), .mov (.t 196), none, false⟩,
                   ⟨(some 197), .ext (.t 194) 0, none, false⟩,
                   ⟨(some 198), .ext (.t 194) 1, none, false⟩,
                   ⟨(some 199), .ext (.t 194) 2, none, false⟩,
                   ⟨(some 30), .mov (.t 197), none, false⟩,
                   ⟨(some 31), .mov (.t 198), none, false⟩,
                   ⟨(some 32), .mov (.t 199), none, false⟩])
                 (.seq (.ops [⟨(some 201), .call (.f 94) [], none, false⟩,
                    ⟨(some 202), .call (.f 57) [(.t 201), (.c (.int .i64 4)), (.c (.int .i64 8))], none, false⟩,
                    ⟨(some 200), .mov (.t 202), none, false⟩,
                    ⟨(some 203), .ext (.t 200) 0, none, false⟩,
                    ⟨(some 204), .ext (.t 200) 1, none, false⟩,
                    ⟨(some 33), .box (.c (.agg [.int .i64 0, .int .i64 0])), none, false⟩,
                    ⟨none, .store 2 (.t 33) (.t 203), none, false⟩,
                    ⟨(some 34), .mov (.t 204), none, false⟩])
                  (.seq (.ops [⟨(some 206), .call (.f 94) [], none, false⟩,
                     ⟨(some 207), .call (.f 57) [(.t 206), (.c (.int .i64 4)), (.c (.int .i64 9))], none, false⟩,
                     ⟨(some 205), .mov (.t 207), none, false⟩,
                     ⟨(some 208), .ext (.t 205) 0, none, false⟩,
                     ⟨(some 209), .ext (.t 205) 1, none, false⟩,
                     ⟨(some 35), .box (.c (.agg [.int .i64 0, .int .i64 0])), none, false⟩,
                     ⟨none, .store 2 (.t 35) (.t 208), none, false⟩,
                     ⟨(some 36), .mov (.t 209), none, false⟩])
                   (.seq (.seq (.ops [⟨(some 210), .mov (.t 22), none, true⟩,
                       ⟨(some 211), .mov (.t 25), none, true⟩,
                       ⟨(some 212), .bin .add (.t 210) (.t 211), none, true⟩,
                       ⟨(some 213), .mov (.t 27), none, true⟩,
                       ⟨(some 214), .bin .add (.t 212) (.t 213), none, true⟩,
                       ⟨(some 215), .mov (.t 29), none, true⟩,
                       ⟨(some 216), .bin .add (.t 214) (.t 215), none, true⟩,
                       ⟨(some 217), .mov (.t 32), none, true⟩,
                       ⟨(some 218), .bin .add (.t 216) (.t 217), none, true⟩,
                       ⟨(some 219), .mov (.t 34), none, true⟩,
                       ⟨(some 220), .bin .add (.t 218) (.t 219), none, true⟩,
                       ⟨(some 221), .mov (.t 36), none, true⟩,
                       ⟨(some 222), .bin .add (.t 220) (.t 221), none, false⟩,
                       ⟨(some 223), .bin .neq (.t 222) (.c (.int .i64 0)), none, false⟩,
                       ⟨(some 224), .mov (.t 223), none, false⟩,
                       ⟨(some 225), .mov (.t 21), (some (224, false)), true⟩,
                       ⟨(some 226), .call (.f 67) [(.c (.int .i64 18)), (.c (.int .i64 33))], (some (224, false)), true⟩,
                       ⟨(some 227), .call (.f 67) [(.c (.int .i64 62)), (.c (.int .i64 101))], (some (224, false)), true⟩,
                       ⟨(some 228), .bslice 2 2 [.int .i64 0, .int .i64 0] [(0, (.t 226)), (2, (.t 227))], (some (224, false)), true⟩,
                       ⟨(some 229), .call (.f 52) [(.t 225), (.t 228)], (some (224, false)), false⟩,
                       ⟨(some 230), .un .not (.t 229), (some (224, false)), false⟩,
                       ⟨(some 231), .pick (.t 224) (.c (.bool true)) (.t 230), none, false⟩,
                       ⟨(some 232), .mov (.t 231), none, false⟩,
                       ⟨(some 233), .mov (.t 24), (some (232, false)), true⟩,
                       ⟨(some 234), .bslice 1 1 [.int .i64 0] [(0, (.c (.int .i64 0)))], (some (232, false)), true⟩,
                       ⟨(some 235), .call (.f 40) [(.t 233), (.t 234)], (some (232, false)), false⟩,
                       ⟨(some 236), .un .not (.t 235), (some (232, false)), false⟩,
                       ⟨(some 237), .pick (.t 232) (.c (.bool true)) (.t 236), none, false⟩,
                       ⟨(some 238), .mov (.t 237), none, false⟩,
                       ⟨(some 239), .load (some 2) (.t 26), (some (238, false)), true⟩,
                       ⟨(some 240), .call (.f 67) [(.c (.int .i64 838)), (.c (.int .i64 908))], (some (238, false)), true⟩,
                       ⟨(some 241), .eqv true (.agg [.i, .i]) (.t 239) (.t 240), (some (238, false)), false⟩,
                       ⟨(some 242), .pick (.t 238) (.c (.bool true)) (.t 241), none, false⟩,
                       ⟨(some 243), .mov (.t 242), none, false⟩,
                       ⟨(some 244), .load (some 2) (.t 28), (some (243, false)), true⟩,
                       ⟨(some 245), .call (.f 67) [(.c (.int .i64 8)), (.c (.int .i64 8))], (some (243, false)), true⟩,
                       ⟨(some 246), .eqv true (.agg [.i, .i]) (.t 244) (.t 245), (some (243, false)), false⟩,
                       ⟨(some 247), .pick (.t 243) (.c (.bool true)) (.t 246), none, false⟩,
                       ⟨(some 248), .mov (.t 247), none, false⟩,
                       ⟨(some 249), .mov (.t 30), (some (248, false)), true⟩,
                       ⟨(some 250), .bslice 1 1 [.int .i64 0] [(0, (.c (.int .i64 4)))], (some (248, false)), true⟩,
                       ⟨(some 251), .call (.f 40) [(.t 249), (.t 250)], (some (248, false)), false⟩,
                       ⟨(some 252), .un .not (.t 251), (some (248, false)), false⟩,
                       ⟨(some 253), .pick (.t 248) (.c (.bool true)) (.t 252), none, false⟩,
                       ⟨(some 254), .mov (.t 253), none, false⟩,
                       ⟨(some 255), .mov (.t 31), (some (254, false)), true⟩,
                       ⟨(some 256), .bslice 1 1 [.int .i64 0] [(0, (.c (.int .i64 4)))], (some (254, false)), true⟩,
                       ⟨(some 257), .call (.f 40) [(.t 255), (.t 256)], (some (254, false)), false⟩,
                       ⟨(some 258), .un .not (.t 257), (some (254, false)), false⟩,
                       ⟨(some 259), .pick (.t 254) (.c (.bool true)) (.t 258), none, false⟩,
                       ⟨(some 260), .mov (.t 259), none, false⟩,
                       ⟨(some 261), .load (some 2) (.t 33), (some (260, false)), true⟩,
                       ⟨(some 262), .call (.f 67) [(.c (.int .i64 2)), (.c (.int .i64 3))], (some (260, false)), true⟩,
                       ⟨(some 263), .eqv true (.agg [.i, .i]) (.t 261) (.t 262), (some (260, false)), false⟩,
                       ⟨(some 264), .pick (.t 260) (.c (.bool true)) (.t 263), none, false⟩,
                       ⟨(some 265), .mov (.t 264), none, false⟩,
                       ⟨(some 266), .load (some 2) (.t 35), (some (265, false)), true⟩,
                       ⟨(some 267), .call (.f 67) [(.c (.int .i64 4)), (.c (.int .i64 5))], (some (265, false)), true⟩,
                       ⟨(some 268), .eqv true (.agg [.i, .i]) (.t 266) (.t 267), (some (265, false)), false⟩,
                       ⟨(some 269), .pick (.t 265) (.c (.bool true)) (.t 268), none, false⟩])
                     (.cond (.t 269)
                       (.seq (.ops [⟨(some 0), .mov (.c (.bool false)), none, false⟩])
                       .ret)
                       .skip))
                    (.seq (.ops [⟨(some 271), .load (some 3) (.t 1), none, false⟩,
                       ⟨(some 272), .load (some 3) (.t 2), none, false⟩,
                       ⟨(some 273), .call (.f 72) [(.t 271), (.t 272), (.c (.int .i64 0))], none, false⟩,
                       ⟨(some 270), .mov (.t 273), none, false⟩,
                       ⟨(some 274), .ext (.t 270) 0, none, false⟩,
                       ⟨(some 275), .ext (.t 270) 1, none, false⟩,
                       ⟨(some 37), .mov (.t 274), none, false⟩,
                       ⟨(some 38), .mov (.t 275), none, false⟩])
                     (.seq (.ops [⟨(some 277), .load (some 3) (.t 1), none, false⟩,
                        ⟨(some 278), .load (some 3) (.t 2), none, false⟩,
                        ⟨(some 279), .call (.f 73) [(.t 277), (.t 278), (.c (.int .i64 10))], none, false⟩,
                        ⟨(some 276), .mov (.t 279), none, false⟩,
                        ⟨(some 280), .ext (.t 276) 0, none, false⟩,
                        ⟨(some 281), .ext (.t 276) 1, none, false⟩,
                        ⟨(some 282), .ext (.t 276) 2, none, false⟩,
                        ⟨(some 39), .mov (.t 280), none, false⟩,
                        ⟨(some 40), .mov (.t 281), none, false⟩,
                        ⟨(some 41), .mov (.t 282), none, false⟩])
                      (.seq (.ops [⟨(some 284), .load (some 3) (.t 1), none, false⟩,
                         ⟨(some 285), .load (some 3) (.t 2), none, false⟩,
                         ⟨(some 286), .call (.f 72) [(.t 284), (.t 285), (.c (.int .i64 (-1)))], none, false⟩,
                         ⟨(some 283), .mov (.t 286), none, false⟩,
                         ⟨(some 287), .ext (.t 283) 0, none, false⟩,
                         ⟨(some 288), .ext (.t 283) 1, none, false⟩,
                         ⟨(some 42), .mov (.t 287), none, false⟩,
                         ⟨(some 43), .mov (.t 288), none, false⟩])
                       (.seq (.ops [⟨(some 290), .load (some 3) (.t 2), none, false⟩,
                          ⟨(some 291), .bslice 3 1 [.str [], .int .i64 0, .nilSlice] [(0, (.t 290))], none, false⟩,
                          ⟨(some 292), .call (.f 84) [(.t 291)], none, false⟩,
                          ⟨(some 289), .mov (.t 292), none, false⟩,
                          ⟨(some 293), .ext (.t 289) 0, none, false⟩,
                          ⟨(some 294), .ext (.t 289) 1, none, false⟩,
                          ⟨(some 44), .mov (.t 293), none, false⟩,
                          ⟨(some 45), .mov (.t 294), none, false⟩])
                        (.seq (.ops [⟨(some 295), .mov (.t 38), none, false⟩,
                           ⟨(some 296), .mov (.t 41), none, false⟩,
                           ⟨(some 297), .bin .add (.t 295) (.t 296), none, false⟩,
                           ⟨(some 298), .mov (.t 43), none, false⟩,
                           ⟨(some 299), .bin .add (.t 297) (.t 298), none, false⟩,
                           ⟨(some 300), .mov (.t 45), none, false⟩,
                           ⟨(some 301), .bin .add (.t 299) (.t 300), none, false⟩,
                           ⟨(some 302), .bin .eql (.t 301) (.c (.int .i64 0)), none, false⟩,
                           ⟨(some 303), .mov (.t 302), none, false⟩,
                           ⟨(some 304), .mov (.t 37), (some (303, true)), false⟩,
                           ⟨(some 305), .bslice 1 3 [.int .i64 0] [(0, (.c (.int .i64 3))), (1, (.c (.int .i64 5))), (2, (.c (.int .i64 6)))], (some (303, true)), false⟩,
                           ⟨(some 306), .call (.f 40) [(.t 304), (.t 305)], (some (303, true)), false⟩,
                           ⟨(some 307), .pick (.t 303) (.t 306) (.c (.bool false)), none, false⟩,
                           ⟨(some 308), .mov (.t 307), none, false⟩,
                           ⟨(some 309), .mov (.t 39), (some (308, true)), false⟩,
                           ⟨(some 310), .bin .eql (.t 309) (.c (.int .i64 0)), (some (308, true)), false⟩,
                           ⟨(some 311), .pick (.t 308) (.t 310) (.c (.bool false)), none, false⟩,
                           ⟨(some 312), .mov (.t 311), none, false⟩,
                           ⟨(some 313), .mov (.t 40), (some (312, true)), false⟩,
                           ⟨(some 314), .bslice 1 3 [.int .i64 0] [(0, (.c (.int .i64 3))), (1, (.c (.int .i64 5))), (2, (.c (.int .i64 6)))], (some (312, true)), false⟩,
                           ⟨(some 315), .call (.f 40) [(.t 313), (.t 314)], (some (312, true)), false⟩,
                           ⟨(some 316), .pick (.t 312) (.t 315) (.c (.bool false)), none, false⟩,
                           ⟨(some 317), .mov (.t 316), none, false⟩,
                           ⟨(some 318), .mov (.t 42), (some (317, true)), false⟩,
                           ⟨(some 319), .bslice 1 4 [.int .i64 0] [(0, (.c (.int .i64 2))), (1, (.c (.int .i64 3))), (2, (.c (.int .i64 5))), (3, (.c (.int .i64 6)))], (some (317, true)), false⟩,
                           ⟨(some 320), .call (.f 40) [(.t 318), (.t 319)], (some (317, true)), false⟩,
                           ⟨(some 321), .pick (.t 317) (.t 320) (.c (.bool false)), none, false⟩,
                           ⟨(some 322), .mov (.t 321), none, false⟩,
                           ⟨(some 323), .mov (.t 44), (some (322, true)), false⟩,
                           ⟨(some 324), .bin .eql (.t 323) (.c (.str [104, 111, 114, 105, 122, 111, 110, 32, 98, 97, 115, 101, 32, 48, 10, 112, 105, 99, 107, 32, 49, 32, 49, 48, 52, 10, 112, 105, 99, 107, 32, 54, 32, 49, 48, 52, 10])), (some (322, true)), false⟩,
                           ⟨(some 325), .pick (.t 322) (.t 324) (.c (.bool false)), none, false⟩,
                           ⟨(some 0), .mov (.t 325), none, false⟩])
                         .ret)))))))))))))))))))))))))⟩
def fn16 : AFunc := ⟨19, 1, [(2, none)],
 (.seq (.ops [⟨(some 1), .box (.t 0), none, false⟩,
   ⟨(some 2), .mov (.c (.bool false)), none, false⟩])
 (.seq (.ops [⟨(some 3), .fadr 0 (.t 1), none, false⟩,
    ⟨(some 4), .load none (.t 3), none, false⟩,
    ⟨(some 5), .len .st (.t 4), none, false⟩,
    ⟨(some 6), .bin .leq (.t 5) (.c (.int .i64 60)), none, false⟩,
    ⟨(some 7), .mov (.t 6), none, false⟩,
    ⟨(some 8), .fadr 2 (.t 1), (some (7, true)), false⟩,
    ⟨(some 9), .load none (.t 8), (some (7, true)), false⟩,
    ⟨(some 10), .len .sl (.t 9), (some (7, true)), false⟩,
    ⟨(some 11), .bin .leq (.t 10) (.c (.int .i64 8)), (some (7, true)), false⟩,
    ⟨(some 12), .mov (.t 11), (some (7, true)), false⟩,
    ⟨(some 13), .fadr 2 (.t 1), (some (12, false)), false⟩,
    ⟨(some 14), .load none (.t 13), (some (12, false)), false⟩,
    ⟨(some 15), .len .sl (.t 14), (some (12, false)), false⟩,
    ⟨(some 16), .bin .eql (.t 15) (.c (.int .i64 257)), (some (12, false)), false⟩,
    ⟨(some 17), .pick (.t 12) (.c (.bool true)) (.t 16), (some (7, true)), false⟩,
    ⟨(some 18), .pick (.t 7) (.t 17) (.c (.bool false)), none, false⟩,
    ⟨(some 2), .mov (.t 18), none, false⟩])
  .ret))⟩
def fn17 : AFunc := ⟨24, 1, [(2, none)],
 (.seq (.ops [⟨(some 2), .mov (.c (.bool false)), none, false⟩])
 (.seq (.seq (.ops [⟨(some 3), .mov (.c (.int .i64 0)), none, false⟩])
   (.block 0 (.loop (.seq (.seq (.ops [⟨(some 4), .mov (.t 3), none, false⟩,
         ⟨(some 5), .mov (.t 0), none, false⟩,
         ⟨(some 6), .len .sl (.t 5), none, false⟩,
         ⟨(some 7), .bin .lss (.t 4) (.t 6), none, false⟩])
       (.cond (.t 7)
         .skip
         (.exit 0)))
      (.seq (.block 1 (.seq (.ops [⟨(some 10), .mov (.t 0), none, false⟩,
           ⟨(some 11), .mov (.t 3), none, false⟩,
           ⟨(some 12), .iadr 3 (.t 10) (.t 11), none, false⟩,
           ⟨(some 13), .load (some 3) (.t 12), none, false⟩,
           ⟨(some 14), .call (.f 16) [(.t 13)], none, false⟩,
           ⟨(some 15), .un .not (.t 14), none, false⟩])
         (.cond (.t 15)
           (.seq (.ops [⟨(some 2), .mov (.c (.bool false)), none, false⟩])
           .ret)
           .skip)))
       (.ops [⟨(some 8), .mov (.t 3), none, false⟩,
         ⟨(some 9), .bin .add (.t 8) (.c (.int .i64 1)), none, false⟩,
         ⟨(some 3), .mov (.t 9), none, false⟩]))))))
  (.seq (.ops [⟨(some 16), .mov (.t 0), none, false⟩,
     ⟨(some 17), .len .sl (.t 16), none, false⟩,
     ⟨(some 18), .bin .leq (.t 17) (.c (.int .i64 4)), none, false⟩,
     ⟨(some 19), .mov (.t 18), none, false⟩,
     ⟨(some 20), .mov (.t 0), (some (19, false)), false⟩,
     ⟨(some 21), .len .sl (.t 20), (some (19, false)), false⟩,
     ⟨(some 22), .bin .eql (.t 21) (.c (.int .i64 9)), (some (19, false)), false⟩,
     ⟨(some 23), .pick (.t 19) (.c (.bool true)) (.t 22), none, false⟩,
     ⟨(some 2), .mov (.t 23), none, false⟩])
   .ret)))⟩
def fn18 : AFunc := ⟨17, 2, [(4, some (some 2)), (5, none)],
 (.seq (.ops [⟨(some 2), .box (.t 0), none, false⟩,
   ⟨(some 4), .box (.c (.agg [.int .i64 0, .int .i64 0])), none, false⟩,
   ⟨(some 5), .mov (.c (.int .i64 0)), none, false⟩])
 (.seq (.seq (.ops [⟨(some 7), .load (some 3) (.t 2), none, false⟩,
     ⟨(some 8), .mov (.t 1), none, false⟩,
     ⟨(some 9), .call (.f 95) [(.t 7), (.t 8)], none, false⟩,
     ⟨(some 6), .mov (.t 9), none, false⟩])
   (.seq (.ops [⟨(some 10), .mov (.t 6), none, false⟩,
      ⟨(some 11), .bin .neq (.t 10) (.c (.int .i64 0)), none, false⟩])
    (.cond (.t 11)
      (.seq (.ops [⟨(some 12), .build [.int .i64 0, .int .i64 0] [], none, false⟩,
        ⟨(some 13), .mov (.t 6), none, false⟩,
        ⟨none, .store 2 (.t 4) (.t 12), none, false⟩,
        ⟨(some 5), .mov (.t 13), none, false⟩])
      .ret)
      .skip)))
  (.seq (.ops [⟨(some 14), .load (some 3) (.t 2), none, false⟩,
     ⟨(some 15), .mov (.t 1), none, false⟩,
     ⟨(some 16), .call (.f 96) [(.t 14), (.t 15)], none, false⟩,
     ⟨none, .store 2 (.t 4) (.t 16), none, false⟩,
     ⟨(some 5), .mov (.c (.int .i64 0)), none, false⟩])
   .ret)))⟩
def fn19 : AFunc := ⟨26, 1, [(2, some (some 3))],
 (.seq (.ops [⟨(some 1), .box (.t 0), none, false⟩,
   ⟨(some 2), .box (.c (.agg [.str [], .int .i64 0, .nilSlice])), none, false⟩])
 (.seq (.ops [⟨(some 6), .fadr 0 (.t 1), none, false⟩,
    ⟨(some 7), .load none (.t 6), none, false⟩,
    ⟨(some 8), .fadr 1 (.t 1), none, false⟩,
    ⟨(some 9), .load none (.t 8), none, false⟩,
    ⟨(some 10), .build [.str [], .int .i64 0, .nilSlice] [(0, 1, (.t 7)), (1, 1, (.t 9))], none, false⟩,
    ⟨(some 3), .box (.c (.agg [.str [], .int .i64 0, .nilSlice])), none, false⟩,
    ⟨none, .store 3 (.t 3) (.t 10), none, false⟩])
  (.seq (.seq (.ops [⟨(some 11), .fadr 2 (.t 1), none, false⟩,
      ⟨(some 12), .load none (.t 11), none, false⟩,
      ⟨(some 13), .len .sl (.t 12), none, false⟩,
      ⟨(some 14), .mov (.c (.int .i64 0)), none, false⟩])
    (.block 0 (.loop (.seq (.ops [⟨(some 15), .bin .lss (.t 14) (.t 13), none, false⟩])
       (.seq (.cond (.t 15)
          .skip
          (.exit 0))
        (.seq (.block 1 (.seq (.ops [⟨(some 16), .iadr 2 (.t 12) (.t 14), none, false⟩,
             ⟨(some 17), .load (some 2) (.t 16), none, false⟩,
             ⟨(some 5), .box (.c (.agg [.int .i64 0, .int .i64 0])), none, false⟩,
             ⟨none, .store 2 (.t 5) (.t 17), none, false⟩])
           (.ops [⟨(some 18), .fadr 2 (.t 3), none, false⟩,
             ⟨(some 19), .load none (.t 18), none, false⟩,
             ⟨(some 20), .load (some 2) (.t 5), none, false⟩,
             ⟨(some 21), .bslice 2 1 [.int .i64 0, .int .i64 0] [(0, (.t 20))], none, false⟩,
             ⟨(some 22), .app 2 16 (.t 19) (.t 21), none, false⟩,
             ⟨(some 23), .fadr 2 (.t 3), none, false⟩,
             ⟨none, .store 1 (.t 23) (.t 22), none, false⟩])))
         (.ops [⟨(some 24), .bin .add (.t 14) (.c (.int .i64 1)), none, false⟩,
           ⟨(some 14), .mov (.t 24), none, false⟩])))))))
   (.seq (.ops [⟨(some 25), .load (some 3) (.t 3), none, false⟩,
      ⟨none, .store 3 (.t 2) (.t 25), none, false⟩])
    .ret))))⟩
def fn20 : AFunc := ⟨17, 2, [(4, some (some 2)), (5, none)],
 (.seq (.ops [⟨(some 2), .box (.t 0), none, false⟩,
   ⟨(some 4), .box (.c (.agg [.int .i64 0, .int .i64 0])), none, false⟩,
   ⟨(some 5), .mov (.c (.int .i64 0)), none, false⟩])
 (.seq (.seq (.ops [⟨(some 7), .load (some 3) (.t 2), none, false⟩,
     ⟨(some 8), .mov (.t 1), none, false⟩,
     ⟨(some 9), .call (.f 95) [(.t 7), (.t 8)], none, false⟩,
     ⟨(some 6), .mov (.t 9), none, false⟩])
   (.seq (.ops [⟨(some 10), .mov (.t 6), none, false⟩,
      ⟨(some 11), .bin .neq (.t 10) (.c (.int .i64 0)), none, false⟩])
    (.cond (.t 11)
      (.seq (.ops [⟨(some 12), .build [.int .i64 0, .int .i64 0] [], none, false⟩,
        ⟨(some 13), .mov (.t 6), none, false⟩,
        ⟨none, .store 2 (.t 4) (.t 12), none, false⟩,
        ⟨(some 5), .mov (.t 13), none, false⟩])
      .ret)
      .skip)))
  (.seq (.ops [⟨(some 14), .load (some 3) (.t 2), none, false⟩,
     ⟨(some 15), .mov (.t 1), none, false⟩,
     ⟨(some 16), .call (.f 97) [(.t 14), (.t 15)], none, false⟩,
     ⟨none, .store 2 (.t 4) (.t 16), none, false⟩,
     ⟨(some 5), .mov (.c (.int .i64 0)), none, false⟩])
   .ret)))⟩
def fn21 : AFunc := ⟨73, 1, [(2, none)],
 (.seq (.ops [⟨(some 1), .box (.t 0), none, false⟩,
   ⟨(some 2), .mov (.c (.int .i64 0)), none, false⟩])
 (.seq (.seq (.ops [⟨(some 6), .fadr 0 (.t 1), none, true⟩,
     ⟨(some 7), .load none (.t 6), none, true⟩,
     ⟨(some 8), .call (.f 99) [(.t 7)], none, true⟩,
     ⟨(some 9), .fadr 1 (.t 1), none, true⟩,
     ⟨(some 10), .load none (.t 9), none, true⟩,
     ⟨(some 11), .call (.f 35) [(.t 10), (.c (.int .i64 0)), (.c (.int .i64 1000))], none, true⟩,
     ⟨(some 12), .fadr 2 (.t 1), none, true⟩,
     ⟨(some 13), .load none (.t 12), none, true⟩,
     ⟨(some 14), .len .sl (.t 13), none, true⟩,
     ⟨(some 15), .bin .eql (.t 14) (.c (.int .i64 0)), none, true⟩,
     ⟨(some 16), .call (.f 22) [(.t 15), (.c (.int .i64 12))], none, true⟩,
     ⟨(some 17), .fadr 2 (.t 1), none, true⟩,
     ⟨(some 18), .load none (.t 17), none, true⟩,
     ⟨(some 19), .len .sl (.t 18), none, true⟩,
     ⟨(some 20), .bin .gtr (.t 19) (.c (.int .i64 256)), none, true⟩,
     ⟨(some 21), .call (.f 22) [(.t 20), (.c (.int .i64 5))], none, false⟩,
     ⟨(some 22), .bslice 1 4 [.int .i64 0] [(0, (.t 8)), (1, (.t 11)), (2, (.t 16)), (3, (.t 21))], none, false⟩,
     ⟨(some 23), .call (.f 98) [(.t 22)], none, false⟩,
     ⟨(some 3), .mov (.t 23), none, false⟩])
   (.seq (.ops [⟨(some 24), .mov (.t 3), none, false⟩,
      ⟨(some 25), .bin .neq (.t 24) (.c (.int .i64 0)), none, false⟩])
    (.cond (.t 25)
      (.seq (.ops [⟨(some 26), .mov (.t 3), none, false⟩,
        ⟨(some 2), .mov (.t 26), none, false⟩])
      .ret)
      .skip)))
  (.seq (.seq (.ops [⟨(some 4), .mov (.c (.int .i64 0)), none, false⟩])
    (.block 0 (.loop (.seq (.seq (.ops [⟨(some 27), .mov (.t 4), none, false⟩,
          ⟨(some 28), .fadr 2 (.t 1), none, false⟩,
          ⟨(some 29), .load none (.t 28), none, false⟩,
          ⟨(some 30), .len .sl (.t 29), none, false⟩,
          ⟨(some 31), .bin .lss (.t 27) (.t 30), none, false⟩])
        (.cond (.t 31)
          .skip
          (.exit 0)))
       (.seq (.block 1 (.seq (.ops [⟨(some 34), .fadr 2 (.t 1), none, true⟩,
            ⟨(some 35), .load none (.t 34), none, true⟩,
            ⟨(some 36), .mov (.t 4), none, true⟩,
            ⟨(some 37), .iadr 2 (.t 35) (.t 36), none, true⟩,
            ⟨(some 38), .fadr 0 (.t 37), none, true⟩,
            ⟨(some 39), .load none (.t 38), none, true⟩,
            ⟨(some 40), .call (.f 66) [(.t 39)], none, true⟩,
            ⟨(some 41), .fadr 2 (.t 1), none, true⟩,
            ⟨(some 42), .load none (.t 41), none, true⟩,
            ⟨(some 43), .mov (.t 4), none, true⟩,
            ⟨(some 44), .iadr 2 (.t 42) (.t 43), none, true⟩,
            ⟨(some 45), .fadr 1 (.t 44), none, true⟩,
            ⟨(some 46), .load none (.t 45), none, true⟩,
            ⟨(some 47), .call (.f 35) [(.t 46), (.c (.int .i64 0)), (.c (.int .i64 100000))], none, true⟩,
            ⟨(some 48), .mov (.t 4), none, true⟩,
            ⟨(some 49), .bin .gtr (.t 48) (.c (.int .i64 0)), none, true⟩,
            ⟨(some 50), .mov (.t 49), none, false⟩,
            ⟨(some 51), .fadr 2 (.t 1), (some (50, true)), true⟩,
            ⟨(some 52), .load none (.t 51), (some (50, true)), true⟩,
            ⟨(some 53), .mov (.t 4), (some (50, true)), true⟩,
            ⟨(some 54), .bin .sub (.t 53) (.c (.int .i64 1)), (some (50, true)), true⟩,
            ⟨(some 55), .mx (.c (.int .i64 0)) [(.t 54)], (some (50, true)), true⟩,
            ⟨(some 56), .iadr 2 (.t 52) (.t 55), (some (50, true)), true⟩,
            ⟨(some 57), .fadr 0 (.t 56), (some (50, true)), true⟩,
            ⟨(some 58), .load none (.t 57), (some (50, true)), true⟩,
            ⟨(some 59), .fadr 2 (.t 1), (some (50, true)), true⟩,
            ⟨(some 60), .load none (.t 59), (some (50, true)), true⟩,
            ⟨(some 61), .mov (.t 4), (some (50, true)), true⟩,
            ⟨(some 62), .iadr 2 (.t 60) (.t 61), (some (50, true)), true⟩,
            ⟨(some 63), .fadr 0 (.t 62), (some (50, true)), true⟩,
            ⟨(some 64), .load none (.t 63), (some (50, true)), true⟩,
            ⟨(some 65), .bin .geq (.t 58) (.t 64), (some (50, true)), false⟩,
            ⟨(some 66), .pick (.t 50) (.t 65) (.c (.bool false)), none, false⟩,
            ⟨(some 67), .call (.f 22) [(.t 66), (.c (.int .i64 11))], none, false⟩,
            ⟨(some 68), .bslice 1 3 [.int .i64 0] [(0, (.t 40)), (1, (.t 47)), (2, (.t 67))], none, false⟩,
            ⟨(some 69), .call (.f 98) [(.t 68)], none, false⟩,
            ⟨(some 5), .mov (.t 69), none, false⟩])
          (.seq (.ops [⟨(some 70), .mov (.t 5), none, false⟩,
             ⟨(some 71), .bin .neq (.t 70) (.c (.int .i64 0)), none, false⟩])
           (.cond (.t 71)
             (.seq (.ops [⟨(some 72), .mov (.t 5), none, false⟩,
               ⟨(some 2), .mov (.t 72), none, false⟩])
             .ret)
             .skip))))
        (.ops [⟨(some 32), .mov (.t 4), none, false⟩,
          ⟨(some 33), .bin .add (.t 32) (.c (.int .i64 1)), none, false⟩,
          ⟨(some 4), .mov (.t 33), none, false⟩]))))))
   (.seq (.ops [⟨(some 2), .mov (.c (.int .i64 0)), none, false⟩])
    .ret))))⟩
def fn22 : AFunc := ⟨7, 2, [(4, none)],
 (.seq (.ops [⟨(some 4), .mov (.c (.int .i64 0)), none, false⟩])
 (.seq (.seq (.ops [⟨(some 5), .mov (.t 0), none, false⟩])
   (.cond (.t 5)
     (.seq (.ops [⟨(some 6), .mov (.t 1), none, false⟩,
       ⟨(some 4), .mov (.t 6), none, false⟩])
     .ret)
     .skip))
  (.seq (.ops [⟨(some 4), .mov (.c (.int .i64 0)), none, false⟩])
   .ret)))⟩
def fn23 : AFunc := ⟨15, 2, [(4, none)],
 (.seq (.ops [⟨(some 2), .box (.t 0), none, false⟩,
   ⟨(some 4), .mov (.c (.bool false)), none, false⟩])
 (.seq (.ops [⟨(some 5), .mov (.t 1), none, false⟩,
    ⟨(some 6), .load (some 3) (.t 2), none, false⟩,
    ⟨(some 7), .call (.f 100) [(.t 6)], none, false⟩,
    ⟨(some 8), .bin .geq (.t 5) (.t 7), none, false⟩,
    ⟨(some 9), .mov (.t 8), none, false⟩,
    ⟨(some 10), .mov (.t 1), (some (9, true)), false⟩,
    ⟨(some 11), .load (some 3) (.t 2), (some (9, true)), false⟩,
    ⟨(some 12), .call (.f 101) [(.t 11)], (some (9, true)), false⟩,
    ⟨(some 13), .bin .leq (.t 10) (.t 12), (some (9, true)), false⟩,
    ⟨(some 14), .pick (.t 9) (.t 13) (.c (.bool false)), none, false⟩,
    ⟨(some 4), .mov (.t 14), none, false⟩])
  .ret))⟩
def fn24 : AFunc := ⟨63, 2, [(4, some (some 2))],
 (.seq (.ops [⟨(some 2), .box (.t 0), none, false⟩,
   ⟨(some 4), .box (.c (.agg [.int .i64 0, .int .i64 0])), none, false⟩])
 (.seq (.seq (.ops [⟨(some 5), .mov (.c (.int .i64 0)), none, false⟩])
   (.block 0 (.loop (.seq (.seq (.ops [⟨(some 8), .mov (.t 5), none, false⟩,
         ⟨(some 9), .fadr 2 (.t 2), none, false⟩,
         ⟨(some 10), .load none (.t 9), none, false⟩,
         ⟨(some 11), .len .sl (.t 10), none, false⟩,
         ⟨(some 12), .bin .lss (.t 8) (.t 11), none, false⟩])
       (.cond (.t 12)
         .skip
         (.exit 0)))
      (.seq (.block 1 (.seq (.ops [⟨(some 15), .fadr 2 (.t 2), none, false⟩,
           ⟨(some 16), .load none (.t 15), none, false⟩,
           ⟨(some 17), .mov (.t 5), none, false⟩,
           ⟨(some 18), .iadr 2 (.t 16) (.t 17), none, false⟩,
           ⟨(some 19), .load (some 2) (.t 18), none, false⟩,
           ⟨(some 6), .box (.c (.agg [.int .i64 0, .int .i64 0])), none, false⟩,
           ⟨none, .store 2 (.t 6) (.t 19), none, false⟩])
         (.seq (.seq (.ops [⟨(some 20), .fadr 0 (.t 6), none, false⟩,
             ⟨(some 21), .load none (.t 20), none, false⟩,
             ⟨(some 22), .mov (.t 1), none, false⟩,
             ⟨(some 23), .bin .eql (.t 21) (.t 22), none, false⟩])
           (.cond (.t 23)
             (.seq (.ops [⟨(some 24), .fadr 1 (.t 6), none, false⟩,
               ⟨(some 25), .load none (.t 24), none, false⟩,
               ⟨(some 26), .build [.int .i64 0, .int .i64 0] [(0, 1, (.t 25)), (1, 1, (.c (.int .i64 1)))], none, false⟩,
               ⟨none, .store 2 (.t 4) (.t 26), none, false⟩])
             .ret)
             .skip))
          (.seq (.ops [⟨(some 27), .fadr 0 (.t 6), none, false⟩,
             ⟨(some 28), .load none (.t 27), none, false⟩,
             ⟨(some 29), .mov (.t 1), none, false⟩,
             ⟨(some 30), .bin .gtr (.t 28) (.t 29), none, false⟩])
           (.cond (.t 30)
             (.seq (.ops [⟨(some 31), .fadr 2 (.t 2), none, false⟩,
               ⟨(some 32), .load none (.t 31), none, false⟩,
               ⟨(some 33), .mov (.t 5), none, false⟩,
               ⟨(some 34), .bin .sub (.t 33) (.c (.int .i64 1)), none, false⟩,
               ⟨(some 35), .iadr 2 (.t 32) (.t 34), none, false⟩,
               ⟨(some 36), .load (some 2) (.t 35), none, false⟩,
               ⟨(some 7), .box (.c (.agg [.int .i64 0, .int .i64 0])), none, false⟩,
               ⟨none, .store 2 (.t 7) (.t 36), none, false⟩])
             (.seq (.ops [⟨(some 37), .fadr 1 (.t 7), none, false⟩,
                ⟨(some 38), .load none (.t 37), none, false⟩,
                ⟨(some 39), .fadr 0 (.t 6), none, false⟩,
                ⟨(some 40), .load none (.t 39), none, false⟩,
                ⟨(some 41), .fadr 0 (.t 7), none, false⟩,
                ⟨(some 42), .load none (.t 41), none, false⟩,
                ⟨(some 43), .bin .sub (.t 40) (.t 42), none, false⟩,
                ⟨(some 44), .bin .mul (.t 38) (.t 43), none, false⟩,
                ⟨(some 45), .fadr 1 (.t 6), none, false⟩,
                ⟨(some 46), .load none (.t 45), none, false⟩,
                ⟨(some 47), .fadr 1 (.t 7), none, false⟩,
                ⟨(some 48), .load none (.t 47), none, false⟩,
                ⟨(some 49), .bin .sub (.t 46) (.t 48), none, false⟩,
                ⟨(some 50), .mov (.t 1), none, false⟩,
                ⟨(some 51), .fadr 0 (.t 7), none, false⟩,
                ⟨(some 52), .load none (.t 51), none, false⟩,
                ⟨(some 53), .bin .sub (.t 50) (.t 52), none, false⟩,
                ⟨(some 54), .bin .mul (.t 49) (.t 53), none, false⟩,
                ⟨(some 55), .bin .add (.t 44) (.t 54), none, false⟩,
                ⟨(some 56), .fadr 0 (.t 6), none, false⟩,
                ⟨(some 57), .load none (.t 56), none, false⟩,
                ⟨(some 58), .fadr 0 (.t 7), none, false⟩,
                ⟨(some 59), .load none (.t 58), none, false⟩,
                ⟨(some 60), .bin .sub (.t 57) (.t 59), none, false⟩,
                ⟨(some 61), .call (.f 102) [(.t 55), (.t 60)], none, false⟩,
                ⟨none, .store 2 (.t 4) (.t 61), none, false⟩])
              .ret))
             .skip)))))
       (.ops [⟨(some 13), .mov (.t 5), none, false⟩,
         ⟨(some 14), .bin .add (.t 13) (.c (.int .i64 1)), none, false⟩,
         ⟨(some 5), .mov (.t 14), none, false⟩]))))))
  (.seq (.ops [⟨(some 62), .build [.int .i64 0, .int .i64 0] [], none, false⟩,
     ⟨none, .store 2 (.t 4) (.t 62), none, false⟩])
   .ret)))⟩
def fn25 : AFunc := ⟨26, 2, [(4, some (some 2))],
 (.seq (.ops [⟨(some 2), .box (.t 0), none, false⟩,
   ⟨(some 4), .box (.c (.agg [.int .i64 0, .int .i64 0])), none, false⟩])
 (.seq (.ops [⟨(some 6), .load (some 3) (.t 2), none, false⟩,
    ⟨(some 7), .mov (.t 1), none, false⟩,
    ⟨(some 8), .call (.f 24) [(.t 6), (.t 7)], none, false⟩,
    ⟨(some 5), .box (.c (.agg [.int .i64 0, .int .i64 0])), none, false⟩,
    ⟨none, .store 2 (.t 5) (.t 8), none, false⟩])
  (.seq (.ops [⟨(some 9), .fadr 0 (.t 5), none, true⟩,
     ⟨(some 10), .load none (.t 9), none, true⟩,
     ⟨(some 11), .fadr 1 (.t 5), none, true⟩,
     ⟨(some 12), .load none (.t 11), none, true⟩,
     ⟨(some 13), .call (.f 103) [(.t 10), (.t 12)], none, true⟩,
     ⟨(some 14), .fadr 1 (.t 2), none, true⟩,
     ⟨(some 15), .load none (.t 14), none, true⟩,
     ⟨(some 16), .bin .sub (.t 13) (.t 15), none, true⟩,
     ⟨(some 17), .fadr 0 (.t 5), none, true⟩,
     ⟨(some 18), .load none (.t 17), none, true⟩,
     ⟨(some 19), .fadr 1 (.t 5), none, true⟩,
     ⟨(some 20), .load none (.t 19), none, true⟩,
     ⟨(some 21), .call (.f 104) [(.t 18), (.t 20)], none, true⟩,
     ⟨(some 22), .fadr 1 (.t 2), none, true⟩,
     ⟨(some 23), .load none (.t 22), none, true⟩,
     ⟨(some 24), .bin .add (.t 21) (.t 23), none, true⟩,
     ⟨(some 25), .build [.int .i64 0, .int .i64 0] [(0, 1, (.t 16)), (1, 1, (.t 24))], none, false⟩,
     ⟨none, .store 2 (.t 4) (.t 25), none, false⟩])
   .ret)))⟩
def fn26 : AFunc := ⟨57, 1, [(2, none)],
 (.seq (.ops [⟨(some 1), .box (.t 0), none, false⟩,
   ⟨(some 2), .mov (.c (.int .i64 0)), none, false⟩])
 (.seq (.seq (.ops [⟨(some 8), .fadr 0 (.t 1), none, true⟩,
     ⟨(some 9), .load none (.t 8), none, true⟩,
     ⟨(some 10), .call (.f 107) [(.t 9)], none, true⟩,
     ⟨(some 11), .un .not (.t 10), none, true⟩,
     ⟨(some 12), .call (.f 106) [(.t 11), (.c (.int .i64 8))], none, true⟩,
     ⟨(some 13), .fadr 1 (.t 1), none, true⟩,
     ⟨(some 14), .load none (.t 13), none, true⟩,
     ⟨(some 15), .call (.f 108) [(.t 14), (.c (.int .i64 0)), (.c (.int .i64 1000))], none, true⟩,
     ⟨(some 16), .fadr 2 (.t 1), none, true⟩,
     ⟨(some 17), .load none (.t 16), none, true⟩,
     ⟨(some 18), .len .sl (.t 17), none, true⟩,
     ⟨(some 19), .bin .eql (.t 18) (.c (.int .i64 0)), none, true⟩,
     ⟨(some 20), .call (.f 106) [(.t 19), (.c (.int .i64 12))], none, true⟩,
     ⟨(some 21), .fadr 2 (.t 1), none, true⟩,
     ⟨(some 22), .load none (.t 21), none, true⟩,
     ⟨(some 23), .len .sl (.t 22), none, true⟩,
     ⟨(some 24), .bin .gtr (.t 23) (.c (.int .i64 256)), none, true⟩,
     ⟨(some 25), .call (.f 106) [(.t 24), (.c (.int .i64 5))], none, false⟩,
     ⟨(some 26), .bslice 1 4 [.int .i64 0] [(0, (.t 12)), (1, (.t 15)), (2, (.t 20)), (3, (.t 25))], none, false⟩,
     ⟨(some 27), .call (.f 105) [(.t 26)], none, false⟩,
     ⟨(some 3), .mov (.t 27), none, false⟩])
   (.seq (.ops [⟨(some 28), .mov (.t 3), none, false⟩,
      ⟨(some 29), .bin .neq (.t 28) (.c (.int .i64 0)), none, false⟩])
    (.cond (.t 29)
      (.seq (.ops [⟨(some 30), .mov (.t 3), none, false⟩,
        ⟨(some 2), .mov (.t 30), none, false⟩])
      .ret)
      .skip)))
  (.seq (.ops [⟨(some 4), .mov (.c (.int .i64 (-1))), none, false⟩])
   (.seq (.seq (.ops [⟨(some 31), .fadr 2 (.t 1), none, false⟩,
       ⟨(some 32), .load none (.t 31), none, false⟩,
       ⟨(some 33), .len .sl (.t 32), none, false⟩,
       ⟨(some 34), .mov (.c (.int .i64 0)), none, false⟩])
     (.block 0 (.loop (.seq (.ops [⟨(some 35), .bin .lss (.t 34) (.t 33), none, false⟩])
        (.seq (.cond (.t 35)
           .skip
           (.exit 0))
         (.seq (.block 1 (.seq (.ops [⟨(some 36), .iadr 2 (.t 32) (.t 34), none, false⟩,
              ⟨(some 37), .load (some 2) (.t 36), none, false⟩,
              ⟨(some 6), .box (.c (.agg [.int .i64 0, .int .i64 0])), none, false⟩,
              ⟨none, .store 2 (.t 6) (.t 37), none, false⟩])
            (.seq (.seq (.ops [⟨(some 38), .fadr 0 (.t 6), none, true⟩,
                ⟨(some 39), .load none (.t 38), none, true⟩,
                ⟨(some 40), .call (.f 108) [(.t 39), (.c (.int .i64 0)), (.c (.int .i64 255))], none, true⟩,
                ⟨(some 41), .fadr 1 (.t 6), none, true⟩,
                ⟨(some 42), .load none (.t 41), none, true⟩,
                ⟨(some 43), .call (.f 108) [(.t 42), (.c (.int .i64 0)), (.c (.int .i64 100000))], none, true⟩,
                ⟨(some 44), .fadr 0 (.t 6), none, true⟩,
                ⟨(some 45), .load none (.t 44), none, true⟩,
                ⟨(some 46), .mov (.t 4), none, true⟩,
                ⟨(some 47), .bin .leq (.t 45) (.t 46), none, true⟩,
                ⟨(some 48), .call (.f 106) [(.t 47), (.c (.int .i64 11))], none, false⟩,
                ⟨(some 49), .bslice 1 3 [.int .i64 0] [(0, (.t 40)), (1, (.t 43)), (2, (.t 48))], none, false⟩,
                ⟨(some 50), .call (.f 105) [(.t 49)], none, false⟩,
                ⟨(some 7), .mov (.t 50), none, false⟩])
              (.seq (.ops [⟨(some 51), .mov (.t 7), none, false⟩,
                 ⟨(some 52), .bin .neq (.t 51) (.c (.int .i64 0)), none, false⟩])
               (.cond (.t 52)
                 (.seq (.ops [⟨(some 53), .mov (.t 7), none, false⟩,
                   ⟨(some 2), .mov (.t 53), none, false⟩])
                 .ret)
                 .skip)))
             (.ops [⟨(some 54), .fadr 0 (.t 6), none, false⟩,
               ⟨(some 55), .load none (.t 54), none, false⟩,
               ⟨(some 4), .mov (.t 55), none, false⟩]))))
          (.ops [⟨(some 56), .bin .add (.t 34) (.c (.int .i64 1)), none, false⟩,
            ⟨(some 34), .mov (.t 56), none, false⟩])))))))
    (.seq (.ops [⟨(some 2), .mov (.c (.int .i64 0)), none, false⟩])
     .ret)))))⟩
def fn27 : AFunc := ⟨32, 1, [(2, none)],
 (.seq (.ops [⟨(some 2), .mov (.c (.int .i64 0)), none, false⟩])
 (.seq (.seq (.ops [⟨(some 7), .mov (.t 0), none, false⟩,
     ⟨(some 8), .len .sl (.t 7), none, false⟩,
     ⟨(some 9), .bin .gtr (.t 8) (.c (.int .i64 8)), none, false⟩])
   (.cond (.t 9)
     (.seq (.ops [⟨(some 2), .mov (.c (.int .i64 5)), none, false⟩])
     .ret)
     .skip))
  (.seq (.seq (.ops [⟨(some 10), .mov (.t 0), none, false⟩,
      ⟨(some 11), .len .sl (.t 10), none, false⟩,
      ⟨(some 12), .mov (.c (.int .i64 0)), none, false⟩])
    (.block 0 (.loop (.seq (.ops [⟨(some 13), .bin .lss (.t 12) (.t 11), none, false⟩])
       (.seq (.cond (.t 13)
          .skip
          (.exit 0))
        (.seq (.block 1 (.seq (.ops [⟨(some 14), .mov (.t 12), none, false⟩,
             ⟨(some 15), .iadr 3 (.t 10) (.t 12), none, false⟩,
             ⟨(some 16), .load (some 3) (.t 15), none, false⟩,
             ⟨(some 4), .box (.c (.agg [.str [], .int .i64 0, .nilSlice])), none, false⟩,
             ⟨(some 3), .mov (.t 14), none, false⟩,
             ⟨none, .store 3 (.t 4) (.t 16), none, false⟩])
           (.seq (.ops [⟨(some 17), .mov (.t 0), none, false⟩,
              ⟨(some 18), .mov (.t 3), none, false⟩,
              ⟨(some 19), .sl 3 (.t 17) none (some (.t 18)), none, false⟩,
              ⟨(some 20), .mkfn (.func 110) [] [(.t 4)], none, false⟩,
              ⟨(some 21), .call (.f 109) [(.t 19), (.t 20)], none, false⟩,
              ⟨(some 5), .mov (.t 21), none, false⟩])
            (.seq (.ops [⟨(some 22), .load (some 3) (.t 4), none, false⟩,
               ⟨(some 23), .call (.f 26) [(.t 22)], none, false⟩,
               ⟨(some 24), .mov (.t 5), none, false⟩,
               ⟨(some 25), .call (.f 106) [(.t 24), (.c (.int .i64 9))], none, false⟩,
               ⟨(some 26), .bslice 1 2 [.int .i64 0] [(0, (.t 23)), (1, (.t 25))], none, false⟩,
               ⟨(some 27), .call (.f 105) [(.t 26)], none, false⟩,
               ⟨(some 6), .mov (.t 27), none, false⟩])
             (.seq (.ops [⟨(some 28), .mov (.t 6), none, false⟩,
                ⟨(some 29), .bin .neq (.t 28) (.c (.int .i64 0)), none, false⟩])
              (.cond (.t 29)
                (.seq (.ops [⟨(some 30), .mov (.t 6), none, false⟩,
                  ⟨(some 2), .mov (.t 30), none, false⟩])
                .ret)
                .skip))))))
         (.ops [⟨(some 31), .bin .add (.t 12) (.c (.int .i64 1)), none, false⟩,
           ⟨(some 12), .mov (.t 31), none, false⟩])))))))
   (.seq (.ops [⟨(some 2), .mov (.c (.int .i64 0)), none, false⟩])
    .ret))))⟩
def fn28 : AFunc := ⟨19, 1, [(2, none)],
 (.seq (.ops [⟨(some 2), .mov (.c (.nilSlice)), none, false⟩])
 (.seq (.ops [⟨(some 3), .mov (.c (.nilSlice)), none, false⟩])
  (.seq (.seq (.ops [⟨(some 6), .mov (.t 0), none, false⟩,
      ⟨(some 7), .len .sl (.t 6), none, false⟩,
      ⟨(some 8), .mov (.c (.int .i64 0)), none, false⟩])
    (.block 0 (.loop (.seq (.ops [⟨(some 9), .bin .lss (.t 8) (.t 7), none, false⟩])
       (.seq (.cond (.t 9)
          .skip
          (.exit 0))
        (.seq (.block 1 (.seq (.ops [⟨(some 10), .iadr 3 (.t 6) (.t 8), none, false⟩,
             ⟨(some 11), .load (some 3) (.t 10), none, false⟩,
             ⟨(some 5), .box (.c (.agg [.str [], .int .i64 0, .nilSlice])), none, false⟩,
             ⟨none, .store 3 (.t 5) (.t 11), none, false⟩])
           (.ops [⟨(some 12), .mov (.t 3), none, false⟩,
             ⟨(some 13), .load (some 3) (.t 5), none, false⟩,
             ⟨(some 14), .call (.f 19) [(.t 13)], none, false⟩,
             ⟨(some 15), .bslice 3 1 [.str [], .int .i64 0, .nilSlice] [(0, (.t 14))], none, false⟩,
             ⟨(some 16), .app 3 48 (.t 12) (.t 15), none, false⟩,
             ⟨(some 3), .mov (.t 16), none, false⟩])))
         (.ops [⟨(some 17), .bin .add (.t 8) (.c (.int .i64 1)), none, false⟩,
           ⟨(some 8), .mov (.t 17), none, false⟩])))))))
   (.seq (.ops [⟨(some 18), .mov (.t 3), none, false⟩,
      ⟨(some 2), .mov (.t 18), none, false⟩])
    .ret))))⟩
def fn29 : AFunc := ⟨39, 1, [(2, none)],
 (.seq (.ops [⟨(some 2), .mov (.c (.int .i64 0)), none, false⟩])
 (.seq (.seq (.ops [⟨(some 6), .mov (.t 0), none, false⟩,
     ⟨(some 7), .len .sl (.t 6), none, false⟩,
     ⟨(some 8), .bin .gtr (.t 7) (.c (.int .i64 8)), none, false⟩])
   (.cond (.t 8)
     (.seq (.ops [⟨(some 2), .mov (.c (.int .i64 5)), none, false⟩])
     .ret)
     .skip))
  (.seq (.seq (.ops [⟨(some 3), .mov (.c (.int .i64 0)), none, false⟩])
    (.block 0 (.loop (.seq (.seq (.ops [⟨(some 9), .mov (.t 3), none, false⟩,
          ⟨(some 10), .mov (.t 0), none, false⟩,
          ⟨(some 11), .len .sl (.t 10), none, false⟩,
          ⟨(some 12), .bin .lss (.t 9) (.t 11), none, false⟩])
        (.cond (.t 12)
          .skip
          (.exit 0)))
       (.seq (.block 1 (.seq (.seq (.ops [⟨(some 15), .mov (.t 0), none, false⟩,
             ⟨(some 16), .mov (.t 3), none, false⟩,
             ⟨(some 17), .iadr 3 (.t 15) (.t 16), none, false⟩,
             ⟨(some 18), .load (some 3) (.t 17), none, false⟩,
             ⟨(some 19), .call (.f 21) [(.t 18)], none, false⟩,
             ⟨(some 4), .mov (.t 19), none, false⟩])
           (.seq (.ops [⟨(some 20), .mov (.t 4), none, false⟩,
              ⟨(some 21), .bin .neq (.t 20) (.c (.int .i64 0)), none, false⟩])
            (.cond (.t 21)
              (.seq (.ops [⟨(some 22), .mov (.t 4), none, false⟩,
                ⟨(some 2), .mov (.t 22), none, false⟩])
              .ret)
              .skip)))
          (.seq (.ops [⟨(some 5), .mov (.c (.int .i64 0)), none, false⟩])
           (.block 2 (.loop (.seq (.seq (.ops [⟨(some 23), .mov (.t 5), none, false⟩,
                 ⟨(some 24), .mov (.t 3), none, false⟩,
                 ⟨(some 25), .bin .lss (.t 23) (.t 24), none, false⟩])
               (.cond (.t 25)
                 .skip
                 (.exit 2)))
              (.seq (.block 3 (.seq (.ops [⟨(some 28), .mov (.t 0), none, true⟩,
                   ⟨(some 29), .mov (.t 5), none, true⟩,
                   ⟨(some 30), .iadr 3 (.t 28) (.t 29), none, true⟩,
                   ⟨(some 31), .fadr 0 (.t 30), none, true⟩,
                   ⟨(some 32), .load none (.t 31), none, true⟩,
                   ⟨(some 33), .mov (.t 0), none, true⟩,
                   ⟨(some 34), .mov (.t 3), none, true⟩,
                   ⟨(some 35), .iadr 3 (.t 33) (.t 34), none, true⟩,
                   ⟨(some 36), .fadr 0 (.t 35), none, true⟩,
                   ⟨(some 37), .load none (.t 36), none, true⟩,
                   ⟨(some 38), .bin .eql (.t 32) (.t 37), none, false⟩])
                 (.cond (.t 38)
                   (.seq (.ops [⟨(some 2), .mov (.c (.int .i64 9)), none, false⟩])
                   .ret)
                   .skip)))
               (.ops [⟨(some 26), .mov (.t 5), none, false⟩,
                 ⟨(some 27), .bin .add (.t 26) (.c (.int .i64 1)), none, false⟩,
                 ⟨(some 5), .mov (.t 27), none, false⟩]))))))))
        (.ops [⟨(some 13), .mov (.t 3), none, false⟩,
          ⟨(some 14), .bin .add (.t 13) (.c (.int .i64 1)), none, false⟩,
          ⟨(some 3), .mov (.t 14), none, false⟩]))))))
   (.seq (.ops [⟨(some 2), .mov (.c (.int .i64 0)), none, false⟩])
    .ret))))⟩
def fn30 : AFunc := ⟨61, 2, [(4, some (some 3)), (5, none)],
 (.seq (.ops [⟨(some 2), .box (.t 0), none, false⟩,
   ⟨(some 3), .box (.t 1), none, false⟩,
   ⟨(some 4), .box (.c (.agg [.str [], .int .i64 0, .nilSlice])), none, false⟩,
   ⟨(some 5), .mov (.c (.int .i64 0)), none, false⟩])
 (.seq (.seq (.ops [⟨(some 9), .load (some 3) (.t 2), none, true⟩,
     ⟨(some 10), .call (.f 26) [(.t 9)], none, true⟩,
     ⟨(some 11), .fadr 0 (.t 3), none, true⟩,
     ⟨(some 12), .load none (.t 11), none, true⟩,
     ⟨(some 13), .call (.f 108) [(.t 12), (.c (.int .i64 0)), (.c (.int .i64 255))], none, true⟩,
     ⟨(some 14), .fadr 1 (.t 3), none, true⟩,
     ⟨(some 15), .load none (.t 14), none, true⟩,
     ⟨(some 16), .call (.f 108) [(.t 15), (.c (.int .i64 (-10000))), (.c (.int .i64 10000))], none, false⟩,
     ⟨(some 17), .bslice 1 3 [.int .i64 0] [(0, (.t 10)), (1, (.t 13)), (2, (.t 16))], none, false⟩,
     ⟨(some 18), .call (.f 105) [(.t 17)], none, false⟩,
     ⟨(some 6), .mov (.t 18), none, false⟩])
   (.seq (.ops [⟨(some 19), .mov (.t 6), none, false⟩,
      ⟨(some 20), .bin .neq (.t 19) (.c (.int .i64 0)), none, false⟩])
    (.cond (.t 20)
      (.seq (.ops [⟨(some 21), .build [.str [], .int .i64 0, .nilSlice] [], none, false⟩,
        ⟨(some 22), .mov (.t 6), none, false⟩,
        ⟨none, .store 3 (.t 4) (.t 21), none, false⟩,
        ⟨(some 5), .mov (.t 22), none, false⟩])
      .ret)
      .skip)))
  (.seq (.ops [⟨(some 23), .fadr 2 (.t 2), none, false⟩,
     ⟨(some 24), .load none (.t 23), none, false⟩,
     ⟨(some 25), .len .sl (.t 24), none, false⟩,
     ⟨(some 26), .mksl 2 16 [.int .i64 0, .int .i64 0] (.t 25) (.t 25), none, false⟩,
     ⟨(some 7), .mov (.t 26), none, false⟩])
   (.seq (.ops [⟨(some 27), .mov (.t 7), none, false⟩,
      ⟨(some 28), .fadr 2 (.t 2), none, false⟩,
      ⟨(some 29), .load none (.t 28), none, false⟩,
      ⟨(some 30), .cpy 2 (.t 27) (.t 29), none, false⟩])
    (.seq (.seq (.ops [⟨(some 31), .mov (.t 7), none, false⟩,
        ⟨(some 32), .len .sl (.t 31), none, false⟩,
        ⟨(some 33), .mov (.c (.int .i64 0)), none, false⟩])
      (.block 0 (.loop (.seq (.ops [⟨(some 34), .bin .lss (.t 33) (.t 32), none, false⟩])
         (.seq (.cond (.t 34)
            .skip
            (.exit 0))
          (.seq (.block 1 (.seq (.ops [⟨(some 35), .mov (.t 33), none, false⟩,
               ⟨(some 8), .mov (.t 35), none, false⟩])
             (.seq (.ops [⟨(some 36), .mov (.t 7), none, true⟩,
                ⟨(some 37), .mov (.t 8), none, true⟩,
                ⟨(some 38), .iadr 2 (.t 36) (.t 37), none, true⟩,
                ⟨(some 39), .fadr 0 (.t 38), none, true⟩,
                ⟨(some 40), .load none (.t 39), none, true⟩,
                ⟨(some 41), .fadr 0 (.t 3), none, true⟩,
                ⟨(some 42), .load none (.t 41), none, true⟩,
                ⟨(some 43), .bin .geq (.t 40) (.t 42), none, false⟩])
              (.cond (.t 43)
                (.ops [⟨(some 44), .mov (.t 7), none, true⟩,
                 ⟨(some 45), .mov (.t 8), none, true⟩,
                 ⟨(some 46), .iadr 2 (.t 44) (.t 45), none, true⟩,
                 ⟨(some 47), .fadr 1 (.t 46), none, true⟩,
                 ⟨(some 48), .load none (.t 47), none, true⟩,
                 ⟨(some 49), .fadr 1 (.t 3), none, true⟩,
                 ⟨(some 50), .load none (.t 49), none, true⟩,
                 ⟨(some 51), .bin .add (.t 48) (.t 50), none, false⟩,
                 ⟨(some 52), .iadr 2 (.t 44) (.t 45), none, false⟩,
                 ⟨(some 53), .fadr 1 (.t 52), none, false⟩,
                 ⟨none, .store 1 (.t 53) (.t 51), none, false⟩])
                .skip))))
           (.ops [⟨(some 54), .bin .add (.t 33) (.c (.int .i64 1)), none, false⟩,
             ⟨(some 33), .mov (.t 54), none, false⟩])))))))
     (.seq (.seq (.ops [⟨(some 55), .mov (.t 7), none, false⟩,
         ⟨(some 56), .call (.f 111) [(.t 55), (.f 112)], none, false⟩])
       (.cond (.t 56)
         (.seq (.ops [⟨(some 57), .build [.str [], .int .i64 0, .nilSlice] [], none, false⟩,
           ⟨none, .store 3 (.t 4) (.t 57), none, false⟩,
           ⟨(some 5), .mov (.c (.int .i64 4)), none, false⟩])
         .ret)
         .skip))
      (.seq (.ops [⟨(some 58), .load (some 3) (.t 2), none, false⟩,
         ⟨(some 59), .mov (.t 7), none, false⟩,
         ⟨(some 60), .call (.f 113) [(.t 58), (.t 59)], none, false⟩,
         ⟨none, .store 3 (.t 4) (.t 60), none, false⟩,
         ⟨(some 5), .mov (.c (.int .i64 0)), none, false⟩])
       .ret)))))))⟩
def fn31 : AFunc := ⟨59, 2, [(4, none), (5, none)],
 (.seq (.ops [⟨(some 2), .box (.t 0), none, false⟩,
   ⟨(some 4), .mov (.c (.nilSlice)), none, false⟩,
   ⟨(some 5), .mov (.c (.int .i64 0)), none, false⟩])
 (.seq (.seq (.ops [⟨(some 12), .load (some 3) (.t 2), none, false⟩,
     ⟨(some 13), .call (.f 26) [(.t 12)], none, false⟩,
     ⟨(some 14), .mov (.t 1), none, false⟩,
     ⟨(some 15), .call (.f 108) [(.t 14), (.c (.int .i64 0)), (.c (.int .i64 100000))], none, false⟩,
     ⟨(some 16), .bslice 1 2 [.int .i64 0] [(0, (.t 13)), (1, (.t 15))], none, false⟩,
     ⟨(some 17), .call (.f 105) [(.t 16)], none, false⟩,
     ⟨(some 6), .mov (.t 17), none, false⟩])
   (.seq (.ops [⟨(some 18), .mov (.t 6), none, false⟩,
      ⟨(some 19), .bin .neq (.t 18) (.c (.int .i64 0)), none, false⟩])
    (.cond (.t 19)
      (.seq (.ops [⟨(some 20), .mov (.t 6), none, false⟩,
        ⟨(some 4), .mov (.c (.nilSlice)), none, false⟩,
        ⟨(some 5), .mov (.t 20), none, false⟩])
      .ret)
      .skip)))
  (.seq (.ops [⟨(some 7), .mov (.c (.nilSlice)), none, false⟩])
   (.seq (.seq (.ops [⟨(some 21), .fadr 2 (.t 2), none, false⟩,
       ⟨(some 22), .load none (.t 21), none, false⟩,
       ⟨(some 23), .sl 2 (.t 22) (some (.c (.int .i64 1))) none, none, false⟩,
       ⟨(some 24), .len .sl (.t 23), none, false⟩,
       ⟨(some 25), .mov (.c (.int .i64 0)), none, false⟩])
     (.block 0 (.loop (.seq (.ops [⟨(some 26), .bin .lss (.t 25) (.t 24), none, false⟩])
        (.seq (.cond (.t 26)
           .skip
           (.exit 0))
         (.seq (.block 1 (.seq (.ops [⟨(some 27), .mov (.t 25), none, false⟩,
              ⟨(some 28), .iadr 2 (.t 23) (.t 25), none, false⟩,
              ⟨(some 29), .load (some 2) (.t 28), none, false⟩,
              ⟨(some 9), .box (.c (.agg [.int .i64 0, .int .i64 0])), none, false⟩,
              ⟨(some 8), .mov (.t 27), none, false⟩,
              ⟨none, .store 2 (.t 9) (.t 29), none, false⟩])
            (.seq (.ops [⟨(some 30), .fadr 2 (.t 2), none, false⟩,
               ⟨(some 31), .load none (.t 30), none, false⟩,
               ⟨(some 32), .mov (.t 8), none, false⟩,
               ⟨(some 33), .iadr 2 (.t 31) (.t 32), none, false⟩,
               ⟨(some 34), .load (some 2) (.t 33), none, false⟩,
               ⟨(some 10), .box (.c (.agg [.int .i64 0, .int .i64 0])), none, false⟩,
               ⟨none, .store 2 (.t 10) (.t 34), none, false⟩])
             (.seq (.ops [⟨(some 35), .fadr 1 (.t 9), none, false⟩,
                ⟨(some 36), .load none (.t 35), none, false⟩,
                ⟨(some 37), .fadr 1 (.t 10), none, false⟩,
                ⟨(some 38), .load none (.t 37), none, false⟩,
                ⟨(some 39), .bin .sub (.t 36) (.t 38), none, false⟩,
                ⟨(some 11), .mov (.t 39), none, false⟩])
              (.seq (.ops [⟨(some 40), .mov (.t 11), none, false⟩,
                 ⟨(some 41), .mov (.t 11), none, false⟩,
                 ⟨(some 42), .un .neg (.t 41), none, false⟩,
                 ⟨(some 43), .mx (.t 40) [(.t 42)], none, false⟩,
                 ⟨(some 44), .mov (.t 1), none, false⟩,
                 ⟨(some 45), .fadr 0 (.t 9), none, false⟩,
                 ⟨(some 46), .load none (.t 45), none, false⟩,
                 ⟨(some 47), .fadr 0 (.t 10), none, false⟩,
                 ⟨(some 48), .load none (.t 47), none, false⟩,
                 ⟨(some 49), .bin .sub (.t 46) (.t 48), none, false⟩,
                 ⟨(some 50), .bin .mul (.t 44) (.t 49), none, false⟩,
                 ⟨(some 51), .bin .gtr (.t 43) (.t 50), none, false⟩])
               (.cond (.t 51)
                 (.ops [⟨(some 52), .mov (.t 7), none, false⟩,
                  ⟨(some 53), .fadr 0 (.t 9), none, false⟩,
                  ⟨(some 54), .load none (.t 53), none, false⟩,
                  ⟨(some 55), .bslice 1 1 [.int .i64 0] [(0, (.t 54))], none, false⟩,
                  ⟨(some 56), .app 1 8 (.t 52) (.t 55), none, false⟩,
                  ⟨(some 7), .mov (.t 56), none, false⟩])
                 .skip))))))
          (.ops [⟨(some 57), .bin .add (.t 25) (.c (.int .i64 1)), none, false⟩,
            ⟨(some 25), .mov (.t 57), none, false⟩])))))))
    (.seq (.ops [⟨(some 58), .mov (.t 7), none, false⟩,
       ⟨(some 4), .mov (.t 58), none, false⟩,
       ⟨(some 5), .mov (.c (.int .i64 0)), none, false⟩])
     .ret)))))⟩
def fn32 : AFunc := ⟨29, 1, [(2, some (some 3)), (3, none)],
 (.seq (.ops [⟨(some 1), .box (.t 0), none, false⟩,
   ⟨(some 2), .box (.c (.agg [.str [], .int .i64 0, .nilSlice])), none, false⟩,
   ⟨(some 3), .mov (.c (.int .i64 0)), none, false⟩])
 (.seq (.seq (.ops [⟨(some 7), .load (some 3) (.t 1), none, false⟩,
     ⟨(some 8), .call (.f 26) [(.t 7)], none, false⟩,
     ⟨(some 4), .mov (.t 8), none, false⟩])
   (.seq (.ops [⟨(some 9), .mov (.t 4), none, false⟩,
      ⟨(some 10), .bin .neq (.t 9) (.c (.int .i64 0)), none, false⟩])
    (.cond (.t 10)
      (.seq (.ops [⟨(some 11), .build [.str [], .int .i64 0, .nilSlice] [], none, false⟩,
        ⟨(some 12), .mov (.t 4), none, false⟩,
        ⟨none, .store 3 (.t 2) (.t 11), none, false⟩,
        ⟨(some 3), .mov (.t 12), none, false⟩])
      .ret)
      .skip)))
  (.seq (.ops [⟨(some 5), .box (.c (.nilSlice)), none, false⟩])
   (.seq (.seq (.ops [⟨(some 13), .load (some 3) (.t 1), none, false⟩,
       ⟨(some 14), .load (some 3) (.t 1), none, false⟩,
       ⟨(some 15), .call (.f 114) [(.t 13), (.t 14)], none, false⟩])
     (.block 0 (.rangeF (.t 15) [16] (.ops [⟨(some 6), .mov (.t 16), none, false⟩])
       (.block 1 (.ops [⟨(some 17), .load none (.t 5), none, true⟩,
          ⟨(some 18), .mov (.t 6), none, true⟩,
          ⟨(some 19), .load (some 3) (.t 1), none, true⟩,
          ⟨(some 20), .mov (.t 6), none, true⟩,
          ⟨(some 21), .call (.f 96) [(.t 19), (.t 20)], none, true⟩,
          ⟨(some 22), .call (.f 115) [(.t 21)], none, true⟩,
          ⟨(some 23), .build [.int .i64 0, .int .i64 0] [(0, 1, (.t 18)), (1, 1, (.t 22))], none, true⟩,
          ⟨(some 24), .bslice 2 1 [.int .i64 0, .int .i64 0] [(0, (.t 23))], none, true⟩,
          ⟨(some 25), .app 2 16 (.t 17) (.t 24), none, false⟩,
          ⟨none, .store 1 (.t 5) (.t 25), none, false⟩])))))
    (.seq (.ops [⟨(some 26), .load (some 3) (.t 1), none, false⟩,
       ⟨(some 27), .load none (.t 5), none, false⟩,
       ⟨(some 28), .call (.f 113) [(.t 26), (.t 27)], none, false⟩,
       ⟨none, .store 3 (.t 2) (.t 28), none, false⟩,
       ⟨(some 3), .mov (.c (.int .i64 0)), none, false⟩])
     .ret)))))⟩
def fn33 : AFunc := ⟨5, 1, [(2, none)],
 (.seq (.ops [⟨(some 2), .mov (.c (.int .i64 0)), none, false⟩])
 (.seq (.ops [⟨(some 3), .mov (.t 0), none, false⟩,
    ⟨(some 4), .call (.f 98) [(.t 3)], none, false⟩,
    ⟨(some 2), .mov (.t 4), none, false⟩])
  .ret))⟩
def fn34 : AFunc := ⟨11, 1, [(2, none)],
 (.seq (.ops [⟨(some 1), .box (.t 0), none, false⟩,
   ⟨(some 2), .mov (.c (.int .i64 0)), none, false⟩])
 (.seq (.ops [⟨(some 3), .fadr 0 (.t 1), none, true⟩,
    ⟨(some 4), .load none (.t 3), none, true⟩,
    ⟨(some 5), .call (.f 66) [(.t 4)], none, true⟩,
    ⟨(some 6), .fadr 1 (.t 1), none, true⟩,
    ⟨(some 7), .load none (.t 6), none, true⟩,
    ⟨(some 8), .call (.f 35) [(.t 7), (.c (.int .i64 (-10000))), (.c (.int .i64 10000))], none, false⟩,
    ⟨(some 9), .bslice 1 2 [.int .i64 0] [(0, (.t 5)), (1, (.t 8))], none, false⟩,
    ⟨(some 10), .call (.f 98) [(.t 9)], none, false⟩,
    ⟨(some 2), .mov (.t 10), none, false⟩])
  .ret))⟩
def fn35 : AFunc := ⟨16, 3, [(6, none)],
 (.seq (.ops [⟨(some 6), .mov (.c (.int .i64 0)), none, false⟩])
 (.seq (.ops [⟨(some 7), .mov (.t 0), none, false⟩,
    ⟨(some 8), .mov (.t 1), none, false⟩,
    ⟨(some 9), .bin .lss (.t 7) (.t 8), none, false⟩,
    ⟨(some 10), .mov (.t 9), none, false⟩,
    ⟨(some 11), .mov (.t 0), (some (10, false)), false⟩,
    ⟨(some 12), .mov (.t 2), (some (10, false)), false⟩,
    ⟨(some 13), .bin .gtr (.t 11) (.t 12), (some (10, false)), false⟩,
    ⟨(some 14), .pick (.t 10) (.c (.bool true)) (.t 13), none, false⟩,
    ⟨(some 15), .call (.f 22) [(.t 14), (.c (.int .i64 3))], none, false⟩,
    ⟨(some 6), .mov (.t 15), none, false⟩])
  .ret))⟩
def fn36 : AFunc := ⟨45, 2, [(4, some (some 3)), (5, none)],
 (.seq (.ops [⟨(some 2), .box (.t 0), none, false⟩,
   ⟨(some 3), .box (.t 1), none, false⟩,
   ⟨(some 4), .box (.c (.agg [.str [], .int .i64 0, .nilSlice])), none, false⟩,
   ⟨(some 5), .mov (.c (.int .i64 0)), none, false⟩])
 (.seq (.ops [⟨(some 8), .load (some 3) (.t 2), none, false⟩,
    ⟨(some 9), .call (.f 79) [(.t 8)], none, false⟩,
    ⟨(some 6), .box (.c (.agg [.str [], .int .i64 0, .nilSlice])), none, false⟩,
    ⟨none, .store 3 (.t 6) (.t 9), none, false⟩])
  (.seq (.seq (.ops [⟨(some 7), .mov (.c (.int .i64 0)), none, false⟩])
    (.block 0 (.loop (.seq (.seq (.ops [⟨(some 10), .mov (.t 7), none, false⟩,
          ⟨(some 11), .fadr 2 (.t 6), none, false⟩,
          ⟨(some 12), .load none (.t 11), none, false⟩,
          ⟨(some 13), .len .sl (.t 12), none, false⟩,
          ⟨(some 14), .bin .lss (.t 10) (.t 13), none, false⟩])
        (.cond (.t 14)
          .skip
          (.exit 0)))
       (.seq (.block 1 (.seq (.ops [⟨(some 17), .fadr 2 (.t 6), none, true⟩,
            ⟨(some 18), .load none (.t 17), none, true⟩,
            ⟨(some 19), .mov (.t 7), none, true⟩,
            ⟨(some 20), .iadr 2 (.t 18) (.t 19), none, true⟩,
            ⟨(some 21), .fadr 0 (.t 20), none, true⟩,
            ⟨(some 22), .load none (.t 21), none, true⟩,
            ⟨(some 23), .fadr 0 (.t 3), none, true⟩,
            ⟨(some 24), .load none (.t 23), none, true⟩,
            ⟨(some 25), .bin .geq (.t 22) (.t 24), none, false⟩])
          (.cond (.t 25)
            (.ops [⟨(some 26), .fadr 2 (.t 6), none, true⟩,
             ⟨(some 27), .load none (.t 26), none, true⟩,
             ⟨(some 28), .mov (.t 7), none, true⟩,
             ⟨(some 29), .fadr 2 (.t 6), none, true⟩,
             ⟨(some 30), .load none (.t 29), none, true⟩,
             ⟨(some 31), .mov (.t 7), none, true⟩,
             ⟨(some 32), .iadr 2 (.t 30) (.t 31), none, true⟩,
             ⟨(some 33), .fadr 1 (.t 32), none, true⟩,
             ⟨(some 34), .load none (.t 33), none, true⟩,
             ⟨(some 35), .fadr 1 (.t 3), none, true⟩,
             ⟨(some 36), .load none (.t 35), none, true⟩,
             ⟨(some 37), .bin .add (.t 34) (.t 36), none, true⟩,
             ⟨(some 38), .iadr 2 (.t 27) (.t 28), none, false⟩,
             ⟨(some 39), .fadr 1 (.t 38), none, false⟩,
             ⟨none, .store 1 (.t 39) (.t 37), none, false⟩])
            .skip)))
        (.ops [⟨(some 15), .mov (.t 7), none, false⟩,
          ⟨(some 16), .bin .add (.t 15) (.c (.int .i64 1)), none, false⟩,
          ⟨(some 7), .mov (.t 16), none, false⟩]))))))
   (.seq (.seq (.ops [⟨(some 40), .load (some 3) (.t 6), none, false⟩,
       ⟨(some 41), .call (.f 21) [(.t 40)], none, false⟩,
       ⟨(some 42), .bin .neq (.t 41) (.c (.int .i64 0)), none, false⟩])
     (.cond (.t 42)
       (.seq (.ops [⟨(some 43), .build [.str [], .int .i64 0, .nilSlice] [], none, false⟩,
         ⟨none, .store 3 (.t 4) (.t 43), none, false⟩,
         ⟨(some 5), .mov (.c (.int .i64 4)), none, false⟩])
       .ret)
       .skip))
    (.seq (.ops [⟨(some 44), .load (some 3) (.t 6), none, false⟩,
       ⟨none, .store 3 (.t 4) (.t 44), none, false⟩,
       ⟨(some 5), .mov (.c (.int .i64 0)), none, false⟩])
     .ret)))))⟩
def fn37 : AFunc := ⟨52, 2, [(4, none)],
 (.seq (.ops [⟨(some 2), .box (.t 0), none, false⟩,
   ⟨(some 4), .mov (.c (.nilSlice)), none, false⟩])
 (.seq (.ops [⟨(some 5), .mov (.c (.nilSlice)), none, false⟩])
  (.seq (.seq (.ops [⟨(some 6), .mov (.c (.int .i64 1)), none, false⟩])
    (.block 0 (.loop (.seq (.seq (.ops [⟨(some 9), .mov (.t 6), none, false⟩,
          ⟨(some 10), .fadr 2 (.t 2), none, false⟩,
          ⟨(some 11), .load none (.t 10), none, false⟩,
          ⟨(some 12), .len .sl (.t 11), none, false⟩,
          ⟨(some 13), .bin .lss (.t 9) (.t 12), none, false⟩])
        (.cond (.t 13)
          .skip
          (.exit 0)))
       (.seq (.block 1 (.seq (.ops [⟨(some 16), .fadr 2 (.t 2), none, true⟩,
            ⟨(some 17), .load none (.t 16), none, true⟩,
            ⟨(some 18), .mov (.t 6), none, true⟩,
            ⟨(some 19), .bin .sub (.t 18) (.c (.int .i64 1)), none, true⟩,
            ⟨(some 20), .iadr 2 (.t 17) (.t 19), none, true⟩,
            ⟨(some 21), .load (some 2) (.t 20), none, true⟩,
            ⟨(some 22), .fadr 2 (.t 2), none, true⟩,
            ⟨(some 23), .load none (.t 22), none, true⟩,
            ⟨(some 24), .mov (.t 6), none, true⟩,
            ⟨(some 25), .iadr 2 (.t 23) (.t 24), none, true⟩,
            ⟨(some 26), .load (some 2) (.t 25), none, true⟩,
            ⟨none, .mov (.c (.bool false)), none, true⟩,
            ⟨(some 8), .box (.c (.agg [.int .i64 0, .int .i64 0])), none, true⟩,
            ⟨(some 7), .boxn 2 (.t 21), none, true⟩,
            ⟨none, .store 2 (.t 8) (.t 26), none, false⟩])
          (.seq (.ops [⟨(some 27), .fadr 1 (.t 8), none, false⟩,
             ⟨(some 28), .load none (.t 27), none, false⟩,
             ⟨(some 29), .fadr 1 (.t 7), none, false⟩,
             ⟨(some 30), .load none (.t 29), none, false⟩,
             ⟨(some 31), .bin .sub (.t 28) (.t 30), none, false⟩,
             ⟨(some 32), .fadr 1 (.t 7), none, false⟩,
             ⟨(some 33), .load none (.t 32), none, false⟩,
             ⟨(some 34), .fadr 1 (.t 8), none, false⟩,
             ⟨(some 35), .load none (.t 34), none, false⟩,
             ⟨(some 36), .bin .sub (.t 33) (.t 35), none, false⟩,
             ⟨(some 37), .mx (.t 31) [(.t 36)], none, false⟩,
             ⟨(some 38), .mov (.t 1), none, false⟩,
             ⟨(some 39), .fadr 0 (.t 8), none, false⟩,
             ⟨(some 40), .load none (.t 39), none, false⟩,
             ⟨(some 41), .fadr 0 (.t 7), none, false⟩,
             ⟨(some 42), .load none (.t 41), none, false⟩,
             ⟨(some 43), .bin .sub (.t 40) (.t 42), none, false⟩,
             ⟨(some 44), .bin .mul (.t 38) (.t 43), none, false⟩,
             ⟨(some 45), .bin .gtr (.t 37) (.t 44), none, false⟩])
           (.cond (.t 45)
             (.ops [⟨(some 46), .mov (.t 5), none, false⟩,
              ⟨(some 47), .fadr 0 (.t 8), none, false⟩,
              ⟨(some 48), .load none (.t 47), none, false⟩,
              ⟨(some 49), .bslice 1 1 [.int .i64 0] [(0, (.t 48))], none, false⟩,
              ⟨(some 50), .app 1 8 (.t 46) (.t 49), none, false⟩,
              ⟨(some 5), .mov (.t 50), none, false⟩])
             .skip))))
        (.ops [⟨(some 14), .mov (.t 6), none, false⟩,
          ⟨(some 15), .bin .add (.t 14) (.c (.int .i64 1)), none, false⟩,
          ⟨(some 6), .mov (.t 15), none, false⟩]))))))
   (.seq (.ops [⟨(some 51), .mov (.t 5), none, false⟩,
      ⟨(some 4), .mov (.t 51), none, false⟩])
    .ret))))⟩
def fn38 : AFunc := ⟨35, 1, [(2, some (some 3))],
 (.seq (.ops [⟨(some 1), .box (.t 0), none, false⟩,
   ⟨(some 2), .box (.c (.agg [.str [], .int .i64 0, .nilSlice])), none, false⟩])
 (.seq (.ops [⟨(some 6), .fadr 0 (.t 1), none, false⟩,
    ⟨(some 7), .load none (.t 6), none, false⟩,
    ⟨(some 8), .fadr 1 (.t 1), none, false⟩,
    ⟨(some 9), .load none (.t 8), none, false⟩,
    ⟨(some 10), .build [.str [], .int .i64 0, .nilSlice] [(0, 1, (.t 7)), (1, 1, (.t 9))], none, false⟩,
    ⟨(some 3), .box (.c (.agg [.str [], .int .i64 0, .nilSlice])), none, false⟩,
    ⟨none, .store 3 (.t 3) (.t 10), none, false⟩])
  (.seq (.seq (.ops [⟨(some 11), .load (some 3) (.t 1), none, false⟩,
      ⟨(some 12), .call (.f 100) [(.t 11)], none, false⟩,
      ⟨(some 4), .mov (.t 12), none, false⟩])
    (.block 0 (.loop (.seq (.seq (.ops [⟨(some 13), .mov (.t 4), none, false⟩,
          ⟨(some 14), .load (some 3) (.t 1), none, false⟩,
          ⟨(some 15), .call (.f 101) [(.t 14)], none, false⟩,
          ⟨(some 16), .bin .leq (.t 13) (.t 15), none, false⟩])
        (.cond (.t 16)
          .skip
          (.exit 0)))
       (.seq (.block 1 (.seq (.ops [⟨(some 19), .load (some 3) (.t 1), none, false⟩,
            ⟨(some 20), .mov (.t 4), none, false⟩,
            ⟨(some 21), .call (.f 24) [(.t 19), (.t 20)], none, false⟩,
            ⟨(some 5), .box (.c (.agg [.int .i64 0, .int .i64 0])), none, false⟩,
            ⟨none, .store 2 (.t 5) (.t 21), none, false⟩])
          (.ops [⟨(some 22), .fadr 2 (.t 3), none, true⟩,
            ⟨(some 23), .load none (.t 22), none, true⟩,
            ⟨(some 24), .mov (.t 4), none, true⟩,
            ⟨(some 25), .fadr 0 (.t 5), none, true⟩,
            ⟨(some 26), .load none (.t 25), none, true⟩,
            ⟨(some 27), .fadr 1 (.t 5), none, true⟩,
            ⟨(some 28), .load none (.t 27), none, true⟩,
            ⟨(some 29), .call (.f 116) [(.t 26), (.t 28)], none, true⟩,
            ⟨(some 30), .build [.int .i64 0, .int .i64 0] [(0, 1, (.t 24)), (1, 1, (.t 29))], none, true⟩,
            ⟨(some 31), .bslice 2 1 [.int .i64 0, .int .i64 0] [(0, (.t 30))], none, true⟩,
            ⟨(some 32), .app 2 16 (.t 23) (.t 31), none, false⟩,
            ⟨(some 33), .fadr 2 (.t 3), none, false⟩,
            ⟨none, .store 1 (.t 33) (.t 32), none, false⟩])))
        (.ops [⟨(some 17), .mov (.t 4), none, false⟩,
          ⟨(some 18), .bin .add (.t 17) (.c (.int .i64 1)), none, false⟩,
          ⟨(some 4), .mov (.t 18), none, false⟩]))))))
   (.seq (.ops [⟨(some 34), .load (some 3) (.t 3), none, false⟩,
      ⟨none, .store 3 (.t 2) (.t 34), none, false⟩])
    .ret))))⟩
def fn39 : AFunc := ⟨28, 4, [(8, none)],
 (.seq (.ops [⟨(some 4), .box (.t 0), none, false⟩,
   ⟨(some 7), .box (.t 3), none, false⟩,
   ⟨(some 8), .mov (.c (.bool false)), none, false⟩])
 (.seq (.seq (.ops [⟨(some 9), .mov (.t 2), none, false⟩,
     ⟨(some 10), .bin .neq (.t 9) (.c (.int .i64 0)), none, false⟩])
   (.cond (.t 10)
     (.seq (.ops [⟨(some 11), .load (some 3) (.t 4), none, false⟩,
       ⟨(some 12), .call (.f 68) [(.t 11)], none, false⟩,
       ⟨(some 13), .build [.str [], .int .i64 0, .nilSlice] [], none, false⟩,
       ⟨(some 14), .call (.f 69) [(.t 12), (.t 13)], none, false⟩,
       ⟨(some 15), .mov (.t 14), none, false⟩,
       ⟨(some 16), .mov (.t 1), (some (15, true)), false⟩,
       ⟨(some 17), .mov (.t 2), (some (15, true)), false⟩,
       ⟨(some 18), .bin .eql (.t 16) (.t 17), (some (15, true)), false⟩,
       ⟨(some 19), .pick (.t 15) (.t 18) (.c (.bool false)), none, false⟩,
       ⟨(some 8), .mov (.t 19), none, false⟩])
     .ret)
     .skip))
  (.seq (.ops [⟨(some 20), .mov (.t 1), none, false⟩,
     ⟨(some 21), .bin .eql (.t 20) (.c (.int .i64 0)), none, false⟩,
     ⟨(some 22), .mov (.t 21), none, false⟩,
     ⟨(some 23), .load (some 3) (.t 4), (some (22, true)), true⟩,
     ⟨(some 24), .call (.f 68) [(.t 23)], (some (22, true)), true⟩,
     ⟨(some 25), .load (some 3) (.t 7), (some (22, true)), true⟩,
     ⟨(some 26), .call (.f 69) [(.t 24), (.t 25)], (some (22, true)), false⟩,
     ⟨(some 27), .pick (.t 22) (.t 26) (.c (.bool false)), none, false⟩,
     ⟨(some 8), .mov (.t 27), none, false⟩])
   .ret)))⟩
def fn40 : AFunc := ⟨26, 2, [(4, none)],
 (.seq (.ops [⟨(some 4), .mov (.c (.bool false)), none, false⟩])
 (.seq (.seq (.ops [⟨(some 6), .mov (.t 0), none, false⟩,
     ⟨(some 7), .len .sl (.t 6), none, false⟩,
     ⟨(some 8), .mov (.t 1), none, false⟩,
     ⟨(some 9), .len .sl (.t 8), none, false⟩,
     ⟨(some 10), .bin .neq (.t 7) (.t 9), none, false⟩])
   (.cond (.t 10)
     (.seq (.ops [⟨(some 4), .mov (.c (.bool false)), none, false⟩])
     .ret)
     .skip))
  (.seq (.seq (.ops [⟨(some 5), .mov (.c (.int .i64 0)), none, false⟩])
    (.block 0 (.loop (.seq (.seq (.ops [⟨(some 11), .mov (.t 5), none, false⟩,
          ⟨(some 12), .mov (.t 0), none, false⟩,
          ⟨(some 13), .len .sl (.t 12), none, false⟩,
          ⟨(some 14), .bin .lss (.t 11) (.t 13), none, false⟩])
        (.cond (.t 14)
          .skip
          (.exit 0)))
       (.seq (.block 1 (.seq (.ops [⟨(some 17), .mov (.t 0), none, true⟩,
            ⟨(some 18), .mov (.t 5), none, true⟩,
            ⟨(some 19), .iadr 1 (.t 17) (.t 18), none, true⟩,
            ⟨(some 20), .load none (.t 19), none, true⟩,
            ⟨(some 21), .mov (.t 1), none, true⟩,
            ⟨(some 22), .mov (.t 5), none, true⟩,
            ⟨(some 23), .iadr 1 (.t 21) (.t 22), none, true⟩,
            ⟨(some 24), .load none (.t 23), none, true⟩,
            ⟨(some 25), .bin .neq (.t 20) (.t 24), none, false⟩])
          (.cond (.t 25)
            (.seq (.ops [⟨(some 4), .mov (.c (.bool false)), none, false⟩])
            .ret)
            .skip)))
        (.ops [⟨(some 15), .mov (.t 5), none, false⟩,
          ⟨(some 16), .bin .add (.t 15) (.c (.int .i64 1)), none, false⟩,
          ⟨(some 5), .mov (.t 16), none, false⟩]))))))
   (.seq (.ops [⟨(some 4), .mov (.c (.bool true)), none, false⟩])
    .ret))))⟩
def fn41 : AFunc := ⟨23, 3, [(6, none), (7, none)],
 (.seq (.ops [⟨(some 6), .mov (.c (.nilSlice)), none, false⟩,
   ⟨(some 7), .mov (.c (.int .i64 0)), none, false⟩])
 (.seq (.seq (.ops [⟨(some 9), .mov (.t 0), none, false⟩,
     ⟨(some 10), .mov (.t 1), none, false⟩,
     ⟨(some 11), .call (.f 117) [(.t 9), (.t 10)], none, false⟩,
     ⟨(some 8), .mov (.t 11), none, false⟩])
   (.seq (.ops [⟨(some 12), .mov (.t 8), none, false⟩,
      ⟨(some 13), .bin .neq (.t 12) (.c (.int .i64 0)), none, false⟩])
    (.cond (.t 13)
      (.seq (.ops [⟨(some 14), .mov (.t 8), none, false⟩,
        ⟨(some 6), .mov (.c (.nilSlice)), none, false⟩,
        ⟨(some 7), .mov (.t 14), none, false⟩])
      .ret)
      .skip)))
  (.seq (.seq (.ops [⟨(some 15), .mov (.t 0), none, false⟩,
      ⟨(some 16), .mov (.t 2), none, false⟩,
      ⟨(some 17), .call (.f 118) [(.t 15), (.t 16)], none, false⟩,
      ⟨(some 18), .un .not (.t 17), none, false⟩])
    (.cond (.t 18)
      (.seq (.ops [⟨(some 6), .mov (.c (.nilSlice)), none, false⟩,
        ⟨(some 7), .mov (.c (.int .i64 14)), none, false⟩])
      .ret)
      .skip))
   (.seq (.ops [⟨(some 19), .mov (.t 0), none, false⟩,
      ⟨(some 20), .mov (.t 1), none, false⟩,
      ⟨(some 21), .mov (.t 2), none, false⟩,
      ⟨(some 22), .call (.f 119) [(.t 19), (.t 20), (.t 21)], none, false⟩,
      ⟨(some 6), .mov (.t 22), none, false⟩,
      ⟨(some 7), .mov (.c (.int .i64 0)), none, false⟩])
    .ret))))⟩
def fn42 : AFunc := ⟨6, 1, [(2, none)],
 (.seq (.ops [⟨(some 2), .mov (.c (.nilSlice)), none, false⟩])
 (.seq (.ops [⟨(some 3), .bslice 2 0 [.int .i64 0, .int .i64 0] [], none, false⟩,
    ⟨(some 4), .mov (.t 0), none, false⟩,
    ⟨(some 5), .app 2 16 (.t 3) (.t 4), none, false⟩,
    ⟨(some 2), .mov (.t 5), none, false⟩])
  .ret))⟩
def fn43 : AFunc := ⟨48, 3, [(6, none), (7, none)],
 (.seq (.ops [⟨(some 6), .mov (.c (.nilSlice)), none, false⟩,
   ⟨(some 7), .mov (.c (.int .i64 0)), none, false⟩])
 (.seq (.seq (.ops [⟨(some 13), .mov (.t 0), none, false⟩,
     ⟨(some 14), .mov (.t 1), none, false⟩,
     ⟨(some 15), .mov (.t 2), none, false⟩,
     ⟨(some 16), .call (.f 120) [(.t 13), (.t 14), (.t 15)], none, false⟩,
     ⟨(some 8), .mov (.t 16), none, false⟩])
   (.seq (.ops [⟨(some 17), .mov (.t 8), none, false⟩,
      ⟨(some 18), .bin .neq (.t 17) (.c (.int .i64 0)), none, false⟩])
    (.cond (.t 18)
      (.seq (.ops [⟨(some 19), .mov (.t 8), none, false⟩,
        ⟨(some 6), .mov (.c (.nilSlice)), none, false⟩,
        ⟨(some 7), .mov (.t 19), none, false⟩])
      .ret)
      .skip)))
  (.seq (.ops [⟨(some 9), .mov (.c (.nilSlice)), none, false⟩])
   (.seq (.seq (.ops [⟨(some 20), .mov (.t 2), none, false⟩,
       ⟨(some 21), .len .sl (.t 20), none, false⟩,
       ⟨(some 22), .mov (.c (.int .i64 0)), none, false⟩])
     (.block 0 (.loop (.seq (.ops [⟨(some 23), .bin .lss (.t 22) (.t 21), none, false⟩])
        (.seq (.cond (.t 23)
           .skip
           (.exit 0))
         (.seq (.block 1 (.seq (.ops [⟨(some 24), .mov (.t 22), none, false⟩,
              ⟨(some 25), .iadr 4 (.t 20) (.t 22), none, false⟩,
              ⟨(some 26), .load (some 4) (.t 25), none, false⟩,
              ⟨(some 11), .box (.c (.agg [.int .i64 0, .int .i64 0, .int .i64 0, .int .i64 0])), none, false⟩,
              ⟨(some 10), .mov (.t 24), none, false⟩,
              ⟨none, .store 4 (.t 11) (.t 26), none, false⟩])
            (.seq (.ops [⟨(some 27), .load (some 4) (.t 11), none, false⟩,
               ⟨(some 28), .mov (.t 0), none, false⟩,
               ⟨(some 29), .mov (.t 1), none, false⟩,
               ⟨(some 30), .call (.f 121) [(.t 27), (.t 28), (.t 29)], none, false⟩,
               ⟨(some 12), .box (.c (.agg [.int .i64 0, .int .i64 0, .int .i64 0, .int .i64 0])), none, false⟩,
               ⟨none, .store 4 (.t 12) (.t 30), none, false⟩])
             (.seq (.ops [⟨(some 31), .load (some 4) (.t 12), none, false⟩,
                ⟨(some 32), .iada 2 2 (.t 12) (.c (.int .i64 0)), none, false⟩,
                ⟨(some 33), .load (some 2) (.t 32), none, false⟩,
                ⟨(some 34), .iada 2 2 (.t 12) (.c (.int .i64 0)), none, false⟩,
                ⟨(some 35), .load (some 2) (.t 34), none, false⟩,
                ⟨(some 36), .build [.int .i64 0, .int .i64 0, .int .i64 0, .int .i64 0] [(0, 2, (.t 33)), (2, 2, (.t 35))], none, false⟩,
                ⟨(some 37), .eqv true (.agg [.i, .i, .i, .i]) (.t 31) (.t 36), none, false⟩,
                ⟨(some 38), .mov (.t 37), none, false⟩,
                ⟨(some 39), .load (some 4) (.t 12), (some (38, true)), false⟩,
                ⟨(some 40), .call (.f 122) [(.t 39)], (some (38, true)), false⟩,
                ⟨(some 41), .pick (.t 38) (.t 40) (.c (.bool false)), none, false⟩])
              (.cond (.t 41)
                (.ops [⟨(some 42), .mov (.t 9), none, false⟩,
                 ⟨(some 43), .mov (.t 10), none, false⟩,
                 ⟨(some 44), .bslice 1 1 [.int .i64 0] [(0, (.t 43))], none, false⟩,
                 ⟨(some 45), .app 1 8 (.t 42) (.t 44), none, false⟩,
                 ⟨(some 9), .mov (.t 45), none, false⟩])
                .skip)))))
          (.ops [⟨(some 46), .bin .add (.t 22) (.c (.int .i64 1)), none, false⟩,
            ⟨(some 22), .mov (.t 46), none, false⟩])))))))
    (.seq (.ops [⟨(some 47), .mov (.t 9), none, false⟩,
       ⟨(some 6), .mov (.t 47), none, false⟩,
       ⟨(some 7), .mov (.c (.int .i64 0)), none, false⟩])
     .ret)))))⟩
def fn45 : AFunc := ⟨45, 3, [(6, some (some 2)), (7, none)],
 (.seq (.ops [⟨(some 3), .box (.t 0), none, false⟩,
   ⟨(some 4), .box (.t 1), none, false⟩,
   ⟨(some 5), .box (.t 2), none, false⟩,
   ⟨(some 6), .box (.c (.agg [.int .i64 0, .int .i64 0])), none, false⟩,
   ⟨(some 7), .mov (.c (.int .i64 0)), none, false⟩])
 (.seq (.seq (.ops [⟨(some 12), .load none (.t 3), none, false⟩,
     ⟨(some 13), .load none (.t 4), none, false⟩,
     ⟨(some 14), .load none (.t 5), none, false⟩,
     ⟨(some 15), .call (.f 120) [(.t 12), (.t 13), (.t 14)], none, false⟩,
     ⟨(some 8), .mov (.t 15), none, false⟩])
   (.seq (.ops [⟨(some 16), .mov (.t 8), none, false⟩,
      ⟨(some 17), .bin .neq (.t 16) (.c (.int .i64 0)), none, false⟩])
    (.cond (.t 17)
      (.seq (.ops [⟨(some 18), .build [.int .i64 0, .int .i64 0] [], none, false⟩,
        ⟨(some 19), .mov (.t 8), none, false⟩,
        ⟨none, .store 2 (.t 6) (.t 18), none, false⟩,
        ⟨(some 7), .mov (.t 19), none, false⟩])
      .ret)
      .skip)))
  (.seq (.ops [⟨(some 20), .build [.int .i64 0, .int .i64 0] [(0, 1, (.c (.int .i64 2049))), (1, 1, (.c (.int .i64 511)))], none, false⟩,
     ⟨(some 9), .box (.c (.agg [.int .i64 0, .int .i64 0])), none, false⟩,
     ⟨none, .store 2 (.t 9) (.t 20), none, false⟩])
   (.seq (.ops [⟨(some 21), .mkfn (.func 123) [] [(.t 5), (.t 3), (.t 4)], none, false⟩,
      ⟨(some 10), .mov (.t 21), none, false⟩])
    (.seq (.seq (.ops [⟨(some 11), .mov (.c (.int .i64 512)), none, false⟩])
      (.block 0 (.loop (.seq (.seq (.ops [⟨(some 22), .mov (.t 11), none, false⟩,
            ⟨(some 23), .bin .leq (.t 22) (.c (.int .i64 2048)), none, false⟩])
          (.cond (.t 23)
            .skip
            (.exit 0)))
         (.seq (.block 1 (.seq (.ops [⟨(some 26), .mov (.t 10), none, false⟩,
              ⟨(some 27), .mov (.t 11), none, false⟩,
              ⟨(some 28), .call (.t 26) [(.t 27)], none, false⟩])
            (.cond (.t 28)
              (.ops [⟨(some 29), .fadr 0 (.t 9), none, false⟩,
               ⟨(some 30), .load none (.t 29), none, false⟩,
               ⟨(some 31), .mov (.t 11), none, false⟩,
               ⟨(some 32), .mn (.t 30) [(.t 31)], none, false⟩,
               ⟨(some 33), .fadr 1 (.t 9), none, false⟩,
               ⟨(some 34), .load none (.t 33), none, false⟩,
               ⟨(some 35), .mov (.t 11), none, false⟩,
               ⟨(some 36), .mx (.t 34) [(.t 35)], none, false⟩,
               ⟨(some 37), .build [.int .i64 0, .int .i64 0] [(0, 1, (.t 32)), (1, 1, (.t 36))], none, false⟩,
               ⟨none, .store 2 (.t 9) (.t 37), none, false⟩])
              .skip)))
          (.ops [⟨(some 24), .mov (.t 11), none, false⟩,
            ⟨(some 25), .bin .add (.t 24) (.c (.int .i64 1)), none, false⟩,
            ⟨(some 11), .mov (.t 25), none, false⟩]))))))
     (.seq (.seq (.ops [⟨(some 38), .fadr 0 (.t 9), none, false⟩,
         ⟨(some 39), .load none (.t 38), none, false⟩,
         ⟨(some 40), .fadr 1 (.t 9), none, false⟩,
         ⟨(some 41), .load none (.t 40), none, false⟩,
         ⟨(some 42), .bin .gtr (.t 39) (.t 41), none, false⟩])
       (.cond (.t 42)
         (.seq (.ops [⟨(some 43), .build [.int .i64 0, .int .i64 0] [], none, false⟩,
           ⟨none, .store 2 (.t 6) (.t 43), none, false⟩,
           ⟨(some 7), .mov (.c (.int .i64 18)), none, false⟩])
         .ret)
         .skip))
      (.seq (.ops [⟨(some 44), .load (some 2) (.t 9), none, false⟩,
         ⟨none, .store 2 (.t 6) (.t 44), none, false⟩,
         ⟨(some 7), .mov (.c (.int .i64 0)), none, false⟩])
       .ret)))))))⟩
def fn52 : AFunc := ⟨26, 2, [(4, none)],
 (.seq (.ops [⟨(some 4), .mov (.c (.bool false)), none, false⟩])
 (.seq (.seq (.ops [⟨(some 6), .mov (.t 0), none, false⟩,
     ⟨(some 7), .len .sl (.t 6), none, false⟩,
     ⟨(some 8), .mov (.t 1), none, false⟩,
     ⟨(some 9), .len .sl (.t 8), none, false⟩,
     ⟨(some 10), .bin .neq (.t 7) (.t 9), none, false⟩])
   (.cond (.t 10)
     (.seq (.ops [⟨(some 4), .mov (.c (.bool false)), none, false⟩])
     .ret)
     .skip))
  (.seq (.seq (.ops [⟨(some 5), .mov (.c (.int .i64 0)), none, false⟩])
    (.block 0 (.loop (.seq (.seq (.ops [⟨(some 11), .mov (.t 5), none, false⟩,
          ⟨(some 12), .mov (.t 0), none, false⟩,
          ⟨(some 13), .len .sl (.t 12), none, false⟩,
          ⟨(some 14), .bin .lss (.t 11) (.t 13), none, false⟩])
        (.cond (.t 14)
          .skip
          (.exit 0)))
       (.seq (.block 1 (.seq (.ops [⟨(some 17), .mov (.t 0), none, true⟩,
            ⟨(some 18), .mov (.t 5), none, true⟩,
            ⟨(some 19), .iadr 2 (.t 17) (.t 18), none, true⟩,
            ⟨(some 20), .load (some 2) (.t 19), none, true⟩,
            ⟨(some 21), .mov (.t 1), none, true⟩,
            ⟨(some 22), .mov (.t 5), none, true⟩,
            ⟨(some 23), .iadr 2 (.t 21) (.t 22), none, true⟩,
            ⟨(some 24), .load (some 2) (.t 23), none, true⟩,
            ⟨(some 25), .eqv true (.agg [.i, .i]) (.t 20) (.t 24), none, false⟩])
          (.cond (.t 25)
            (.seq (.ops [⟨(some 4), .mov (.c (.bool false)), none, false⟩])
            .ret)
            .skip)))
        (.ops [⟨(some 15), .mov (.t 5), none, false⟩,
          ⟨(some 16), .bin .add (.t 15) (.c (.int .i64 1)), none, false⟩,
          ⟨(some 5), .mov (.t 16), none, false⟩]))))))
   (.seq (.ops [⟨(some 4), .mov (.c (.bool true)), none, false⟩])
    .ret))))⟩
def fn54 : AFunc := ⟨25, 2, [(4, some (some 2)), (5, none)],
 (.seq (.ops [⟨(some 2), .box (.t 0), none, false⟩,
   ⟨(some 4), .box (.c (.agg [.int .i64 0, .int .i64 0])), none, false⟩,
   ⟨(some 5), .mov (.c (.int .i64 0)), none, false⟩])
 (.seq (.seq (.ops [⟨(some 7), .load (some 3) (.t 2), none, false⟩,
     ⟨(some 8), .mov (.t 1), none, false⟩,
     ⟨(some 9), .call (.f 127) [(.t 7), (.t 8)], none, false⟩,
     ⟨(some 6), .mov (.t 9), none, false⟩])
   (.seq (.ops [⟨(some 10), .mov (.t 6), none, false⟩,
      ⟨(some 11), .bin .neq (.t 10) (.c (.int .i64 0)), none, false⟩])
    (.cond (.t 11)
      (.seq (.ops [⟨(some 12), .build [.int .i64 0, .int .i64 0] [], none, false⟩,
        ⟨(some 13), .mov (.t 6), none, false⟩,
        ⟨none, .store 2 (.t 4) (.t 12), none, false⟩,
        ⟨(some 5), .mov (.t 13), none, false⟩])
      .ret)
      .skip)))
  (.seq (.ops [⟨(some 14), .load (some 3) (.t 2), none, true⟩,
     ⟨(some 15), .load (some 3) (.t 2), none, true⟩,
     ⟨(some 16), .call (.f 129) [(.t 15)], none, true⟩,
     ⟨(some 17), .mov (.t 1), none, true⟩,
     ⟨(some 18), .call (.f 128) [(.t 14), (.t 16), (.t 17)], none, true⟩,
     ⟨(some 19), .load (some 3) (.t 2), none, true⟩,
     ⟨(some 20), .load (some 3) (.t 2), none, true⟩,
     ⟨(some 21), .call (.f 130) [(.t 20)], none, true⟩,
     ⟨(some 22), .mov (.t 1), none, true⟩,
     ⟨(some 23), .call (.f 128) [(.t 19), (.t 21), (.t 22)], none, false⟩,
     ⟨(some 24), .build [.int .i64 0, .int .i64 0] [(0, 1, (.t 18)), (1, 1, (.t 23))], none, false⟩,
     ⟨none, .store 2 (.t 4) (.t 24), none, false⟩,
     ⟨(some 5), .mov (.c (.int .i64 0)), none, false⟩])
   .ret)))⟩
def fn56 : AFunc := ⟨31, 3, [(6, none), (7, none), (8, none)],
 (.seq (.ops [⟨(some 3), .box (.t 0), none, false⟩,
   ⟨(some 6), .mov (.c (.nilSlice)), none, false⟩,
   ⟨(some 7), .mov (.c (.nilSlice)), none, false⟩,
   ⟨(some 8), .mov (.c (.int .i64 0)), none, false⟩])
 (.seq (.seq (.ops [⟨(some 10), .load (some 3) (.t 3), none, false⟩,
     ⟨(some 11), .mov (.t 1), none, false⟩,
     ⟨(some 12), .mov (.t 2), none, false⟩,
     ⟨(some 13), .call (.f 131) [(.t 10), (.t 11), (.t 12)], none, false⟩,
     ⟨(some 9), .mov (.t 13), none, false⟩])
   (.seq (.ops [⟨(some 14), .mov (.t 9), none, false⟩,
      ⟨(some 15), .bin .neq (.t 14) (.c (.int .i64 0)), none, false⟩])
    (.cond (.t 15)
      (.seq (.ops [⟨(some 16), .mov (.t 9), none, false⟩,
        ⟨(some 6), .mov (.c (.nilSlice)), none, false⟩,
        ⟨(some 7), .mov (.c (.nilSlice)), none, false⟩,
        ⟨(some 8), .mov (.t 16), none, false⟩])
      .ret)
      .skip)))
  (.seq (.ops [⟨(some 17), .load (some 3) (.t 3), none, true⟩,
     ⟨(some 18), .load (some 3) (.t 3), none, true⟩,
     ⟨(some 19), .call (.f 130) [(.t 18)], none, true⟩,
     ⟨(some 20), .mov (.t 1), none, true⟩,
     ⟨(some 21), .mov (.t 2), none, true⟩,
     ⟨(some 22), .bin .sub (.t 21) (.c (.int .i64 1)), none, true⟩,
     ⟨(some 23), .call (.f 132) [(.t 17), (.t 19), (.t 20), (.t 22)], none, true⟩,
     ⟨(some 24), .load (some 3) (.t 3), none, true⟩,
     ⟨(some 25), .load (some 3) (.t 3), none, true⟩,
     ⟨(some 26), .call (.f 129) [(.t 25)], none, true⟩,
     ⟨(some 27), .mov (.t 1), none, true⟩,
     ⟨(some 28), .mov (.t 2), none, true⟩,
     ⟨(some 29), .bin .sub (.t 28) (.c (.int .i64 1)), none, true⟩,
     ⟨(some 30), .call (.f 132) [(.t 24), (.t 26), (.t 27), (.t 29)], none, false⟩,
     ⟨(some 6), .mov (.t 23), none, false⟩,
     ⟨(some 7), .mov (.t 30), none, false⟩,
     ⟨(some 8), .mov (.c (.int .i64 0)), none, false⟩])
   .ret)))⟩
def fn57 : AFunc := ⟨30, 3, [(6, some (some 2)), (7, none)],
 (.seq (.ops [⟨(some 3), .box (.t 0), none, false⟩,
   ⟨(some 6), .box (.c (.agg [.int .i64 0, .int .i64 0])), none, false⟩,
   ⟨(some 7), .mov (.c (.int .i64 0)), none, false⟩])
 (.seq (.seq (.ops [⟨(some 9), .load (some 3) (.t 3), none, false⟩,
     ⟨(some 10), .mov (.t 1), none, false⟩,
     ⟨(some 11), .mov (.t 2), none, false⟩,
     ⟨(some 12), .call (.f 131) [(.t 9), (.t 10), (.t 11)], none, false⟩,
     ⟨(some 8), .mov (.t 12), none, false⟩])
   (.seq (.ops [⟨(some 13), .mov (.t 8), none, false⟩,
      ⟨(some 14), .bin .neq (.t 13) (.c (.int .i64 0)), none, false⟩])
    (.cond (.t 14)
      (.seq (.ops [⟨(some 15), .build [.int .i64 0, .int .i64 0] [], none, false⟩,
        ⟨(some 16), .mov (.t 8), none, false⟩,
        ⟨none, .store 2 (.t 6) (.t 15), none, false⟩,
        ⟨(some 7), .mov (.t 16), none, false⟩])
      .ret)
      .skip)))
  (.seq (.ops [⟨(some 17), .load (some 3) (.t 3), none, true⟩,
     ⟨(some 18), .load (some 3) (.t 3), none, true⟩,
     ⟨(some 19), .call (.f 130) [(.t 18)], none, true⟩,
     ⟨(some 20), .mov (.t 1), none, true⟩,
     ⟨(some 21), .mov (.t 2), none, true⟩,
     ⟨(some 22), .call (.f 133) [(.t 17), (.t 19), (.t 20), (.t 21)], none, true⟩,
     ⟨(some 23), .load (some 3) (.t 3), none, true⟩,
     ⟨(some 24), .load (some 3) (.t 3), none, true⟩,
     ⟨(some 25), .call (.f 129) [(.t 24)], none, true⟩,
     ⟨(some 26), .mov (.t 1), none, true⟩,
     ⟨(some 27), .mov (.t 2), none, true⟩,
     ⟨(some 28), .call (.f 133) [(.t 23), (.t 25), (.t 26), (.t 27)], none, false⟩,
     ⟨(some 29), .build [.int .i64 0, .int .i64 0] [(0, 1, (.t 22)), (1, 1, (.t 28))], none, false⟩,
     ⟨none, .store 2 (.t 6) (.t 29), none, false⟩,
     ⟨(some 7), .mov (.c (.int .i64 0)), none, false⟩])
   .ret)))⟩
def fn65 : AFunc := ⟨29, 1, [(2, none)],
 (.seq (.ops [⟨(some 1), .box (.t 0), none, false⟩,
   ⟨(some 2), .mov (.c (.int .i64 0)), none, false⟩])
 (.seq (.seq (.ops [⟨(some 4), .fadr 0 (.t 1), none, true⟩,
     ⟨(some 5), .load none (.t 4), none, true⟩,
     ⟨(some 6), .call (.f 108) [(.t 5), (.c (.int .i64 1)), (.c (.int .i64 16))], none, true⟩,
     ⟨(some 7), .fadr 1 (.t 1), none, true⟩,
     ⟨(some 8), .load none (.t 7), none, true⟩,
     ⟨(some 9), .call (.f 108) [(.t 8), (.c (.int .i64 1)), (.c (.int .i64 16))], none, true⟩,
     ⟨(some 10), .fadr 2 (.t 1), none, true⟩,
     ⟨(some 11), .load none (.t 10), none, true⟩,
     ⟨(some 12), .len .sl (.t 11), none, true⟩,
     ⟨(some 13), .fadr 0 (.t 1), none, true⟩,
     ⟨(some 14), .load none (.t 13), none, true⟩,
     ⟨(some 15), .fadr 1 (.t 1), none, true⟩,
     ⟨(some 16), .load none (.t 15), none, true⟩,
     ⟨(some 17), .bin .mul (.t 14) (.t 16), none, true⟩,
     ⟨(some 18), .bin .neq (.t 12) (.t 17), none, true⟩,
     ⟨(some 19), .call (.f 106) [(.t 18), (.c (.int .i64 2))], none, false⟩,
     ⟨(some 20), .bslice 1 3 [.int .i64 0] [(0, (.t 6)), (1, (.t 9)), (2, (.t 19))], none, false⟩,
     ⟨(some 21), .call (.f 105) [(.t 20)], none, false⟩,
     ⟨(some 3), .mov (.t 21), none, false⟩])
   (.seq (.ops [⟨(some 22), .mov (.t 3), none, false⟩,
      ⟨(some 23), .bin .neq (.t 22) (.c (.int .i64 0)), none, false⟩])
    (.cond (.t 23)
      (.seq (.ops [⟨(some 24), .mov (.t 3), none, false⟩,
        ⟨(some 2), .mov (.t 24), none, false⟩])
      .ret)
      .skip)))
  (.seq (.ops [⟨(some 25), .fadr 2 (.t 1), none, false⟩,
     ⟨(some 26), .load none (.t 25), none, false⟩,
     ⟨(some 27), .call (.f 136) [(.t 26), (.f 137)], none, false⟩,
     ⟨(some 28), .call (.f 105) [(.t 27)], none, false⟩,
     ⟨(some 2), .mov (.t 28), none, false⟩])
   .ret)))⟩
def fn66 : AFunc := ⟨5, 1, [(2, none)],
 (.seq (.ops [⟨(some 2), .mov (.c (.int .i64 0)), none, false⟩])
 (.seq (.ops [⟨(some 3), .mov (.t 0), none, false⟩,
    ⟨(some 4), .call (.f 35) [(.t 3), (.c (.int .i64 0)), (.c (.int .i64 255))], none, false⟩,
    ⟨(some 2), .mov (.t 4), none, false⟩])
  .ret))⟩
def fn67 : AFunc := ⟨8, 2, [(4, some (some 2))],
 (.seq (.ops [⟨(some 4), .box (.c (.agg [.int .i64 0, .int .i64 0])), none, false⟩])
 (.seq (.ops [⟨(some 5), .mov (.t 0), none, false⟩,
    ⟨(some 6), .mov (.t 1), none, false⟩,
    ⟨(some 7), .build [.int .i64 0, .int .i64 0] [(0, 1, (.t 5)), (1, 1, (.t 6))], none, false⟩,
    ⟨none, .store 2 (.t 4) (.t 7), none, false⟩])
  .ret))⟩
def fn68 : AFunc := ⟨26, 1, [(2, some (some 3))],
 (.seq (.ops [⟨(some 1), .box (.t 0), none, false⟩,
   ⟨(some 2), .box (.c (.agg [.str [], .int .i64 0, .nilSlice])), none, false⟩])
 (.seq (.ops [⟨(some 6), .fadr 0 (.t 1), none, false⟩,
    ⟨(some 7), .load none (.t 6), none, false⟩,
    ⟨(some 8), .fadr 1 (.t 1), none, false⟩,
    ⟨(some 9), .load none (.t 8), none, false⟩,
    ⟨(some 10), .build [.str [], .int .i64 0, .nilSlice] [(0, 1, (.t 7)), (1, 1, (.t 9))], none, false⟩,
    ⟨(some 3), .box (.c (.agg [.str [], .int .i64 0, .nilSlice])), none, false⟩,
    ⟨none, .store 3 (.t 3) (.t 10), none, false⟩])
  (.seq (.seq (.ops [⟨(some 11), .fadr 2 (.t 1), none, false⟩,
      ⟨(some 12), .load none (.t 11), none, false⟩,
      ⟨(some 13), .len .sl (.t 12), none, false⟩,
      ⟨(some 14), .mov (.c (.int .i64 0)), none, false⟩])
    (.block 0 (.loop (.seq (.ops [⟨(some 15), .bin .lss (.t 14) (.t 13), none, false⟩])
       (.seq (.cond (.t 15)
          .skip
          (.exit 0))
        (.seq (.block 1 (.seq (.ops [⟨(some 16), .iadr 2 (.t 12) (.t 14), none, false⟩,
             ⟨(some 17), .load (some 2) (.t 16), none, false⟩,
             ⟨(some 5), .box (.c (.agg [.int .i64 0, .int .i64 0])), none, false⟩,
             ⟨none, .store 2 (.t 5) (.t 17), none, false⟩])
           (.ops [⟨(some 18), .fadr 2 (.t 3), none, false⟩,
             ⟨(some 19), .load none (.t 18), none, false⟩,
             ⟨(some 20), .load (some 2) (.t 5), none, false⟩,
             ⟨(some 21), .bslice 2 1 [.int .i64 0, .int .i64 0] [(0, (.t 20))], none, false⟩,
             ⟨(some 22), .app 2 16 (.t 19) (.t 21), none, false⟩,
             ⟨(some 23), .fadr 2 (.t 3), none, false⟩,
             ⟨none, .store 1 (.t 23) (.t 22), none, false⟩])))
         (.ops [⟨(some 24), .bin .add (.t 14) (.c (.int .i64 1)), none, false⟩,
           ⟨(some 14), .mov (.t 24), none, false⟩])))))))
   (.seq (.ops [⟨(some 25), .load (some 3) (.t 3), none, false⟩,
      ⟨none, .store 3 (.t 2) (.t 25), none, false⟩])
    .ret))))⟩
def fn69 : AFunc := ⟨45, 2, [(4, none)],
 (.seq (.ops [⟨(some 2), .box (.t 0), none, false⟩,
   ⟨(some 3), .box (.t 1), none, false⟩,
   ⟨(some 4), .mov (.c (.bool false)), none, false⟩])
 (.seq (.seq (.ops [⟨(some 6), .fadr 0 (.t 2), none, false⟩,
     ⟨(some 7), .load none (.t 6), none, false⟩,
     ⟨(some 8), .fadr 0 (.t 3), none, false⟩,
     ⟨(some 9), .load none (.t 8), none, false⟩,
     ⟨(some 10), .bin .neq (.t 7) (.t 9), none, false⟩,
     ⟨(some 11), .mov (.t 10), none, false⟩,
     ⟨(some 12), .fadr 1 (.t 2), (some (11, false)), false⟩,
     ⟨(some 13), .load none (.t 12), (some (11, false)), false⟩,
     ⟨(some 14), .fadr 1 (.t 3), (some (11, false)), false⟩,
     ⟨(some 15), .load none (.t 14), (some (11, false)), false⟩,
     ⟨(some 16), .bin .neq (.t 13) (.t 15), (some (11, false)), false⟩,
     ⟨(some 17), .pick (.t 11) (.c (.bool true)) (.t 16), none, false⟩,
     ⟨(some 18), .mov (.t 17), none, false⟩,
     ⟨(some 19), .fadr 2 (.t 2), (some (18, false)), false⟩,
     ⟨(some 20), .load none (.t 19), (some (18, false)), false⟩,
     ⟨(some 21), .len .sl (.t 20), (some (18, false)), false⟩,
     ⟨(some 22), .fadr 2 (.t 3), (some (18, false)), false⟩,
     ⟨(some 23), .load none (.t 22), (some (18, false)), false⟩,
     ⟨(some 24), .len .sl (.t 23), (some (18, false)), false⟩,
     ⟨(some 25), .bin .neq (.t 21) (.t 24), (some (18, false)), false⟩,
     ⟨(some 26), .pick (.t 18) (.c (.bool true)) (.t 25), none, false⟩])
   (.cond (.t 26)
     (.seq (.ops [⟨(some 4), .mov (.c (.bool false)), none, false⟩])
     .ret)
     .skip))
  (.seq (.seq (.ops [⟨(some 5), .mov (.c (.int .i64 0)), none, false⟩])
    (.block 0 (.loop (.seq (.seq (.ops [⟨(some 27), .mov (.t 5), none, false⟩,
          ⟨(some 28), .fadr 2 (.t 2), none, false⟩,
          ⟨(some 29), .load none (.t 28), none, false⟩,
          ⟨(some 30), .len .sl (.t 29), none, false⟩,
          ⟨(some 31), .bin .lss (.t 27) (.t 30), none, false⟩])
        (.cond (.t 31)
          .skip
          (.exit 0)))
       (.seq (.block 1 (.seq (.ops [⟨(some 34), .fadr 2 (.t 2), none, true⟩,
            ⟨(some 35), .load none (.t 34), none, true⟩,
            ⟨(some 36), .mov (.t 5), none, true⟩,
            ⟨(some 37), .iadr 2 (.t 35) (.t 36), none, true⟩,
            ⟨(some 38), .load (some 2) (.t 37), none, true⟩,
            ⟨(some 39), .fadr 2 (.t 3), none, true⟩,
            ⟨(some 40), .load none (.t 39), none, true⟩,
            ⟨(some 41), .mov (.t 5), none, true⟩,
            ⟨(some 42), .iadr 2 (.t 40) (.t 41), none, true⟩,
            ⟨(some 43), .load (some 2) (.t 42), none, true⟩,
            ⟨(some 44), .eqv true (.agg [.i, .i]) (.t 38) (.t 43), none, false⟩])
          (.cond (.t 44)
            (.seq (.ops [⟨(some 4), .mov (.c (.bool false)), none, false⟩])
            .ret)
            .skip)))
        (.ops [⟨(some 32), .mov (.t 5), none, false⟩,
          ⟨(some 33), .bin .add (.t 32) (.c (.int .i64 1)), none, false⟩,
          ⟨(some 5), .mov (.t 33), none, false⟩]))))))
   (.seq (.ops [⟨(some 4), .mov (.c (.bool true)), none, false⟩])
    .ret))))⟩
def fn72 : AFunc := ⟨20, 3, [(6, none), (7, none)],
 (.seq (.ops [⟨(some 3), .box (.t 0), none, false⟩,
   ⟨(some 4), .box (.t 1), none, false⟩,
   ⟨(some 6), .mov (.c (.nilSlice)), none, false⟩,
   ⟨(some 7), .mov (.c (.int .i64 0)), none, false⟩])
 (.seq (.seq (.ops [⟨(some 9), .load (some 3) (.t 3), none, false⟩,
     ⟨(some 10), .load (some 3) (.t 4), none, false⟩,
     ⟨(some 11), .mov (.t 2), none, false⟩,
     ⟨(some 12), .call (.f 139) [(.t 9), (.t 10), (.t 11), (.c (.int .i64 (-1000)))], none, false⟩,
     ⟨(some 8), .mov (.t 12), none, false⟩])
   (.seq (.ops [⟨(some 13), .mov (.t 8), none, false⟩,
      ⟨(some 14), .bin .neq (.t 13) (.c (.int .i64 0)), none, false⟩])
    (.cond (.t 14)
      (.seq (.ops [⟨(some 15), .mov (.t 8), none, false⟩,
        ⟨(some 6), .mov (.c (.nilSlice)), none, false⟩,
        ⟨(some 7), .mov (.t 15), none, false⟩])
      .ret)
      .skip)))
  (.seq (.ops [⟨(some 16), .load (some 3) (.t 3), none, false⟩,
     ⟨(some 17), .load (some 3) (.t 4), none, false⟩,
     ⟨(some 18), .mov (.t 2), none, false⟩,
     ⟨(some 19), .call (.f 140) [(.t 16), (.t 17), (.t 18)], none, false⟩,
     ⟨(some 6), .mov (.t 19), none, false⟩,
     ⟨(some 7), .mov (.c (.int .i64 0)), none, false⟩])
   .ret)))⟩
def fn73 : AFunc := ⟨46, 3, [(6, none), (7, none), (8, none)],
 (.seq (.ops [⟨(some 3), .box (.t 0), none, false⟩,
   ⟨(some 4), .box (.t 1), none, false⟩,
   ⟨(some 6), .mov (.c (.int .i64 0)), none, false⟩,
   ⟨(some 7), .mov (.c (.nilSlice)), none, false⟩,
   ⟨(some 8), .mov (.c (.int .i64 0)), none, false⟩])
 (.seq (.seq (.ops [⟨(some 13), .load (some 3) (.t 3), none, false⟩,
     ⟨(some 14), .load (some 3) (.t 4), none, false⟩,
     ⟨(some 15), .mov (.t 2), none, false⟩,
     ⟨(some 16), .call (.f 139) [(.t 13), (.t 14), (.t 15), (.c (.int .i64 0))], none, false⟩,
     ⟨(some 9), .mov (.t 16), none, false⟩])
   (.seq (.ops [⟨(some 17), .mov (.t 9), none, false⟩,
      ⟨(some 18), .bin .neq (.t 17) (.c (.int .i64 0)), none, false⟩])
    (.cond (.t 18)
      (.seq (.ops [⟨(some 19), .mov (.t 9), none, false⟩,
        ⟨(some 6), .mov (.c (.int .i64 0)), none, false⟩,
        ⟨(some 7), .mov (.c (.nilSlice)), none, false⟩,
        ⟨(some 8), .mov (.t 19), none, false⟩])
      .ret)
      .skip)))
  (.seq (.ops [⟨(some 10), .mov (.c (.nilSlice)), none, false⟩])
   (.seq (.seq (.ops [⟨(some 20), .mov (.t 2), none, false⟩,
       ⟨(some 21), .bin .mul (.c (.int .i64 2)) (.t 20), none, false⟩,
       ⟨(some 22), .bin .add (.t 21) (.c (.int .i64 1)), none, false⟩,
       ⟨(some 23), .mov (.c (.int .i64 0)), none, false⟩])
     (.block 0 (.loop (.seq (.ops [⟨(some 24), .bin .lss (.t 23) (.t 22), none, false⟩])
        (.seq (.cond (.t 24)
           .skip
           (.exit 0))
         (.seq (.block 1 (.seq (.ops [⟨(some 25), .mov (.t 23), none, false⟩,
              ⟨(some 11), .mov (.t 25), none, false⟩])
            (.ops [⟨(some 26), .mov (.t 10), none, false⟩,
              ⟨(some 27), .mov (.t 11), none, false⟩,
              ⟨(some 28), .mov (.t 2), none, false⟩,
              ⟨(some 29), .bin .sub (.t 27) (.t 28), none, false⟩,
              ⟨(some 30), .load (some 3) (.t 3), none, false⟩,
              ⟨(some 31), .load (some 3) (.t 4), none, false⟩,
              ⟨(some 32), .mov (.t 11), none, false⟩,
              ⟨(some 33), .mov (.t 2), none, false⟩,
              ⟨(some 34), .bin .sub (.t 32) (.t 33), none, false⟩,
              ⟨(some 35), .call (.f 140) [(.t 30), (.t 31), (.t 34)], none, false⟩,
              ⟨(some 36), .build [.int .i64 0, .nilSlice] [(0, 1, (.t 29)), (1, 1, (.t 35))], none, false⟩,
              ⟨(some 37), .bslice 2 1 [.int .i64 0, .nilSlice] [(0, (.t 36))], none, false⟩,
              ⟨(some 38), .app 2 32 (.t 26) (.t 37), none, false⟩,
              ⟨(some 10), .mov (.t 38), none, false⟩])))
          (.ops [⟨(some 39), .bin .add (.t 23) (.c (.int .i64 1)), none, false⟩,
            ⟨(some 23), .mov (.t 39), none, false⟩])))))))
    (.seq (.ops [⟨(some 40), .mov (.t 10), none, false⟩,
       ⟨(some 41), .call (.f 141) [(.t 40), (.f 142)], none, false⟩,
       ⟨(some 12), .box (.c (.agg [.int .i64 0, .nilSlice])), none, false⟩,
       ⟨none, .store 2 (.t 12) (.t 41), none, false⟩])
     (.seq (.ops [⟨(some 42), .fadr 0 (.t 12), none, true⟩,
        ⟨(some 43), .load none (.t 42), none, true⟩,
        ⟨(some 44), .fadr 1 (.t 12), none, true⟩,
        ⟨(some 45), .load none (.t 44), none, true⟩,
        ⟨(some 6), .mov (.t 43), none, true⟩,
        ⟨(some 7), .mov (.t 45), none, false⟩,
        ⟨(some 8), .mov (.c (.int .i64 0)), none, false⟩])
      .ret))))))⟩
def fn79 : AFunc := ⟨12, 1, [(2, some (some 3))],
 (.seq (.ops [⟨(some 1), .box (.t 0), none, false⟩,
   ⟨(some 2), .box (.c (.agg [.str [], .int .i64 0, .nilSlice])), none, false⟩])
 (.seq (.ops [⟨(some 3), .fadr 0 (.t 1), none, true⟩,
    ⟨(some 4), .load none (.t 3), none, true⟩,
    ⟨(some 5), .fadr 1 (.t 1), none, true⟩,
    ⟨(some 6), .load none (.t 5), none, true⟩,
    ⟨(some 7), .bslice 2 0 [.int .i64 0, .int .i64 0] [], none, true⟩,
    ⟨(some 8), .fadr 2 (.t 1), none, true⟩,
    ⟨(some 9), .load none (.t 8), none, true⟩,
    ⟨(some 10), .app 2 16 (.t 7) (.t 9), none, true⟩,
    ⟨(some 11), .build [.str [], .int .i64 0, .nilSlice] [(0, 1, (.t 4)), (1, 1, (.t 6)), (2, 1, (.t 10))], none, false⟩,
    ⟨none, .store 3 (.t 2) (.t 11), none, false⟩])
  .ret))⟩
def fn80 : AFunc := ⟨28, 2, [(4, none), (5, none), (6, none)],
 (.seq (.ops [⟨(some 2), .box (.t 0), none, false⟩,
   ⟨(some 3), .box (.t 1), none, false⟩,
   ⟨(some 4), .mov (.c (.int .i64 0)), none, false⟩,
   ⟨(some 5), .mov (.c (.bool false)), none, false⟩,
   ⟨(some 6), .mov (.c (.int .i64 0)), none, false⟩])
 (.seq (.seq (.ops [⟨(some 10), .load (some 3) (.t 2), none, false⟩,
     ⟨(some 11), .load (some 3) (.t 3), none, false⟩,
     ⟨(some 12), .call (.f 145) [(.t 10), (.t 11)], none, false⟩,
     ⟨(some 7), .mov (.t 12), none, false⟩])
   (.seq (.ops [⟨(some 13), .mov (.t 7), none, false⟩,
      ⟨(some 14), .bin .neq (.t 13) (.c (.int .i64 0)), none, false⟩])
    (.cond (.t 14)
      (.seq (.ops [⟨(some 15), .mov (.t 7), none, false⟩,
        ⟨(some 4), .mov (.c (.int .i64 0)), none, false⟩,
        ⟨(some 5), .mov (.c (.bool false)), none, false⟩,
        ⟨(some 6), .mov (.t 15), none, false⟩])
      .ret)
      .skip)))
  (.seq (.seq (.ops [⟨(some 16), .load (some 3) (.t 2), none, false⟩,
      ⟨(some 17), .load (some 3) (.t 3), none, false⟩,
      ⟨(some 18), .call (.f 146) [(.t 16), (.t 17)], none, false⟩,
      ⟨(some 19), .un .not (.t 18), none, false⟩])
    (.cond (.t 19)
      (.seq (.ops [⟨(some 4), .mov (.c (.int .i64 0)), none, false⟩,
        ⟨(some 5), .mov (.c (.bool false)), none, false⟩,
        ⟨(some 6), .mov (.c (.int .i64 7)), none, false⟩])
      .ret)
      .skip))
   (.seq (.ops [⟨(some 21), .load (some 3) (.t 2), none, false⟩,
      ⟨(some 22), .load (some 3) (.t 3), none, false⟩,
      ⟨(some 23), .call (.f 147) [(.t 21), (.t 22)], none, false⟩,
      ⟨(some 20), .mov (.t 23), none, false⟩,
      ⟨(some 24), .ext (.t 20) 0, none, false⟩,
      ⟨(some 25), .ext (.t 20) 1, none, false⟩,
      ⟨(some 8), .mov (.t 24), none, false⟩,
      ⟨(some 9), .mov (.t 25), none, false⟩])
    (.seq (.ops [⟨(some 26), .mov (.t 8), none, false⟩,
       ⟨(some 27), .mov (.t 9), none, false⟩,
       ⟨(some 4), .mov (.t 26), none, false⟩,
       ⟨(some 5), .mov (.t 27), none, false⟩,
       ⟨(some 6), .mov (.c (.int .i64 0)), none, false⟩])
     .ret)))))⟩
def fn84 : AFunc := ⟨13, 1, [(2, none), (3, none)],
 (.seq (.ops [⟨(some 2), .mov (.c (.str [])), none, false⟩,
   ⟨(some 3), .mov (.c (.int .i64 0)), none, false⟩])
 (.seq (.seq (.ops [⟨(some 5), .mov (.t 0), none, false⟩,
     ⟨(some 6), .call (.f 27) [(.t 5)], none, false⟩,
     ⟨(some 4), .mov (.t 6), none, false⟩])
   (.seq (.ops [⟨(some 7), .mov (.t 4), none, false⟩,
      ⟨(some 8), .bin .neq (.t 7) (.c (.int .i64 0)), none, false⟩])
    (.cond (.t 8)
      (.seq (.ops [⟨(some 9), .mov (.t 4), none, false⟩,
        ⟨(some 2), .mov (.c (.str [])), none, false⟩,
        ⟨(some 3), .mov (.t 9), none, false⟩])
      .ret)
      .skip)))
  (.seq (.ops [⟨(some 10), .mov (.t 0), none, false⟩,
     ⟨(some 11), .call (.f 150) [(.t 10), (.f 151)], none, false⟩,
     ⟨(some 12), .call (.f 149) [(.t 11), (.c (.str []))], none, false⟩,
     ⟨(some 2), .mov (.t 12), none, false⟩,
     ⟨(some 3), .mov (.c (.int .i64 0)), none, false⟩])
   .ret)))⟩
def fn91 : AFunc := ⟨35, 3, [(6, some (some 3))],
 (.seq (.ops [⟨(some 6), .box (.c (.agg [.str [], .int .i64 0, .nilSlice])), none, false⟩])
 (.seq (.ops [⟨(some 9), .mov (.t 0), none, false⟩,
    ⟨(some 10), .mov (.t 1), none, false⟩,
    ⟨(some 11), .build [.str [], .int .i64 0, .nilSlice] [(0, 1, (.t 9)), (1, 1, (.t 10))], none, false⟩,
    ⟨(some 7), .box (.c (.agg [.str [], .int .i64 0, .nilSlice])), none, false⟩,
    ⟨none, .store 3 (.t 7) (.t 11), none, false⟩])
  (.seq (.seq (.ops [⟨(some 8), .mov (.c (.int .i64 0)), none, false⟩])
    (.block 0 (.loop (.seq (.seq (.ops [⟨(some 12), .mov (.t 8), none, false⟩,
          ⟨(some 13), .bin .add (.t 12) (.c (.int .i64 1)), none, false⟩,
          ⟨(some 14), .mov (.t 2), none, false⟩,
          ⟨(some 15), .len .sl (.t 14), none, false⟩,
          ⟨(some 16), .bin .lss (.t 13) (.t 15), none, false⟩])
        (.cond (.t 16)
          .skip
          (.exit 0)))
       (.seq (.block 1 (.ops [⟨(some 19), .fadr 2 (.t 7), none, true⟩,
           ⟨(some 20), .load none (.t 19), none, true⟩,
           ⟨(some 21), .mov (.t 2), none, true⟩,
           ⟨(some 22), .mov (.t 8), none, true⟩,
           ⟨(some 23), .iadr 1 (.t 21) (.t 22), none, true⟩,
           ⟨(some 24), .load none (.t 23), none, true⟩,
           ⟨(some 25), .mov (.t 2), none, true⟩,
           ⟨(some 26), .mov (.t 8), none, true⟩,
           ⟨(some 27), .bin .add (.t 26) (.c (.int .i64 1)), none, true⟩,
           ⟨(some 28), .iadr 1 (.t 25) (.t 27), none, true⟩,
           ⟨(some 29), .load none (.t 28), none, true⟩,
           ⟨(some 30), .build [.int .i64 0, .int .i64 0] [(0, 1, (.t 24)), (1, 1, (.t 29))], none, true⟩,
           ⟨(some 31), .bslice 2 1 [.int .i64 0, .int .i64 0] [(0, (.t 30))], none, true⟩,
           ⟨(some 32), .app 2 16 (.t 20) (.t 31), none, false⟩,
           ⟨(some 33), .fadr 2 (.t 7), none, false⟩,
           ⟨none, .store 1 (.t 33) (.t 32), none, false⟩]))
        (.ops [⟨(some 17), .mov (.t 8), none, false⟩,
          ⟨(some 18), .bin .add (.t 17) (.c (.int .i64 2)), none, false⟩,
          ⟨(some 8), .mov (.t 18), none, false⟩]))))))
   (.seq (.ops [⟨(some 34), .load (some 3) (.t 7), none, false⟩,
      ⟨none, .store 3 (.t 6) (.t 34), none, false⟩])
    .ret))))⟩
def fn92 : AFunc := ⟨6, 0, [(0, none)],
 (.seq (.ops [⟨(some 0), .mov (.c (.nilSlice)), none, false⟩])
 (.seq (.ops [⟨(some 1), .bslice 1 4 [.int .i64 0] [(0, (.c (.int .i64 0))), (1, (.c (.int .i64 10))), (2, (.c (.int .i64 4))), (3, (.c (.int .i64 10)))], none, false⟩,
    ⟨(some 2), .call (.f 91) [(.c (.str [117])), (.c (.int .i64 1)), (.t 1)], none, false⟩,
    ⟨(some 3), .bslice 1 4 [.int .i64 0] [(0, (.c (.int .i64 0))), (1, (.c (.int .i64 20))), (2, (.c (.int .i64 4))), (3, (.c (.int .i64 28)))], none, false⟩,
    ⟨(some 4), .call (.f 91) [(.c (.str [119])), (.c (.int .i64 2)), (.t 3)], none, false⟩,
    ⟨(some 5), .bslice 3 2 [.str [], .int .i64 0, .nilSlice] [(0, (.t 2)), (3, (.t 4))], none, false⟩,
    ⟨(some 0), .mov (.t 5), none, false⟩])
  .ret))⟩
def fn93 : AFunc := ⟨4, 0, [(0, none)],
 (.seq (.ops [⟨(some 0), .mov (.c (.nilSlice)), none, false⟩])
 (.seq (.ops [⟨(some 1), .call (.f 67) [(.c (.int .i64 2)), (.c (.int .i64 3))], none, false⟩,
    ⟨(some 2), .call (.f 67) [(.c (.int .i64 4)), (.c (.int .i64 4))], none, false⟩,
    ⟨(some 3), .bslice 2 2 [.int .i64 0, .int .i64 0] [(0, (.t 1)), (2, (.t 2))], none, false⟩,
    ⟨(some 0), .mov (.t 3), none, false⟩])
  .ret))⟩
def fn94 : AFunc := ⟨12, 0, [(0, some (some 3))],
 (.seq (.ops [⟨(some 0), .box (.c (.agg [.int .i64 0, .int .i64 0, .nilSlice])), none, false⟩])
 (.seq (.ops [⟨(some 1), .call (.f 67) [(.c (.int .i64 9)), (.c (.int .i64 9))], none, false⟩,
    ⟨(some 2), .call (.f 67) [(.c (.int .i64 9)), (.c (.int .i64 9))], none, false⟩,
    ⟨(some 3), .call (.f 67) [(.c (.int .i64 9)), (.c (.int .i64 9))], none, false⟩,
    ⟨(some 4), .call (.f 67) [(.c (.int .i64 9)), (.c (.int .i64 9))], none, false⟩,
    ⟨(some 5), .call (.f 67) [(.c (.int .i64 5)), (.c (.int .i64 6))], none, false⟩,
    ⟨(some 6), .call (.f 67) [(.c (.int .i64 8)), (.c (.int .i64 8))], none, false⟩,
    ⟨(some 7), .call (.f 67) [(.c (.int .i64 9)), (.c (.int .i64 9))], none, false⟩,
    ⟨(some 8), .call (.f 67) [(.c (.int .i64 9)), (.c (.int .i64 9))], none, false⟩,
    ⟨(some 9), .call (.f 67) [(.c (.int .i64 9)), (.c (.int .i64 9))], none, false⟩,
    ⟨(some 10), .bslice 2 9 [.int .i64 0, .int .i64 0] [(0, (.t 1)), (2, (.t 2)), (4, (.t 3)), (6, (.t 4)), (8, (.t 5)), (10, (.t 6)), (12, (.t 7)), (14, (.t 8)), (16, (.t 9))], none, false⟩,
    ⟨(some 11), .build [.int .i64 0, .int .i64 0, .nilSlice] [(0, 1, (.c (.int .i64 3))), (1, 1, (.c (.int .i64 3))), (2, 1, (.t 10))], none, false⟩,
    ⟨none, .store 3 (.t 0) (.t 11), none, false⟩])
  .ret))⟩
def fn95 : AFunc := ⟨16, 2, [(4, none)],
 (.seq (.ops [⟨(some 2), .box (.t 0), none, false⟩,
   ⟨(some 4), .mov (.c (.int .i64 0)), none, false⟩])
 (.seq (.seq (.ops [⟨(some 6), .load (some 3) (.t 2), none, false⟩,
     ⟨(some 7), .call (.f 26) [(.t 6)], none, false⟩,
     ⟨(some 5), .mov (.t 7), none, false⟩])
   (.seq (.ops [⟨(some 8), .mov (.t 5), none, false⟩,
      ⟨(some 9), .bin .neq (.t 8) (.c (.int .i64 0)), none, false⟩])
    (.cond (.t 9)
      (.seq (.ops [⟨(some 10), .mov (.t 5), none, false⟩,
        ⟨(some 4), .mov (.t 10), none, false⟩])
      .ret)
      .skip)))
  (.seq (.ops [⟨(some 11), .load (some 3) (.t 2), none, false⟩,
     ⟨(some 12), .mov (.t 1), none, false⟩,
     ⟨(some 13), .call (.f 157) [(.t 11), (.t 12)], none, false⟩,
     ⟨(some 14), .un .not (.t 13), none, false⟩,
     ⟨(some 15), .call (.f 106) [(.t 14), (.c (.int .i64 14))], none, false⟩,
     ⟨(some 4), .mov (.t 15), none, false⟩])
   .ret)))⟩
def fn96 : AFunc := ⟨55, 2, [(4, some (some 2))],
 (.seq (.ops [⟨(some 2), .box (.t 0), none, false⟩,
   ⟨(some 3), .box (.t 1), none, false⟩,
   ⟨(some 4), .box (.c (.agg [.int .i64 0, .int .i64 0])), none, false⟩])
 (.seq (.ops [⟨(some 9), .fadr 2 (.t 2), none, false⟩,
    ⟨(some 10), .load none (.t 9), none, false⟩,
    ⟨(some 11), .mkfn (.func 159) [] [(.t 3)], none, false⟩,
    ⟨(some 12), .call (.f 158) [(.t 10), (.t 11)], none, false⟩,
    ⟨(some 5), .mov (.t 12), none, false⟩])
  (.seq (.ops [⟨(some 13), .fadr 2 (.t 2), none, false⟩,
     ⟨(some 14), .load none (.t 13), none, false⟩,
     ⟨(some 15), .mov (.t 5), none, false⟩,
     ⟨(some 16), .iadr 2 (.t 14) (.t 15), none, false⟩,
     ⟨(some 17), .load (some 2) (.t 16), none, false⟩,
     ⟨(some 6), .box (.c (.agg [.int .i64 0, .int .i64 0])), none, false⟩,
     ⟨none, .store 2 (.t 6) (.t 17), none, false⟩])
   (.seq (.seq (.ops [⟨(some 18), .load (some 2) (.t 6), none, false⟩,
       ⟨(some 19), .load none (.t 3), none, false⟩,
       ⟨(some 20), .fadr 1 (.t 6), none, false⟩,
       ⟨(some 21), .load none (.t 20), none, false⟩,
       ⟨(some 22), .build [.int .i64 0, .int .i64 0] [(0, 1, (.t 19)), (1, 1, (.t 21))], none, false⟩,
       ⟨(some 23), .eqv false (.agg [.i, .i]) (.t 18) (.t 22), none, false⟩])
     (.cond (.t 23)
       (.seq (.ops [⟨(some 24), .fadr 1 (.t 6), none, false⟩,
         ⟨(some 25), .load none (.t 24), none, false⟩,
         ⟨(some 26), .build [.int .i64 0, .int .i64 0] [(0, 1, (.t 25)), (1, 1, (.c (.int .i64 1)))], none, false⟩,
         ⟨none, .store 2 (.t 4) (.t 26), none, false⟩])
       .ret)
       .skip))
    (.seq (.ops [⟨(some 27), .fadr 2 (.t 2), none, false⟩,
       ⟨(some 28), .load none (.t 27), none, false⟩,
       ⟨(some 29), .mov (.t 5), none, false⟩,
       ⟨(some 30), .bin .sub (.t 29) (.c (.int .i64 1)), none, false⟩,
       ⟨(some 31), .iadr 2 (.t 28) (.t 30), none, false⟩,
       ⟨(some 32), .load (some 2) (.t 31), none, false⟩,
       ⟨(some 7), .box (.c (.agg [.int .i64 0, .int .i64 0])), none, false⟩,
       ⟨none, .store 2 (.t 7) (.t 32), none, false⟩])
     (.seq (.ops [⟨(some 33), .fadr 0 (.t 6), none, false⟩,
        ⟨(some 34), .load none (.t 33), none, false⟩,
        ⟨(some 35), .fadr 0 (.t 7), none, false⟩,
        ⟨(some 36), .load none (.t 35), none, false⟩,
        ⟨(some 37), .bin .sub (.t 34) (.t 36), none, false⟩,
        ⟨(some 8), .mov (.t 37), none, false⟩])
      (.seq (.ops [⟨(some 38), .fadr 1 (.t 7), none, false⟩,
         ⟨(some 39), .load none (.t 38), none, false⟩,
         ⟨(some 40), .mov (.t 8), none, false⟩,
         ⟨(some 41), .bin .mul (.t 39) (.t 40), none, false⟩,
         ⟨(some 42), .fadr 1 (.t 6), none, false⟩,
         ⟨(some 43), .load none (.t 42), none, false⟩,
         ⟨(some 44), .fadr 1 (.t 7), none, false⟩,
         ⟨(some 45), .load none (.t 44), none, false⟩,
         ⟨(some 46), .bin .sub (.t 43) (.t 45), none, false⟩,
         ⟨(some 47), .load none (.t 3), none, false⟩,
         ⟨(some 48), .fadr 0 (.t 7), none, false⟩,
         ⟨(some 49), .load none (.t 48), none, false⟩,
         ⟨(some 50), .bin .sub (.t 47) (.t 49), none, false⟩,
         ⟨(some 51), .bin .mul (.t 46) (.t 50), none, false⟩,
         ⟨(some 52), .bin .add (.t 41) (.t 51), none, false⟩,
         ⟨(some 53), .mov (.t 8), none, false⟩,
         ⟨(some 54), .call (.f 160) [(.t 52), (.t 53)], none, false⟩,
         ⟨none, .store 2 (.t 4) (.t 54), none, false⟩])
       .ret)))))))⟩
def fn97 : AFunc := ⟨20, 2, [(4, some (some 2))],
 (.seq (.ops [⟨(some 2), .box (.t 0), none, false⟩,
   ⟨(some 4), .box (.c (.agg [.int .i64 0, .int .i64 0])), none, false⟩])
 (.seq (.ops [⟨(some 6), .load (some 3) (.t 2), none, false⟩,
    ⟨(some 7), .mov (.t 1), none, false⟩,
    ⟨(some 8), .call (.f 96) [(.t 6), (.t 7)], none, false⟩,
    ⟨(some 5), .box (.c (.agg [.int .i64 0, .int .i64 0])), none, false⟩,
    ⟨none, .store 2 (.t 5) (.t 8), none, false⟩])
  (.seq (.ops [⟨(some 9), .load (some 2) (.t 5), none, true⟩,
     ⟨(some 10), .call (.f 161) [(.t 9)], none, true⟩,
     ⟨(some 11), .fadr 1 (.t 2), none, true⟩,
     ⟨(some 12), .load none (.t 11), none, true⟩,
     ⟨(some 13), .bin .sub (.t 10) (.t 12), none, true⟩,
     ⟨(some 14), .load (some 2) (.t 5), none, true⟩,
     ⟨(some 15), .call (.f 162) [(.t 14)], none, true⟩,
     ⟨(some 16), .fadr 1 (.t 2), none, true⟩,
     ⟨(some 17), .load none (.t 16), none, true⟩,
     ⟨(some 18), .bin .add (.t 15) (.t 17), none, true⟩,
     ⟨(some 19), .build [.int .i64 0, .int .i64 0] [(0, 1, (.t 13)), (1, 1, (.t 18))], none, false⟩,
     ⟨none, .store 2 (.t 4) (.t 19), none, false⟩])
   .ret)))⟩
def fn98 : AFunc := ⟨19, 1, [(2, none)],
 (.seq (.ops [⟨(some 2), .mov (.c (.int .i64 0)), none, false⟩])
 (.seq (.seq (.ops [⟨(some 3), .mov (.c (.int .i64 0)), none, false⟩])
   (.block 0 (.loop (.seq (.seq (.ops [⟨(some 4), .mov (.t 3), none, false⟩,
         ⟨(some 5), .mov (.t 0), none, false⟩,
         ⟨(some 6), .len .sl (.t 5), none, false⟩,
         ⟨(some 7), .bin .lss (.t 4) (.t 6), none, false⟩])
       (.cond (.t 7)
         .skip
         (.exit 0)))
      (.seq (.block 1 (.seq (.ops [⟨(some 10), .mov (.t 0), none, false⟩,
           ⟨(some 11), .mov (.t 3), none, false⟩,
           ⟨(some 12), .iadr 1 (.t 10) (.t 11), none, false⟩,
           ⟨(some 13), .load none (.t 12), none, false⟩,
           ⟨(some 14), .bin .neq (.t 13) (.c (.int .i64 0)), none, false⟩])
         (.cond (.t 14)
           (.seq (.ops [⟨(some 15), .mov (.t 0), none, false⟩,
             ⟨(some 16), .mov (.t 3), none, false⟩,
             ⟨(some 17), .iadr 1 (.t 15) (.t 16), none, false⟩,
             ⟨(some 18), .load none (.t 17), none, false⟩,
             ⟨(some 2), .mov (.t 18), none, false⟩])
           .ret)
           .skip)))
       (.ops [⟨(some 8), .mov (.t 3), none, false⟩,
         ⟨(some 9), .bin .add (.t 8) (.c (.int .i64 1)), none, false⟩,
         ⟨(some 3), .mov (.t 9), none, false⟩]))))))
  (.seq (.ops [⟨(some 2), .mov (.c (.int .i64 0)), none, false⟩])
   .ret)))⟩
def fn99 : AFunc := ⟨7, 1, [(2, none)],
 (.seq (.ops [⟨(some 2), .mov (.c (.int .i64 0)), none, false⟩])
 (.seq (.ops [⟨(some 3), .mov (.t 0), none, false⟩,
    ⟨(some 4), .call (.f 163) [(.t 3)], none, false⟩,
    ⟨(some 5), .un .not (.t 4), none, false⟩,
    ⟨(some 6), .call (.f 22) [(.t 5), (.c (.int .i64 8))], none, false⟩,
    ⟨(some 2), .mov (.t 6), none, false⟩])
  .ret))⟩
def fn100 : AFunc := ⟨8, 1, [(2, none)],
 (.seq (.ops [⟨(some 1), .box (.t 0), none, false⟩,
   ⟨(some 2), .mov (.c (.int .i64 0)), none, false⟩])
 (.seq (.ops [⟨(some 3), .fadr 2 (.t 1), none, false⟩,
    ⟨(some 4), .load none (.t 3), none, false⟩,
    ⟨(some 5), .iadr 2 (.t 4) (.c (.int .i64 0)), none, false⟩,
    ⟨(some 6), .fadr 0 (.t 5), none, false⟩,
    ⟨(some 7), .load none (.t 6), none, false⟩,
    ⟨(some 2), .mov (.t 7), none, false⟩])
  .ret))⟩
def fn101 : AFunc := ⟨12, 1, [(2, none)],
 (.seq (.ops [⟨(some 1), .box (.t 0), none, false⟩,
   ⟨(some 2), .mov (.c (.int .i64 0)), none, false⟩])
 (.seq (.ops [⟨(some 3), .fadr 2 (.t 1), none, false⟩,
    ⟨(some 4), .load none (.t 3), none, false⟩,
    ⟨(some 5), .fadr 2 (.t 1), none, false⟩,
    ⟨(some 6), .load none (.t 5), none, false⟩,
    ⟨(some 7), .len .sl (.t 6), none, false⟩,
    ⟨(some 8), .bin .sub (.t 7) (.c (.int .i64 1)), none, false⟩,
    ⟨(some 9), .iadr 2 (.t 4) (.t 8), none, false⟩,
    ⟨(some 10), .fadr 0 (.t 9), none, false⟩,
    ⟨(some 11), .load none (.t 10), none, false⟩,
    ⟨(some 2), .mov (.t 11), none, false⟩])
  .ret))⟩
def fn102 : AFunc := ⟨22, 2, [(4, some (some 2))],
 (.seq (.ops [⟨(some 4), .box (.c (.agg [.int .i64 0, .int .i64 0])), none, false⟩])
 (.seq (.seq (.ops [⟨(some 6), .mov (.t 1), none, false⟩,
     ⟨(some 7), .bin .lss (.t 6) (.c (.int .i64 0)), none, false⟩])
   (.cond (.t 7)
     (.ops [⟨(some 8), .mov (.t 0), none, false⟩,
      ⟨(some 9), .bin .sub (.c (.int .i64 0)) (.t 8), none, false⟩,
      ⟨(some 10), .mov (.t 1), none, false⟩,
      ⟨(some 11), .bin .sub (.c (.int .i64 0)) (.t 10), none, false⟩,
      ⟨(some 0), .mov (.t 9), none, false⟩,
      ⟨(some 1), .mov (.t 11), none, false⟩])
     .skip))
  (.seq (.ops [⟨(some 12), .mov (.t 0), none, false⟩,
     ⟨(some 13), .mov (.t 1), none, false⟩,
     ⟨(some 14), .call (.f 164) [(.t 12), (.t 13)], none, false⟩,
     ⟨(some 5), .mov (.t 14), none, false⟩])
   (.seq (.ops [⟨(some 15), .mov (.t 0), none, true⟩,
      ⟨(some 16), .mov (.t 5), none, true⟩,
      ⟨(some 17), .bin .quo (.t 15) (.t 16), none, true⟩,
      ⟨(some 18), .mov (.t 1), none, true⟩,
      ⟨(some 19), .mov (.t 5), none, true⟩,
      ⟨(some 20), .bin .quo (.t 18) (.t 19), none, true⟩,
      ⟨(some 21), .build [.int .i64 0, .int .i64 0] [(0, 1, (.t 17)), (1, 1, (.t 20))], none, false⟩,
      ⟨none, .store 2 (.t 4) (.t 21), none, false⟩])
    .ret))))⟩
def fn103 : AFunc := ⟨17, 2, [(4, none)],
 (.seq (.ops [⟨(some 4), .mov (.c (.int .i64 0)), none, false⟩])
 (.seq (.ops [⟨(some 6), .mov (.t 0), none, false⟩,
    ⟨(some 7), .mov (.t 1), none, false⟩,
    ⟨(some 8), .bin .quo (.t 6) (.t 7), none, false⟩,
    ⟨(some 5), .mov (.t 8), none, false⟩])
  (.seq (.seq (.ops [⟨(some 9), .mov (.t 5), none, false⟩,
      ⟨(some 10), .mov (.t 1), none, false⟩,
      ⟨(some 11), .bin .mul (.t 9) (.t 10), none, false⟩,
      ⟨(some 12), .mov (.t 0), none, false⟩,
      ⟨(some 13), .bin .gtr (.t 11) (.t 12), none, false⟩])
    (.cond (.t 13)
      (.ops [⟨(some 14), .mov (.t 5), none, false⟩,
       ⟨(some 15), .bin .sub (.t 14) (.c (.int .i64 1)), none, false⟩,
       ⟨(some 5), .mov (.t 15), none, false⟩])
      .skip))
   (.seq (.ops [⟨(some 16), .mov (.t 5), none, false⟩,
      ⟨(some 4), .mov (.t 16), none, false⟩])
    .ret))))⟩
def fn104 : AFunc := ⟨10, 2, [(4, none)],
 (.seq (.ops [⟨(some 4), .mov (.c (.int .i64 0)), none, false⟩])
 (.seq (.ops [⟨(some 5), .mov (.t 0), none, false⟩,
    ⟨(some 6), .bin .sub (.c (.int .i64 0)) (.t 5), none, false⟩,
    ⟨(some 7), .mov (.t 1), none, false⟩,
    ⟨(some 8), .call (.f 103) [(.t 6), (.t 7)], none, false⟩,
    ⟨(some 9), .bin .sub (.c (.int .i64 0)) (.t 8), none, false⟩,
    ⟨(some 4), .mov (.t 9), none, false⟩])
  .ret))⟩
def fn105 : AFunc := ⟨15, 1, [(2, none)],
 (.seq (.ops [⟨(some 2), .mov (.c (.int .i64 0)), none, false⟩])
 (.seq (.seq (.ops [⟨(some 5), .mov (.t 0), none, false⟩,
     ⟨(some 6), .len .sl (.t 5), none, false⟩,
     ⟨(some 7), .mov (.c (.int .i64 0)), none, false⟩])
   (.block 0 (.loop (.seq (.ops [⟨(some 8), .bin .lss (.t 7) (.t 6), none, false⟩])
      (.seq (.cond (.t 8)
         .skip
         (.exit 0))
       (.seq (.block 1 (.seq (.ops [⟨(some 9), .iadr 1 (.t 5) (.t 7), none, false⟩,
            ⟨(some 10), .load none (.t 9), none, false⟩,
            ⟨(some 4), .mov (.t 10), none, false⟩])
          (.seq (.ops [⟨(some 11), .mov (.t 4), none, false⟩,
             ⟨(some 12), .bin .neq (.t 11) (.c (.int .i64 0)), none, false⟩])
           (.cond (.t 12)
             (.seq (.ops [⟨(some 13), .mov (.t 4), none, false⟩,
               ⟨(some 2), .mov (.t 13), none, false⟩])
             .ret)
             .skip))))
        (.ops [⟨(some 14), .bin .add (.t 7) (.c (.int .i64 1)), none, false⟩,
          ⟨(some 7), .mov (.t 14), none, false⟩])))))))
  (.seq (.ops [⟨(some 2), .mov (.c (.int .i64 0)), none, false⟩])
   .ret)))⟩
def fn106 : AFunc := ⟨7, 2, [(4, none)],
 (.seq (.ops [⟨(some 4), .mov (.c (.int .i64 0)), none, false⟩])
 (.seq (.seq (.ops [⟨(some 5), .mov (.t 0), none, false⟩])
   (.cond (.t 5)
     (.seq (.ops [⟨(some 6), .mov (.t 1), none, false⟩,
       ⟨(some 4), .mov (.t 6), none, false⟩])
     .ret)
     .skip))
  (.seq (.ops [⟨(some 4), .mov (.c (.int .i64 0)), none, false⟩])
   .ret)))⟩
def fn107 : AFunc := ⟨54, 1, [(2, none)],
 (.seq (.ops [⟨(some 2), .mov (.c (.bool false)), none, false⟩])
 (.seq (.seq (.ops [⟨(some 7), .mov (.t 0), none, false⟩,
     ⟨(some 8), .rstr (.t 7), none, false⟩])
   (.block 0 (.loop (.seq (.ops [⟨(some 9), .nexts (.t 8), none, false⟩,
        ⟨(some 10), .ext (.t 9) 0, none, false⟩])
      (.seq (.cond (.t 10)
         .skip
         (.exit 0))
       (.block 1 (.seq (.ops [⟨(some 11), .ext (.t 9) 1, none, false⟩,
           ⟨(some 12), .ext (.t 9) 2, none, false⟩,
           ⟨(some 3), .mov (.t 11), none, false⟩,
           ⟨(some 4), .mov (.t 12), none, false⟩])
         (.seq (.ops [⟨(some 13), .mov (.t 4), none, false⟩,
            ⟨(some 14), .bin .leq (.c (.int .i32 65)) (.t 13), none, false⟩,
            ⟨(some 15), .mov (.t 14), none, false⟩,
            ⟨(some 16), .mov (.t 4), (some (15, true)), false⟩,
            ⟨(some 17), .bin .leq (.t 16) (.c (.int .i32 90)), (some (15, true)), false⟩,
            ⟨(some 18), .pick (.t 15) (.t 17) (.c (.bool false)), none, false⟩,
            ⟨(some 19), .mov (.t 18), none, false⟩,
            ⟨(some 20), .mov (.t 4), (some (19, false)), false⟩,
            ⟨(some 21), .bin .leq (.c (.int .i32 97)) (.t 20), (some (19, false)), false⟩,
            ⟨(some 22), .mov (.t 21), (some (19, false)), false⟩,
            ⟨(some 23), .mov (.t 4), (some (22, true)), false⟩,
            ⟨(some 24), .bin .leq (.t 23) (.c (.int .i32 122)), (some (22, true)), false⟩,
            ⟨(some 25), .pick (.t 22) (.t 24) (.c (.bool false)), (some (19, false)), false⟩,
            ⟨(some 26), .pick (.t 19) (.c (.bool true)) (.t 25), none, false⟩,
            ⟨(some 5), .mov (.t 26), none, false⟩])
          (.seq (.ops [⟨(some 27), .mov (.t 4), none, false⟩,
             ⟨(some 28), .bin .leq (.c (.int .i32 48)) (.t 27), none, false⟩,
             ⟨(some 29), .mov (.t 28), none, false⟩,
             ⟨(some 30), .mov (.t 4), (some (29, true)), false⟩,
             ⟨(some 31), .bin .leq (.t 30) (.c (.int .i32 57)), (some (29, true)), false⟩,
             ⟨(some 32), .pick (.t 29) (.t 31) (.c (.bool false)), none, false⟩,
             ⟨(some 33), .mov (.t 32), none, false⟩,
             ⟨(some 34), .mov (.t 4), (some (33, false)), false⟩,
             ⟨(some 35), .bin .eql (.t 34) (.c (.int .i32 95)), (some (33, false)), false⟩,
             ⟨(some 36), .pick (.t 33) (.c (.bool true)) (.t 35), none, false⟩,
             ⟨(some 6), .mov (.t 36), none, false⟩])
           (.seq (.ops [⟨(some 37), .mov (.t 5), none, false⟩,
              ⟨(some 38), .un .not (.t 37), none, false⟩,
              ⟨(some 39), .mov (.t 38), none, false⟩,
              ⟨(some 40), .mov (.t 3), (some (39, true)), false⟩,
              ⟨(some 41), .bin .eql (.t 40) (.c (.int .i64 0)), (some (39, true)), false⟩,
              ⟨(some 42), .mov (.t 41), (some (39, true)), false⟩,
              ⟨(some 43), .mov (.t 6), (some (42, false)), false⟩,
              ⟨(some 44), .un .not (.t 43), (some (42, false)), false⟩,
              ⟨(some 45), .pick (.t 42) (.c (.bool true)) (.t 44), (some (39, true)), false⟩,
              ⟨(some 46), .pick (.t 39) (.t 45) (.c (.bool false)), none, false⟩])
            (.cond (.t 46)
              (.seq (.ops [⟨(some 2), .mov (.c (.bool false)), none, false⟩])
              .ret)
              .skip)))))))))))
  (.seq (.ops [⟨(some 47), .mov (.t 0), none, false⟩,
     ⟨(some 48), .bin .neq (.t 47) (.c (.str [])), none, false⟩,
     ⟨(some 49), .mov (.t 48), none, false⟩,
     ⟨(some 50), .mov (.t 0), (some (49, true)), false⟩,
     ⟨(some 51), .len .st (.t 50), (some (49, true)), false⟩,
     ⟨(some 52), .bin .leq (.t 51) (.c (.int .i64 24)), (some (49, true)), false⟩,
     ⟨(some 53), .pick (.t 49) (.t 52) (.c (.bool false)), none, false⟩,
     ⟨(some 2), .mov (.t 53), none, false⟩])
   .ret)))⟩
def fn108 : AFunc := ⟨16, 3, [(6, none)],
 (.seq (.ops [⟨(some 6), .mov (.c (.int .i64 0)), none, false⟩])
 (.seq (.ops [⟨(some 7), .mov (.t 0), none, false⟩,
    ⟨(some 8), .mov (.t 1), none, false⟩,
    ⟨(some 9), .bin .lss (.t 7) (.t 8), none, false⟩,
    ⟨(some 10), .mov (.t 9), none, false⟩,
    ⟨(some 11), .mov (.t 0), (some (10, false)), false⟩,
    ⟨(some 12), .mov (.t 2), (some (10, false)), false⟩,
    ⟨(some 13), .bin .gtr (.t 11) (.t 12), (some (10, false)), false⟩,
    ⟨(some 14), .pick (.t 10) (.c (.bool true)) (.t 13), none, false⟩,
    ⟨(some 15), .call (.f 106) [(.t 14), (.c (.int .i64 3))], none, false⟩,
    ⟨(some 6), .mov (.t 15), none, false⟩])
  .ret))⟩
def fn109 : AFunc := ⟨9, 2, [(4, none)],
 (.seq (.ops [⟨(some 4), .mov (.c (.bool false)), none, false⟩])
 (.seq (.ops [⟨(some 5), .mov (.t 0), none, false⟩,
    ⟨(some 6), .mov (.t 1), none, false⟩,
    ⟨(some 7), .call (.f 165) [(.t 5), (.t 6)], none, false⟩,
    ⟨(some 8), .bin .geq (.t 7) (.c (.int .i64 0)), none, false⟩,
    ⟨(some 4), .mov (.t 8), none, false⟩])
  .ret))⟩
def fn110 : AFunc := ⟨9, 1, [(3, none)],
 (.seq (.ops [⟨(some 2), .box (.t 0), none, false⟩,
   ⟨(some 3), .mov (.c (.bool false)), none, false⟩])
 (.seq (.ops [⟨(some 4), .fadr 0 (.t 2), none, false⟩,
    ⟨(some 5), .load none (.t 4), none, false⟩,
    ⟨(some 6), .fadr 0 (.t 1), none, false⟩,
    ⟨(some 7), .load none (.t 6), none, false⟩,
    ⟨(some 8), .bin .eql (.t 5) (.t 7), none, false⟩,
    ⟨(some 3), .mov (.t 8), none, false⟩])
  .ret))⟩
def fn111 : AFunc := ⟨9, 2, [(4, none)],
 (.seq (.ops [⟨(some 4), .mov (.c (.bool false)), none, false⟩])
 (.seq (.ops [⟨(some 5), .mov (.t 0), none, false⟩,
    ⟨(some 6), .mov (.t 1), none, false⟩,
    ⟨(some 7), .call (.f 158) [(.t 5), (.t 6)], none, false⟩,
    ⟨(some 8), .bin .geq (.t 7) (.c (.int .i64 0)), none, false⟩,
    ⟨(some 4), .mov (.t 8), none, false⟩])
  .ret))⟩
def fn112 : AFunc := ⟨7, 1, [(2, none)],
 (.seq (.ops [⟨(some 1), .box (.t 0), none, false⟩,
   ⟨(some 2), .mov (.c (.bool false)), none, false⟩])
 (.seq (.ops [⟨(some 3), .fadr 1 (.t 1), none, false⟩,
    ⟨(some 4), .load none (.t 3), none, false⟩,
    ⟨(some 5), .call (.f 108) [(.t 4), (.c (.int .i64 0)), (.c (.int .i64 100000))], none, false⟩,
    ⟨(some 6), .bin .neq (.t 5) (.c (.int .i64 0)), none, false⟩,
    ⟨(some 2), .mov (.t 6), none, false⟩])
  .ret))⟩
def fn113 : AFunc := ⟨11, 2, [(4, some (some 3))],
 (.seq (.ops [⟨(some 2), .box (.t 0), none, false⟩,
   ⟨(some 4), .box (.c (.agg [.str [], .int .i64 0, .nilSlice])), none, false⟩])
 (.seq (.ops [⟨(some 5), .fadr 0 (.t 2), none, false⟩,
    ⟨(some 6), .load none (.t 5), none, false⟩,
    ⟨(some 7), .fadr 1 (.t 2), none, false⟩,
    ⟨(some 8), .load none (.t 7), none, false⟩,
    ⟨(some 9), .mov (.t 1), none, false⟩,
    ⟨(some 10), .build [.str [], .int .i64 0, .nilSlice] [(0, 1, (.t 6)), (1, 1, (.t 8)), (2, 1, (.t 9))], none, false⟩,
    ⟨none, .store 3 (.t 4) (.t 10), none, false⟩])
  .ret))⟩
def fn114 : AFunc := ⟨6, 2, [(4, none)],
 (.seq (.ops [⟨(some 2), .box (.t 0), none, false⟩,
   ⟨(some 3), .box (.t 1), none, false⟩,
   ⟨(some 4), .mov (.c (.nilFunc)), none, false⟩])
 (.seq (.ops [⟨(some 5), .mkfn (.func 166) [] [(.t 2), (.t 3)], none, false⟩,
    ⟨(some 4), .mov (.t 5), none, false⟩])
  .ret))⟩
def fn115 : AFunc := ⟨14, 1, [(2, none)],
 (.seq (.ops [⟨(some 1), .box (.t 0), none, false⟩,
   ⟨(some 2), .mov (.c (.int .i64 0)), none, false⟩])
 (.seq (.ops [⟨(some 3), .fadr 0 (.t 1), none, false⟩,
    ⟨(some 4), .load none (.t 3), none, false⟩,
    ⟨(some 5), .bin .mul (.c (.int .i64 2)) (.t 4), none, false⟩,
    ⟨(some 6), .fadr 1 (.t 1), none, false⟩,
    ⟨(some 7), .load none (.t 6), none, false⟩,
    ⟨(some 8), .bin .add (.t 5) (.t 7), none, false⟩,
    ⟨(some 9), .fadr 1 (.t 1), none, false⟩,
    ⟨(some 10), .load none (.t 9), none, false⟩,
    ⟨(some 11), .bin .mul (.c (.int .i64 2)) (.t 10), none, false⟩,
    ⟨(some 12), .build [.int .i64 0, .int .i64 0] [(0, 1, (.t 8)), (1, 1, (.t 11))], none, false⟩,
    ⟨(some 13), .call (.f 161) [(.t 12)], none, false⟩,
    ⟨(some 2), .mov (.t 13), none, false⟩])
  .ret))⟩
def fn116 : AFunc := ⟨12, 2, [(4, none)],
 (.seq (.ops [⟨(some 4), .mov (.c (.int .i64 0)), none, false⟩])
 (.seq (.ops [⟨(some 5), .mov (.t 0), none, false⟩,
    ⟨(some 6), .bin .mul (.c (.int .i64 2)) (.t 5), none, false⟩,
    ⟨(some 7), .mov (.t 1), none, false⟩,
    ⟨(some 8), .bin .add (.t 6) (.t 7), none, false⟩,
    ⟨(some 9), .mov (.t 1), none, false⟩,
    ⟨(some 10), .bin .mul (.c (.int .i64 2)) (.t 9), none, false⟩,
    ⟨(some 11), .call (.f 103) [(.t 8), (.t 10)], none, false⟩,
    ⟨(some 4), .mov (.t 11), none, false⟩])
  .ret))⟩
def fn117 : AFunc := ⟨22, 2, [(4, none)],
 (.seq (.ops [⟨(some 4), .mov (.c (.int .i64 0)), none, false⟩])
 (.seq (.seq (.ops [⟨(some 6), .mov (.t 0), none, false⟩,
     ⟨(some 7), .call (.f 27) [(.t 6)], none, false⟩,
     ⟨(some 8), .mov (.t 1), none, false⟩,
     ⟨(some 9), .len .sl (.t 8), none, false⟩,
     ⟨(some 10), .mov (.t 0), none, false⟩,
     ⟨(some 11), .len .sl (.t 10), none, false⟩,
     ⟨(some 12), .bin .neq (.t 9) (.t 11), none, false⟩,
     ⟨(some 13), .call (.f 106) [(.t 12), (.c (.int .i64 2))], none, false⟩,
     ⟨(some 14), .bslice 1 2 [.int .i64 0] [(0, (.t 7)), (1, (.t 13))], none, false⟩,
     ⟨(some 15), .call (.f 105) [(.t 14)], none, false⟩,
     ⟨(some 5), .mov (.t 15), none, false⟩])
   (.seq (.ops [⟨(some 16), .mov (.t 5), none, false⟩,
      ⟨(some 17), .bin .neq (.t 16) (.c (.int .i64 0)), none, false⟩])
    (.cond (.t 17)
      (.seq (.ops [⟨(some 18), .mov (.t 5), none, false⟩,
        ⟨(some 4), .mov (.t 18), none, false⟩])
      .ret)
      .skip)))
  (.seq (.ops [⟨(some 19), .mov (.t 1), none, false⟩,
     ⟨(some 20), .call (.f 136) [(.t 19), (.f 168)], none, false⟩,
     ⟨(some 21), .call (.f 105) [(.t 20)], none, false⟩,
     ⟨(some 4), .mov (.t 21), none, false⟩])
   .ret)))⟩
def fn118 : AFunc := ⟨9, 2, [(4, none)],
 (.seq (.ops [⟨(some 3), .box (.t 1), none, false⟩,
   ⟨(some 4), .mov (.c (.bool false)), none, false⟩])
 (.seq (.ops [⟨(some 5), .mov (.t 0), none, false⟩,
    ⟨(some 6), .mkfn (.func 169) [] [(.t 3)], none, false⟩,
    ⟨(some 7), .call (.f 109) [(.t 5), (.t 6)], none, false⟩,
    ⟨(some 8), .un .not (.t 7), none, false⟩,
    ⟨(some 4), .mov (.t 8), none, false⟩])
  .ret))⟩
def fn119 : AFunc := ⟨65, 3, [(6, none)],
 (.seq (.ops [⟨(some 6), .mov (.c (.nilSlice)), none, false⟩])
 (.seq (.ops [⟨(some 7), .mov (.c (.nilSlice)), none, false⟩])
  (.seq (.ops [⟨(some 8), .box (.c (.agg [.int .i64 0, .int .i64 0])), none, false⟩,
     ⟨(some 9), .box (.c (.agg [.int .i64 0, .int .i64 0])), none, false⟩])
   (.seq (.seq (.ops [⟨(some 15), .mov (.t 0), none, false⟩,
       ⟨(some 16), .len .sl (.t 15), none, false⟩,
       ⟨(some 17), .mov (.c (.int .i64 0)), none, false⟩])
     (.block 0 (.loop (.seq (.ops [⟨(some 18), .bin .lss (.t 17) (.t 16), none, false⟩])
        (.seq (.cond (.t 18)
           .skip
           (.exit 0))
         (.seq (.block 1 (.seq (.ops [⟨(some 19), .mov (.t 17), none, false⟩,
              ⟨(some 20), .iadr 3 (.t 15) (.t 17), none, false⟩,
              ⟨(some 21), .load (some 3) (.t 20), none, false⟩,
              ⟨(some 11), .box (.c (.agg [.str [], .int .i64 0, .nilSlice])), none, false⟩,
              ⟨(some 10), .mov (.t 19), none, false⟩,
              ⟨none, .store 3 (.t 11) (.t 21), none, false⟩])
            (.seq (.ops [⟨(some 22), .load (some 3) (.t 11), none, false⟩,
               ⟨(some 23), .mov (.t 2), none, false⟩,
               ⟨(some 24), .call (.f 97) [(.t 22), (.t 23)], none, false⟩,
               ⟨(some 12), .box (.c (.agg [.int .i64 0, .int .i64 0])), none, false⟩,
               ⟨none, .store 2 (.t 12) (.t 24), none, false⟩])
             (.seq (.ops [⟨(some 25), .fadr 0 (.t 12), none, true⟩,
                ⟨(some 26), .load none (.t 25), none, true⟩,
                ⟨(some 27), .fadr 1 (.t 8), none, true⟩,
                ⟨(some 28), .load none (.t 27), none, true⟩,
                ⟨(some 29), .bin .sub (.t 26) (.t 28), none, true⟩,
                ⟨(some 30), .mx (.c (.int .i64 0)) [(.t 29)], none, true⟩,
                ⟨(some 31), .fadr 1 (.t 12), none, true⟩,
                ⟨(some 32), .load none (.t 31), none, true⟩,
                ⟨(some 33), .fadr 0 (.t 8), none, true⟩,
                ⟨(some 34), .load none (.t 33), none, true⟩,
                ⟨(some 35), .bin .sub (.t 32) (.t 34), none, true⟩,
                ⟨(some 36), .mx (.c (.int .i64 0)) [(.t 35)], none, true⟩,
                ⟨(some 13), .mov (.t 30), none, true⟩,
                ⟨(some 14), .mov (.t 36), none, false⟩])
              (.seq (.ops [⟨(some 37), .fadr 0 (.t 9), none, true⟩,
                 ⟨(some 38), .load none (.t 37), none, true⟩,
                 ⟨(some 39), .mov (.t 13), none, true⟩,
                 ⟨(some 40), .mov (.t 1), none, true⟩,
                 ⟨(some 41), .mov (.t 10), none, true⟩,
                 ⟨(some 42), .iadr 2 (.t 40) (.t 41), none, true⟩,
                 ⟨(some 43), .fadr 0 (.t 42), none, true⟩,
                 ⟨(some 44), .load none (.t 43), none, true⟩,
                 ⟨(some 45), .bin .mul (.t 39) (.t 44), none, true⟩,
                 ⟨(some 46), .bin .add (.t 38) (.t 45), none, true⟩,
                 ⟨(some 47), .fadr 1 (.t 9), none, true⟩,
                 ⟨(some 48), .load none (.t 47), none, true⟩,
                 ⟨(some 49), .mov (.t 14), none, true⟩,
                 ⟨(some 50), .mov (.t 1), none, true⟩,
                 ⟨(some 51), .mov (.t 10), none, true⟩,
                 ⟨(some 52), .iadr 2 (.t 50) (.t 51), none, true⟩,
                 ⟨(some 53), .fadr 1 (.t 52), none, true⟩,
                 ⟨(some 54), .load none (.t 53), none, true⟩,
                 ⟨(some 55), .bin .mul (.t 49) (.t 54), none, true⟩,
                 ⟨(some 56), .bin .add (.t 48) (.t 55), none, true⟩,
                 ⟨(some 57), .build [.int .i64 0, .int .i64 0] [(0, 1, (.t 46)), (1, 1, (.t 56))], none, false⟩,
                 ⟨none, .store 2 (.t 9) (.t 57), none, false⟩])
               (.seq (.ops [⟨(some 58), .mov (.t 7), none, false⟩,
                  ⟨(some 59), .load (some 2) (.t 9), none, false⟩,
                  ⟨(some 60), .bslice 2 1 [.int .i64 0, .int .i64 0] [(0, (.t 59))], none, false⟩,
                  ⟨(some 61), .app 2 16 (.t 58) (.t 60), none, false⟩,
                  ⟨(some 7), .mov (.t 61), none, false⟩])
                (.ops [⟨(some 62), .load (some 2) (.t 12), none, false⟩,
                  ⟨none, .store 2 (.t 8) (.t 62), none, false⟩])))))))
          (.ops [⟨(some 63), .bin .add (.t 17) (.c (.int .i64 1)), none, false⟩,
            ⟨(some 17), .mov (.t 63), none, false⟩])))))))
    (.seq (.ops [⟨(some 64), .mov (.t 7), none, false⟩,
       ⟨(some 6), .mov (.t 64), none, false⟩])
     .ret)))))⟩
def fn120 : AFunc := ⟨71, 3, [(6, none)],
 (.seq (.ops [⟨(some 6), .mov (.c (.int .i64 0)), none, false⟩])
 (.seq (.seq (.ops [⟨(some 12), .mov (.t 0), none, false⟩,
     ⟨(some 13), .mov (.t 1), none, false⟩,
     ⟨(some 14), .call (.f 117) [(.t 12), (.t 13)], none, false⟩,
     ⟨(some 15), .mov (.t 2), none, false⟩,
     ⟨(some 16), .len .sl (.t 15), none, false⟩,
     ⟨(some 17), .bin .gtr (.t 16) (.c (.int .i64 16)), none, false⟩,
     ⟨(some 18), .call (.f 106) [(.t 17), (.c (.int .i64 5))], none, false⟩,
     ⟨(some 19), .bslice 1 2 [.int .i64 0] [(0, (.t 14)), (1, (.t 18))], none, false⟩,
     ⟨(some 20), .call (.f 105) [(.t 19)], none, false⟩,
     ⟨(some 7), .mov (.t 20), none, false⟩])
   (.seq (.ops [⟨(some 21), .mov (.t 7), none, false⟩,
      ⟨(some 22), .bin .neq (.t 21) (.c (.int .i64 0)), none, false⟩])
    (.cond (.t 22)
      (.seq (.ops [⟨(some 23), .mov (.t 7), none, false⟩,
        ⟨(some 6), .mov (.t 23), none, false⟩])
      .ret)
      .skip)))
  (.seq (.seq (.ops [⟨(some 24), .mov (.t 2), none, false⟩,
      ⟨(some 25), .len .sl (.t 24), none, false⟩,
      ⟨(some 26), .mov (.c (.int .i64 0)), none, false⟩])
    (.block 0 (.loop (.seq (.ops [⟨(some 27), .bin .lss (.t 26) (.t 25), none, false⟩])
       (.seq (.cond (.t 27)
          .skip
          (.exit 0))
        (.seq (.block 1 (.seq (.ops [⟨(some 28), .iadr 4 (.t 24) (.t 26), none, false⟩,
             ⟨(some 29), .load (some 4) (.t 28), none, false⟩,
             ⟨(some 9), .box (.c (.agg [.int .i64 0, .int .i64 0, .int .i64 0, .int .i64 0])), none, false⟩,
             ⟨none, .store 4 (.t 9) (.t 29), none, false⟩])
           (.seq (.seq (.ops [⟨(some 30), .fadr 0 (.t 9), none, true⟩,
               ⟨(some 31), .load none (.t 30), none, true⟩,
               ⟨(some 32), .call (.f 108) [(.t 31), (.c (.int .i64 0)), (.c (.int .i64 255))], none, true⟩,
               ⟨(some 33), .fadr 1 (.t 9), none, true⟩,
               ⟨(some 34), .load none (.t 33), none, true⟩,
               ⟨(some 35), .bin .lss (.t 34) (.c (.int .i64 0)), none, true⟩,
               ⟨(some 36), .mov (.t 35), none, false⟩,
               ⟨(some 37), .fadr 1 (.t 9), (some (36, false)), true⟩,
               ⟨(some 38), .load none (.t 37), (some (36, false)), true⟩,
               ⟨(some 39), .mov (.t 0), (some (36, false)), true⟩,
               ⟨(some 40), .len .sl (.t 39), (some (36, false)), true⟩,
               ⟨(some 41), .bin .geq (.t 38) (.t 40), (some (36, false)), false⟩,
               ⟨(some 42), .pick (.t 36) (.c (.bool true)) (.t 41), none, false⟩,
               ⟨(some 43), .call (.f 106) [(.t 42), (.c (.int .i64 10))], none, false⟩,
               ⟨(some 44), .bslice 1 2 [.int .i64 0] [(0, (.t 32)), (1, (.t 43))], none, false⟩,
               ⟨(some 45), .call (.f 105) [(.t 44)], none, false⟩,
               ⟨(some 10), .mov (.t 45), none, false⟩])
             (.seq (.ops [⟨(some 46), .mov (.t 10), none, false⟩,
                ⟨(some 47), .bin .neq (.t 46) (.c (.int .i64 0)), none, false⟩])
              (.cond (.t 47)
                (.seq (.ops [⟨(some 48), .mov (.t 10), none, false⟩,
                  ⟨(some 6), .mov (.t 48), none, false⟩])
                .ret)
                .skip)))
            (.seq (.ops [⟨(some 49), .fadr 2 (.t 9), none, true⟩,
               ⟨(some 50), .load none (.t 49), none, true⟩,
               ⟨(some 51), .call (.f 108) [(.t 50), (.c (.int .i64 0)), (.c (.int .i64 100000000))], none, true⟩,
               ⟨(some 52), .fadr 3 (.t 9), none, true⟩,
               ⟨(some 53), .load none (.t 52), none, true⟩,
               ⟨(some 54), .call (.f 108) [(.t 53), (.c (.int .i64 0)), (.c (.int .i64 100000000))], none, true⟩,
               ⟨(some 55), .mov (.t 0), none, true⟩,
               ⟨(some 56), .fadr 1 (.t 9), none, true⟩,
               ⟨(some 57), .load none (.t 56), none, true⟩,
               ⟨(some 58), .bin .add (.t 57) (.c (.int .i64 1)), none, true⟩,
               ⟨(some 59), .sl 3 (.t 55) none (some (.t 58)), none, true⟩,
               ⟨(some 60), .fadr 0 (.t 9), none, true⟩,
               ⟨(some 61), .load none (.t 60), none, true⟩,
               ⟨(some 62), .call (.f 118) [(.t 59), (.t 61)], none, false⟩,
               ⟨(some 63), .un .not (.t 62), none, false⟩,
               ⟨(some 64), .call (.f 106) [(.t 63), (.c (.int .i64 14))], none, false⟩,
               ⟨(some 65), .bslice 1 3 [.int .i64 0] [(0, (.t 51)), (1, (.t 54)), (2, (.t 64))], none, false⟩,
               ⟨(some 66), .call (.f 105) [(.t 65)], none, false⟩,
               ⟨(some 11), .mov (.t 66), none, false⟩])
             (.seq (.ops [⟨(some 67), .mov (.t 11), none, false⟩,
                ⟨(some 68), .bin .neq (.t 67) (.c (.int .i64 0)), none, false⟩])
              (.cond (.t 68)
                (.seq (.ops [⟨(some 69), .mov (.t 11), none, false⟩,
                  ⟨(some 6), .mov (.t 69), none, false⟩])
                .ret)
                .skip))))))
         (.ops [⟨(some 70), .bin .add (.t 26) (.c (.int .i64 1)), none, false⟩,
           ⟨(some 26), .mov (.t 70), none, false⟩])))))))
   (.seq (.ops [⟨(some 6), .mov (.c (.int .i64 0)), none, false⟩])
    .ret))))⟩
def fn121 : AFunc := ⟨36, 3, [(6, some (some 4))],
 (.seq (.ops [⟨(some 3), .box (.t 0), none, false⟩,
   ⟨(some 6), .box (.c (.agg [.int .i64 0, .int .i64 0, .int .i64 0, .int .i64 0])), none, false⟩])
 (.seq (.ops [⟨(some 8), .fadr 1 (.t 3), none, false⟩,
    ⟨(some 9), .load none (.t 8), none, false⟩,
    ⟨(some 10), .bin .add (.t 9) (.c (.int .i64 1)), none, false⟩,
    ⟨(some 7), .mov (.t 10), none, false⟩])
  (.seq (.ops [⟨(some 11), .fadr 2 (.t 3), none, true⟩,
     ⟨(some 12), .load none (.t 11), none, true⟩,
     ⟨(some 13), .fadr 3 (.t 3), none, true⟩,
     ⟨(some 14), .load none (.t 13), none, true⟩,
     ⟨(some 15), .bin .sub (.t 12) (.t 14), none, true⟩,
     ⟨(some 16), .fadr 2 (.t 3), none, true⟩,
     ⟨(some 17), .load none (.t 16), none, true⟩,
     ⟨(some 18), .fadr 3 (.t 3), none, true⟩,
     ⟨(some 19), .load none (.t 18), none, true⟩,
     ⟨(some 20), .bin .add (.t 17) (.t 19), none, true⟩,
     ⟨(some 21), .build [.int .i64 0, .int .i64 0] [(0, 1, (.t 15)), (1, 1, (.t 20))], none, true⟩,
     ⟨(some 22), .mov (.t 1), none, true⟩,
     ⟨(some 23), .mov (.t 7), none, true⟩,
     ⟨(some 24), .sl 3 (.t 22) none (some (.t 23)), none, true⟩,
     ⟨(some 25), .mov (.t 2), none, true⟩,
     ⟨(some 26), .mov (.t 7), none, true⟩,
     ⟨(some 27), .sl 2 (.t 25) none (some (.t 26)), none, true⟩,
     ⟨(some 28), .fadr 0 (.t 3), none, true⟩,
     ⟨(some 29), .load none (.t 28), none, true⟩,
     ⟨(some 30), .call (.f 119) [(.t 24), (.t 27), (.t 29)], none, true⟩,
     ⟨(some 31), .fadr 1 (.t 3), none, true⟩,
     ⟨(some 32), .load none (.t 31), none, true⟩,
     ⟨(some 33), .iadr 2 (.t 30) (.t 32), none, true⟩,
     ⟨(some 34), .load (some 2) (.t 33), none, true⟩,
     ⟨(some 35), .build [.int .i64 0, .int .i64 0, .int .i64 0, .int .i64 0] [(0, 2, (.t 21)), (2, 2, (.t 34))], none, false⟩,
     ⟨none, .store 4 (.t 6) (.t 35), none, false⟩])
   .ret)))⟩
def fn122 : AFunc := ⟨19, 1, [(2, none)],
 (.seq (.ops [⟨(some 1), .box (.t 0), none, false⟩,
   ⟨(some 2), .mov (.c (.bool false)), none, false⟩])
 (.seq (.ops [⟨(some 3), .iada 2 2 (.t 1) (.c (.int .i64 0)), none, false⟩,
    ⟨(some 4), .fadr 1 (.t 3), none, false⟩,
    ⟨(some 5), .load none (.t 4), none, false⟩,
    ⟨(some 6), .iada 2 2 (.t 1) (.c (.int .i64 1)), none, false⟩,
    ⟨(some 7), .fadr 0 (.t 6), none, false⟩,
    ⟨(some 8), .load none (.t 7), none, false⟩,
    ⟨(some 9), .bin .lss (.t 5) (.t 8), none, false⟩,
    ⟨(some 10), .mov (.t 9), none, false⟩,
    ⟨(some 11), .iada 2 2 (.t 1) (.c (.int .i64 1)), (some (10, false)), false⟩,
    ⟨(some 12), .fadr 1 (.t 11), (some (10, false)), false⟩,
    ⟨(some 13), .load none (.t 12), (some (10, false)), false⟩,
    ⟨(some 14), .iada 2 2 (.t 1) (.c (.int .i64 0)), (some (10, false)), false⟩,
    ⟨(some 15), .fadr 0 (.t 14), (some (10, false)), false⟩,
    ⟨(some 16), .load none (.t 15), (some (10, false)), false⟩,
    ⟨(some 17), .bin .lss (.t 13) (.t 16), (some (10, false)), false⟩,
    ⟨(some 18), .pick (.t 10) (.c (.bool true)) (.t 17), none, false⟩,
    ⟨(some 2), .mov (.t 18), none, false⟩])
  .ret))⟩
def fn123 : AFunc := ⟨10, 1, [(5, none)],
 (.seq (.ops [⟨(some 4), .box (.t 0), none, false⟩,
   ⟨(some 5), .mov (.c (.bool false)), none, false⟩])
 (.seq (.ops [⟨(some 6), .load none (.t 1), none, false⟩,
    ⟨(some 7), .mkfn (.func 125) [] [(.t 2), (.t 3), (.t 4)], none, false⟩,
    ⟨(some 8), .call (.f 124) [(.t 6), (.t 7)], none, false⟩,
    ⟨(some 9), .un .not (.t 8), none, false⟩,
    ⟨(some 5), .mov (.t 9), none, false⟩])
  .ret))⟩
def fn124 : AFunc := ⟨9, 2, [(4, none)],
 (.seq (.ops [⟨(some 4), .mov (.c (.bool false)), none, false⟩])
 (.seq (.ops [⟨(some 5), .mov (.t 0), none, false⟩,
    ⟨(some 6), .mov (.t 1), none, false⟩,
    ⟨(some 7), .call (.f 170) [(.t 5), (.t 6)], none, false⟩,
    ⟨(some 8), .bin .geq (.t 7) (.c (.int .i64 0)), none, false⟩,
    ⟨(some 4), .mov (.t 8), none, false⟩])
  .ret))⟩
def fn125 : AFunc := ⟨33, 1, [(5, none)],
 (.seq (.ops [⟨(some 4), .box (.t 0), none, false⟩,
   ⟨(some 5), .mov (.c (.bool false)), none, false⟩])
 (.seq (.ops [⟨(some 7), .load (some 4) (.t 4), none, false⟩,
    ⟨(some 8), .load none (.t 1), none, false⟩,
    ⟨(some 9), .load none (.t 2), none, false⟩,
    ⟨(some 10), .call (.f 121) [(.t 7), (.t 8), (.t 9)], none, false⟩,
    ⟨(some 6), .box (.c (.agg [.int .i64 0, .int .i64 0, .int .i64 0, .int .i64 0])), none, false⟩,
    ⟨none, .store 4 (.t 6) (.t 10), none, false⟩])
  (.seq (.ops [⟨(some 11), .load none (.t 3), none, false⟩,
     ⟨(some 12), .iada 2 2 (.t 6) (.c (.int .i64 1)), none, false⟩,
     ⟨(some 13), .fadr 1 (.t 12), none, false⟩,
     ⟨(some 14), .load none (.t 13), none, false⟩,
     ⟨(some 15), .bin .mul (.t 11) (.t 14), none, false⟩,
     ⟨(some 16), .iada 2 2 (.t 6) (.c (.int .i64 0)), none, false⟩,
     ⟨(some 17), .fadr 0 (.t 16), none, false⟩,
     ⟨(some 18), .load none (.t 17), none, false⟩,
     ⟨(some 19), .bin .mul (.c (.int .i64 1024)) (.t 18), none, false⟩,
     ⟨(some 20), .bin .lss (.t 15) (.t 19), none, false⟩,
     ⟨(some 21), .mov (.t 20), none, false⟩,
     ⟨(some 22), .load none (.t 3), (some (21, false)), false⟩,
     ⟨(some 23), .iada 2 2 (.t 6) (.c (.int .i64 1)), (some (21, false)), false⟩,
     ⟨(some 24), .fadr 0 (.t 23), (some (21, false)), false⟩,
     ⟨(some 25), .load none (.t 24), (some (21, false)), false⟩,
     ⟨(some 26), .bin .mul (.t 22) (.t 25), (some (21, false)), false⟩,
     ⟨(some 27), .iada 2 2 (.t 6) (.c (.int .i64 0)), (some (21, false)), false⟩,
     ⟨(some 28), .fadr 1 (.t 27), (some (21, false)), false⟩,
     ⟨(some 29), .load none (.t 28), (some (21, false)), false⟩,
     ⟨(some 30), .bin .mul (.c (.int .i64 1024)) (.t 29), (some (21, false)), false⟩,
     ⟨(some 31), .bin .gtr (.t 26) (.t 30), (some (21, false)), false⟩,
     ⟨(some 32), .pick (.t 21) (.c (.bool true)) (.t 31), none, false⟩,
     ⟨(some 5), .mov (.t 32), none, false⟩])
   .ret)))⟩
def fn127 : AFunc := ⟨21, 2, [(4, none)],
 (.seq (.ops [⟨(some 2), .box (.t 0), none, false⟩,
   ⟨(some 4), .mov (.c (.int .i64 0)), none, false⟩])
 (.seq (.seq (.ops [⟨(some 6), .load (some 3) (.t 2), none, false⟩,
     ⟨(some 7), .call (.f 65) [(.t 6)], none, false⟩,
     ⟨(some 5), .mov (.t 7), none, false⟩])
   (.seq (.ops [⟨(some 8), .mov (.t 5), none, false⟩,
      ⟨(some 9), .bin .neq (.t 8) (.c (.int .i64 0)), none, false⟩])
    (.cond (.t 9)
      (.seq (.ops [⟨(some 10), .mov (.t 5), none, false⟩,
        ⟨(some 4), .mov (.t 10), none, false⟩])
      .ret)
      .skip)))
  (.seq (.ops [⟨(some 11), .mov (.t 1), none, false⟩,
     ⟨(some 12), .bin .lss (.t 11) (.c (.int .i64 0)), none, false⟩,
     ⟨(some 13), .mov (.t 12), none, false⟩,
     ⟨(some 14), .mov (.t 1), (some (13, false)), false⟩,
     ⟨(some 15), .fadr 2 (.t 2), (some (13, false)), false⟩,
     ⟨(some 16), .load none (.t 15), (some (13, false)), false⟩,
     ⟨(some 17), .len .sl (.t 16), (some (13, false)), false⟩,
     ⟨(some 18), .bin .geq (.t 14) (.t 17), (some (13, false)), false⟩,
     ⟨(some 19), .pick (.t 13) (.c (.bool true)) (.t 18), none, false⟩,
     ⟨(some 20), .call (.f 106) [(.t 19), (.c (.int .i64 10))], none, false⟩,
     ⟨(some 4), .mov (.t 20), none, false⟩])
   .ret)))⟩
def fn128 : AFunc := ⟨19, 3, [(6, none)],
 (.seq (.ops [⟨(some 3), .box (.t 0), none, false⟩,
   ⟨(some 4), .box (.t 1), none, false⟩,
   ⟨(some 5), .box (.t 2), none, false⟩,
   ⟨(some 6), .mov (.c (.int .i64 0)), none, false⟩])
 (.seq (.ops [⟨(some 9), .load none (.t 4), none, false⟩,
    ⟨(some 10), .call (.f 172) [(.t 9)], none, false⟩,
    ⟨(some 11), .call (.f 171) [(.t 10)], none, false⟩,
    ⟨(some 7), .mov (.t 11), none, false⟩])
  (.seq (.ops [⟨(some 12), .mov (.t 7), none, false⟩,
     ⟨(some 13), .mkfn (.func 174) [] [(.t 3), (.t 4), (.t 5)], none, false⟩,
     ⟨(some 14), .call (.f 173) [(.t 12), (.t 13)], none, false⟩,
     ⟨(some 8), .mov (.t 14), none, false⟩])
   (.seq (.ops [⟨(some 15), .mov (.t 7), none, false⟩,
      ⟨(some 16), .mov (.t 8), none, false⟩,
      ⟨(some 17), .iadr 1 (.t 15) (.t 16), none, false⟩,
      ⟨(some 18), .load none (.t 17), none, false⟩,
      ⟨(some 6), .mov (.t 18), none, false⟩])
    .ret))))⟩
def fn129 : AFunc := ⟨6, 1, [(2, none)],
 (.seq (.ops [⟨(some 1), .box (.t 0), none, false⟩,
   ⟨(some 2), .mov (.c (.nilSlice)), none, false⟩])
 (.seq (.ops [⟨(some 3), .fadr 2 (.t 1), none, false⟩,
    ⟨(some 4), .load none (.t 3), none, false⟩,
    ⟨(some 5), .call (.f 177) [(.t 4), (.f 178)], none, false⟩,
    ⟨(some 2), .mov (.t 5), none, false⟩])
  .ret))⟩
def fn130 : AFunc := ⟨6, 1, [(2, none)],
 (.seq (.ops [⟨(some 1), .box (.t 0), none, false⟩,
   ⟨(some 2), .mov (.c (.nilSlice)), none, false⟩])
 (.seq (.ops [⟨(some 3), .fadr 2 (.t 1), none, false⟩,
    ⟨(some 4), .load none (.t 3), none, false⟩,
    ⟨(some 5), .call (.f 177) [(.t 4), (.f 179)], none, false⟩,
    ⟨(some 2), .mov (.t 5), none, false⟩])
  .ret))⟩
def fn131 : AFunc := ⟨14, 3, [(6, none)],
 (.seq (.ops [⟨(some 3), .box (.t 0), none, false⟩,
   ⟨(some 6), .mov (.c (.int .i64 0)), none, false⟩])
 (.seq (.ops [⟨(some 7), .load (some 3) (.t 3), none, false⟩,
    ⟨(some 8), .mov (.t 1), none, false⟩,
    ⟨(some 9), .call (.f 127) [(.t 7), (.t 8)], none, false⟩,
    ⟨(some 10), .mov (.t 2), none, false⟩,
    ⟨(some 11), .call (.f 108) [(.t 10), (.c (.int .i64 0)), (.c (.int .i64 100000000))], none, false⟩,
    ⟨(some 12), .bslice 1 2 [.int .i64 0] [(0, (.t 9)), (1, (.t 11))], none, false⟩,
    ⟨(some 13), .call (.f 105) [(.t 12)], none, false⟩,
    ⟨(some 6), .mov (.t 13), none, false⟩])
  .ret))⟩
def fn132 : AFunc := ⟨60, 4, [(8, none)],
 (.seq (.ops [⟨(some 4), .box (.t 0), none, false⟩,
   ⟨(some 8), .mov (.c (.nilSlice)), none, false⟩])
 (.seq (.ops [⟨(some 9), .mov (.c (.nilSlice)), none, false⟩])
  (.seq (.seq (.ops [⟨(some 13), .mov (.t 1), none, false⟩,
      ⟨(some 14), .mov (.t 2), none, false⟩,
      ⟨(some 15), .iadr 1 (.t 13) (.t 14), none, false⟩,
      ⟨(some 16), .load none (.t 15), none, false⟩,
      ⟨(some 17), .mov (.t 3), none, false⟩,
      ⟨(some 18), .bin .leq (.t 16) (.t 17), none, false⟩])
    (.cond (.t 18)
      (.ops [⟨(some 19), .mov (.t 9), none, false⟩,
       ⟨(some 20), .mov (.t 2), none, false⟩,
       ⟨(some 21), .bslice 1 1 [.int .i64 0] [(0, (.t 20))], none, false⟩,
       ⟨(some 22), .app 1 8 (.t 19) (.t 21), none, false⟩,
       ⟨(some 9), .mov (.t 22), none, false⟩])
      .skip))
   (.seq (.seq (.ops [⟨(some 10), .mov (.c (.int .i64 0)), none, false⟩])
     (.block 0 (.loop (.seq (.seq (.ops [⟨(some 23), .mov (.t 10), none, false⟩,
           ⟨(some 24), .mov (.t 9), none, false⟩,
           ⟨(some 25), .len .sl (.t 24), none, false⟩,
           ⟨(some 26), .bin .lss (.t 23) (.t 25), none, false⟩])
         (.cond (.t 26)
           .skip
           (.exit 0)))
        (.seq (.block 1 (.seq (.ops [⟨(some 29), .load (some 3) (.t 4), none, true⟩,
             ⟨(some 30), .mov (.t 9), none, true⟩,
             ⟨(some 31), .mov (.t 10), none, true⟩,
             ⟨(some 32), .iadr 1 (.t 30) (.t 31), none, true⟩,
             ⟨(some 33), .load none (.t 32), none, true⟩,
             ⟨(some 34), .call (.f 180) [(.t 29), (.t 33)], none, true⟩,
             ⟨(some 35), .len .sl (.t 34), none, true⟩,
             ⟨(some 36), .mov (.c (.int .i64 0)), none, true⟩])
           (.block 2 (.loop (.seq (.ops [⟨(some 37), .bin .lss (.t 36) (.t 35), none, false⟩])
              (.seq (.cond (.t 37)
                 .skip
                 (.exit 2))
               (.seq (.block 3 (.seq (.ops [⟨(some 38), .iadr 1 (.t 34) (.t 36), none, false⟩,
                    ⟨(some 39), .load none (.t 38), none, false⟩,
                    ⟨(some 12), .mov (.t 39), none, false⟩])
                  (.seq (.ops [⟨(some 40), .mov (.t 1), none, false⟩,
                     ⟨(some 41), .mov (.t 12), none, false⟩,
                     ⟨(some 42), .iadr 1 (.t 40) (.t 41), none, false⟩,
                     ⟨(some 43), .load none (.t 42), none, false⟩,
                     ⟨(some 44), .mov (.t 3), none, false⟩,
                     ⟨(some 45), .bin .leq (.t 43) (.t 44), none, false⟩,
                     ⟨(some 46), .mov (.t 45), none, false⟩,
                     ⟨(some 47), .mov (.t 9), (some (46, true)), false⟩,
                     ⟨(some 48), .mov (.t 12), (some (46, true)), false⟩,
                     ⟨(some 49), .call (.f 181) [(.t 47), (.t 48)], (some (46, true)), false⟩,
                     ⟨(some 50), .un .not (.t 49), (some (46, true)), false⟩,
                     ⟨(some 51), .pick (.t 46) (.t 50) (.c (.bool false)), none, false⟩])
                   (.cond (.t 51)
                     (.ops [⟨(some 52), .mov (.t 9), none, false⟩,
                      ⟨(some 53), .mov (.t 12), none, false⟩,
                      ⟨(some 54), .bslice 1 1 [.int .i64 0] [(0, (.t 53))], none, false⟩,
                      ⟨(some 55), .app 1 8 (.t 52) (.t 54), none, false⟩,
                      ⟨(some 9), .mov (.t 55), none, false⟩])
                     .skip))))
                (.ops [⟨(some 56), .bin .add (.t 36) (.c (.int .i64 1)), none, false⟩,
                  ⟨(some 36), .mov (.t 56), none, false⟩]))))))))
         (.ops [⟨(some 27), .mov (.t 10), none, false⟩,
           ⟨(some 28), .bin .add (.t 27) (.c (.int .i64 1)), none, false⟩,
           ⟨(some 10), .mov (.t 28), none, false⟩]))))))
    (.seq (.ops [⟨(some 57), .mov (.t 9), none, false⟩,
       ⟨(some 58), .call (.f 182) [(.t 57)], none, false⟩])
     (.seq (.ops [⟨(some 59), .mov (.t 9), none, false⟩,
        ⟨(some 8), .mov (.t 59), none, false⟩])
      .ret))))))⟩
def fn133 : AFunc := ⟨33, 4, [(8, none)],
 (.seq (.ops [⟨(some 4), .box (.t 0), none, false⟩,
   ⟨(some 8), .mov (.c (.int .i64 0)), none, false⟩])
 (.seq (.ops [⟨(some 9), .mov (.c (.int .i64 0)), none, false⟩])
  (.seq (.seq (.ops [⟨(some 12), .load (some 3) (.t 4), none, false⟩,
      ⟨(some 13), .mov (.t 1), none, false⟩,
      ⟨(some 14), .mov (.t 2), none, false⟩,
      ⟨(some 15), .mov (.t 3), none, false⟩,
      ⟨(some 16), .bin .sub (.t 15) (.c (.int .i64 1)), none, false⟩,
      ⟨(some 17), .call (.f 132) [(.t 12), (.t 13), (.t 14), (.t 16)], none, false⟩,
      ⟨(some 18), .len .sl (.t 17), none, false⟩,
      ⟨(some 19), .mov (.c (.int .i64 0)), none, false⟩])
    (.block 0 (.loop (.seq (.ops [⟨(some 20), .bin .lss (.t 19) (.t 18), none, false⟩])
       (.seq (.cond (.t 20)
          .skip
          (.exit 0))
        (.seq (.block 1 (.seq (.ops [⟨(some 21), .iadr 1 (.t 17) (.t 19), none, false⟩,
             ⟨(some 22), .load none (.t 21), none, false⟩,
             ⟨(some 11), .mov (.t 22), none, false⟩])
           (.ops [⟨(some 23), .mov (.t 9), none, false⟩,
             ⟨(some 24), .mov (.t 3), none, false⟩,
             ⟨(some 25), .mov (.t 1), none, false⟩,
             ⟨(some 26), .mov (.t 11), none, false⟩,
             ⟨(some 27), .iadr 1 (.t 25) (.t 26), none, false⟩,
             ⟨(some 28), .load none (.t 27), none, false⟩,
             ⟨(some 29), .bin .sub (.t 24) (.t 28), none, false⟩,
             ⟨(some 30), .bin .add (.t 23) (.t 29), none, false⟩,
             ⟨(some 9), .mov (.t 30), none, false⟩])))
         (.ops [⟨(some 31), .bin .add (.t 19) (.c (.int .i64 1)), none, false⟩,
           ⟨(some 19), .mov (.t 31), none, false⟩])))))))
   (.seq (.ops [⟨(some 32), .mov (.t 9), none, false⟩,
      ⟨(some 8), .mov (.t 32), none, false⟩])
    .ret))))⟩
def fn136 : AFunc := ⟨22, 2, [(4, none)],
 (.seq (.ops [⟨(some 4), .mov (.c (.nilSlice)), none, false⟩])
 (.seq (.ops [⟨(some 5), .mov (.c (.nilSlice)), none, false⟩])
  (.seq (.seq (.ops [⟨(some 8), .mov (.t 0), none, false⟩,
      ⟨(some 9), .len .sl (.t 8), none, false⟩,
      ⟨(some 10), .mov (.c (.int .i64 0)), none, false⟩])
    (.block 0 (.loop (.seq (.ops [⟨(some 11), .bin .lss (.t 10) (.t 9), none, false⟩])
       (.seq (.cond (.t 11)
          .skip
          (.exit 0))
        (.seq (.block 1 (.seq (.ops [⟨(some 12), .iadr 2 (.t 8) (.t 10), none, false⟩,
             ⟨(some 13), .load (some 2) (.t 12), none, false⟩,
             ⟨(some 7), .box (.c (.agg [.int .i64 0, .int .i64 0])), none, false⟩,
             ⟨none, .store 2 (.t 7) (.t 13), none, false⟩])
           (.ops [⟨(some 14), .mov (.t 5), none, false⟩,
             ⟨(some 15), .mov (.t 1), none, false⟩,
             ⟨(some 16), .load (some 2) (.t 7), none, false⟩,
             ⟨(some 17), .call (.t 15) [(.t 16)], none, false⟩,
             ⟨(some 18), .bslice 1 1 [.int .i64 0] [(0, (.t 17))], none, false⟩,
             ⟨(some 19), .app 1 8 (.t 14) (.t 18), none, false⟩,
             ⟨(some 5), .mov (.t 19), none, false⟩])))
         (.ops [⟨(some 20), .bin .add (.t 10) (.c (.int .i64 1)), none, false⟩,
           ⟨(some 10), .mov (.t 20), none, false⟩])))))))
   (.seq (.ops [⟨(some 21), .mov (.t 5), none, false⟩,
      ⟨(some 4), .mov (.t 21), none, false⟩])
    .ret))))⟩
def fn137 : AFunc := ⟨5, 1, [(2, none)],
 (.seq (.ops [⟨(some 1), .box (.t 0), none, false⟩,
   ⟨(some 2), .mov (.c (.int .i64 0)), none, false⟩])
 (.seq (.ops [⟨(some 3), .load (some 2) (.t 1), none, false⟩,
    ⟨(some 4), .call (.f 138) [(.t 3), (.c (.int .i64 0)), (.c (.int .i64 100000000))], none, false⟩,
    ⟨(some 2), .mov (.t 4), none, false⟩])
  .ret))⟩
def fn138 : AFunc := ⟨25, 3, [(6, none)],
 (.seq (.ops [⟨(some 3), .box (.t 0), none, false⟩,
   ⟨(some 6), .mov (.c (.int .i64 0)), none, false⟩])
 (.seq (.ops [⟨(some 7), .fadr 0 (.t 3), none, true⟩,
    ⟨(some 8), .load none (.t 7), none, true⟩,
    ⟨(some 9), .mov (.t 1), none, true⟩,
    ⟨(some 10), .mov (.t 2), none, true⟩,
    ⟨(some 11), .call (.f 108) [(.t 8), (.t 9), (.t 10)], none, true⟩,
    ⟨(some 12), .fadr 1 (.t 3), none, true⟩,
    ⟨(some 13), .load none (.t 12), none, true⟩,
    ⟨(some 14), .mov (.t 1), none, true⟩,
    ⟨(some 15), .mov (.t 2), none, true⟩,
    ⟨(some 16), .call (.f 108) [(.t 13), (.t 14), (.t 15)], none, true⟩,
    ⟨(some 17), .fadr 0 (.t 3), none, true⟩,
    ⟨(some 18), .load none (.t 17), none, true⟩,
    ⟨(some 19), .fadr 1 (.t 3), none, true⟩,
    ⟨(some 20), .load none (.t 19), none, true⟩,
    ⟨(some 21), .bin .gtr (.t 18) (.t 20), none, true⟩,
    ⟨(some 22), .call (.f 106) [(.t 21), (.c (.int .i64 11))], none, false⟩,
    ⟨(some 23), .bslice 1 3 [.int .i64 0] [(0, (.t 11)), (1, (.t 16)), (2, (.t 22))], none, false⟩,
    ⟨(some 24), .call (.f 105) [(.t 23)], none, false⟩,
    ⟨(some 6), .mov (.t 24), none, false⟩])
  .ret))⟩
def fn139 : AFunc := ⟨26, 4, [(8, none)],
 (.seq (.ops [⟨(some 4), .box (.t 0), none, false⟩,
   ⟨(some 5), .box (.t 1), none, false⟩,
   ⟨(some 8), .mov (.c (.int .i64 0)), none, false⟩])
 (.seq (.seq (.ops [⟨(some 10), .load (some 3) (.t 4), none, false⟩,
     ⟨(some 11), .load (some 3) (.t 5), none, false⟩,
     ⟨(some 12), .call (.f 145) [(.t 10), (.t 11)], none, false⟩,
     ⟨(some 13), .mov (.t 2), none, false⟩,
     ⟨(some 14), .mov (.t 3), none, false⟩,
     ⟨(some 15), .call (.f 108) [(.t 13), (.t 14), (.c (.int .i64 1000))], none, false⟩,
     ⟨(some 16), .bslice 1 2 [.int .i64 0] [(0, (.t 12)), (1, (.t 15))], none, false⟩,
     ⟨(some 17), .call (.f 105) [(.t 16)], none, false⟩,
     ⟨(some 9), .mov (.t 17), none, false⟩])
   (.seq (.ops [⟨(some 18), .mov (.t 9), none, false⟩,
      ⟨(some 19), .bin .neq (.t 18) (.c (.int .i64 0)), none, false⟩])
    (.cond (.t 19)
      (.seq (.ops [⟨(some 20), .mov (.t 9), none, false⟩,
        ⟨(some 8), .mov (.t 20), none, false⟩])
      .ret)
      .skip)))
  (.seq (.ops [⟨(some 21), .load (some 3) (.t 4), none, false⟩,
     ⟨(some 22), .load (some 3) (.t 5), none, false⟩,
     ⟨(some 23), .call (.f 146) [(.t 21), (.t 22)], none, false⟩,
     ⟨(some 24), .un .not (.t 23), none, false⟩,
     ⟨(some 25), .call (.f 106) [(.t 24), (.c (.int .i64 7))], none, false⟩,
     ⟨(some 8), .mov (.t 25), none, false⟩])
   .ret)))⟩
def fn140 : AFunc := ⟨28, 3, [(6, none)],
 (.seq (.ops [⟨(some 3), .box (.t 0), none, false⟩,
   ⟨(some 4), .box (.t 1), none, false⟩,
   ⟨(some 5), .box (.t 2), none, false⟩,
   ⟨(some 6), .mov (.c (.nilSlice)), none, false⟩])
 (.seq (.ops [⟨(some 7), .box (.c (.nilSlice)), none, false⟩])
  (.seq (.seq (.ops [⟨(some 9), .load (some 3) (.t 3), none, false⟩,
      ⟨(some 10), .load (some 3) (.t 4), none, false⟩,
      ⟨(some 11), .call (.f 114) [(.t 9), (.t 10)], none, false⟩])
    (.block 0 (.rangeF (.t 11) [12] (.ops [⟨(some 8), .mov (.t 12), none, false⟩])
      (.block 1 (.seq (.ops [⟨(some 13), .load (some 3) (.t 3), none, true⟩,
          ⟨(some 14), .mov (.t 8), none, true⟩,
          ⟨(some 15), .call (.f 97) [(.t 13), (.t 14)], none, true⟩,
          ⟨(some 16), .load (some 3) (.t 4), none, true⟩,
          ⟨(some 17), .mov (.t 8), none, true⟩,
          ⟨(some 18), .call (.f 97) [(.t 16), (.t 17)], none, true⟩,
          ⟨(some 19), .load none (.t 5), none, true⟩,
          ⟨(some 20), .call (.f 143) [(.t 18), (.t 19)], none, false⟩,
          ⟨(some 21), .build [.int .i64 0, .int .i64 0, .int .i64 0, .int .i64 0] [(0, 2, (.t 15)), (2, 2, (.t 20))], none, false⟩,
          ⟨(some 22), .call (.f 122) [(.t 21)], none, false⟩])
        (.cond (.t 22)
          (.ops [⟨(some 23), .load none (.t 7), none, false⟩,
           ⟨(some 24), .mov (.t 8), none, false⟩,
           ⟨(some 25), .bslice 1 1 [.int .i64 0] [(0, (.t 24))], none, false⟩,
           ⟨(some 26), .app 1 8 (.t 23) (.t 25), none, false⟩,
           ⟨none, .store 1 (.t 7) (.t 26), none, false⟩])
          .skip))))))
   (.seq (.ops [⟨(some 27), .load none (.t 7), none, false⟩,
      ⟨(some 6), .mov (.t 27), none, false⟩])
    .ret))))⟩
def fn141 : AFunc := ⟨33, 2, [(4, some (some 2))],
 (.seq (.ops [⟨(some 4), .box (.c (.agg [.int .i64 0, .nilSlice])), none, false⟩])
 (.seq (.seq (.ops [⟨(some 7), .mov (.t 0), none, false⟩,
     ⟨(some 8), .len .sl (.t 7), none, false⟩,
     ⟨(some 9), .bin .lss (.t 8) (.c (.int .i64 1)), none, false⟩])
   (.cond (.t 9)
     (.ops [⟨(some 10), .bad, none, false⟩,
      ⟨none, .bad, none, false⟩])
     .skip))
  (.seq (.ops [⟨(some 11), .mov (.t 0), none, false⟩,
     ⟨(some 12), .iadr 2 (.t 11) (.c (.int .i64 0)), none, false⟩,
     ⟨(some 13), .load (some 2) (.t 12), none, false⟩,
     ⟨(some 5), .box (.c (.agg [.int .i64 0, .nilSlice])), none, false⟩,
     ⟨none, .store 2 (.t 5) (.t 13), none, false⟩])
   (.seq (.seq (.ops [⟨(some 6), .mov (.c (.int .i64 1)), none, false⟩])
     (.block 0 (.loop (.seq (.seq (.ops [⟨(some 14), .mov (.t 6), none, false⟩,
           ⟨(some 15), .mov (.t 0), none, false⟩,
           ⟨(some 16), .len .sl (.t 15), none, false⟩,
           ⟨(some 17), .bin .lss (.t 14) (.t 16), none, false⟩])
         (.cond (.t 17)
           .skip
           (.exit 0)))
        (.seq (.block 1 (.seq (.ops [⟨(some 20), .mov (.t 1), none, true⟩,
             ⟨(some 21), .mov (.t 0), none, true⟩,
             ⟨(some 22), .mov (.t 6), none, true⟩,
             ⟨(some 23), .iadr 2 (.t 21) (.t 22), none, true⟩,
             ⟨(some 24), .load (some 2) (.t 23), none, true⟩,
             ⟨(some 25), .load (some 2) (.t 5), none, true⟩,
             ⟨(some 26), .call (.t 20) [(.t 24), (.t 25)], none, false⟩,
             ⟨(some 27), .bin .lss (.t 26) (.c (.int .i64 0)), none, false⟩])
           (.cond (.t 27)
             (.ops [⟨(some 28), .mov (.t 0), none, false⟩,
              ⟨(some 29), .mov (.t 6), none, false⟩,
              ⟨(some 30), .iadr 2 (.t 28) (.t 29), none, false⟩,
              ⟨(some 31), .load (some 2) (.t 30), none, false⟩,
              ⟨none, .store 2 (.t 5) (.t 31), none, false⟩])
             .skip)))
         (.ops [⟨(some 18), .mov (.t 6), none, false⟩,
           ⟨(some 19), .bin .add (.t 18) (.c (.int .i64 1)), none, false⟩,
           ⟨(some 6), .mov (.t 19), none, false⟩]))))))
    (.seq (.ops [⟨(some 32), .load (some 2) (.t 5), none, false⟩,
       ⟨none, .store 2 (.t 4) (.t 32), none, false⟩])
     .ret)))))⟩
def fn142 : AFunc := ⟨32, 2, [(4, none)],
 (.seq (.ops [⟨(some 2), .box (.t 0), none, false⟩,
   ⟨(some 3), .box (.t 1), none, false⟩,
   ⟨(some 4), .mov (.c (.int .i64 0)), none, false⟩])
 (.seq (.ops [⟨(some 5), .fadr 1 (.t 2), none, true⟩,
    ⟨(some 6), .load none (.t 5), none, true⟩,
    ⟨(some 7), .len .sl (.t 6), none, true⟩,
    ⟨(some 8), .fadr 1 (.t 3), none, true⟩,
    ⟨(some 9), .load none (.t 8), none, true⟩,
    ⟨(some 10), .len .sl (.t 9), none, true⟩,
    ⟨(some 11), .call (.f 184) [(.t 7), (.t 10)], none, true⟩,
    ⟨(some 12), .fadr 0 (.t 2), none, true⟩,
    ⟨(some 13), .load none (.t 12), none, true⟩,
    ⟨(some 14), .fadr 0 (.t 2), none, true⟩,
    ⟨(some 15), .load none (.t 14), none, true⟩,
    ⟨(some 16), .un .neg (.t 15), none, true⟩,
    ⟨(some 17), .mx (.t 13) [(.t 16)], none, true⟩,
    ⟨(some 18), .fadr 0 (.t 3), none, true⟩,
    ⟨(some 19), .load none (.t 18), none, true⟩,
    ⟨(some 20), .fadr 0 (.t 3), none, true⟩,
    ⟨(some 21), .load none (.t 20), none, true⟩,
    ⟨(some 22), .un .neg (.t 21), none, true⟩,
    ⟨(some 23), .mx (.t 19) [(.t 22)], none, true⟩,
    ⟨(some 24), .call (.f 184) [(.t 17), (.t 23)], none, true⟩,
    ⟨(some 25), .fadr 0 (.t 2), none, true⟩,
    ⟨(some 26), .load none (.t 25), none, true⟩,
    ⟨(some 27), .fadr 0 (.t 3), none, true⟩,
    ⟨(some 28), .load none (.t 27), none, true⟩,
    ⟨(some 29), .call (.f 184) [(.t 26), (.t 28)], none, false⟩,
    ⟨(some 30), .bslice 1 3 [.int .i64 0] [(0, (.t 11)), (1, (.t 24)), (2, (.t 29))], none, false⟩,
    ⟨(some 31), .call (.f 183) [(.t 30)], none, false⟩,
    ⟨(some 4), .mov (.t 31), none, false⟩])
  .ret))⟩
def fn143 : AFunc := ⟨14, 2, [(4, some (some 2))],
 (.seq (.ops [⟨(some 2), .box (.t 0), none, false⟩,
   ⟨(some 4), .box (.c (.agg [.int .i64 0, .int .i64 0])), none, false⟩])
 (.seq (.ops [⟨(some 5), .fadr 0 (.t 2), none, false⟩,
    ⟨(some 6), .load none (.t 5), none, false⟩,
    ⟨(some 7), .mov (.t 1), none, false⟩,
    ⟨(some 8), .bin .add (.t 6) (.t 7), none, false⟩,
    ⟨(some 9), .fadr 1 (.t 2), none, false⟩,
    ⟨(some 10), .load none (.t 9), none, false⟩,
    ⟨(some 11), .mov (.t 1), none, false⟩,
    ⟨(some 12), .bin .add (.t 10) (.t 11), none, false⟩,
    ⟨(some 13), .build [.int .i64 0, .int .i64 0] [(0, 1, (.t 8)), (1, 1, (.t 12))], none, false⟩,
    ⟨none, .store 2 (.t 4) (.t 13), none, false⟩])
  .ret))⟩
def fn145 : AFunc := ⟨11, 2, [(4, none)],
 (.seq (.ops [⟨(some 2), .box (.t 0), none, false⟩,
   ⟨(some 3), .box (.t 1), none, false⟩,
   ⟨(some 4), .mov (.c (.int .i64 0)), none, false⟩])
 (.seq (.ops [⟨(some 5), .load (some 3) (.t 2), none, true⟩,
    ⟨(some 6), .call (.f 26) [(.t 5)], none, true⟩,
    ⟨(some 7), .load (some 3) (.t 3), none, true⟩,
    ⟨(some 8), .call (.f 26) [(.t 7)], none, false⟩,
    ⟨(some 9), .bslice 1 2 [.int .i64 0] [(0, (.t 6)), (1, (.t 8))], none, false⟩,
    ⟨(some 10), .call (.f 105) [(.t 9)], none, false⟩,
    ⟨(some 4), .mov (.t 10), none, false⟩])
  .ret))⟩
def fn146 : AFunc := ⟨9, 2, [(4, some none)],
 (.seq (.ops [⟨(some 2), .box (.t 0), none, false⟩,
   ⟨(some 3), .box (.t 1), none, false⟩,
   ⟨(some 4), .box (.c (.bool false)), none, false⟩])
 (.seq (.seq (.ops [⟨(some 5), .load (some 3) (.t 2), none, false⟩,
     ⟨(some 6), .load (some 3) (.t 3), none, false⟩,
     ⟨(some 7), .call (.f 114) [(.t 5), (.t 6)], none, false⟩])
   (.block 0 (.rangeF (.t 7) [8] .skip
     (.block 1 (.seq (.ops [⟨none, .store 1 (.t 4) (.c (.bool true)), none, false⟩])
       .ret)))))
  (.seq (.ops [⟨none, .store 1 (.t 4) (.c (.bool false)), none, false⟩])
   .ret)))⟩
def fn147 : AFunc := ⟨31, 2, [(4, some none), (5, some none)],
 (.seq (.ops [⟨(some 2), .box (.t 0), none, false⟩,
   ⟨(some 3), .box (.t 1), none, false⟩,
   ⟨(some 4), .box (.c (.int .i64 0)), none, false⟩,
   ⟨(some 5), .box (.c (.bool false)), none, false⟩])
 (.seq (.seq (.ops [⟨(some 9), .load (some 3) (.t 2), none, false⟩,
     ⟨(some 10), .load (some 3) (.t 3), none, false⟩,
     ⟨(some 11), .call (.f 114) [(.t 9), (.t 10)], none, false⟩])
   (.block 0 (.rangeF (.t 11) [12] (.ops [⟨(some 6), .mov (.t 12), none, false⟩])
     (.block 1 (.seq (.ops [⟨(some 13), .load (some 3) (.t 2), none, true⟩,
         ⟨(some 14), .mov (.t 6), none, true⟩,
         ⟨(some 15), .call (.f 96) [(.t 13), (.t 14)], none, true⟩,
         ⟨(some 16), .load (some 3) (.t 3), none, true⟩,
         ⟨(some 17), .mov (.t 6), none, true⟩,
         ⟨(some 18), .call (.f 96) [(.t 16), (.t 17)], none, true⟩,
         ⟨(some 7), .box (.c (.agg [.int .i64 0, .int .i64 0])), none, true⟩,
         ⟨(some 8), .box (.c (.agg [.int .i64 0, .int .i64 0])), none, true⟩,
         ⟨none, .store 2 (.t 7) (.t 15), none, false⟩,
         ⟨none, .store 2 (.t 8) (.t 18), none, false⟩])
       (.seq (.ops [⟨(some 19), .fadr 0 (.t 7), none, false⟩,
          ⟨(some 20), .load none (.t 19), none, false⟩,
          ⟨(some 21), .fadr 1 (.t 8), none, false⟩,
          ⟨(some 22), .load none (.t 21), none, false⟩,
          ⟨(some 23), .bin .mul (.t 20) (.t 22), none, false⟩,
          ⟨(some 24), .fadr 0 (.t 8), none, false⟩,
          ⟨(some 25), .load none (.t 24), none, false⟩,
          ⟨(some 26), .fadr 1 (.t 7), none, false⟩,
          ⟨(some 27), .load none (.t 26), none, false⟩,
          ⟨(some 28), .bin .mul (.t 25) (.t 27), none, false⟩,
          ⟨(some 29), .bin .gtr (.t 23) (.t 28), none, false⟩])
        (.cond (.t 29)
          (.seq (.ops [⟨(some 30), .mov (.t 6), none, false⟩,
            ⟨none, .store 1 (.t 4) (.t 30), none, false⟩,
            ⟨none, .store 1 (.t 5) (.c (.bool true)), none, false⟩])
          .ret)
          .skip)))))))
  (.seq (.ops [⟨none, .store 1 (.t 4) (.c (.int .i64 0)), none, false⟩,
     ⟨none, .store 1 (.t 5) (.c (.bool false)), none, false⟩])
   .ret)))⟩
def fn149 : AFunc := ⟨75, 2, [(4, none)],
 (.seq (.ops [⟨(some 4), .mov (.c (.str [])), none, false⟩])
 (.seq (.seq (.ops [⟨(some 11), .mov (.t 0), none, false⟩,
     ⟨(some 12), .len .sl (.t 11), none, false⟩])
   (.block 0 (.seq (.ops [⟨(some 14), .bin .eql (.t 12) (.c (.int .i64 0)), none, false⟩,
       ⟨(some 13), .mov (.t 14), none, false⟩])
     (.cond (.t 13)
       (.seq (.ops [⟨(some 4), .mov (.c (.str [])), none, false⟩])
       .ret)
       (.seq (.ops [⟨(some 16), .bin .eql (.t 12) (.c (.int .i64 1)), none, false⟩,
         ⟨(some 15), .mov (.t 16), none, false⟩])
       (.cond (.t 15)
         (.seq (.ops [⟨(some 17), .mov (.t 0), none, false⟩,
           ⟨(some 18), .iadr 1 (.t 17) (.c (.int .i64 0)), none, false⟩,
           ⟨(some 19), .load none (.t 18), none, false⟩,
           ⟨(some 4), .mov (.t 19), none, false⟩])
         .ret)
         .skip))))))
  (.seq (.ops [⟨(some 5), .mov (.c (.int .i64 0)), none, false⟩])
   (.seq (.seq (.ops [⟨(some 20), .mov (.t 1), none, false⟩,
       ⟨(some 21), .len .st (.t 20), none, false⟩,
       ⟨(some 22), .bin .gtr (.t 21) (.c (.int .i64 0)), none, false⟩])
     (.cond (.t 22)
       (.seq (.seq (.ops [⟨(some 23), .mov (.t 1), none, false⟩,
          ⟨(some 24), .len .st (.t 23), none, false⟩,
          ⟨(some 25), .mov (.t 0), none, false⟩,
          ⟨(some 26), .len .sl (.t 25), none, false⟩,
          ⟨(some 27), .bin .sub (.t 26) (.c (.int .i64 1)), none, false⟩,
          ⟨(some 28), .bin .quo (.c (.int .i64 9223372036854775807)) (.t 27), none, false⟩,
          ⟨(some 29), .bin .geq (.t 24) (.t 28), none, false⟩])
        (.cond (.t 29)
          (.ops [⟨(some 30), .bad, none, false⟩,
           ⟨none, .bad, none, false⟩])
          .skip))
       (.ops [⟨(some 31), .mov (.t 5), none, false⟩,
         ⟨(some 32), .mov (.t 1), none, false⟩,
         ⟨(some 33), .len .st (.t 32), none, false⟩,
         ⟨(some 34), .mov (.t 0), none, false⟩,
         ⟨(some 35), .len .sl (.t 34), none, false⟩,
         ⟨(some 36), .bin .sub (.t 35) (.c (.int .i64 1)), none, false⟩,
         ⟨(some 37), .bin .mul (.t 33) (.t 36), none, false⟩,
         ⟨(some 38), .bin .add (.t 31) (.t 37), none, false⟩,
         ⟨(some 5), .mov (.t 38), none, false⟩]))
       .skip))
    (.seq (.seq (.ops [⟨(some 39), .mov (.t 0), none, false⟩,
        ⟨(some 40), .len .sl (.t 39), none, false⟩,
        ⟨(some 41), .mov (.c (.int .i64 0)), none, false⟩])
      (.block 1 (.loop (.seq (.ops [⟨(some 42), .bin .lss (.t 41) (.t 40), none, false⟩])
         (.seq (.cond (.t 42)
            .skip
            (.exit 1))
          (.seq (.block 2 (.seq (.ops [⟨(some 43), .iadr 1 (.t 39) (.t 41), none, false⟩,
               ⟨(some 44), .load none (.t 43), none, false⟩,
               ⟨(some 7), .mov (.t 44), none, false⟩])
             (.seq (.seq (.ops [⟨(some 45), .mov (.t 7), none, false⟩,
                 ⟨(some 46), .len .st (.t 45), none, false⟩,
                 ⟨(some 47), .mov (.t 5), none, false⟩,
                 ⟨(some 48), .bin .sub (.c (.int .i64 9223372036854775807)) (.t 47), none, false⟩,
                 ⟨(some 49), .bin .gtr (.t 46) (.t 48), none, false⟩])
               (.cond (.t 49)
                 (.ops [⟨(some 50), .bad, none, false⟩,
                  ⟨none, .bad, none, false⟩])
                 .skip))
              (.ops [⟨(some 51), .mov (.t 5), none, false⟩,
                ⟨(some 52), .mov (.t 7), none, false⟩,
                ⟨(some 53), .len .st (.t 52), none, false⟩,
                ⟨(some 54), .bin .add (.t 51) (.t 53), none, false⟩,
                ⟨(some 5), .mov (.t 54), none, false⟩]))))
           (.ops [⟨(some 55), .bin .add (.t 41) (.c (.int .i64 1)), none, false⟩,
             ⟨(some 41), .mov (.t 55), none, false⟩])))))))
     (.seq (.ops [⟨(some 8), .box (.c (.agg [.nilPtr, .nilSlice])), none, false⟩])
      (.seq (.ops [⟨(some 56), .mov (.t 5), none, false⟩,
         ⟨(some 57), .call (.f 185) [(.t 8), (.t 56)], none, false⟩])
       (.seq (.ops [⟨(some 58), .mov (.t 0), none, false⟩,
          ⟨(some 59), .iadr 1 (.t 58) (.c (.int .i64 0)), none, false⟩,
          ⟨(some 60), .load none (.t 59), none, false⟩,
          ⟨(some 61), .call (.f 186) [(.t 8), (.t 60)], none, false⟩])
        (.seq (.seq (.ops [⟨(some 62), .mov (.t 0), none, false⟩,
            ⟨(some 63), .sl 1 (.t 62) (some (.c (.int .i64 1))) none, none, false⟩,
            ⟨(some 64), .len .sl (.t 63), none, false⟩,
            ⟨(some 65), .mov (.c (.int .i64 0)), none, false⟩])
          (.block 3 (.loop (.seq (.ops [⟨(some 66), .bin .lss (.t 65) (.t 64), none, false⟩])
             (.seq (.cond (.t 66)
                .skip
                (.exit 3))
              (.seq (.block 4 (.seq (.ops [⟨(some 67), .iadr 1 (.t 63) (.t 65), none, false⟩,
                   ⟨(some 68), .load none (.t 67), none, false⟩,
                   ⟨(some 10), .mov (.t 68), none, false⟩])
                 (.seq (.ops [⟨(some 69), .mov (.t 1), none, false⟩,
                    ⟨(some 70), .call (.f 186) [(.t 8), (.t 69)], none, false⟩])
                  (.ops [⟨(some 71), .mov (.t 10), none, false⟩,
                    ⟨(some 72), .call (.f 186) [(.t 8), (.t 71)], none, false⟩]))))
               (.ops [⟨(some 73), .bin .add (.t 65) (.c (.int .i64 1)), none, false⟩,
                 ⟨(some 65), .mov (.t 73), none, false⟩])))))))
         (.seq (.ops [⟨(some 74), .call (.f 187) [(.t 8)], none, false⟩,
            ⟨(some 4), .mov (.t 74), none, false⟩])
          .ret))))))))))⟩
def fn150 : AFunc := ⟨22, 2, [(4, none)],
 (.seq (.ops [⟨(some 4), .mov (.c (.nilSlice)), none, false⟩])
 (.seq (.ops [⟨(some 5), .mov (.c (.nilSlice)), none, false⟩])
  (.seq (.seq (.ops [⟨(some 8), .mov (.t 0), none, false⟩,
      ⟨(some 9), .len .sl (.t 8), none, false⟩,
      ⟨(some 10), .mov (.c (.int .i64 0)), none, false⟩])
    (.block 0 (.loop (.seq (.ops [⟨(some 11), .bin .lss (.t 10) (.t 9), none, false⟩])
       (.seq (.cond (.t 11)
          .skip
          (.exit 0))
        (.seq (.block 1 (.seq (.ops [⟨(some 12), .iadr 3 (.t 8) (.t 10), none, false⟩,
             ⟨(some 13), .load (some 3) (.t 12), none, false⟩,
             ⟨(some 7), .box (.c (.agg [.str [], .int .i64 0, .nilSlice])), none, false⟩,
             ⟨none, .store 3 (.t 7) (.t 13), none, false⟩])
           (.ops [⟨(some 14), .mov (.t 5), none, false⟩,
             ⟨(some 15), .mov (.t 1), none, false⟩,
             ⟨(some 16), .load (some 3) (.t 7), none, false⟩,
             ⟨(some 17), .call (.t 15) [(.t 16)], none, false⟩,
             ⟨(some 18), .bslice 1 1 [.str []] [(0, (.t 17))], none, false⟩,
             ⟨(some 19), .app 1 16 (.t 14) (.t 18), none, false⟩,
             ⟨(some 5), .mov (.t 19), none, false⟩])))
         (.ops [⟨(some 20), .bin .add (.t 10) (.c (.int .i64 1)), none, false⟩,
           ⟨(some 10), .mov (.t 20), none, false⟩])))))))
   (.seq (.ops [⟨(some 21), .mov (.t 5), none, false⟩,
      ⟨(some 4), .mov (.t 21), none, false⟩])
    .ret))))⟩
def fn151 : AFunc := ⟨17, 1, [(2, none)],
 (.seq (.ops [⟨(some 1), .box (.t 0), none, false⟩,
   ⟨(some 2), .mov (.c (.str [])), none, false⟩])
 (.seq (.ops [⟨(some 3), .fadr 0 (.t 1), none, true⟩,
    ⟨(some 4), .load none (.t 3), none, true⟩,
    ⟨(some 5), .bin .add (.c (.str [104, 111, 114, 105, 122, 111, 110, 32])) (.t 4), none, true⟩,
    ⟨(some 6), .bin .add (.t 5) (.c (.str [32])), none, true⟩,
    ⟨(some 7), .fadr 1 (.t 1), none, true⟩,
    ⟨(some 8), .load none (.t 7), none, true⟩,
    ⟨(some 9), .call (.f 188) [(.t 8)], none, true⟩,
    ⟨(some 10), .bin .add (.t 6) (.t 9), none, true⟩,
    ⟨(some 11), .bin .add (.t 10) (.c (.str [10])), none, true⟩,
    ⟨(some 12), .fadr 2 (.t 1), none, true⟩,
    ⟨(some 13), .load none (.t 12), none, true⟩,
    ⟨(some 14), .call (.f 189) [(.t 13), (.f 190)], none, true⟩,
    ⟨(some 15), .call (.f 149) [(.t 14), (.c (.str []))], none, true⟩,
    ⟨(some 16), .bin .add (.t 11) (.t 15), none, false⟩,
    ⟨(some 2), .mov (.t 16), none, false⟩])
  .ret))⟩
def fn157 : AFunc := ⟨20, 2, [(4, none)],
 (.seq (.ops [⟨(some 2), .box (.t 0), none, false⟩,
   ⟨(some 4), .mov (.c (.bool false)), none, false⟩])
 (.seq (.ops [⟨(some 8), .load (some 3) (.t 2), none, false⟩,
    ⟨(some 9), .call (.f 167) [(.t 8)], none, false⟩,
    ⟨(some 7), .mov (.t 9), none, false⟩,
    ⟨(some 10), .ext (.t 7) 0, none, false⟩,
    ⟨(some 11), .ext (.t 7) 1, none, false⟩,
    ⟨(some 5), .mov (.t 10), none, false⟩,
    ⟨(some 6), .mov (.t 11), none, false⟩])
  (.seq (.ops [⟨(some 12), .mov (.t 5), none, false⟩,
     ⟨(some 13), .mov (.t 1), none, false⟩,
     ⟨(some 14), .bin .leq (.t 12) (.t 13), none, false⟩,
     ⟨(some 15), .mov (.t 14), none, false⟩,
     ⟨(some 16), .mov (.t 1), (some (15, true)), false⟩,
     ⟨(some 17), .mov (.t 6), (some (15, true)), false⟩,
     ⟨(some 18), .bin .leq (.t 16) (.t 17), (some (15, true)), false⟩,
     ⟨(some 19), .pick (.t 15) (.t 18) (.c (.bool false)), none, false⟩,
     ⟨(some 4), .mov (.t 19), none, false⟩])
   .ret)))⟩
def fn158 : AFunc := ⟨19, 2, [(4, none)],
 (.seq (.ops [⟨(some 4), .mov (.c (.int .i64 0)), none, false⟩])
 (.seq (.seq (.ops [⟨(some 6), .mov (.t 0), none, false⟩,
     ⟨(some 7), .len .sl (.t 6), none, false⟩,
     ⟨(some 8), .mov (.c (.int .i64 0)), none, false⟩])
   (.block 0 (.loop (.seq (.ops [⟨(some 9), .bin .lss (.t 8) (.t 7), none, false⟩])
      (.seq (.cond (.t 9)
         .skip
         (.exit 0))
       (.seq (.block 1 (.seq (.ops [⟨(some 10), .mov (.t 8), none, false⟩,
            ⟨(some 5), .mov (.t 10), none, false⟩])
          (.seq (.ops [⟨(some 11), .mov (.t 1), none, false⟩,
             ⟨(some 12), .mov (.t 0), none, false⟩,
             ⟨(some 13), .mov (.t 5), none, false⟩,
             ⟨(some 14), .iadr 2 (.t 12) (.t 13), none, false⟩,
             ⟨(some 15), .load (some 2) (.t 14), none, false⟩,
             ⟨(some 16), .call (.t 11) [(.t 15)], none, false⟩])
           (.cond (.t 16)
             (.seq (.ops [⟨(some 17), .mov (.t 5), none, false⟩,
               ⟨(some 4), .mov (.t 17), none, false⟩])
             .ret)
             .skip))))
        (.ops [⟨(some 18), .bin .add (.t 8) (.c (.int .i64 1)), none, false⟩,
          ⟨(some 8), .mov (.t 18), none, false⟩])))))))
  (.seq (.ops [⟨(some 4), .mov (.c (.int .i64 (-1))), none, false⟩])
   .ret)))⟩
def fn159 : AFunc := ⟨8, 1, [(3, none)],
 (.seq (.ops [⟨(some 2), .box (.t 0), none, false⟩,
   ⟨(some 3), .mov (.c (.bool false)), none, false⟩])
 (.seq (.ops [⟨(some 4), .fadr 0 (.t 2), none, false⟩,
    ⟨(some 5), .load none (.t 4), none, false⟩,
    ⟨(some 6), .load none (.t 1), none, false⟩,
    ⟨(some 7), .bin .geq (.t 5) (.t 6), none, false⟩,
    ⟨(some 3), .mov (.t 7), none, false⟩])
  .ret))⟩
def fn160 : AFunc := ⟨25, 2, [(4, some (some 2))],
 (.seq (.ops [⟨(some 4), .box (.c (.agg [.int .i64 0, .int .i64 0])), none, false⟩])
 (.seq (.ops [⟨(some 7), .mov (.t 0), none, false⟩,
    ⟨(some 8), .mov (.t 0), none, false⟩,
    ⟨(some 9), .un .neg (.t 8), none, false⟩,
    ⟨(some 10), .mx (.t 7) [(.t 9)], none, false⟩,
    ⟨(some 11), .mov (.t 1), none, false⟩,
    ⟨(some 5), .mov (.t 10), none, false⟩,
    ⟨(some 6), .mov (.t 11), none, false⟩])
  (.seq (.block 0 (.loop (.seq (.seq (.ops [⟨(some 12), .mov (.t 6), none, false⟩,
         ⟨(some 13), .bin .neq (.t 12) (.c (.int .i64 0)), none, false⟩])
       (.cond (.t 13)
         .skip
         (.exit 0)))
      (.block 1 (.ops [⟨(some 14), .mov (.t 6), none, true⟩,
         ⟨(some 15), .mov (.t 5), none, true⟩,
         ⟨(some 16), .mov (.t 6), none, true⟩,
         ⟨(some 17), .bin .rem (.t 15) (.t 16), none, true⟩,
         ⟨(some 5), .mov (.t 14), none, true⟩,
         ⟨(some 6), .mov (.t 17), none, false⟩])))))
   (.seq (.ops [⟨(some 18), .mov (.t 0), none, true⟩,
      ⟨(some 19), .mov (.t 5), none, true⟩,
      ⟨(some 20), .bin .quo (.t 18) (.t 19), none, true⟩,
      ⟨(some 21), .mov (.t 1), none, true⟩,
      ⟨(some 22), .mov (.t 5), none, true⟩,
      ⟨(some 23), .bin .quo (.t 21) (.t 22), none, true⟩,
      ⟨(some 24), .build [.int .i64 0, .int .i64 0] [(0, 1, (.t 20)), (1, 1, (.t 23))], none, false⟩,
      ⟨none, .store 2 (.t 4) (.t 24), none, false⟩])
    .ret))))⟩
def fn161 : AFunc := ⟨19, 1, [(2, none)],
 (.seq (.ops [⟨(some 1), .box (.t 0), none, false⟩,
   ⟨(some 2), .mov (.c (.int .i64 0)), none, false⟩])
 (.seq (.ops [⟨(some 4), .fadr 0 (.t 1), none, false⟩,
    ⟨(some 5), .load none (.t 4), none, false⟩,
    ⟨(some 6), .fadr 1 (.t 1), none, false⟩,
    ⟨(some 7), .load none (.t 6), none, false⟩,
    ⟨(some 8), .bin .quo (.t 5) (.t 7), none, false⟩,
    ⟨(some 3), .mov (.t 8), none, false⟩])
  (.seq (.seq (.ops [⟨(some 9), .mov (.t 3), none, false⟩,
      ⟨(some 10), .fadr 1 (.t 1), none, false⟩,
      ⟨(some 11), .load none (.t 10), none, false⟩,
      ⟨(some 12), .bin .mul (.t 9) (.t 11), none, false⟩,
      ⟨(some 13), .fadr 0 (.t 1), none, false⟩,
      ⟨(some 14), .load none (.t 13), none, false⟩,
      ⟨(some 15), .bin .gtr (.t 12) (.t 14), none, false⟩])
    (.cond (.t 15)
      (.ops [⟨(some 16), .mov (.t 3), none, false⟩,
       ⟨(some 17), .bin .sub (.t 16) (.c (.int .i64 1)), none, false⟩,
       ⟨(some 3), .mov (.t 17), none, false⟩])
      .skip))
   (.seq (.ops [⟨(some 18), .mov (.t 3), none, false⟩,
      ⟨(some 2), .mov (.t 18), none, false⟩])
    .ret))))⟩
def fn162 : AFunc := ⟨11, 1, [(2, none)],
 (.seq (.ops [⟨(some 1), .box (.t 0), none, false⟩,
   ⟨(some 2), .mov (.c (.int .i64 0)), none, false⟩])
 (.seq (.ops [⟨(some 3), .fadr 0 (.t 1), none, false⟩,
    ⟨(some 4), .load none (.t 3), none, false⟩,
    ⟨(some 5), .un .neg (.t 4), none, false⟩,
    ⟨(some 6), .fadr 1 (.t 1), none, false⟩,
    ⟨(some 7), .load none (.t 6), none, false⟩,
    ⟨(some 8), .build [.int .i64 0, .int .i64 0] [(0, 1, (.t 5)), (1, 1, (.t 7))], none, false⟩,
    ⟨(some 9), .call (.f 161) [(.t 8)], none, false⟩,
    ⟨(some 10), .un .neg (.t 9), none, false⟩,
    ⟨(some 2), .mov (.t 10), none, false⟩])
  .ret))⟩
def fn163 : AFunc := ⟨42, 1, [(2, none)],
 (.seq (.ops [⟨(some 2), .mov (.c (.bool false)), none, false⟩])
 (.seq (.seq (.ops [⟨(some 4), .mov (.t 0), none, false⟩,
     ⟨(some 5), .len .st (.t 4), none, false⟩,
     ⟨(some 6), .bin .eql (.t 5) (.c (.int .i64 0)), none, false⟩,
     ⟨(some 7), .mov (.t 6), none, false⟩,
     ⟨(some 8), .mov (.t 0), (some (7, false)), false⟩,
     ⟨(some 9), .len .st (.t 8), (some (7, false)), false⟩,
     ⟨(some 10), .bin .gtr (.t 9) (.c (.int .i64 24)), (some (7, false)), false⟩,
     ⟨(some 11), .pick (.t 7) (.c (.bool true)) (.t 10), none, false⟩,
     ⟨(some 12), .mov (.t 11), none, false⟩,
     ⟨(some 13), .mov (.t 0), (some (12, false)), false⟩,
     ⟨(some 14), .ixs (.t 13) (.c (.int .i64 0)), (some (12, false)), false⟩,
     ⟨(some 15), .call (.f 199) [(.t 14)], (some (12, false)), false⟩,
     ⟨(some 16), .un .not (.t 15), (some (12, false)), false⟩,
     ⟨(some 17), .pick (.t 12) (.c (.bool true)) (.t 16), none, false⟩])
   (.cond (.t 17)
     (.seq (.ops [⟨(some 2), .mov (.c (.bool false)), none, false⟩])
     .ret)
     .skip))
  (.seq (.seq (.ops [⟨(some 3), .mov (.c (.int .i64 1)), none, false⟩])
    (.block 0 (.loop (.seq (.seq (.ops [⟨(some 18), .mov (.t 3), none, false⟩,
          ⟨(some 19), .mov (.t 0), none, false⟩,
          ⟨(some 20), .len .st (.t 19), none, false⟩,
          ⟨(some 21), .bin .lss (.t 18) (.t 20), none, false⟩])
        (.cond (.t 21)
          .skip
          (.exit 0)))
       (.seq (.block 1 (.seq (.ops [⟨(some 24), .mov (.t 0), none, false⟩,
            ⟨(some 25), .mov (.t 3), none, false⟩,
            ⟨(some 26), .ixs (.t 24) (.t 25), none, false⟩,
            ⟨(some 27), .call (.f 199) [(.t 26)], none, false⟩,
            ⟨(some 28), .un .not (.t 27), none, false⟩,
            ⟨(some 29), .mov (.t 28), none, false⟩,
            ⟨(some 30), .mov (.t 0), (some (29, true)), false⟩,
            ⟨(some 31), .mov (.t 3), (some (29, true)), false⟩,
            ⟨(some 32), .ixs (.t 30) (.t 31), (some (29, true)), false⟩,
            ⟨(some 33), .call (.f 200) [(.t 32)], (some (29, true)), false⟩,
            ⟨(some 34), .un .not (.t 33), (some (29, true)), false⟩,
            ⟨(some 35), .pick (.t 29) (.t 34) (.c (.bool false)), none, false⟩,
            ⟨(some 36), .mov (.t 35), none, false⟩,
            ⟨(some 37), .mov (.t 0), (some (36, true)), false⟩,
            ⟨(some 38), .mov (.t 3), (some (36, true)), false⟩,
            ⟨(some 39), .ixs (.t 37) (.t 38), (some (36, true)), false⟩,
            ⟨(some 40), .bin .neq (.t 39) (.c (.int .u8 95)), (some (36, true)), false⟩,
            ⟨(some 41), .pick (.t 36) (.t 40) (.c (.bool false)), none, false⟩])
          (.cond (.t 41)
            (.seq (.ops [⟨(some 2), .mov (.c (.bool false)), none, false⟩])
            .ret)
            .skip)))
        (.ops [⟨(some 22), .mov (.t 3), none, false⟩,
          ⟨(some 23), .bin .add (.t 22) (.c (.int .i64 1)), none, false⟩,
          ⟨(some 3), .mov (.t 23), none, false⟩]))))))
   (.seq (.ops [⟨(some 2), .mov (.c (.bool true)), none, false⟩])
    .ret))))⟩
def fn164 : AFunc := ⟨16, 2, [(4, none)],
 (.seq (.ops [⟨(some 4), .mov (.c (.int .i64 0)), none, false⟩])
 (.seq (.block 0 (.loop (.seq (.seq (.ops [⟨(some 5), .mov (.t 1), none, false⟩,
        ⟨(some 6), .bin .neq (.t 5) (.c (.int .i64 0)), none, false⟩])
      (.cond (.t 6)
        .skip
        (.exit 0)))
     (.block 1 (.ops [⟨(some 7), .mov (.t 1), none, true⟩,
        ⟨(some 8), .mov (.t 0), none, true⟩,
        ⟨(some 9), .mov (.t 1), none, true⟩,
        ⟨(some 10), .bin .rem (.t 8) (.t 9), none, true⟩,
        ⟨(some 0), .mov (.t 7), none, true⟩,
        ⟨(some 1), .mov (.t 10), none, false⟩])))))
  (.seq (.seq (.ops [⟨(some 11), .mov (.t 0), none, false⟩,
      ⟨(some 12), .bin .lss (.t 11) (.c (.int .i64 0)), none, false⟩])
    (.cond (.t 12)
      (.seq (.ops [⟨(some 13), .mov (.t 0), none, false⟩,
        ⟨(some 14), .bin .sub (.c (.int .i64 0)) (.t 13), none, false⟩,
        ⟨(some 4), .mov (.t 14), none, false⟩])
      .ret)
      .skip))
   (.seq (.ops [⟨(some 15), .mov (.t 0), none, false⟩,
      ⟨(some 4), .mov (.t 15), none, false⟩])
    .ret))))⟩
def fn165 : AFunc := ⟨19, 2, [(4, none)],
 (.seq (.ops [⟨(some 4), .mov (.c (.int .i64 0)), none, false⟩])
 (.seq (.seq (.ops [⟨(some 6), .mov (.t 0), none, false⟩,
     ⟨(some 7), .len .sl (.t 6), none, false⟩,
     ⟨(some 8), .mov (.c (.int .i64 0)), none, false⟩])
   (.block 0 (.loop (.seq (.ops [⟨(some 9), .bin .lss (.t 8) (.t 7), none, false⟩])
      (.seq (.cond (.t 9)
         .skip
         (.exit 0))
       (.seq (.block 1 (.seq (.ops [⟨(some 10), .mov (.t 8), none, false⟩,
            ⟨(some 5), .mov (.t 10), none, false⟩])
          (.seq (.ops [⟨(some 11), .mov (.t 1), none, false⟩,
             ⟨(some 12), .mov (.t 0), none, false⟩,
             ⟨(some 13), .mov (.t 5), none, false⟩,
             ⟨(some 14), .iadr 3 (.t 12) (.t 13), none, false⟩,
             ⟨(some 15), .load (some 3) (.t 14), none, false⟩,
             ⟨(some 16), .call (.t 11) [(.t 15)], none, false⟩])
           (.cond (.t 16)
             (.seq (.ops [⟨(some 17), .mov (.t 5), none, false⟩,
               ⟨(some 4), .mov (.t 17), none, false⟩])
             .ret)
             .skip))))
        (.ops [⟨(some 18), .bin .add (.t 8) (.c (.int .i64 1)), none, false⟩,
          ⟨(some 8), .mov (.t 18), none, false⟩])))))))
  (.seq (.ops [⟨(some 4), .mov (.c (.int .i64 (-1))), none, false⟩])
   .ret)))⟩
def fn166 : AFunc := ⟨33, 1, [],
 (.seq (.ops [⟨(some 10), .load (some 3) (.t 1), none, false⟩,
   ⟨(some 11), .call (.f 167) [(.t 10)], none, false⟩,
   ⟨(some 9), .mov (.t 11), none, false⟩,
   ⟨(some 12), .ext (.t 9) 0, none, false⟩,
   ⟨(some 13), .ext (.t 9) 1, none, false⟩,
   ⟨(some 4), .mov (.t 12), none, false⟩,
   ⟨(some 5), .mov (.t 13), none, false⟩])
 (.seq (.ops [⟨(some 15), .load (some 3) (.t 2), none, false⟩,
    ⟨(some 16), .call (.f 167) [(.t 15)], none, false⟩,
    ⟨(some 14), .mov (.t 16), none, false⟩,
    ⟨(some 17), .ext (.t 14) 0, none, false⟩,
    ⟨(some 18), .ext (.t 14) 1, none, false⟩,
    ⟨(some 6), .mov (.t 17), none, false⟩,
    ⟨(some 7), .mov (.t 18), none, false⟩])
  (.seq (.ops [⟨(some 19), .mov (.t 4), none, false⟩,
     ⟨(some 20), .mov (.t 6), none, false⟩,
     ⟨(some 21), .mx (.t 19) [(.t 20)], none, false⟩,
     ⟨(some 8), .mov (.t 21), none, false⟩])
   (.block 0 (.loop (.seq (.seq (.ops [⟨(some 22), .mov (.t 8), none, false⟩,
         ⟨(some 23), .mov (.t 5), none, false⟩,
         ⟨(some 24), .mov (.t 7), none, false⟩,
         ⟨(some 25), .mn (.t 23) [(.t 24)], none, false⟩,
         ⟨(some 26), .bin .leq (.t 22) (.t 25), none, false⟩])
       (.cond (.t 26)
         .skip
         (.exit 0)))
      (.seq (.block 1 (.seq (.ops [⟨(some 29), .mov (.t 0), none, false⟩,
           ⟨(some 30), .mov (.t 8), none, false⟩,
           ⟨(some 31), .call (.t 29) [(.t 30)], none, false⟩,
           ⟨(some 32), .un .not (.t 31), none, false⟩])
         (.cond (.t 32)
           .ret
           .skip)))
       (.ops [⟨(some 27), .mov (.t 8), none, false⟩,
         ⟨(some 28), .bin .add (.t 27) (.c (.int .i64 1)), none, false⟩,
         ⟨(some 8), .mov (.t 28), none, false⟩]))))))))⟩
def fn167 : AFunc := ⟨18, 1, [(2, none), (3, none)],
 (.seq (.ops [⟨(some 1), .box (.t 0), none, false⟩,
   ⟨(some 2), .mov (.c (.int .i64 0)), none, false⟩,
   ⟨(some 3), .mov (.c (.int .i64 0)), none, false⟩])
 (.seq (.ops [⟨(some 4), .fadr 2 (.t 1), none, true⟩,
    ⟨(some 5), .load none (.t 4), none, true⟩,
    ⟨(some 6), .iadr 2 (.t 5) (.c (.int .i64 0)), none, true⟩,
    ⟨(some 7), .fadr 0 (.t 6), none, true⟩,
    ⟨(some 8), .load none (.t 7), none, true⟩,
    ⟨(some 9), .fadr 2 (.t 1), none, true⟩,
    ⟨(some 10), .load none (.t 9), none, true⟩,
    ⟨(some 11), .fadr 2 (.t 1), none, true⟩,
    ⟨(some 12), .load none (.t 11), none, true⟩,
    ⟨(some 13), .len .sl (.t 12), none, true⟩,
    ⟨(some 14), .bin .sub (.t 13) (.c (.int .i64 1)), none, true⟩,
    ⟨(some 15), .iadr 2 (.t 10) (.t 14), none, true⟩,
    ⟨(some 16), .fadr 0 (.t 15), none, true⟩,
    ⟨(some 17), .load none (.t 16), none, true⟩,
    ⟨(some 2), .mov (.t 8), none, true⟩,
    ⟨(some 3), .mov (.t 17), none, false⟩])
  .ret))⟩
def fn168 : AFunc := ⟨5, 1, [(2, none)],
 (.seq (.ops [⟨(some 1), .box (.t 0), none, false⟩,
   ⟨(some 2), .mov (.c (.int .i64 0)), none, false⟩])
 (.seq (.ops [⟨(some 3), .load (some 2) (.t 1), none, false⟩,
    ⟨(some 4), .call (.f 138) [(.t 3), (.c (.int .i64 1)), (.c (.int .i64 1000))], none, false⟩,
    ⟨(some 2), .mov (.t 4), none, false⟩])
  .ret))⟩
def fn169 : AFunc := ⟨8, 1, [(3, none)],
 (.seq (.ops [⟨(some 2), .box (.t 0), none, false⟩,
   ⟨(some 3), .mov (.c (.bool false)), none, false⟩])
 (.seq (.ops [⟨(some 4), .load (some 3) (.t 2), none, false⟩,
    ⟨(some 5), .load none (.t 1), none, false⟩,
    ⟨(some 6), .call (.f 157) [(.t 4), (.t 5)], none, false⟩,
    ⟨(some 7), .un .not (.t 6), none, false⟩,
    ⟨(some 3), .mov (.t 7), none, false⟩])
  .ret))⟩
def fn170 : AFunc := ⟨19, 2, [(4, none)],
 (.seq (.ops [⟨(some 4), .mov (.c (.int .i64 0)), none, false⟩])
 (.seq (.seq (.ops [⟨(some 6), .mov (.t 0), none, false⟩,
     ⟨(some 7), .len .sl (.t 6), none, false⟩,
     ⟨(some 8), .mov (.c (.int .i64 0)), none, false⟩])
   (.block 0 (.loop (.seq (.ops [⟨(some 9), .bin .lss (.t 8) (.t 7), none, false⟩])
      (.seq (.cond (.t 9)
         .skip
         (.exit 0))
       (.seq (.block 1 (.seq (.ops [⟨(some 10), .mov (.t 8), none, false⟩,
            ⟨(some 5), .mov (.t 10), none, false⟩])
          (.seq (.ops [⟨(some 11), .mov (.t 1), none, false⟩,
             ⟨(some 12), .mov (.t 0), none, false⟩,
             ⟨(some 13), .mov (.t 5), none, false⟩,
             ⟨(some 14), .iadr 4 (.t 12) (.t 13), none, false⟩,
             ⟨(some 15), .load (some 4) (.t 14), none, false⟩,
             ⟨(some 16), .call (.t 11) [(.t 15)], none, false⟩])
           (.cond (.t 16)
             (.seq (.ops [⟨(some 17), .mov (.t 5), none, false⟩,
               ⟨(some 4), .mov (.t 17), none, false⟩])
             .ret)
             .skip))))
        (.ops [⟨(some 18), .bin .add (.t 8) (.c (.int .i64 1)), none, false⟩,
          ⟨(some 8), .mov (.t 18), none, false⟩])))))))
  (.seq (.ops [⟨(some 4), .mov (.c (.int .i64 (-1))), none, false⟩])
   .ret)))⟩
def fn171 : AFunc := ⟨9, 1, [(2, none)],
 (.seq (.ops [⟨(some 2), .mov (.c (.nilSlice)), none, false⟩])
 (.seq (.ops [⟨(some 4), .mov (.t 0), none, false⟩,
    ⟨(some 5), .call (.f 201) [(.t 4)], none, false⟩,
    ⟨(some 3), .mov (.t 5), none, false⟩])
  (.seq (.ops [⟨(some 6), .mov (.t 3), none, false⟩,
     ⟨(some 7), .call (.f 182) [(.t 6)], none, false⟩])
   (.seq (.ops [⟨(some 8), .mov (.t 3), none, false⟩,
      ⟨(some 2), .mov (.t 8), none, false⟩])
    .ret))))⟩
def fn172 : AFunc := ⟨4, 1, [(2, none)],
 (.seq (.ops [⟨(some 1), .box (.t 0), none, false⟩,
   ⟨(some 2), .mov (.c (.nilFunc)), none, false⟩])
 (.seq (.ops [⟨(some 3), .mkfn (.func 202) [] [(.t 1)], none, false⟩,
    ⟨(some 2), .mov (.t 3), none, false⟩])
  .ret))⟩
def fn173 : AFunc := ⟨19, 2, [(4, none)],
 (.seq (.ops [⟨(some 4), .mov (.c (.int .i64 0)), none, false⟩])
 (.seq (.seq (.ops [⟨(some 6), .mov (.t 0), none, false⟩,
     ⟨(some 7), .len .sl (.t 6), none, false⟩,
     ⟨(some 8), .mov (.c (.int .i64 0)), none, false⟩])
   (.block 0 (.loop (.seq (.ops [⟨(some 9), .bin .lss (.t 8) (.t 7), none, false⟩])
      (.seq (.cond (.t 9)
         .skip
         (.exit 0))
       (.seq (.block 1 (.seq (.ops [⟨(some 10), .mov (.t 8), none, false⟩,
            ⟨(some 5), .mov (.t 10), none, false⟩])
          (.seq (.ops [⟨(some 11), .mov (.t 1), none, false⟩,
             ⟨(some 12), .mov (.t 0), none, false⟩,
             ⟨(some 13), .mov (.t 5), none, false⟩,
             ⟨(some 14), .iadr 1 (.t 12) (.t 13), none, false⟩,
             ⟨(some 15), .load none (.t 14), none, false⟩,
             ⟨(some 16), .call (.t 11) [(.t 15)], none, false⟩])
           (.cond (.t 16)
             (.seq (.ops [⟨(some 17), .mov (.t 5), none, false⟩,
               ⟨(some 4), .mov (.t 17), none, false⟩])
             .ret)
             .skip))))
        (.ops [⟨(some 18), .bin .add (.t 8) (.c (.int .i64 1)), none, false⟩,
          ⟨(some 8), .mov (.t 18), none, false⟩])))))))
  (.seq (.ops [⟨(some 4), .mov (.c (.int .i64 (-1))), none, false⟩])
   .ret)))⟩
def fn174 : AFunc := ⟨14, 1, [(5, none)],
 (.seq (.ops [⟨(some 5), .mov (.c (.bool false)), none, false⟩])
 (.seq (.ops [⟨(some 6), .load (some 3) (.t 1), none, true⟩,
    ⟨(some 7), .load none (.t 2), none, true⟩,
    ⟨(some 8), .load none (.t 3), none, true⟩,
    ⟨(some 9), .mov (.t 0), none, true⟩,
    ⟨(some 10), .call (.f 132) [(.t 6), (.t 7), (.t 8), (.t 9)], none, true⟩,
    ⟨(some 11), .load (some 3) (.t 1), none, true⟩,
    ⟨(some 12), .mkfn (.func 176) [(.t 11)] [], none, true⟩,
    ⟨(some 13), .call (.f 175) [(.t 10), (.t 12)], none, false⟩,
    ⟨(some 5), .mov (.t 13), none, false⟩])
  .ret))⟩
def fn175 : AFunc := ⟨9, 2, [(4, none)],
 (.seq (.ops [⟨(some 4), .mov (.c (.bool false)), none, false⟩])
 (.seq (.ops [⟨(some 5), .mov (.t 0), none, false⟩,
    ⟨(some 6), .mov (.t 1), none, false⟩,
    ⟨(some 7), .call (.f 173) [(.t 5), (.t 6)], none, false⟩,
    ⟨(some 8), .bin .geq (.t 7) (.c (.int .i64 0)), none, false⟩,
    ⟨(some 4), .mov (.t 8), none, false⟩])
  .ret))⟩
def fn176 : AFunc := ⟨10, 2, [(4, none)],
 (.seq (.ops [⟨(some 2), .box (.t 0), none, false⟩,
   ⟨(some 4), .mov (.c (.bool false)), none, false⟩])
 (.seq (.ops [⟨(some 5), .load (some 3) (.t 2), none, false⟩,
    ⟨(some 6), .mov (.t 1), none, false⟩,
    ⟨(some 7), .call (.f 180) [(.t 5), (.t 6)], none, false⟩,
    ⟨(some 8), .len .sl (.t 7), none, false⟩,
    ⟨(some 9), .bin .lss (.t 8) (.c (.int .i64 4)), none, false⟩,
    ⟨(some 4), .mov (.t 9), none, false⟩])
  .ret))⟩
def fn177 : AFunc := ⟨22, 2, [(4, none)],
 (.seq (.ops [⟨(some 4), .mov (.c (.nilSlice)), none, false⟩])
 (.seq (.ops [⟨(some 5), .mov (.c (.nilSlice)), none, false⟩])
  (.seq (.seq (.ops [⟨(some 8), .mov (.t 0), none, false⟩,
      ⟨(some 9), .len .sl (.t 8), none, false⟩,
      ⟨(some 10), .mov (.c (.int .i64 0)), none, false⟩])
    (.block 0 (.loop (.seq (.ops [⟨(some 11), .bin .lss (.t 10) (.t 9), none, false⟩])
       (.seq (.cond (.t 11)
          .skip
          (.exit 0))
        (.seq (.block 1 (.seq (.ops [⟨(some 12), .iadr 2 (.t 8) (.t 10), none, false⟩,
             ⟨(some 13), .load (some 2) (.t 12), none, false⟩,
             ⟨(some 7), .box (.c (.agg [.int .i64 0, .int .i64 0])), none, false⟩,
             ⟨none, .store 2 (.t 7) (.t 13), none, false⟩])
           (.ops [⟨(some 14), .mov (.t 5), none, false⟩,
             ⟨(some 15), .mov (.t 1), none, false⟩,
             ⟨(some 16), .load (some 2) (.t 7), none, false⟩,
             ⟨(some 17), .call (.t 15) [(.t 16)], none, false⟩,
             ⟨(some 18), .bslice 1 1 [.int .i64 0] [(0, (.t 17))], none, false⟩,
             ⟨(some 19), .app 1 8 (.t 14) (.t 18), none, false⟩,
             ⟨(some 5), .mov (.t 19), none, false⟩])))
         (.ops [⟨(some 20), .bin .add (.t 10) (.c (.int .i64 1)), none, false⟩,
           ⟨(some 10), .mov (.t 20), none, false⟩])))))))
   (.seq (.ops [⟨(some 21), .mov (.t 5), none, false⟩,
      ⟨(some 4), .mov (.t 21), none, false⟩])
    .ret))))⟩
def fn178 : AFunc := ⟨5, 1, [(2, none)],
 (.seq (.ops [⟨(some 1), .box (.t 0), none, false⟩,
   ⟨(some 2), .mov (.c (.int .i64 0)), none, false⟩])
 (.seq (.ops [⟨(some 3), .fadr 0 (.t 1), none, false⟩,
    ⟨(some 4), .load none (.t 3), none, false⟩,
    ⟨(some 2), .mov (.t 4), none, false⟩])
  .ret))⟩
def fn179 : AFunc := ⟨5, 1, [(2, none)],
 (.seq (.ops [⟨(some 1), .box (.t 0), none, false⟩,
   ⟨(some 2), .mov (.c (.int .i64 0)), none, false⟩])
 (.seq (.ops [⟨(some 3), .fadr 1 (.t 1), none, false⟩,
    ⟨(some 4), .load none (.t 3), none, false⟩,
    ⟨(some 2), .mov (.t 4), none, false⟩])
  .ret))⟩
def fn180 : AFunc := ⟨57, 2, [(4, none)],
 (.seq (.ops [⟨(some 2), .box (.t 0), none, false⟩,
   ⟨(some 4), .mov (.c (.nilSlice)), none, false⟩])
 (.seq (.ops [⟨(some 5), .mov (.c (.nilSlice)), none, false⟩])
  (.seq (.seq (.ops [⟨(some 10), .load (some 8) (.g 0), none, false⟩,
      ⟨(some 11), .mov (.c (.int .i64 0)), none, false⟩])
    (.block 0 (.loop (.seq (.ops [⟨(some 12), .bin .lss (.t 11) (.c (.int .i64 4)), none, false⟩])
       (.seq (.cond (.t 12)
          .skip
          (.exit 0))
        (.seq (.block 1 (.seq (.ops [⟨(some 13), .ixa 4 2 (some 2) (.t 10) (.t 11), none, false⟩,
             ⟨(some 7), .box (.c (.agg [.int .i64 0, .int .i64 0])), none, false⟩,
             ⟨none, .store 2 (.t 7) (.t 13), none, false⟩])
           (.seq (.ops [⟨(some 14), .mov (.t 1), none, true⟩,
              ⟨(some 15), .fadr 0 (.t 2), none, true⟩,
              ⟨(some 16), .load none (.t 15), none, true⟩,
              ⟨(some 17), .bin .rem (.t 14) (.t 16), none, true⟩,
              ⟨(some 18), .iada 2 1 (.t 7) (.c (.int .i64 0)), none, true⟩,
              ⟨(some 19), .load none (.t 18), none, true⟩,
              ⟨(some 20), .bin .add (.t 17) (.t 19), none, true⟩,
              ⟨(some 21), .mov (.t 1), none, true⟩,
              ⟨(some 22), .fadr 0 (.t 2), none, true⟩,
              ⟨(some 23), .load none (.t 22), none, true⟩,
              ⟨(some 24), .bin .quo (.t 21) (.t 23), none, true⟩,
              ⟨(some 25), .iada 2 1 (.t 7) (.c (.int .i64 1)), none, true⟩,
              ⟨(some 26), .load none (.t 25), none, true⟩,
              ⟨(some 27), .bin .add (.t 24) (.t 26), none, true⟩,
              ⟨(some 8), .mov (.t 20), none, true⟩,
              ⟨(some 9), .mov (.t 27), none, false⟩])
            (.seq (.ops [⟨(some 28), .mov (.t 8), none, false⟩,
               ⟨(some 29), .bin .geq (.t 28) (.c (.int .i64 0)), none, false⟩,
               ⟨(some 30), .mov (.t 29), none, false⟩,
               ⟨(some 31), .mov (.t 8), (some (30, true)), false⟩,
               ⟨(some 32), .fadr 0 (.t 2), (some (30, true)), false⟩,
               ⟨(some 33), .load none (.t 32), (some (30, true)), false⟩,
               ⟨(some 34), .bin .lss (.t 31) (.t 33), (some (30, true)), false⟩,
               ⟨(some 35), .pick (.t 30) (.t 34) (.c (.bool false)), none, false⟩,
               ⟨(some 36), .mov (.t 35), none, false⟩,
               ⟨(some 37), .mov (.t 9), (some (36, true)), false⟩,
               ⟨(some 38), .bin .geq (.t 37) (.c (.int .i64 0)), (some (36, true)), false⟩,
               ⟨(some 39), .pick (.t 36) (.t 38) (.c (.bool false)), none, false⟩,
               ⟨(some 40), .mov (.t 39), none, false⟩,
               ⟨(some 41), .mov (.t 9), (some (40, true)), false⟩,
               ⟨(some 42), .fadr 1 (.t 2), (some (40, true)), false⟩,
               ⟨(some 43), .load none (.t 42), (some (40, true)), false⟩,
               ⟨(some 44), .bin .lss (.t 41) (.t 43), (some (40, true)), false⟩,
               ⟨(some 45), .pick (.t 40) (.t 44) (.c (.bool false)), none, false⟩])
             (.cond (.t 45)
               (.ops [⟨(some 46), .mov (.t 5), none, false⟩,
                ⟨(some 47), .mov (.t 9), none, false⟩,
                ⟨(some 48), .fadr 0 (.t 2), none, false⟩,
                ⟨(some 49), .load none (.t 48), none, false⟩,
                ⟨(some 50), .bin .mul (.t 47) (.t 49), none, false⟩,
                ⟨(some 51), .mov (.t 8), none, false⟩,
                ⟨(some 52), .bin .add (.t 50) (.t 51), none, false⟩,
                ⟨(some 53), .bslice 1 1 [.int .i64 0] [(0, (.t 52))], none, false⟩,
                ⟨(some 54), .app 1 8 (.t 46) (.t 53), none, false⟩,
                ⟨(some 5), .mov (.t 54), none, false⟩])
               .skip)))))
         (.ops [⟨(some 55), .bin .add (.t 11) (.c (.int .i64 1)), none, false⟩,
           ⟨(some 11), .mov (.t 55), none, false⟩])))))))
   (.seq (.ops [⟨(some 56), .mov (.t 5), none, false⟩,
      ⟨(some 4), .mov (.t 56), none, false⟩])
    .ret))))⟩
def fn181 : AFunc := ⟨9, 2, [(4, none)],
 (.seq (.ops [⟨(some 4), .mov (.c (.bool false)), none, false⟩])
 (.seq (.ops [⟨(some 5), .mov (.t 0), none, false⟩,
    ⟨(some 6), .mov (.t 1), none, false⟩,
    ⟨(some 7), .call (.f 203) [(.t 5), (.t 6)], none, false⟩,
    ⟨(some 8), .bin .geq (.t 7) (.c (.int .i64 0)), none, false⟩,
    ⟨(some 4), .mov (.t 8), none, false⟩])
  .ret))⟩
def fn182 : AFunc := ⟨11, 1, [],
 (.seq (.ops [⟨(some 3), .mov (.t 0), none, false⟩,
   ⟨(some 4), .len .sl (.t 3), none, false⟩,
   ⟨(some 2), .mov (.t 4), none, false⟩])
 (.ops [⟨(some 5), .mov (.t 0), none, false⟩,
   ⟨(some 6), .mov (.t 2), none, false⟩,
   ⟨(some 7), .mov (.t 2), none, false⟩,
   ⟨(some 8), .conv (.i2i .u64) (.t 7), none, false⟩,
   ⟨(some 9), .call (.f 205) [(.t 8)], none, false⟩,
   ⟨(some 10), .call (.f 204) [(.t 5), (.c (.int .i64 0)), (.t 6), (.t 9)], none, false⟩]))⟩
def fn183 : AFunc := ⟨18, 1, [(2, none)],
 (.seq (.ops [⟨(some 2), .mov (.c (.int .i64 0)), none, false⟩])
 (.seq (.ops [⟨(some 3), .mov (.c (.int .i64 0)), none, false⟩])
  (.seq (.seq (.ops [⟨(some 6), .mov (.t 0), none, false⟩,
      ⟨(some 7), .len .sl (.t 6), none, false⟩,
      ⟨(some 8), .mov (.c (.int .i64 0)), none, false⟩])
    (.block 0 (.loop (.seq (.ops [⟨(some 9), .bin .lss (.t 8) (.t 7), none, false⟩])
       (.seq (.cond (.t 9)
          .skip
          (.exit 0))
        (.seq (.block 1 (.seq (.ops [⟨(some 10), .iadr 1 (.t 6) (.t 8), none, false⟩,
             ⟨(some 11), .load none (.t 10), none, false⟩,
             ⟨(some 5), .mov (.t 11), none, false⟩])
           (.seq (.ops [⟨(some 12), .mov (.t 5), none, false⟩,
              ⟨(some 13), .mov (.t 3), none, false⟩,
              ⟨(some 14), .bin .neq (.t 12) (.t 13), none, false⟩])
            (.cond (.t 14)
              (.seq (.ops [⟨(some 15), .mov (.t 5), none, false⟩,
                ⟨(some 2), .mov (.t 15), none, false⟩])
              .ret)
              .skip))))
         (.ops [⟨(some 16), .bin .add (.t 8) (.c (.int .i64 1)), none, false⟩,
           ⟨(some 8), .mov (.t 16), none, false⟩])))))))
   (.seq (.ops [⟨(some 17), .mov (.t 3), none, false⟩,
      ⟨(some 2), .mov (.t 17), none, false⟩])
    .ret))))⟩
def fn184 : AFunc := ⟨20, 2, [(4, none)],
 (.seq (.ops [⟨(some 4), .mov (.c (.int .i64 0)), none, false⟩])
 (.seq (.ops [⟨(some 7), .mov (.t 0), none, false⟩,
    ⟨(some 8), .call (.f 206) [(.t 7)], none, false⟩,
    ⟨(some 5), .mov (.t 8), none, false⟩])
  (.seq (.ops [⟨(some 9), .mov (.t 1), none, false⟩,
     ⟨(some 10), .call (.f 206) [(.t 9)], none, false⟩,
     ⟨(some 6), .mov (.t 10), none, false⟩])
   (.seq (.seq (.ops [⟨(some 11), .mov (.t 5), none, false⟩])
     (.cond (.t 11)
       (.seq (.seq (.ops [⟨(some 12), .mov (.t 6), none, false⟩])
        (.cond (.t 12)
          (.seq (.ops [⟨(some 4), .mov (.c (.int .i64 0)), none, false⟩])
          .ret)
          .skip))
       (.seq (.ops [⟨(some 4), .mov (.c (.int .i64 (-1))), none, false⟩])
        .ret))
       .skip))
    (.seq (.seq (.ops [⟨(some 13), .mov (.t 6), none, false⟩])
      (.cond (.t 13)
        (.seq (.ops [⟨(some 4), .mov (.c (.int .i64 1)), none, false⟩])
        .ret)
        .skip))
     (.seq (.seq (.ops [⟨(some 14), .mov (.t 0), none, false⟩,
         ⟨(some 15), .mov (.t 1), none, false⟩,
         ⟨(some 16), .bin .lss (.t 14) (.t 15), none, false⟩])
       (.cond (.t 16)
         (.seq (.ops [⟨(some 4), .mov (.c (.int .i64 (-1))), none, false⟩])
         .ret)
         .skip))
      (.seq (.seq (.ops [⟨(some 17), .mov (.t 0), none, false⟩,
          ⟨(some 18), .mov (.t 1), none, false⟩,
          ⟨(some 19), .bin .gtr (.t 17) (.t 18), none, false⟩])
        (.cond (.t 19)
          (.seq (.ops [⟨(some 4), .mov (.c (.int .i64 1)), none, false⟩])
          .ret)
          .skip))
       (.seq (.ops [⟨(some 4), .mov (.c (.int .i64 0)), none, false⟩])
        .ret))))))))⟩
def fn188 : AFunc := ⟨5, 1, [(2, none)],
 (.seq (.ops [⟨(some 2), .mov (.c (.str [])), none, false⟩])
 (.seq (.ops [⟨(some 3), .mov (.t 0), none, false⟩,
    ⟨(some 4), .call (.f 209) [(.t 3)], none, false⟩,
    ⟨(some 2), .mov (.t 4), none, false⟩])
  .ret))⟩
def fn189 : AFunc := ⟨22, 2, [(4, none)],
 (.seq (.ops [⟨(some 4), .mov (.c (.nilSlice)), none, false⟩])
 (.seq (.ops [⟨(some 5), .mov (.c (.nilSlice)), none, false⟩])
  (.seq (.seq (.ops [⟨(some 8), .mov (.t 0), none, false⟩,
      ⟨(some 9), .len .sl (.t 8), none, false⟩,
      ⟨(some 10), .mov (.c (.int .i64 0)), none, false⟩])
    (.block 0 (.loop (.seq (.ops [⟨(some 11), .bin .lss (.t 10) (.t 9), none, false⟩])
       (.seq (.cond (.t 11)
          .skip
          (.exit 0))
        (.seq (.block 1 (.seq (.ops [⟨(some 12), .iadr 2 (.t 8) (.t 10), none, false⟩,
             ⟨(some 13), .load (some 2) (.t 12), none, false⟩,
             ⟨(some 7), .box (.c (.agg [.int .i64 0, .int .i64 0])), none, false⟩,
             ⟨none, .store 2 (.t 7) (.t 13), none, false⟩])
           (.ops [⟨(some 14), .mov (.t 5), none, false⟩,
             ⟨(some 15), .mov (.t 1), none, false⟩,
             ⟨(some 16), .load (some 2) (.t 7), none, false⟩,
             ⟨(some 17), .call (.t 15) [(.t 16)], none, false⟩,
             ⟨(some 18), .bslice 1 1 [.str []] [(0, (.t 17))], none, false⟩,
             ⟨(some 19), .app 1 16 (.t 14) (.t 18), none, false⟩,
             ⟨(some 5), .mov (.t 19), none, false⟩])))
         (.ops [⟨(some 20), .bin .add (.t 10) (.c (.int .i64 1)), none, false⟩,
           ⟨(some 10), .mov (.t 20), none, false⟩])))))))
   (.seq (.ops [⟨(some 21), .mov (.t 5), none, false⟩,
      ⟨(some 4), .mov (.t 21), none, false⟩])
    .ret))))⟩
def fn190 : AFunc := ⟨13, 1, [(2, none)],
 (.seq (.ops [⟨(some 1), .box (.t 0), none, false⟩,
   ⟨(some 2), .mov (.c (.str [])), none, false⟩])
 (.seq (.ops [⟨(some 3), .fadr 0 (.t 1), none, true⟩,
    ⟨(some 4), .load none (.t 3), none, true⟩,
    ⟨(some 5), .call (.f 188) [(.t 4)], none, true⟩,
    ⟨(some 6), .bin .add (.c (.str [112, 105, 99, 107, 32])) (.t 5), none, true⟩,
    ⟨(some 7), .bin .add (.t 6) (.c (.str [32])), none, true⟩,
    ⟨(some 8), .fadr 1 (.t 1), none, true⟩,
    ⟨(some 9), .load none (.t 8), none, true⟩,
    ⟨(some 10), .call (.f 188) [(.t 9)], none, true⟩,
    ⟨(some 11), .bin .add (.t 7) (.t 10), none, false⟩,
    ⟨(some 12), .bin .add (.t 11) (.c (.str [10])), none, false⟩,
    ⟨(some 2), .mov (.t 12), none, false⟩])
  .ret))⟩
def fn199 : AFunc := ⟨17, 1, [(2, none)],
 (.seq (.ops [⟨(some 2), .mov (.c (.bool false)), none, false⟩])
 (.seq (.ops [⟨(some 3), .mov (.t 0), none, false⟩,
    ⟨(some 4), .bin .leq (.c (.int .u8 65)) (.t 3), none, false⟩,
    ⟨(some 5), .mov (.t 4), none, false⟩,
    ⟨(some 6), .mov (.t 0), (some (5, true)), false⟩,
    ⟨(some 7), .bin .leq (.t 6) (.c (.int .u8 90)), (some (5, true)), false⟩,
    ⟨(some 8), .pick (.t 5) (.t 7) (.c (.bool false)), none, false⟩,
    ⟨(some 9), .mov (.t 8), none, false⟩,
    ⟨(some 10), .mov (.t 0), (some (9, false)), false⟩,
    ⟨(some 11), .bin .leq (.c (.int .u8 97)) (.t 10), (some (9, false)), false⟩,
    ⟨(some 12), .mov (.t 11), (some (9, false)), false⟩,
    ⟨(some 13), .mov (.t 0), (some (12, true)), false⟩,
    ⟨(some 14), .bin .leq (.t 13) (.c (.int .u8 122)), (some (12, true)), false⟩,
    ⟨(some 15), .pick (.t 12) (.t 14) (.c (.bool false)), (some (9, false)), false⟩,
    ⟨(some 16), .pick (.t 9) (.c (.bool true)) (.t 15), none, false⟩,
    ⟨(some 2), .mov (.t 16), none, false⟩])
  .ret))⟩
def fn200 : AFunc := ⟨9, 1, [(2, none)],
 (.seq (.ops [⟨(some 2), .mov (.c (.bool false)), none, false⟩])
 (.seq (.ops [⟨(some 3), .mov (.t 0), none, false⟩,
    ⟨(some 4), .bin .leq (.c (.int .u8 48)) (.t 3), none, false⟩,
    ⟨(some 5), .mov (.t 4), none, false⟩,
    ⟨(some 6), .mov (.t 0), (some (5, true)), false⟩,
    ⟨(some 7), .bin .leq (.t 6) (.c (.int .u8 57)), (some (5, true)), false⟩,
    ⟨(some 8), .pick (.t 5) (.t 7) (.c (.bool false)), none, false⟩,
    ⟨(some 2), .mov (.t 8), none, false⟩])
  .ret))⟩
def fn201 : AFunc := ⟨5, 1, [(2, none)],
 (.seq (.ops [⟨(some 2), .mov (.c (.nilSlice)), none, false⟩])
 (.seq (.ops [⟨(some 3), .mov (.t 0), none, false⟩,
    ⟨(some 4), .call (.f 216) [(.c (.nilSlice)), (.t 3)], none, false⟩,
    ⟨(some 2), .mov (.t 4), none, false⟩])
  .ret))⟩
def fn202 : AFunc := ⟨16, 1, [],
 (.seq (.ops [⟨(some 5), .load none (.t 1), none, false⟩,
   ⟨(some 6), .len .sl (.t 5), none, false⟩,
   ⟨(some 7), .mov (.c (.int .i64 0)), none, false⟩])
 (.block 0 (.loop (.seq (.ops [⟨(some 8), .bin .lss (.t 7) (.t 6), none, false⟩])
    (.seq (.cond (.t 8)
       .skip
       (.exit 0))
     (.seq (.block 1 (.seq (.ops [⟨(some 9), .iadr 1 (.t 5) (.t 7), none, false⟩,
          ⟨(some 10), .load none (.t 9), none, false⟩,
          ⟨(some 4), .mov (.t 10), none, false⟩])
        (.seq (.ops [⟨(some 11), .mov (.t 0), none, false⟩,
           ⟨(some 12), .mov (.t 4), none, false⟩,
           ⟨(some 13), .call (.t 11) [(.t 12)], none, false⟩,
           ⟨(some 14), .un .not (.t 13), none, false⟩])
         (.cond (.t 14)
           .ret
           .skip))))
      (.ops [⟨(some 15), .bin .add (.t 7) (.c (.int .i64 1)), none, false⟩,
        ⟨(some 7), .mov (.t 15), none, false⟩])))))))⟩
def fn203 : AFunc := ⟨19, 2, [(4, none)],
 (.seq (.ops [⟨(some 4), .mov (.c (.int .i64 0)), none, false⟩])
 (.seq (.seq (.ops [⟨(some 6), .mov (.t 0), none, false⟩,
     ⟨(some 7), .len .sl (.t 6), none, false⟩,
     ⟨(some 8), .mov (.c (.int .i64 0)), none, false⟩])
   (.block 0 (.loop (.seq (.ops [⟨(some 9), .bin .lss (.t 8) (.t 7), none, false⟩])
      (.seq (.cond (.t 9)
         .skip
         (.exit 0))
       (.seq (.block 1 (.seq (.ops [⟨(some 10), .mov (.t 8), none, false⟩,
            ⟨(some 5), .mov (.t 10), none, false⟩])
          (.seq (.ops [⟨(some 11), .mov (.t 1), none, false⟩,
             ⟨(some 12), .mov (.t 0), none, false⟩,
             ⟨(some 13), .mov (.t 5), none, false⟩,
             ⟨(some 14), .iadr 1 (.t 12) (.t 13), none, false⟩,
             ⟨(some 15), .load none (.t 14), none, false⟩,
             ⟨(some 16), .bin .eql (.t 11) (.t 15), none, false⟩])
           (.cond (.t 16)
             (.seq (.ops [⟨(some 17), .mov (.t 5), none, false⟩,
               ⟨(some 4), .mov (.t 17), none, false⟩])
             .ret)
             .skip))))
        (.ops [⟨(some 18), .bin .add (.t 8) (.c (.int .i64 1)), none, false⟩,
          ⟨(some 8), .mov (.t 18), none, false⟩])))))))
  (.seq (.ops [⟨(some 4), .mov (.c (.int .i64 (-1))), none, false⟩])
   .ret)))⟩
def fn204 : AFunc := ⟨134, 4, [],
 (.seq (.ops [⟨(some 8), .mov (.c (.bool true)), none, false⟩])
 (.seq (.ops [⟨(some 9), .mov (.c (.bool true)), none, false⟩])
  (.block 0 (.loop (.block 1 (.seq (.ops [⟨(some 19), .mov (.t 2), none, false⟩,
        ⟨(some 20), .mov (.t 1), none, false⟩,
        ⟨(some 21), .bin .sub (.t 19) (.t 20), none, false⟩,
        ⟨(some 10), .mov (.t 21), none, false⟩])
      (.seq (.seq (.ops [⟨(some 22), .mov (.t 10), none, false⟩,
          ⟨(some 23), .bin .leq (.t 22) (.c (.int .i64 12)), none, false⟩])
        (.cond (.t 23)
          (.seq (.ops [⟨(some 24), .mov (.t 0), none, false⟩,
            ⟨(some 25), .mov (.t 1), none, false⟩,
            ⟨(some 26), .mov (.t 2), none, false⟩,
            ⟨(some 27), .call (.f 217) [(.t 24), (.t 25), (.t 26)], none, false⟩])
          .ret)
          .skip))
       (.seq (.seq (.ops [⟨(some 28), .mov (.t 3), none, false⟩,
           ⟨(some 29), .bin .eql (.t 28) (.c (.int .i64 0)), none, false⟩])
         (.cond (.t 29)
           (.seq (.ops [⟨(some 30), .mov (.t 0), none, false⟩,
             ⟨(some 31), .mov (.t 1), none, false⟩,
             ⟨(some 32), .mov (.t 2), none, false⟩,
             ⟨(some 33), .call (.f 218) [(.t 30), (.t 31), (.t 32)], none, false⟩])
           .ret)
           .skip))
        (.seq (.seq (.ops [⟨(some 34), .mov (.t 8), none, false⟩,
            ⟨(some 35), .un .not (.t 34), none, false⟩])
          (.cond (.t 35)
            (.seq (.ops [⟨(some 36), .mov (.t 0), none, false⟩,
              ⟨(some 37), .mov (.t 1), none, false⟩,
              ⟨(some 38), .mov (.t 2), none, false⟩,
              ⟨(some 39), .call (.f 219) [(.t 36), (.t 37), (.t 38)], none, false⟩])
            (.ops [⟨(some 40), .mov (.t 3), none, false⟩,
              ⟨(some 41), .bin .sub (.t 40) (.c (.int .i64 1)), none, false⟩,
              ⟨(some 3), .mov (.t 41), none, false⟩]))
            .skip))
         (.seq (.ops [⟨(some 43), .mov (.t 0), none, false⟩,
            ⟨(some 44), .mov (.t 1), none, false⟩,
            ⟨(some 45), .mov (.t 2), none, false⟩,
            ⟨(some 46), .call (.f 220) [(.t 43), (.t 44), (.t 45)], none, false⟩,
            ⟨(some 42), .mov (.t 46), none, false⟩,
            ⟨(some 47), .ext (.t 42) 0, none, false⟩,
            ⟨(some 48), .ext (.t 42) 1, none, false⟩,
            ⟨(some 11), .mov (.t 47), none, false⟩,
            ⟨(some 12), .mov (.t 48), none, false⟩])
          (.seq (.seq (.ops [⟨(some 49), .mov (.t 12), none, false⟩,
              ⟨(some 50), .bin .eql (.t 49) (.c (.int .i64 2)), none, false⟩])
            (.cond (.t 50)
              (.seq (.ops [⟨(some 51), .mov (.t 0), none, false⟩,
                ⟨(some 52), .mov (.t 1), none, false⟩,
                ⟨(some 53), .mov (.t 2), none, false⟩,
                ⟨(some 54), .call (.f 221) [(.t 51), (.t 52), (.t 53)], none, false⟩])
              (.seq (.ops [⟨(some 55), .mov (.t 2), none, false⟩,
                 ⟨(some 56), .bin .sub (.t 55) (.c (.int .i64 1)), none, false⟩,
                 ⟨(some 57), .mov (.t 11), none, false⟩,
                 ⟨(some 58), .mov (.t 1), none, false⟩,
                 ⟨(some 59), .bin .sub (.t 57) (.t 58), none, false⟩,
                 ⟨(some 60), .bin .sub (.t 56) (.t 59), none, false⟩,
                 ⟨(some 11), .mov (.t 60), none, false⟩])
               (.ops [⟨(some 12), .mov (.c (.int .i64 1)), none, false⟩])))
              .skip))
           (.seq (.seq (.ops [⟨(some 61), .mov (.t 8), none, false⟩,
               ⟨(some 62), .mov (.t 61), none, false⟩,
               ⟨(some 63), .mov (.t 9), (some (62, true)), false⟩,
               ⟨(some 64), .pick (.t 62) (.t 63) (.c (.bool false)), none, false⟩,
               ⟨(some 65), .mov (.t 64), none, false⟩,
               ⟨(some 66), .mov (.t 12), (some (65, true)), false⟩,
               ⟨(some 67), .bin .eql (.t 66) (.c (.int .i64 1)), (some (65, true)), false⟩,
               ⟨(some 68), .pick (.t 65) (.t 67) (.c (.bool false)), none, false⟩])
             (.cond (.t 68)
               (.seq (.ops [⟨(some 69), .mov (.t 0), none, false⟩,
                 ⟨(some 70), .mov (.t 1), none, false⟩,
                 ⟨(some 71), .mov (.t 2), none, false⟩,
                 ⟨(some 72), .call (.f 222) [(.t 69), (.t 70), (.t 71)], none, false⟩])
               (.cond (.t 72)
                 .ret
                 .skip))
               .skip))
            (.seq (.seq (.ops [⟨(some 73), .mov (.t 1), none, false⟩,
                ⟨(some 74), .bin .gtr (.t 73) (.c (.int .i64 0)), none, false⟩,
                ⟨(some 75), .mov (.t 74), none, false⟩,
                ⟨(some 76), .mov (.t 0), (some (75, true)), true⟩,
                ⟨(some 77), .mov (.t 1), (some (75, true)), true⟩,
                ⟨(some 78), .bin .sub (.t 77) (.c (.int .i64 1)), (some (75, true)), true⟩,
                ⟨(some 79), .iadr 1 (.t 76) (.t 78), (some (75, true)), true⟩,
                ⟨(some 80), .load none (.t 79), (some (75, true)), true⟩,
                ⟨(some 81), .mov (.t 0), (some (75, true)), true⟩,
                ⟨(some 82), .mov (.t 11), (some (75, true)), true⟩,
                ⟨(some 83), .iadr 1 (.t 81) (.t 82), (some (75, true)), true⟩,
                ⟨(some 84), .load none (.t 83), (some (75, true)), true⟩,
                ⟨(some 85), .call (.f 223) [(.t 80), (.t 84)], (some (75, true)), false⟩,
                ⟨(some 86), .un .not (.t 85), (some (75, true)), false⟩,
                ⟨(some 87), .pick (.t 75) (.t 86) (.c (.bool false)), none, false⟩])
              (.cond (.t 87)
                (.seq (.ops [⟨(some 88), .mov (.t 0), none, false⟩,
                  ⟨(some 89), .mov (.t 1), none, false⟩,
                  ⟨(some 90), .mov (.t 2), none, false⟩,
                  ⟨(some 91), .mov (.t 11), none, false⟩,
                  ⟨(some 92), .call (.f 224) [(.t 88), (.t 89), (.t 90), (.t 91)], none, false⟩,
                  ⟨(some 13), .mov (.t 92), none, false⟩])
                (.seq (.ops [⟨(some 93), .mov (.t 13), none, false⟩,
                   ⟨(some 1), .mov (.t 93), none, false⟩])
                 (.exit 1)))
                .skip))
             (.seq (.ops [⟨(some 95), .mov (.t 0), none, false⟩,
                ⟨(some 96), .mov (.t 1), none, false⟩,
                ⟨(some 97), .mov (.t 2), none, false⟩,
                ⟨(some 98), .mov (.t 11), none, false⟩,
                ⟨(some 99), .call (.f 225) [(.t 95), (.t 96), (.t 97), (.t 98)], none, false⟩,
                ⟨(some 94), .mov (.t 99), none, false⟩,
                ⟨(some 100), .ext (.t 94) 0, none, false⟩,
                ⟨(some 101), .ext (.t 94) 1, none, false⟩,
                ⟨(some 14), .mov (.t 100), none, false⟩,
                ⟨(some 15), .mov (.t 101), none, false⟩])
              (.seq (.ops [⟨(some 102), .mov (.t 15), none, false⟩,
                 ⟨(some 9), .mov (.t 102), none, false⟩])
               (.seq (.ops [⟨(some 103), .mov (.t 14), none, false⟩,
                  ⟨(some 104), .mov (.t 1), none, false⟩,
                  ⟨(some 105), .bin .sub (.t 103) (.t 104), none, false⟩,
                  ⟨(some 106), .mov (.t 2), none, false⟩,
                  ⟨(some 107), .mov (.t 14), none, false⟩,
                  ⟨(some 108), .bin .sub (.t 106) (.t 107), none, false⟩,
                  ⟨(some 16), .mov (.t 105), none, false⟩,
                  ⟨(some 17), .mov (.t 108), none, false⟩])
                (.seq (.ops [⟨(some 109), .mov (.t 10), none, false⟩,
                   ⟨(some 110), .bin .quo (.t 109) (.c (.int .i64 8)), none, false⟩,
                   ⟨(some 18), .mov (.t 110), none, false⟩])
                 (.seq (.ops [⟨(some 111), .mov (.t 16), none, false⟩,
                    ⟨(some 112), .mov (.t 17), none, false⟩,
                    ⟨(some 113), .bin .lss (.t 111) (.t 112), none, false⟩])
                  (.cond (.t 113)
                    (.seq (.ops [⟨(some 114), .mov (.t 16), none, false⟩,
                      ⟨(some 115), .mov (.t 18), none, false⟩,
                      ⟨(some 116), .bin .geq (.t 114) (.t 115), none, false⟩,
                      ⟨(some 8), .mov (.t 116), none, false⟩])
                    (.seq (.ops [⟨(some 117), .mov (.t 0), none, false⟩,
                       ⟨(some 118), .mov (.t 1), none, false⟩,
                       ⟨(some 119), .mov (.t 14), none, false⟩,
                       ⟨(some 120), .mov (.t 3), none, false⟩,
                       ⟨(some 121), .call (.f 204) [(.t 117), (.t 118), (.t 119), (.t 120)], none, false⟩])
                     (.ops [⟨(some 122), .mov (.t 14), none, false⟩,
                       ⟨(some 123), .bin .add (.t 122) (.c (.int .i64 1)), none, false⟩,
                       ⟨(some 1), .mov (.t 123), none, false⟩])))
                    (.seq (.ops [⟨(some 124), .mov (.t 17), none, false⟩,
                      ⟨(some 125), .mov (.t 18), none, false⟩,
                      ⟨(some 126), .bin .geq (.t 124) (.t 125), none, false⟩,
                      ⟨(some 8), .mov (.t 126), none, false⟩])
                    (.seq (.ops [⟨(some 127), .mov (.t 0), none, false⟩,
                       ⟨(some 128), .mov (.t 14), none, false⟩,
                       ⟨(some 129), .bin .add (.t 128) (.c (.int .i64 1)), none, false⟩,
                       ⟨(some 130), .mov (.t 2), none, false⟩,
                       ⟨(some 131), .mov (.t 3), none, false⟩,
                       ⟨(some 132), .call (.f 204) [(.t 127), (.t 129), (.t 130), (.t 131)], none, false⟩])
                     (.ops [⟨(some 133), .mov (.t 14), none, false⟩,
                       ⟨(some 2), .mov (.t 133), none, false⟩]))))))))))))))))))))))⟩
def fn205 : AFunc := ⟨8, 1, [(2, none)],
 (.seq (.ops [⟨(some 2), .mov (.c (.int .i64 0)), none, false⟩])
 (.seq (.cond (.c (.bool false))
    (.seq (.ops [⟨(some 3), .mov (.t 0), none, false⟩,
      ⟨(some 4), .conv (.i2i .u32) (.t 3), none, false⟩,
      ⟨(some 5), .call (.f 226) [(.t 4)], none, false⟩,
      ⟨(some 2), .mov (.t 5), none, false⟩])
    .ret)
    .skip)
  (.seq (.ops [⟨(some 6), .mov (.t 0), none, false⟩,
     ⟨(some 7), .call (.f 227) [(.t 6)], none, false⟩,
     ⟨(some 2), .mov (.t 7), none, false⟩])
   .ret)))⟩
def fn206 : AFunc := ⟨6, 1, [(2, none)],
 (.seq (.ops [⟨(some 2), .mov (.c (.bool false)), none, false⟩])
 (.seq (.ops [⟨(some 3), .mov (.t 0), none, false⟩,
    ⟨(some 4), .mov (.t 0), none, false⟩,
    ⟨(some 5), .bin .neq (.t 3) (.t 4), none, false⟩,
    ⟨(some 2), .mov (.t 5), none, false⟩])
  .ret))⟩
def fn209 : AFunc := ⟨5, 1, [(2, none)],
 (.seq (.ops [⟨(some 2), .mov (.c (.str [])), none, false⟩])
 (.seq (.ops [⟨(some 3), .mov (.t 0), none, false⟩,
    ⟨(some 4), .call (.f 230) [(.t 3), (.c (.int .i64 10))], none, false⟩,
    ⟨(some 2), .mov (.t 4), none, false⟩])
  .ret))⟩
def fn216 : AFunc := ⟨13, 2, [(4, none)],
 (.seq (.ops [⟨(some 2), .box (.t 0), none, false⟩,
   ⟨(some 4), .mov (.c (.nilSlice)), none, false⟩])
 (.seq (.seq (.ops [⟨(some 6), .mov (.t 1), none, false⟩])
   (.block 0 (.rangeF (.t 6) [7] (.ops [⟨(some 5), .mov (.t 7), none, false⟩])
     (.block 1 (.ops [⟨(some 8), .load none (.t 2), none, false⟩,
        ⟨(some 9), .mov (.t 5), none, false⟩,
        ⟨(some 10), .bslice 1 1 [.int .i64 0] [(0, (.t 9))], none, false⟩,
        ⟨(some 11), .app 1 8 (.t 8) (.t 10), none, false⟩,
        ⟨none, .store 1 (.t 2) (.t 11), none, false⟩])))))
  (.seq (.ops [⟨(some 12), .load none (.t 2), none, false⟩,
     ⟨(some 4), .mov (.t 12), none, false⟩])
   .ret)))⟩
def fn217 : AFunc := ⟨49, 3, [],
 (.seq (.ops [⟨(some 8), .mov (.t 1), none, false⟩,
   ⟨(some 9), .bin .add (.t 8) (.c (.int .i64 1)), none, false⟩,
   ⟨(some 6), .mov (.t 9), none, false⟩])
 (.block 0 (.loop (.seq (.seq (.ops [⟨(some 10), .mov (.t 6), none, false⟩,
       ⟨(some 11), .mov (.t 2), none, false⟩,
       ⟨(some 12), .bin .lss (.t 10) (.t 11), none, false⟩])
     (.cond (.t 12)
       .skip
       (.exit 0)))
    (.seq (.block 1 (.seq (.ops [⟨(some 15), .mov (.t 6), none, false⟩,
         ⟨(some 7), .mov (.t 15), none, false⟩])
       (.block 2 (.loop (.seq (.seq (.ops [⟨(some 16), .mov (.t 7), none, true⟩,
             ⟨(some 17), .mov (.t 1), none, true⟩,
             ⟨(some 18), .bin .gtr (.t 16) (.t 17), none, false⟩,
             ⟨(some 19), .mov (.t 18), none, false⟩,
             ⟨(some 20), .mov (.t 0), (some (19, true)), true⟩,
             ⟨(some 21), .mov (.t 7), (some (19, true)), true⟩,
             ⟨(some 22), .iadr 1 (.t 20) (.t 21), (some (19, true)), true⟩,
             ⟨(some 23), .load none (.t 22), (some (19, true)), true⟩,
             ⟨(some 24), .mov (.t 0), (some (19, true)), true⟩,
             ⟨(some 25), .mov (.t 7), (some (19, true)), true⟩,
             ⟨(some 26), .bin .sub (.t 25) (.c (.int .i64 1)), (some (19, true)), true⟩,
             ⟨(some 27), .iadr 1 (.t 24) (.t 26), (some (19, true)), true⟩,
             ⟨(some 28), .load none (.t 27), (some (19, true)), true⟩,
             ⟨(some 29), .call (.f 223) [(.t 23), (.t 28)], (some (19, true)), false⟩,
             ⟨(some 30), .pick (.t 19) (.t 29) (.c (.bool false)), none, false⟩])
           (.cond (.t 30)
             .skip
             (.exit 2)))
          (.seq (.block 3 (.ops [⟨(some 33), .mov (.t 0), none, true⟩,
              ⟨(some 34), .mov (.t 7), none, true⟩,
              ⟨(some 35), .mov (.t 0), none, true⟩,
              ⟨(some 36), .mov (.t 7), none, true⟩,
              ⟨(some 37), .bin .sub (.t 36) (.c (.int .i64 1)), none, true⟩,
              ⟨(some 38), .mov (.t 0), none, true⟩,
              ⟨(some 39), .mov (.t 7), none, true⟩,
              ⟨(some 40), .bin .sub (.t 39) (.c (.int .i64 1)), none, true⟩,
              ⟨(some 41), .iadr 1 (.t 38) (.t 40), none, true⟩,
              ⟨(some 42), .load none (.t 41), none, true⟩,
              ⟨(some 43), .mov (.t 0), none, true⟩,
              ⟨(some 44), .mov (.t 7), none, true⟩,
              ⟨(some 45), .iadr 1 (.t 43) (.t 44), none, true⟩,
              ⟨(some 46), .load none (.t 45), none, true⟩,
              ⟨(some 47), .iadr 1 (.t 33) (.t 34), none, true⟩,
              ⟨none, .store 1 (.t 47) (.t 42), none, true⟩,
              ⟨(some 48), .iadr 1 (.t 35) (.t 37), none, false⟩,
              ⟨none, .store 1 (.t 48) (.t 46), none, false⟩]))
           (.ops [⟨(some 31), .mov (.t 7), none, false⟩,
             ⟨(some 32), .bin .sub (.t 31) (.c (.int .i64 1)), none, false⟩,
             ⟨(some 7), .mov (.t 32), none, false⟩])))))))
     (.ops [⟨(some 13), .mov (.t 6), none, false⟩,
       ⟨(some 14), .bin .add (.t 13) (.c (.int .i64 1)), none, false⟩,
       ⟨(some 6), .mov (.t 14), none, false⟩]))))))⟩
def fn223 : AFunc := ⟨17, 2, [(4, none)],
 (.seq (.ops [⟨(some 4), .mov (.c (.bool false)), none, false⟩])
 (.seq (.ops [⟨(some 5), .mov (.t 0), none, false⟩,
    ⟨(some 6), .call (.f 206) [(.t 5)], none, false⟩,
    ⟨(some 7), .mov (.t 6), none, false⟩,
    ⟨(some 8), .mov (.t 1), (some (7, true)), false⟩,
    ⟨(some 9), .call (.f 206) [(.t 8)], (some (7, true)), false⟩,
    ⟨(some 10), .un .not (.t 9), (some (7, true)), false⟩,
    ⟨(some 11), .pick (.t 7) (.t 10) (.c (.bool false)), none, false⟩,
    ⟨(some 12), .mov (.t 11), none, false⟩,
    ⟨(some 13), .mov (.t 0), (some (12, false)), false⟩,
    ⟨(some 14), .mov (.t 1), (some (12, false)), false⟩,
    ⟨(some 15), .bin .lss (.t 13) (.t 14), (some (12, false)), false⟩,
    ⟨(some 16), .pick (.t 12) (.c (.bool true)) (.t 15), none, false⟩,
    ⟨(some 4), .mov (.t 16), none, false⟩])
  .ret))⟩
def fn227 : AFunc := ⟨25, 1, [(2, none)],
 (.seq (.ops [⟨(some 2), .mov (.c (.int .i64 0)), none, false⟩])
 (.seq (.seq (.ops [⟨(some 3), .mov (.t 0), none, false⟩,
     ⟨(some 4), .bin .geq (.t 3) (.c (.int .u64 4294967296)), none, false⟩])
   (.cond (.t 4)
     (.seq (.ops [⟨(some 5), .mov (.t 0), none, false⟩,
       ⟨(some 6), .bin .shr (.t 5) (.c (.int .u64 32)), none, false⟩,
       ⟨(some 0), .mov (.t 6), none, false⟩])
     (.ops [⟨(some 2), .mov (.c (.int .i64 32)), none, false⟩]))
     .skip))
  (.seq (.seq (.ops [⟨(some 7), .mov (.t 0), none, false⟩,
      ⟨(some 8), .bin .geq (.t 7) (.c (.int .u64 65536)), none, false⟩])
    (.cond (.t 8)
      (.seq (.ops [⟨(some 9), .mov (.t 0), none, false⟩,
        ⟨(some 10), .bin .shr (.t 9) (.c (.int .u64 16)), none, false⟩,
        ⟨(some 0), .mov (.t 10), none, false⟩])
      (.ops [⟨(some 11), .mov (.t 2), none, false⟩,
        ⟨(some 12), .bin .add (.t 11) (.c (.int .i64 16)), none, false⟩,
        ⟨(some 2), .mov (.t 12), none, false⟩]))
      .skip))
   (.seq (.seq (.ops [⟨(some 13), .mov (.t 0), none, false⟩,
       ⟨(some 14), .bin .geq (.t 13) (.c (.int .u64 256)), none, false⟩])
     (.cond (.t 14)
       (.seq (.ops [⟨(some 15), .mov (.t 0), none, false⟩,
         ⟨(some 16), .bin .shr (.t 15) (.c (.int .u64 8)), none, false⟩,
         ⟨(some 0), .mov (.t 16), none, false⟩])
       (.ops [⟨(some 17), .mov (.t 2), none, false⟩,
         ⟨(some 18), .bin .add (.t 17) (.c (.int .i64 8)), none, false⟩,
         ⟨(some 2), .mov (.t 18), none, false⟩]))
       .skip))
    (.seq (.ops [⟨(some 19), .mov (.t 2), none, false⟩,
       ⟨(some 20), .mov (.t 0), none, false⟩,
       ⟨(some 21), .conv (.i2i .u8) (.t 20), none, false⟩,
       ⟨(some 22), .ixs (.c (.str [0, 1, 2, 2, 3, 3, 3, 3, 4, 4, 4, 4, 4, 4, 4, 4, 5, 5, 5, 5, 5, 5, 5, 5, 5, 5, 5, 5, 5, 5, 5, 5, 6, 6, 6, 6, 6, 6, 6, 6, 6, 6, 6, 6, 6, 6, 6, 6, 6, 6, 6, 6, 6, 6, 6, 6, 6, 6, 6, 6, 6, 6, 6, 6, 7, 7, 7, 7, 7, 7, 7, 7, 7, 7, 7, 7, 7, 7, 7, 7, 7, 7, 7, 7, 7, 7, 7, 7, 7, 7, 7, 7, 7, 7, 7, 7, 7, 7, 7, 7, 7, 7, 7, 7, 7, 7, 7, 7, 7, 7, 7, 7, 7, 7, 7, 7, 7, 7, 7, 7, 7, 7, 7, 7, 7, 7, 7, 7, 8, 8, 8, 8, 8, 8, 8, 8, 8, 8, 8, 8, 8, 8, 8, 8, 8, 8, 8, 8, 8, 8, 8, 8, 8, 8, 8, 8, 8, 8, 8, 8, 8, 8, 8, 8, 8, 8, 8, 8, 8, 8, 8, 8, 8, 8, 8, 8, 8, 8, 8, 8, 8, 8, 8, 8, 8, 8, 8, 8, 8, 8, 8, 8, 8, 8, 8, 8, 8, 8, 8, 8, 8, 8, 8, 8, 8, 8, 8, 8, 8, 8, 8, 8, 8, 8, 8, 8, 8, 8, 8, 8, 8, 8, 8, 8, 8, 8, 8, 8, 8, 8, 8, 8, 8, 8, 8, 8, 8, 8, 8, 8, 8, 8, 8, 8, 8, 8, 8, 8, 8, 8, 8, 8, 8, 8, 8, 8])) (.t 21), none, false⟩,
       ⟨(some 23), .conv (.i2i .i64) (.t 22), none, false⟩,
       ⟨(some 24), .bin .add (.t 19) (.t 23), none, false⟩,
       ⟨(some 2), .mov (.t 24), none, false⟩])
     .ret)))))⟩
def fn230 : AFunc := ⟨54, 2, [(4, none)],
 (.seq (.ops [⟨(some 4), .mov (.c (.str [])), none, false⟩])
 (.seq (.seq (.ops [⟨(some 10), .mov (.t 1), none, false⟩,
     ⟨(some 11), .bin .eql (.t 10) (.c (.int .i64 10)), none, false⟩])
   (.cond (.t 11)
     (.seq (.seq (.ops [⟨(some 12), .mov (.t 0), none, false⟩,
        ⟨(some 13), .bin .leq (.c (.int .i64 0)) (.t 12), none, false⟩,
        ⟨(some 14), .mov (.t 13), none, false⟩,
        ⟨(some 15), .mov (.t 0), (some (14, true)), false⟩,
        ⟨(some 16), .bin .lss (.t 15) (.c (.int .i64 100)), (some (14, true)), false⟩,
        ⟨(some 17), .pick (.t 14) (.t 16) (.c (.bool false)), none, false⟩])
      (.cond (.t 17)
        (.seq (.ops [⟨(some 18), .mov (.t 0), none, false⟩,
          ⟨(some 19), .call (.f 240) [(.t 18)], none, false⟩,
          ⟨(some 4), .mov (.t 19), none, false⟩])
        .ret)
        .skip))
     (.seq (.ops [⟨(some 5), .box (.c (.agg [.int .u8 0, .int .u8 0, .int .u8 0, .int .u8 0, .int .u8 0, .int .u8 0, .int .u8 0, .int .u8 0, .int .u8 0, .int .u8 0, .int .u8 0, .int .u8 0, .int .u8 0, .int .u8 0, .int .u8 0, .int .u8 0, .int .u8 0, .int .u8 0, .int .u8 0, .int .u8 0, .int .u8 0, .int .u8 0, .int .u8 0, .int .u8 0])), none, false⟩])
      (.seq (.ops [⟨(some 20), .mov (.t 0), none, false⟩,
         ⟨(some 21), .conv (.i2i .u64) (.t 20), none, false⟩,
         ⟨(some 6), .mov (.t 21), none, false⟩])
       (.seq (.seq (.ops [⟨(some 22), .mov (.t 0), none, false⟩,
           ⟨(some 23), .bin .lss (.t 22) (.c (.int .i64 0)), none, false⟩])
         (.cond (.t 23)
           (.ops [⟨(some 24), .mov (.t 6), none, false⟩,
            ⟨(some 25), .un .neg (.t 24), none, false⟩,
            ⟨(some 6), .mov (.t 25), none, false⟩])
           .skip))
        (.seq (.ops [⟨(some 26), .mov (.t 6), none, false⟩,
           ⟨(some 27), .call (.f 241) [(.t 26)], none, false⟩,
           ⟨(some 7), .mov (.t 27), none, false⟩])
         (.seq (.ops [⟨(some 28), .mov (.t 7), none, false⟩,
            ⟨(some 29), .bin .add (.c (.int .i64 1)) (.t 28), none, false⟩,
            ⟨(some 30), .sla 24 1 (.t 5) (some (.c (.int .i64 1))) (some (.t 29)), none, false⟩,
            ⟨(some 31), .mov (.t 6), none, false⟩,
            ⟨(some 32), .call (.f 242) [(.t 30), (.t 31)], none, false⟩])
          (.seq (.seq (.ops [⟨(some 33), .mov (.t 0), none, false⟩,
              ⟨(some 34), .bin .lss (.t 33) (.c (.int .i64 0)), none, false⟩])
            (.cond (.t 34)
              (.seq (.ops [⟨(some 35), .iada 24 1 (.t 5) (.c (.int .i64 0)), none, false⟩,
                ⟨none, .store 1 (.t 35) (.c (.int .u8 45)), none, false⟩])
              (.seq (.ops [⟨(some 36), .mov (.t 7), none, false⟩,
                 ⟨(some 37), .bin .add (.c (.int .i64 1)) (.t 36), none, false⟩,
                 ⟨(some 38), .sla 24 1 (.t 5) none (some (.t 37)), none, false⟩,
                 ⟨(some 39), .conv .b2s (.t 38), none, false⟩,
                 ⟨(some 4), .mov (.t 39), none, false⟩])
               .ret))
              .skip))
           (.seq (.ops [⟨(some 40), .mov (.t 7), none, false⟩,
              ⟨(some 41), .bin .add (.c (.int .i64 1)) (.t 40), none, false⟩,
              ⟨(some 42), .sla 24 1 (.t 5) (some (.c (.int .i64 1))) (some (.t 41)), none, false⟩,
              ⟨(some 43), .conv .b2s (.t 42), none, false⟩,
              ⟨(some 4), .mov (.t 43), none, false⟩])
            .ret))))))))
     .skip))
  (.seq (.ops [⟨(some 45), .mov (.t 0), none, false⟩,
     ⟨(some 46), .conv (.i2i .u64) (.t 45), none, false⟩,
     ⟨(some 47), .mov (.t 1), none, false⟩,
     ⟨(some 48), .mov (.t 0), none, false⟩,
     ⟨(some 49), .bin .lss (.t 48) (.c (.int .i64 0)), none, false⟩,
     ⟨(some 50), .call (.f 243) [(.c (.nilSlice)), (.t 46), (.t 47), (.t 49), (.c (.bool false))], none, false⟩,
     ⟨(some 44), .mov (.t 50), none, false⟩,
     ⟨(some 51), .ext (.t 44) 0, none, false⟩,
     ⟨(some 52), .ext (.t 44) 1, none, false⟩,
     ⟨(some 8), .mov (.t 51), none, false⟩,
     ⟨(some 9), .mov (.t 52), none, false⟩])
   (.seq (.ops [⟨(some 53), .mov (.t 9), none, false⟩,
      ⟨(some 4), .mov (.t 53), none, false⟩])
    .ret))))⟩
def fn240 : AFunc := ⟨15, 1, [(2, none)],
 (.seq (.ops [⟨(some 2), .mov (.c (.str [])), none, false⟩])
 (.seq (.seq (.ops [⟨(some 3), .mov (.t 0), none, false⟩,
     ⟨(some 4), .bin .lss (.t 3) (.c (.int .i64 10)), none, false⟩])
   (.cond (.t 4)
     (.seq (.ops [⟨(some 5), .mov (.t 0), none, false⟩,
       ⟨(some 6), .mov (.t 0), none, false⟩,
       ⟨(some 7), .bin .add (.t 6) (.c (.int .i64 1)), none, false⟩,
       ⟨(some 8), .sls (.c (.str [48, 49, 50, 51, 52, 53, 54, 55, 56, 57, 97, 98, 99, 100, 101, 102, 103, 104, 105, 106, 107, 108, 109, 110, 111, 112, 113, 114, 115, 116, 117, 118, 119, 120, 121, 122])) (some (.t 5)) (some (.t 7)), none, false⟩,
       ⟨(some 2), .mov (.t 8), none, false⟩])
     .ret)
     .skip))
  (.seq (.ops [⟨(some 9), .mov (.t 0), none, false⟩,
     ⟨(some 10), .bin .mul (.t 9) (.c (.int .i64 2)), none, false⟩,
     ⟨(some 11), .mov (.t 0), none, false⟩,
     ⟨(some 12), .bin .mul (.t 11) (.c (.int .i64 2)), none, false⟩,
     ⟨(some 13), .bin .add (.t 12) (.c (.int .i64 2)), none, false⟩,
     ⟨(some 14), .sls (.c (.str [48, 48, 48, 49, 48, 50, 48, 51, 48, 52, 48, 53, 48, 54, 48, 55, 48, 56, 48, 57, 49, 48, 49, 49, 49, 50, 49, 51, 49, 52, 49, 53, 49, 54, 49, 55, 49, 56, 49, 57, 50, 48, 50, 49, 50, 50, 50, 51, 50, 52, 50, 53, 50, 54, 50, 55, 50, 56, 50, 57, 51, 48, 51, 49, 51, 50, 51, 51, 51, 52, 51, 53, 51, 54, 51, 55, 51, 56, 51, 57, 52, 48, 52, 49, 52, 50, 52, 51, 52, 52, 52, 53, 52, 54, 52, 55, 52, 56, 52, 57, 53, 48, 53, 49, 53, 50, 53, 51, 53, 52, 53, 53, 53, 54, 53, 55, 53, 56, 53, 57, 54, 48, 54, 49, 54, 50, 54, 51, 54, 52, 54, 53, 54, 54, 54, 55, 54, 56, 54, 57, 55, 48, 55, 49, 55, 50, 55, 51, 55, 52, 55, 53, 55, 54, 55, 55, 55, 56, 55, 57, 56, 48, 56, 49, 56, 50, 56, 51, 56, 52, 56, 53, 56, 54, 56, 55, 56, 56, 56, 57, 57, 48, 57, 49, 57, 50, 57, 51, 57, 52, 57, 53, 57, 54, 57, 55, 57, 56, 57, 57])) (some (.t 10)) (some (.t 13)), none, false⟩,
     ⟨(some 2), .mov (.t 14), none, false⟩])
   .ret)))⟩
end Go.Abs
