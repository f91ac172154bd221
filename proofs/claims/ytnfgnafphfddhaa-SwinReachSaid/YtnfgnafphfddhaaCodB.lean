import Derived.Test.YtnfgnafphfddhaaProg
import Derived.Test.YtnfgnafphfddhaaSimD
import Derived.KernelRfl
namespace Go.Proofs.Ytnfgnafphfddhaa.Cod
open Go Go.Sim Go.Proofs
set_option maxRecDepth 100000
abbrev r13 : List AR := [.t 6]
abbrev a13 : ACode :=
  (.seq
   (.reg [⟨(some 6), none, [], [], .mv (.k (.sc (.bool false)))⟩] (some [0, 1, 2]))
   (.seq
    (.reg [⟨(some 19), none, [], [], .mv (.t 0)⟩,
      ⟨(some 20), none, [], [], .mv (.t 1)⟩,
      ⟨(some 21), none, [], [], .cal (.k (.fn 51 [])) [(.t 19), (.t 20)]⟩,
      ⟨(some 18), none, [], [], .mv (.t 21)⟩,
      ⟨(some 22), none, [], [], .ext (.t 18) 0⟩,
      ⟨(some 23), none, [], [], .ext (.t 18) 1⟩,
      ⟨(some 7), none, [], [], .alc [(.sc (.int .i64 (0))), .nl, .nl]⟩,
      ⟨none, none, [], [], .sto 3 (.t 7) (.t 22)⟩,
      ⟨(some 8), none, [], [], .mv (.t 23)⟩] (some [0, 2, 7, 8]))
    (.seq
     (.seq
      (.reg [⟨(some 24), none, [], [], .mv (.t 8)⟩,
        ⟨(some 25), none, [], [], .bin .neq false (.t 24) (.k (.sc (.int .i64 (0))))⟩,
        ⟨(some 26), none, [], [], .mv (.t 25)⟩,
        ⟨(some 27), (some (26, false)), [], [], .mv (.t 0)⟩,
        ⟨(some 28), (some (26, false)), [], [], .bin .gtr false (.t 27) (.k (.sc (.int .i64 (20000))))⟩,
        ⟨(some 29), none, [], [], .pick (.t 26) (.k (.sc (.bool true))) (.t 28)⟩] (some [0, 2, 7, 29]))
      (.cond (.t 29)
       (.keep []
        (.seq
         (.reg [⟨(some 30), none, [], [], .cal (.k (.fn 52 [])) []⟩,
           ⟨(some 6), none, [], [], .mv (.t 30)⟩] (some [6]))
         .ret))
       (.keep [0, 2, 7]
        .skip)))
     (.seq
      (.seq
       (.reg [⟨(some 31), none, [], [], .mv (.t 2)⟩,
         ⟨(some 32), none, [], [], .cal (.k (.fn 57 [])) [(.t 31)]⟩,
         ⟨(some 33), none, [], [], .lenL (.t 32)⟩,
         ⟨(some 34), none, [], [], .mv (.k (.sc (.int .i64 (0))))⟩] (some [0, 7, 32, 33, 34]))
       (.block 0
        (.loop
         (.seq
          (.reg [⟨(some 35), none, [], [], .bin .lss false (.t 34) (.t 33)⟩] none)
          (.seq
           (.cond (.t 35)
            (.keep [0, 7, 32, 33, 34]
             .skip)
            (.exit 0))
           (.seq
            (.block 1
             (.seq
              (.reg [⟨(some 36), none, [], [], .ixaS 3 (.t 32) (.t 34)⟩,
                ⟨(some 37), none, [], [], .ld true 3 (.t 36)⟩,
                ⟨(some 10), none, [], [], .alc [(.sc (.int .u8 (0))), (.sc (.int .i64 (0))), .nl]⟩,
                ⟨none, none, [], [], .sto 3 (.t 10) (.t 37)⟩] (some [0, 7, 10, 32, 33, 34]))
              (.seq
               (.regD [⟨(some 38), none, [(.t 7)], [], .ld true 3 (.t 7)⟩,
                 ⟨(some 39), none, [(.k (.fn 58 [])), (.t 38)], [], .cal (.k (.fn 58 [])) [(.t 38)]⟩,
                 ⟨(some 40), none, [(.t 7)], [0, 1], .ld true 3 (.t 7)⟩,
                 ⟨(some 41), none, [(.k (.fn 59 [])), (.t 40)], [], .cal (.k (.fn 59 [])) [(.t 40)]⟩,
                 ⟨(some 11), none, [(.t 39)], [], .mv (.t 39)⟩,
                 ⟨(some 12), none, [(.t 41)], [], .mv (.t 41)⟩] (some [0, 7, 10, 11, 12, 32, 33, 34]))
               (.seq
                (.seq
                 (.reg [⟨(some 42), none, [], [], .fa 0 (.t 10)⟩,
                   ⟨(some 43), none, [], [], .ld false 1 (.t 42)⟩,
                   ⟨(some 44), none, [], [], .bin .rem false (.t 43) (.k (.sc (.int .u8 (4))))⟩] (some [0, 7, 10, 11, 12, 32, 33, 34, 44]))
                 (.block 2
                  (.seq
                   (.reg [⟨(some 68), none, [], [], .bin .eql false (.t 44) (.k (.sc (.int .u8 (0))))⟩,
                     ⟨(some 67), none, [], [], .mv (.t 68)⟩] (some [0, 7, 10, 11, 12, 32, 33, 34, 44, 67]))
                   (.cond (.t 67)
                    (.keep [0, 7, 11, 12, 32, 33, 34]
                     (.seq
                      (.reg [⟨(some 70), none, [], [], .ld true 3 (.t 7)⟩,
                        ⟨(some 71), none, [], [], .cal (.k (.fn 53 [])) [(.t 70)]⟩,
                        ⟨(some 69), none, [], [], .mv (.t 71)⟩,
                        ⟨(some 72), none, [], [], .ext (.t 69) 0⟩,
                        ⟨(some 73), none, [], [], .ext (.t 69) 1⟩,
                        ⟨(some 74), none, [], [], .ext (.t 69) 2⟩,
                        ⟨(some 13), none, [], [], .alc [(.sc (.int .i64 (0))), .nl, .nl]⟩,
                        ⟨(some 14), none, [], [], .alc [(.sc (.int .i64 (0))), (.sc (.int .i64 (0)))]⟩,
                        ⟨none, none, [], [], .sto 3 (.t 13) (.t 72)⟩,
                        ⟨none, none, [], [], .sto 2 (.t 14) (.t 73)⟩,
                        ⟨(some 15), none, [], [], .mv (.t 74)⟩] (some [0, 7, 11, 12, 13, 14, 15, 32, 33, 34]))
                      (.seq
                       (.seq
                        (.regD (⟨(some 75), none, [(.t 15)], [], .mv (.t 15)⟩ ::
                          ⟨(some 76), none, [(.t 75)], [], .mv (.t 75)⟩ ::
                          ⟨(some 77), (some (76, true)), [(.t 14)], [], .fa 0 (.t 14)⟩ ::
                          ⟨(some 78), (some (76, true)), [(.t 77)], [], .ld false 1 (.t 77)⟩ ::
                          ⟨(some 79), (some (76, true)), [(.t 11)], [2, 3], .mv (.t 11)⟩ ::
                          ⟨(some 80), (some (76, true)), [(.t 78), (.t 79)], [], .bin .lss false (.t 78) (.t 79)⟩ ::
                          ⟨(some 81), (some (76, true)), [(.t 80)], [], .mv (.t 80)⟩ ::
                          ⟨(some 82), (some (81, false)), [(.t 14)], [], .fa 0 (.t 14)⟩ ::
                          ⟨(some 83), (some (81, false)), [(.t 82)], [], .ld false 1 (.t 82)⟩ ::
                          ⟨(some 84), (some (81, false)), [(.t 11)], [7, 8], .mv (.t 11)⟩ ::
                          ⟨(some 85), (some (81, false)), [(.t 84), (.k (.sc (.int .i64 (2048))))], [7, 8], .bin .add false (.t 84) (.k (.sc (.int .i64 (2048))))⟩ ::
                          ⟨(some 86), (some (81, false)), [(.t 83), (.t 85)], [], .bin .geq false (.t 83) (.t 85)⟩ ::
                          ⟨(some 87), (some (76, true)), [(.t 81), (.k (.sc (.bool true))), (.t 86)], [], .pick (.t 81) (.k (.sc (.bool true))) (.t 86)⟩ ::
                          ⟨(some 88), (some (76, true)), [(.t 87)], [], .mv (.t 87)⟩ ::
                          ⟨(some 89), (some (88, false)), [(.t 14)], [], .fa 1 (.t 14)⟩ ::
                          ⟨(some 90), (some (88, false)), [(.t 89)], [], .ld false 1 (.t 89)⟩ ::
                          ⟨(some 91), (some (88, false)), [(.t 14)], [14, 15], .fa 0 (.t 14)⟩ ::
                          ⟨(some 92), (some (88, false)), [(.t 91)], [14, 15], .ld false 1 (.t 91)⟩ ::
                          ⟨(some 93), (some (88, false)), [(.t 90), (.t 92)], [], .bin .leq false (.t 90) (.t 92)⟩ ::
                          ⟨(some 94), (some (76, true)), [(.t 88), (.k (.sc (.bool true))), (.t 93)], [], .pick (.t 88) (.k (.sc (.bool true))) (.t 93)⟩ ::
                          ⟨(some 95), (some (76, true)), [(.t 94)], [], .mv (.t 94)⟩ ::
                          ⟨(some 96), (some (95, false)), [(.t 14)], [], .fa 1 (.t 14)⟩ ::
                          ⟨(some 97), (some (95, false)), [(.t 96)], [], .ld false 1 (.t 96)⟩ ::
                          ⟨(some 98), (some (95, false)), [(.t 0)], [21, 22], .mv (.t 0)⟩ ::
                          ⟨(some 99), (some (95, false)), [(.t 97), (.t 98)], [], .bin .gtr false (.t 97) (.t 98)⟩ ::
                          ⟨(some 100), (some (76, true)), [(.t 95), (.k (.sc (.bool true))), (.t 99)], [], .pick (.t 95) (.k (.sc (.bool true))) (.t 99)⟩ ::
                          ⟨(some 101), (some (76, true)), [(.t 100)], [], .mv (.t 100)⟩ ::
                          ⟨(some 102), (some (101, false)), [(.t 14)], [], .fa 1 (.t 14)⟩ ::
                          ⟨(some 103), (some (101, false)), [(.t 102)], [], .ld false 1 (.t 102)⟩ ::
                          ⟨(some 104), (some (101, false)), [(.t 14)], [27, 28], .fa 0 (.t 14)⟩ ::
                          ⟨(some 105), (some (101, false)), [(.t 104)], [27, 28], .ld false 1 (.t 104)⟩ ::
                          ⟨(some 106), (some (101, false)), [(.t 103), (.t 105)], [], .bin .sub false (.t 103) (.t 105)⟩ ::
                          ⟨(some 107), (some (101, false)), [(.t 106), (.k (.sc (.int .i64 (256))))], [], .bin .gtr false (.t 106) (.k (.sc (.int .i64 (256))))⟩ ::
                          ⟨(some 108), (some (76, true)), [(.t 101), (.k (.sc (.bool true))), (.t 107)], [], .pick (.t 101) (.k (.sc (.bool true))) (.t 107)⟩ ::
                          ⟨(some 109), (some (76, true)), [(.t 108)], [], .mv (.t 108)⟩ ::
                          ⟨(some 110), (some (109, false)), [(.t 13)], [], .ld true 3 (.t 13)⟩ ::
                          ⟨(some 111), (some (109, false)), [(.k (.fn 56 [])), (.t 110)], [], .cal (.k (.fn 56 [])) [(.t 110)]⟩ ::
                          ⟨(some 112), (some (109, false)), [(.t 7)], [35, 36], .ld true 3 (.t 7)⟩ ::
                          ⟨(some 113), (some (109, false)), [(.k (.fn 56 [])), (.t 112)], [], .cal (.k (.fn 56 [])) [(.t 112)]⟩ ::
                          ⟨(some 114), (some (109, false)), [(.t 113), (.k (.sc (.int .i64 (1))))], [], .bin .add false (.t 113) (.k (.sc (.int .i64 (1))))⟩ ::
                          ⟨(some 115), (some (109, false)), [(.t 111), (.t 114)], [], .bin .neq false (.t 111) (.t 114)⟩ ::
                          ⟨(some 116), (some (76, true)), [(.t 109), (.k (.sc (.bool true))), (.t 115)], [], .pick (.t 109) (.k (.sc (.bool true))) (.t 115)⟩ ::
                          ⟨(some 117), none, [(.t 76), (.t 116), (.k (.sc (.bool false)))], [], .pick (.t 76) (.t 116) (.k (.sc (.bool false)))⟩ :: []) (some [0, 7, 11, 12, 13, 32, 33, 34, 117]))
                        (.cond (.t 117)
                         (.keep []
                          (.seq
                           (.reg [⟨(some 6), none, [], [], .mv (.k (.sc (.bool false)))⟩] none)
                           .ret))
                         (.keep [0, 7, 11, 12, 13, 32, 33, 34]
                          .skip)))
                       (.reg [⟨(some 118), none, [], [], .ld true 3 (.t 13)⟩,
                         ⟨none, none, [], [], .sto 3 (.t 7) (.t 118)⟩] (some [0, 7, 11, 12, 32, 33, 34])))))
                    (.keep [0, 7, 10, 11, 12, 32, 33, 34, 44]
                     (.seq
                      (.reg [⟨(some 120), none, [], [], .bin .eql false (.t 44) (.k (.sc (.int .u8 (1))))⟩,
                        ⟨(some 119), none, [], [], .mv (.t 120)⟩] (some [0, 7, 10, 11, 12, 32, 33, 34, 119]))
                      (.cond (.t 119)
                       (.keep [0, 7, 11, 12, 32, 33, 34]
                        (.seq
                         (.reg [⟨(some 121), none, [], [], .ld true 3 (.t 7)⟩,
                           ⟨(some 122), none, [], [], .cal (.k (.fn 60 [])) [(.t 121)]⟩,
                           ⟨none, none, [], [], .sto 3 (.t 7) (.t 122)⟩] (some [0, 7, 11, 12, 32, 33, 34]))
                         (.seq
                          (.reg [⟨(some 123), none, [], [], .ld true 3 (.t 7)⟩,
                            ⟨(some 124), none, [], [], .cal (.k (.fn 56 [])) [(.t 123)]⟩,
                            ⟨(some 125), none, [], [], .bin .neq false (.t 124) (.k (.sc (.int .i64 (0))))⟩] (some [0, 7, 11, 12, 32, 33, 34, 125]))
                          (.cond (.t 125)
                           (.keep []
                            (.seq
                             (.reg [⟨(some 6), none, [], [], .mv (.k (.sc (.bool false)))⟩] none)
                             .ret))
                           (.keep [0, 7, 11, 12, 32, 33, 34]
                            .skip)))))
                       (.keep [0, 7, 10, 11, 12, 32, 33, 34]
                        (.seq
                         (.seq
                          (.reg [⟨(some 45), none, [], [], .fa 2 (.t 10)⟩,
                            ⟨(some 46), none, [], [], .ld false 1 (.t 45)⟩,
                            ⟨(some 47), none, [], [], .lenL (.t 46)⟩,
                            ⟨(some 48), none, [], [], .bin .gtr false (.t 47) (.k (.sc (.int .i64 (10))))⟩] (some [0, 7, 10, 11, 12, 32, 33, 34, 48]))
                          (.cond (.t 48)
                           (.keep []
                            (.seq
                             (.reg [⟨(some 49), none, [], [], .cal (.k (.fn 52 [])) []⟩,
                               ⟨(some 6), none, [], [], .mv (.t 49)⟩] (some [6]))
                             .ret))
                           (.keep [0, 7, 10, 11, 12, 32, 33, 34]
                            .skip)))
                         (.seq
                          (.regD [⟨(some 51), none, [(.t 7)], [], .ld true 3 (.t 7)⟩,
                            ⟨(some 52), none, [(.t 10)], [0], .fa 1 (.t 10)⟩,
                            ⟨(some 53), none, [(.t 52)], [0], .ld false 1 (.t 52)⟩,
                            ⟨(some 54), none, [(.t 10)], [0, 1, 2], .fa 2 (.t 10)⟩,
                            ⟨(some 55), none, [(.t 54)], [0, 1, 2], .ld false 1 (.t 54)⟩,
                            ⟨(some 56), none, [(.k (.fn 61 [])), (.t 55)], [0, 1, 2], .cal (.k (.fn 61 [])) [(.t 55)]⟩,
                            ⟨(some 57), none, [(.k (.fn 54 [])), (.t 51), (.t 53), (.t 56)], [], .cal (.k (.fn 54 [])) [(.t 51), (.t 53), (.t 56)]⟩,
                            ⟨(some 50), none, [(.t 57)], [], .mv (.t 57)⟩,
                            ⟨(some 58), none, [(.t 50)], [], .ext (.t 50) 0⟩,
                            ⟨(some 59), none, [(.t 50)], [8], .ext (.t 50) 1⟩,
                            ⟨(some 16), none, [], [0, 1, 2, 3, 4, 5, 6, 7, 8, 9], .alc [(.sc (.int .i64 (0))), .nl, .nl]⟩,
                            ⟨none, none, [(.t 16), (.t 58)], [9], .sto 3 (.t 16) (.t 58)⟩,
                            ⟨(some 17), none, [(.t 59)], [], .mv (.t 59)⟩] (some [0, 7, 11, 12, 16, 17, 32, 33, 34]))
                          (.seq
                           (.seq
                            (.reg [⟨(some 60), none, [], [], .mv (.t 17)⟩,
                              ⟨(some 61), none, [], [], .ld true 3 (.t 16)⟩,
                              ⟨(some 62), none, [], [], .cal (.k (.fn 59 [])) [(.t 61)]⟩,
                              ⟨(some 63), none, [], [], .mv (.t 12)⟩,
                              ⟨(some 64), none, [], [], .bin .lss false (.t 62) (.t 63)⟩,
                              ⟨(some 65), none, [], [], .bin .neq true (.t 60) (.t 64)⟩] (some [0, 7, 11, 12, 16, 32, 33, 34, 65]))
                            (.cond (.t 65)
                             (.keep []
                              (.seq
                               (.reg [⟨(some 6), none, [], [], .mv (.k (.sc (.bool false)))⟩] none)
                               .ret))
                             (.keep [0, 7, 11, 12, 16, 32, 33, 34]
                              .skip)))
                           (.reg [⟨(some 66), none, [], [], .ld true 3 (.t 16)⟩,
                             ⟨none, none, [], [], .sto 3 (.t 7) (.t 66)⟩] (some [0, 7, 11, 12, 32, 33, 34])))))))))))))
                (.seq
                 (.regD (⟨(some 126), none, [(.t 7)], [], .ld true 3 (.t 7)⟩ ::
                   ⟨(some 127), none, [(.k (.fn 56 [])), (.t 126)], [], .cal (.k (.fn 56 [])) [(.t 126)]⟩ ::
                   ⟨(some 128), none, [(.t 127), (.k (.sc (.int .i64 (8))))], [], .bin .gtr false (.t 127) (.k (.sc (.int .i64 (8))))⟩ ::
                   ⟨(some 129), none, [(.t 128)], [], .mv (.t 128)⟩ ::
                   ⟨(some 130), (some (129, false)), [(.t 7)], [], .ld true 3 (.t 7)⟩ ::
                   ⟨(some 131), (some (129, false)), [(.k (.fn 58 [])), (.t 130)], [], .cal (.k (.fn 58 [])) [(.t 130)]⟩ ::
                   ⟨(some 132), (some (129, false)), [(.t 11)], [4, 5], .mv (.t 11)⟩ ::
                   ⟨(some 133), (some (129, false)), [(.t 131), (.t 132)], [], .bin .lss false (.t 131) (.t 132)⟩ ::
                   ⟨(some 134), none, [(.t 129), (.k (.sc (.bool true))), (.t 133)], [], .pick (.t 129) (.k (.sc (.bool true))) (.t 133)⟩ ::
                   ⟨(some 135), none, [(.t 134)], [], .mv (.t 134)⟩ ::
                   ⟨(some 136), (some (135, false)), [(.t 7)], [], .ld true 3 (.t 7)⟩ ::
                   ⟨(some 137), (some (135, false)), [(.k (.fn 59 [])), (.t 136)], [], .cal (.k (.fn 59 [])) [(.t 136)]⟩ ::
                   ⟨(some 138), (some (135, false)), [(.t 12)], [10, 11], .mv (.t 12)⟩ ::
                   ⟨(some 139), (some (135, false)), [(.t 137), (.t 138)], [], .bin .gtr false (.t 137) (.t 138)⟩ ::
                   ⟨(some 140), none, [(.t 135), (.k (.sc (.bool true))), (.t 139)], [], .pick (.t 135) (.k (.sc (.bool true))) (.t 139)⟩ ::
                   ⟨(some 141), none, [(.t 140)], [], .mv (.t 140)⟩ ::
                   ⟨(some 142), (some (141, false)), [(.t 7)], [], .ld true 3 (.t 7)⟩ ::
                   ⟨(some 143), (some (141, false)), [(.k (.fn 58 [])), (.t 142)], [], .cal (.k (.fn 58 [])) [(.t 142)]⟩ ::
                   ⟨(some 144), (some (141, false)), [(.t 0)], [16, 17], .mv (.t 0)⟩ ::
                   ⟨(some 145), (some (141, false)), [(.t 143), (.t 144)], [], .bin .gtr false (.t 143) (.t 144)⟩ ::
                   ⟨(some 146), none, [(.t 141), (.k (.sc (.bool true))), (.t 145)], [], .pick (.t 141) (.k (.sc (.bool true))) (.t 145)⟩ ::
                   ⟨(some 147), none, [(.t 146)], [], .mv (.t 146)⟩ ::
                   ⟨(some 148), (some (147, false)), [(.t 7)], [], .ld true 3 (.t 7)⟩ ::
                   ⟨(some 149), (some (147, false)), [(.k (.fn 55 [])), (.t 148)], [], .cal (.k (.fn 55 [])) [(.t 148)]⟩ ::
                   ⟨(some 150), (some (147, false)), [(.t 7)], [22, 23], .ld true 3 (.t 7)⟩ ::
                   ⟨(some 151), (some (147, false)), [(.k (.fn 58 [])), (.t 150)], [], .cal (.k (.fn 58 [])) [(.t 150)]⟩ ::
                   ⟨(some 152), (some (147, false)), [(.t 0)], [22, 23, 24, 25], .mv (.t 0)⟩ ::
                   ⟨(some 153), (some (147, false)), [(.t 151), (.t 152)], [], .bin .eql false (.t 151) (.t 152)⟩ ::
                   ⟨(some 154), (some (147, false)), [(.t 149), (.t 153)], [], .bin .neq true (.t 149) (.t 153)⟩ ::
                   ⟨(some 155), none, [(.t 147), (.k (.sc (.bool true))), (.t 154)], [], .pick (.t 147) (.k (.sc (.bool true))) (.t 154)⟩ :: []) (some [0, 7, 32, 33, 34, 155]))
                 (.cond (.t 155)
                  (.keep []
                   (.seq
                    (.reg [⟨(some 6), none, [], [], .mv (.k (.sc (.bool false)))⟩] none)
                    .ret))
                  (.keep [0, 7, 32, 33, 34]
                   .skip)))))))
            (.reg [⟨(some 156), none, [], [], .bin .add false (.t 34) (.k (.sc (.int .i64 (1))))⟩,
              ⟨(some 34), none, [], [], .mv (.t 156)⟩] (some [0, 7, 32, 33, 34]))))))))
      (.seq
       (.reg [⟨(some 157), none, [], [], .cal (.k (.fn 52 [])) []⟩,
         ⟨(some 6), none, [], [], .mv (.t 157)⟩] (some [6]))
       .ret)))))
theorem b13 : cmpG Try.prog 13 = some (strip a13, r13, 158) := by kernel_rfl

abbrev r52 : List AR := [.t 0]
abbrev a52 : ACode :=
  (.seq
   (.reg [⟨(some 0), none, [], [], .mv (.k (.sc (.bool false)))⟩] (some []))
   (.seq
    (.reg [⟨(some 10), none, [], [], .cal (.k (.fn 51 [])) [(.k (.sc (.int .i64 (300)))), (.k (.sc (.int .i64 (0))))]⟩,
      ⟨(some 9), none, [], [], .mv (.t 10)⟩,
      ⟨(some 11), none, [], [], .ext (.t 9) 0⟩,
      ⟨(some 12), none, [], [], .ext (.t 9) 1⟩,
      ⟨(some 1), none, [], [], .alc [(.sc (.int .i64 (0))), .nl, .nl]⟩,
      ⟨none, none, [], [], .sto 3 (.t 1) (.t 11)⟩,
      ⟨(some 2), none, [], [], .mv (.t 12)⟩] (some [1, 2]))
    (.seq
     (.reg [⟨(some 14), none, [], [], .ld true 3 (.t 1)⟩,
       ⟨(some 15), none, [], [], .cal (.k (.fn 53 [])) [(.t 14)]⟩,
       ⟨(some 13), none, [], [], .mv (.t 15)⟩,
       ⟨(some 16), none, [], [], .ext (.t 13) 0⟩,
       ⟨(some 17), none, [], [], .ext (.t 13) 1⟩,
       ⟨(some 18), none, [], [], .ext (.t 13) 2⟩,
       ⟨(some 3), none, [], [], .alc [(.sc (.int .i64 (0))), (.sc (.int .i64 (0)))]⟩,
       ⟨none, none, [], [], .sto 3 (.t 1) (.t 16)⟩,
       ⟨none, none, [], [], .sto 2 (.t 3) (.t 17)⟩,
       ⟨(some 4), none, [], [], .mv (.t 18)⟩] (some [1, 2, 3, 4]))
     (.seq
      (.reg [⟨(some 20), none, [], [], .ld true 3 (.t 1)⟩,
        ⟨(some 21), none, [], [], .cal (.k (.fn 53 [])) [(.t 20)]⟩,
        ⟨(some 19), none, [], [], .mv (.t 21)⟩,
        ⟨(some 22), none, [], [], .ext (.t 19) 0⟩,
        ⟨(some 23), none, [], [], .ext (.t 19) 1⟩,
        ⟨(some 24), none, [], [], .ext (.t 19) 2⟩,
        ⟨(some 5), none, [], [], .alc [(.sc (.int .i64 (0))), (.sc (.int .i64 (0)))]⟩,
        ⟨none, none, [], [], .sto 3 (.t 1) (.t 22)⟩,
        ⟨none, none, [], [], .sto 2 (.t 5) (.t 23)⟩,
        ⟨(some 6), none, [], [], .mv (.t 24)⟩] (some [1, 2, 3, 4, 5, 6]))
      (.seq
       (.reg [⟨(some 26), none, [], [], .ld true 3 (.t 1)⟩,
         ⟨(some 27), none, [], [], .cal (.k (.fn 54 [])) [(.t 26), (.k (.sc (.int .i64 (256)))), (.k .nl)]⟩,
         ⟨(some 25), none, [], [], .mv (.t 27)⟩,
         ⟨(some 28), none, [], [], .ext (.t 25) 0⟩,
         ⟨(some 29), none, [], [], .ext (.t 25) 1⟩,
         ⟨(some 7), none, [], [], .alc [(.sc (.int .i64 (0))), .nl, .nl]⟩,
         ⟨none, none, [], [], .sto 3 (.t 7) (.t 28)⟩,
         ⟨(some 8), none, [], [], .mv (.t 29)⟩] (some [1, 2, 3, 4, 5, 6, 7, 8]))
       (.seq
        (.reg (⟨(some 30), none, [], [], .mv (.t 2)⟩ ::
          ⟨(some 31), none, [], [], .bin .eql false (.t 30) (.k (.sc (.int .i64 (0))))⟩ ::
          ⟨(some 32), none, [], [], .mv (.t 31)⟩ ::
          ⟨(some 33), (some (32, true)), [], [], .ld true 2 (.t 3)⟩ ::
          ⟨(some 34), (some (32, true)), [], [], .bld [(.sc (.int .i64 (0))), (.sc (.int .i64 (0)))] [(0, 1, (.k (.sc (.int .i64 (0))))), (1, 1, (.k (.sc (.int .i64 (256)))))]⟩ ::
          ⟨(some 35), (some (32, true)), [], [], .aeq false 2 [.i, .i] (.t 33) (.t 34)⟩ ::
          ⟨(some 36), none, [], [], .pick (.t 32) (.t 35) (.k (.sc (.bool false)))⟩ ::
          ⟨(some 37), none, [], [], .mv (.t 36)⟩ ::
          ⟨(some 38), (some (37, true)), [], [], .mv (.t 4)⟩ ::
          ⟨(some 39), none, [], [], .pick (.t 37) (.t 38) (.k (.sc (.bool false)))⟩ ::
          ⟨(some 40), none, [], [], .mv (.t 39)⟩ ::
          ⟨(some 41), (some (40, true)), [], [], .ld true 2 (.t 5)⟩ ::
          ⟨(some 42), (some (40, true)), [], [], .bld [(.sc (.int .i64 (0))), (.sc (.int .i64 (0)))] [(0, 1, (.k (.sc (.int .i64 (256))))), (1, 1, (.k (.sc (.int .i64 (300)))))]⟩ ::
          ⟨(some 43), (some (40, true)), [], [], .aeq false 2 [.i, .i] (.t 41) (.t 42)⟩ ::
          ⟨(some 44), none, [], [], .pick (.t 40) (.t 43) (.k (.sc (.bool false)))⟩ ::
          ⟨(some 45), none, [], [], .mv (.t 44)⟩ ::
          ⟨(some 46), (some (45, true)), [], [], .mv (.t 6)⟩ ::
          ⟨(some 47), none, [], [], .pick (.t 45) (.t 46) (.k (.sc (.bool false)))⟩ ::
          ⟨(some 48), none, [], [], .mv (.t 47)⟩ ::
          ⟨(some 49), (some (48, true)), [], [], .ld true 3 (.t 1)⟩ ::
          ⟨(some 50), (some (48, true)), [], [], .cal (.k (.fn 56 [])) [(.t 49)]⟩ ::
          ⟨(some 51), (some (48, true)), [], [], .bin .eql false (.t 50) (.k (.sc (.int .i64 (2))))⟩ ::
          ⟨(some 52), none, [], [], .pick (.t 48) (.t 51) (.k (.sc (.bool false)))⟩ ::
          ⟨(some 53), none, [], [], .mv (.t 52)⟩ ::
          ⟨(some 54), (some (53, true)), [], [], .mv (.t 8)⟩ ::
          ⟨(some 55), none, [], [], .pick (.t 53) (.t 54) (.k (.sc (.bool false)))⟩ ::
          ⟨(some 56), none, [], [], .mv (.t 55)⟩ ::
          ⟨(some 57), (some (56, true)), [], [], .ld true 3 (.t 7)⟩ ::
          ⟨(some 58), (some (56, true)), [], [], .cal (.k (.fn 56 [])) [(.t 57)]⟩ ::
          ⟨(some 59), (some (56, true)), [], [], .bin .eql false (.t 58) (.k (.sc (.int .i64 (1))))⟩ ::
          ⟨(some 60), none, [], [], .pick (.t 56) (.t 59) (.k (.sc (.bool false)))⟩ ::
          ⟨(some 61), none, [], [], .mv (.t 60)⟩ ::
          ⟨(some 62), (some (61, true)), [], [], .ld true 3 (.t 7)⟩ ::
          ⟨(some 63), (some (61, true)), [], [], .cal (.k (.fn 58 [])) [(.t 62)]⟩ ::
          ⟨(some 64), (some (61, true)), [], [], .bin .eql false (.t 63) (.k (.sc (.int .i64 (256))))⟩ ::
          ⟨(some 65), none, [], [], .pick (.t 61) (.t 64) (.k (.sc (.bool false)))⟩ ::
          ⟨(some 66), none, [], [], .mv (.t 65)⟩ ::
          ⟨(some 67), (some (66, true)), [], [], .ld true 3 (.t 7)⟩ ::
          ⟨(some 68), (some (66, true)), [], [], .cal (.k (.fn 59 [])) [(.t 67)]⟩ ::
          ⟨(some 69), (some (66, true)), [], [], .bin .eql false (.t 68) (.k (.sc (.int .i64 (44))))⟩ ::
          ⟨(some 70), none, [], [], .pick (.t 66) (.t 69) (.k (.sc (.bool false)))⟩ ::
          ⟨(some 71), none, [], [], .mv (.t 70)⟩ ::
          ⟨(some 72), (some (71, true)), [], [], .ld true 3 (.t 7)⟩ ::
          ⟨(some 73), (some (71, true)), [], [], .cal (.k (.fn 55 [])) [(.t 72)]⟩ ::
          ⟨(some 74), (some (71, true)), [], [], .un .not (.t 73)⟩ ::
          ⟨(some 75), none, [], [], .pick (.t 71) (.t 74) (.k (.sc (.bool false)))⟩ ::
          ⟨(some 0), none, [], [], .mv (.t 75)⟩ :: []) (some [0]))
        .ret))))))
theorem b52 : cmpG Try.prog 52 = some (strip a52, r52, 76) := by kernel_rfl

abbrev r51 : List AR := [.c 4 true 3, .t 5]
abbrev a51 : ACode :=
  (.seq
   (.reg [⟨(some 4), none, [], [], .alc [(.sc (.int .i64 (0))), .nl, .nl]⟩,
     ⟨(some 5), none, [], [], .mv (.k (.sc (.int .i64 (0))))⟩] (some [0, 1, 4]))
   (.seq
    (.reg [⟨(some 7), none, [], [], .mv (.t 0)⟩,
      ⟨(some 8), none, [], [], .bld [(.sc (.int .i64 (0))), .nl, .nl] [(0, 1, (.t 7))]⟩,
      ⟨(some 6), none, [], [], .alc [(.sc (.int .i64 (0))), .nl, .nl]⟩,
      ⟨none, none, [], [], .sto 3 (.t 6) (.t 8)⟩] (some [0, 1, 4, 6]))
    (.seq
     (.seq
      (.reg [⟨(some 9), none, [], [], .mv (.t 0)⟩,
        ⟨(some 10), none, [], [], .bin .lss false (.t 9) (.k (.sc (.int .i64 (0))))⟩,
        ⟨(some 11), none, [], [], .mv (.t 10)⟩,
        ⟨(some 12), (some (11, false)), [], [], .mv (.t 0)⟩,
        ⟨(some 13), (some (11, false)), [], [], .bin .gtr false (.t 12) (.k (.sc (.int .i64 (1099511627776))))⟩,
        ⟨(some 14), none, [], [], .pick (.t 11) (.k (.sc (.bool true))) (.t 13)⟩,
        ⟨(some 15), none, [], [], .mv (.t 14)⟩,
        ⟨(some 16), (some (15, false)), [], [], .ld true 3 (.t 6)⟩,
        ⟨(some 17), (some (15, false)), [], [], .mv (.t 1)⟩,
        ⟨(some 18), (some (15, false)), [], [], .cal (.k (.fn 79 [])) [(.t 16), (.t 17)]⟩,
        ⟨(some 19), (some (15, false)), [], [], .un .not (.t 18)⟩,
        ⟨(some 20), none, [], [], .pick (.t 15) (.k (.sc (.bool true))) (.t 19)⟩] (some [1, 4, 6, 20]))
      (.cond (.t 20)
       (.keep [4]
        (.seq
         (.reg [⟨(some 21), none, [], [], .bld [(.sc (.int .i64 (0))), .nl, .nl] []⟩,
           ⟨none, none, [], [], .sto 3 (.t 4) (.t 21)⟩,
           ⟨(some 5), none, [], [], .mv (.k (.sc (.int .i64 (1))))⟩] (some [4, 5]))
         .ret))
       (.keep [1, 4, 6]
        .skip)))
     (.seq
      (.reg [⟨(some 22), none, [], [], .fa 1 (.t 6)⟩,
        ⟨(some 23), none, [], [], .ld true 1 (.t 22)⟩,
        ⟨(some 24), none, [], [], .mv (.t 1)⟩,
        ⟨(some 25), none, [], [], .cal (.k (.fn 43 [])) [(.t 23), (.k (.sc (.int .i64 (0)))), (.t 24)]⟩,
        ⟨(some 26), none, [], [], .fa 1 (.t 6)⟩,
        ⟨none, none, [], [], .sto 1 (.t 26) (.t 25)⟩] (some [4, 6]))
      (.seq
       (.reg [⟨(some 27), none, [], [], .ld true 3 (.t 6)⟩,
         ⟨none, none, [], [], .sto 3 (.t 4) (.t 27)⟩,
         ⟨(some 5), none, [], [], .mv (.k (.sc (.int .i64 (0))))⟩] (some [4, 5]))
       .ret)))))
theorem b51 : cmpG Try.prog 51 = some (strip a51, r51, 28) := by kernel_rfl

abbrev r53 : List AR := [.c 2 true 3, .c 3 true 2, .c 4 false 1]
abbrev a53 : ACode :=
  (.seq
   (.reg [⟨(some 1), none, [], [], .box (.t 0)⟩,
     ⟨(some 2), none, [], [], .alc [(.sc (.int .i64 (0))), .nl, .nl]⟩,
     ⟨(some 3), none, [], [], .alc [(.sc (.int .i64 (0))), (.sc (.int .i64 (0)))]⟩,
     ⟨(some 4), none, [], [], .alc [(.sc (.bool false))]⟩] (some [1, 2, 3, 4]))
   (.seq
    (.seq
     (.reg [⟨(some 6), none, [], [], .ld true 3 (.t 1)⟩,
       ⟨(some 7), none, [], [], .cal (.k (.fn 80 [])) [(.t 6)]⟩] (some [1, 2, 3, 4, 7]))
     (.block 0
      (.rgf (.t 7) 8
       (.reg [⟨(some 5), none, [], [], .alc [(.sc (.int .i64 (0))), (.sc (.int .i64 (0)))]⟩,
         ⟨none, none, [], [], .sto 2 (.t 5) (.t 8)⟩] (some [1, 2, 3, 4, 5]))
       (.block 1
        (.seq
         (.reg [⟨(some 9), none, [], [], .fa 1 (.t 1)⟩,
           ⟨(some 10), none, [], [], .ld true 1 (.t 9)⟩,
           ⟨(some 11), none, [], [], .fa 0 (.t 5)⟩,
           ⟨(some 12), none, [], [], .ld false 1 (.t 11)⟩,
           ⟨(some 13), none, [], [], .cal (.k (.fn 38 [])) [(.t 10), (.t 12)]⟩,
           ⟨(some 14), none, [], [], .un .not (.t 13)⟩,
           ⟨(some 15), none, [], [], .mv (.t 14)⟩,
           ⟨(some 16), (some (15, true)), [], [], .fa 2 (.t 1)⟩,
           ⟨(some 17), (some (15, true)), [], [], .ld true 1 (.t 16)⟩,
           ⟨(some 18), (some (15, true)), [], [], .fa 0 (.t 5)⟩,
           ⟨(some 19), (some (15, true)), [], [], .ld false 1 (.t 18)⟩,
           ⟨(some 20), (some (15, true)), [], [], .cal (.k (.fn 38 [])) [(.t 17), (.t 19)]⟩,
           ⟨(some 21), (some (15, true)), [], [], .un .not (.t 20)⟩,
           ⟨(some 22), none, [], [], .pick (.t 15) (.t 21) (.k (.sc (.bool false)))⟩] (some [1, 2, 3, 4, 5, 22]))
         (.cond (.t 22)
          (.keep [1, 2, 3, 4, 5]
           (.seq
            (.reg [⟨(some 23), none, [], [], .fa 2 (.t 1)⟩,
              ⟨(some 24), none, [], [], .ld true 1 (.t 23)⟩,
              ⟨(some 25), none, [], [], .fa 0 (.t 5)⟩,
              ⟨(some 26), none, [], [], .ld false 1 (.t 25)⟩,
              ⟨(some 27), none, [], [], .fa 1 (.t 5)⟩,
              ⟨(some 28), none, [], [], .ld false 1 (.t 27)⟩,
              ⟨(some 29), none, [], [], .cal (.k (.fn 43 [])) [(.t 24), (.t 26), (.t 28)]⟩,
              ⟨(some 30), none, [], [], .fa 2 (.t 1)⟩,
              ⟨none, none, [], [], .sto 1 (.t 30) (.t 29)⟩] (some [1, 2, 3, 4, 5]))
            (.seq
             (.regD [⟨(some 31), none, [(.t 1)], [], .ld true 3 (.t 1)⟩,
               ⟨(some 32), none, [(.t 5)], [0], .ld true 2 (.t 5)⟩,
               ⟨none, none, [(.t 2), (.t 31)], [1], .sto 3 (.t 2) (.t 31)⟩,
               ⟨none, none, [(.t 3), (.t 32)], [], .sto 2 (.t 3) (.t 32)⟩,
               ⟨none, none, [(.t 4), (.k (.sc (.bool true)))], [], .sto 1 (.t 4) (.k (.sc (.bool true)))⟩] (some []))
             .ret)))
          (.keep []
           .skip)))))))
    (.seq
     (.reg [⟨(some 33), none, [], [], .ld true 3 (.t 1)⟩,
       ⟨(some 34), none, [], [], .bld [(.sc (.int .i64 (0))), (.sc (.int .i64 (0)))] []⟩,
       ⟨none, none, [], [], .sto 3 (.t 2) (.t 33)⟩,
       ⟨none, none, [], [], .sto 2 (.t 3) (.t 34)⟩,
       ⟨none, none, [], [], .sto 1 (.t 4) (.k (.sc (.bool false)))⟩] (some [2, 3, 4]))
     .ret)))
theorem b53 : cmpG Try.prog 53 = some (strip a53, r53, 35) := by kernel_rfl

abbrev r54 : List AR := [.c 6 true 3, .t 7]
abbrev a54 : ACode :=
  (.seq
   (.reg [⟨(some 3), none, [], [], .box (.t 0)⟩,
     ⟨(some 6), none, [], [], .alc [(.sc (.int .i64 (0))), .nl, .nl]⟩,
     ⟨(some 7), none, [], [], .mv (.k (.sc (.bool false)))⟩] (some [1, 2, 3, 6]))
   (.seq
    (.seq
     (.reg [⟨(some 11), none, [], [], .ld true 3 (.t 3)⟩,
       ⟨(some 12), none, [], [], .mv (.t 1)⟩,
       ⟨(some 13), none, [], [], .cal (.k (.fn 79 [])) [(.t 11), (.t 12)]⟩,
       ⟨(some 14), none, [], [], .un .not (.t 13)⟩,
       ⟨(some 15), none, [], [], .mv (.t 14)⟩,
       ⟨(some 16), (some (15, false)), [], [], .mv (.t 1)⟩,
       ⟨(some 17), (some (15, false)), [], [], .ld true 3 (.t 3)⟩,
       ⟨(some 18), (some (15, false)), [], [], .cal (.k (.fn 58 [])) [(.t 17)]⟩,
       ⟨(some 19), (some (15, false)), [], [], .bin .lss false (.t 16) (.t 18)⟩,
       ⟨(some 20), none, [], [], .pick (.t 15) (.k (.sc (.bool true))) (.t 19)⟩] (some [1, 2, 3, 6, 20]))
     (.cond (.t 20)
      (.keep [3, 6]
       (.seq
        (.reg [⟨(some 21), none, [], [], .ld true 3 (.t 3)⟩,
          ⟨none, none, [], [], .sto 3 (.t 6) (.t 21)⟩,
          ⟨(some 7), none, [], [], .mv (.k (.sc (.bool false)))⟩] (some [6, 7]))
        .ret))
      (.keep [1, 2, 3, 6]
       .skip)))
    (.seq
     (.reg [⟨(some 22), none, [], [], .ld true 3 (.t 3)⟩,
       ⟨(some 23), none, [], [], .cal (.k (.fn 59 [])) [(.t 22)]⟩,
       ⟨(some 8), none, [], [], .mv (.t 23)⟩] (some [1, 2, 3, 6, 8]))
     (.seq
      (.reg [⟨(some 24), none, [], [], .fa 1 (.t 3)⟩,
        ⟨(some 25), none, [], [], .ld true 1 (.t 24)⟩,
        ⟨(some 26), none, [], [], .mv (.t 1)⟩,
        ⟨(some 27), none, [], [], .cal (.k (.fn 43 [])) [(.t 25), (.k (.sc (.int .i64 (0)))), (.t 26)]⟩,
        ⟨(some 28), none, [], [], .fa 1 (.t 3)⟩,
        ⟨none, none, [], [], .sto 1 (.t 28) (.t 27)⟩] (some [1, 2, 3, 6, 8]))
      (.seq
       (.seq
        (.reg [⟨(some 29), none, [], [], .mv (.t 2)⟩,
          ⟨(some 30), none, [], [], .lenL (.t 29)⟩,
          ⟨(some 31), none, [], [], .mv (.k (.sc (.int .i64 (0))))⟩] (some [1, 3, 6, 8, 29, 30, 31]))
        (.block 0
         (.loop
          (.seq
           (.reg [⟨(some 32), none, [], [], .bin .lss false (.t 31) (.t 30)⟩] none)
           (.seq
            (.cond (.t 32)
             (.keep [1, 3, 6, 8, 29, 30, 31]
              .skip)
             (.exit 0))
            (.seq
             (.block 1
              (.seq
               (.reg [⟨(some 33), none, [], [], .ixaS 2 (.t 29) (.t 31)⟩,
                 ⟨(some 34), none, [], [], .ld true 2 (.t 33)⟩,
                 ⟨(some 10), none, [], [], .alc [(.sc (.int .i64 (0))), (.sc (.int .i64 (0)))]⟩,
                 ⟨none, none, [], [], .sto 2 (.t 10) (.t 34)⟩] (some [1, 3, 6, 8, 10, 29, 30, 31]))
               (.seq
                (.reg [⟨(some 35), none, [], [], .ld true 3 (.t 3)⟩,
                  ⟨(some 36), none, [], [], .fa 0 (.t 10)⟩,
                  ⟨(some 37), none, [], [], .ld false 1 (.t 36)⟩,
                  ⟨(some 38), none, [], [], .cal (.k (.fn 79 [])) [(.t 35), (.t 37)]⟩,
                  ⟨(some 39), none, [], [], .mv (.t 38)⟩,
                  ⟨(some 40), (some (39, true)), [], [], .ld true 3 (.t 3)⟩,
                  ⟨(some 41), (some (39, true)), [], [], .fa 1 (.t 10)⟩,
                  ⟨(some 42), (some (39, true)), [], [], .ld false 1 (.t 41)⟩,
                  ⟨(some 43), (some (39, true)), [], [], .cal (.k (.fn 79 [])) [(.t 40), (.t 42)]⟩,
                  ⟨(some 44), none, [], [], .pick (.t 39) (.t 43) (.k (.sc (.bool false)))⟩,
                  ⟨(some 45), none, [], [], .mv (.t 44)⟩,
                  ⟨(some 46), (some (45, true)), [], [], .fa 0 (.t 10)⟩,
                  ⟨(some 47), (some (45, true)), [], [], .ld false 1 (.t 46)⟩,
                  ⟨(some 48), (some (45, true)), [], [], .mv (.t 1)⟩,
                  ⟨(some 49), (some (45, true)), [], [], .bin .geq false (.t 47) (.t 48)⟩,
                  ⟨(some 50), none, [], [], .pick (.t 45) (.t 49) (.k (.sc (.bool false)))⟩] (some [1, 3, 6, 8, 10, 29, 30, 31, 50]))
                (.cond (.t 50)
                 (.keep [1, 3, 6, 8, 10, 29, 30, 31]
                  (.reg [⟨(some 51), none, [], [], .fa 1 (.t 3)⟩,
                    ⟨(some 52), none, [], [], .ld true 1 (.t 51)⟩,
                    ⟨(some 53), none, [], [], .fa 0 (.t 10)⟩,
                    ⟨(some 54), none, [], [], .ld false 1 (.t 53)⟩,
                    ⟨(some 55), none, [], [], .fa 1 (.t 10)⟩,
                    ⟨(some 56), none, [], [], .ld false 1 (.t 55)⟩,
                    ⟨(some 57), none, [], [], .cal (.k (.fn 43 [])) [(.t 52), (.t 54), (.t 56)]⟩,
                    ⟨(some 58), none, [], [], .fa 1 (.t 3)⟩,
                    ⟨none, none, [], [], .sto 1 (.t 58) (.t 57)⟩] (some [1, 3, 6, 8, 29, 30, 31])))
                 (.keep [1, 3, 6, 8, 29, 30, 31]
                  .skip)))))
             (.reg [⟨(some 59), none, [], [], .bin .add false (.t 31) (.k (.sc (.int .i64 (1))))⟩,
               ⟨(some 31), none, [], [], .mv (.t 59)⟩] (some [1, 3, 6, 8, 29, 30, 31]))))))))
       (.seq
        (.reg [⟨(some 60), none, [], [], .ld true 3 (.t 3)⟩,
          ⟨(some 61), none, [], [], .cal (.k (.fn 81 [])) [(.t 60)]⟩,
          ⟨(some 62), none, [], [], .fa 2 (.t 3)⟩,
          ⟨none, none, [], [], .sto 1 (.t 62) (.t 61)⟩] (some [3, 6, 8]))
        (.seq
         (.regD [⟨(some 63), none, [(.t 3)], [], .ld true 3 (.t 3)⟩,
           ⟨(some 64), none, [(.t 3)], [0], .ld true 3 (.t 3)⟩,
           ⟨(some 65), none, [(.k (.fn 59 [])), (.t 64)], [0], .cal (.k (.fn 59 [])) [(.t 64)]⟩,
           ⟨(some 66), none, [(.t 8)], [0, 1, 2], .mv (.t 8)⟩,
           ⟨(some 67), none, [(.t 65), (.t 66)], [0], .bin .lss false (.t 65) (.t 66)⟩,
           ⟨none, none, [(.t 6), (.t 63)], [3, 4], .sto 3 (.t 6) (.t 63)⟩,
           ⟨(some 7), none, [(.t 67)], [], .mv (.t 67)⟩] (some [6, 7]))
         .ret)))))))
theorem b54 : cmpG Try.prog 54 = some (strip a54, r54, 68) := by kernel_rfl

abbrev r55 : List AR := [.t 2]
abbrev a55 : ACode :=
  (.seq
   (.reg [⟨(some 1), none, [], [], .box (.t 0)⟩,
     ⟨(some 2), none, [], [], .mv (.k (.sc (.bool false)))⟩] (some [1]))
   (.seq
    (.reg [⟨(some 3), none, [], [], .ld true 3 (.t 1)⟩,
      ⟨(some 4), none, [], [], .cal (.k (.fn 59 [])) [(.t 3)]⟩,
      ⟨(some 5), none, [], [], .bin .eql false (.t 4) (.k (.sc (.int .i64 (0))))⟩,
      ⟨(some 2), none, [], [], .mv (.t 5)⟩] (some [2]))
    .ret))
theorem b55 : cmpG Try.prog 55 = some (strip a55, r55, 6) := by kernel_rfl

abbrev r56 : List AR := [.t 2]
abbrev a56 : ACode :=
  (.seq
   (.reg [⟨(some 1), none, [], [], .box (.t 0)⟩,
     ⟨(some 2), none, [], [], .mv (.k (.sc (.int .i64 (0))))⟩] (some [1, 2]))
   (.seq
    (.reg [⟨(some 3), none, [], [], .alc [(.sc (.int .i64 (0)))]⟩,
      ⟨none, none, [], [], .sto 1 (.t 3) (.k (.sc (.int .i64 (0))))⟩] none)
    (.seq
     (.seq
      (.reg [⟨(some 5), none, [], [], .ld true 3 (.t 1)⟩,
        ⟨(some 6), none, [], [], .cal (.k (.fn 80 [])) [(.t 5)]⟩] (some [1, 2, 3, 6]))
      (.block 0
       (.rgf (.t 6) 7
        (.reg [⟨(some 4), none, [], [], .alc [(.sc (.int .i64 (0))), (.sc (.int .i64 (0)))]⟩,
          ⟨none, none, [], [], .sto 2 (.t 4) (.t 7)⟩] (some [1, 3, 4]))
        (.block 1
         (.seq
          (.reg [⟨(some 8), none, [], [], .fa 2 (.t 1)⟩,
            ⟨(some 9), none, [], [], .ld true 1 (.t 8)⟩,
            ⟨(some 10), none, [], [], .fa 0 (.t 4)⟩,
            ⟨(some 11), none, [], [], .ld false 1 (.t 10)⟩,
            ⟨(some 12), none, [], [], .cal (.k (.fn 38 [])) [(.t 9), (.t 11)]⟩] (some [3, 12]))
          (.cond (.t 12)
           (.keep [3]
            (.reg [⟨(some 13), none, [], [], .ld false 1 (.t 3)⟩,
              ⟨(some 14), none, [], [], .bin .add false (.t 13) (.k (.sc (.int .i64 (1))))⟩,
              ⟨none, none, [], [], .sto 1 (.t 3) (.t 14)⟩] (some [])))
           (.keep []
            .skip)))))))
     (.seq
      (.reg [⟨(some 15), none, [], [], .ld false 1 (.t 3)⟩,
        ⟨(some 2), none, [], [], .mv (.t 15)⟩] (some [2]))
      .ret))))
theorem b56 : cmpG Try.prog 56 = some (strip a56, r56, 16) := by kernel_rfl

abbrev r57 : List AR := [.t 2]
abbrev a57 : ACode :=
  (.seq
   (.reg [⟨(some 2), none, [], [], .mv (.k .nl)⟩] (some [0]))
   (.seq
    (.reg [⟨(some 3), none, [], [], .mv (.t 0)⟩,
      ⟨(some 4), none, [], [], .mv (.t 0)⟩,
      ⟨(some 5), none, [], [], .lenL (.t 4)⟩,
      ⟨(some 6), none, [], [], .mn [(.t 5), (.k (.sc (.int .i64 (40))))]⟩,
      ⟨(some 7), none, [], [], .slL 3 none (some (.t 6)) none (.t 3)⟩,
      ⟨(some 2), none, [], [], .mv (.t 7)⟩] (some [2]))
    .ret))
theorem b57 : cmpG Try.prog 57 = some (strip a57, r57, 8) := by kernel_rfl

abbrev r58 : List AR := [.t 2]
abbrev a58 : ACode :=
  (.seq
   (.reg [⟨(some 1), none, [], [], .box (.t 0)⟩,
     ⟨(some 2), none, [], [], .mv (.k (.sc (.int .i64 (0))))⟩] (some [1]))
   (.seq
    (.reg [⟨(some 3), none, [], [], .fa 1 (.t 1)⟩,
      ⟨(some 4), none, [], [], .ld true 1 (.t 3)⟩,
      ⟨(some 5), none, [], [], .cal (.k (.fn 40 [])) [(.t 4), (.k (.sc (.int .i64 (0))))]⟩,
      ⟨(some 2), none, [], [], .mv (.t 5)⟩] (some [2]))
    .ret))
theorem b58 : cmpG Try.prog 58 = some (strip a58, r58, 6) := by kernel_rfl

abbrev r59 : List AR := [.t 2]
abbrev a59 : ACode :=
  (.seq
   (.reg [⟨(some 1), none, [], [], .box (.t 0)⟩,
     ⟨(some 2), none, [], [], .mv (.k (.sc (.int .i64 (0))))⟩] (some [1]))
   (.seq
    (.regD [⟨(some 3), none, [(.t 1)], [], .fa 0 (.t 1)⟩,
      ⟨(some 4), none, [(.t 3)], [], .ld false 1 (.t 3)⟩,
      ⟨(some 5), none, [(.t 1)], [0, 1], .fa 1 (.t 1)⟩,
      ⟨(some 6), none, [(.t 5)], [0, 1], .ld true 1 (.t 5)⟩,
      ⟨(some 7), none, [(.k (.fn 36 [])), (.t 6)], [0, 1], .cal (.k (.fn 36 [])) [(.t 6)]⟩,
      ⟨(some 8), none, [(.t 4), (.t 7)], [], .bin .sub false (.t 4) (.t 7)⟩,
      ⟨(some 2), none, [(.t 8)], [], .mv (.t 8)⟩] (some [2]))
    .ret))
theorem b59 : cmpG Try.prog 59 = some (strip a59, r59, 9) := by kernel_rfl

abbrev r60 : List AR := [.c 2 true 3]
abbrev a60 : ACode :=
  (.seq
   (.reg [⟨(some 1), none, [], [], .box (.t 0)⟩,
     ⟨(some 2), none, [], [], .alc [(.sc (.int .i64 (0))), .nl, .nl]⟩] (some [1, 2]))
   (.seq
    (.reg [⟨(some 3), none, [], [], .bld [.nl] []⟩,
      ⟨(some 4), none, [], [], .fa 2 (.t 1)⟩,
      ⟨none, none, [], [], .sto 1 (.t 4) (.t 3)⟩] (some [1, 2]))
    (.seq
     (.reg [⟨(some 5), none, [], [], .ld true 3 (.t 1)⟩,
       ⟨none, none, [], [], .sto 3 (.t 2) (.t 5)⟩] (some [2]))
     .ret)))
theorem b60 : cmpG Try.prog 60 = some (strip a60, r60, 6) := by kernel_rfl

abbrev r61 : List AR := [.t 2]
abbrev a61 : ACode :=
  (.seq
   (.reg [⟨(some 2), none, [], [], .mv (.k .nl)⟩] (some [0]))
   (.seq
    (.reg [⟨(some 3), none, [], [], .mv (.k .nl)⟩] none)
    (.seq
     (.seq
      (.reg [⟨(some 6), none, [], [], .mv (.t 0)⟩,
        ⟨(some 7), none, [], [], .lenL (.t 6)⟩,
        ⟨(some 8), none, [], [], .mv (.k (.sc (.int .i64 (0))))⟩] (some [3, 6, 7, 8]))
      (.block 0
       (.loop
        (.seq
         (.reg [⟨(some 9), none, [], [], .bin .lss false (.t 8) (.t 7)⟩] none)
         (.seq
          (.cond (.t 9)
           (.keep [3, 6, 7, 8]
            .skip)
           (.exit 0))
          (.seq
           (.block 1
            (.seq
             (.reg [⟨(some 10), none, [], [], .ixaS 2 (.t 6) (.t 8)⟩,
               ⟨(some 11), none, [], [], .ld true 2 (.t 10)⟩,
               ⟨(some 5), none, [], [], .alc [(.sc (.int .i64 (0))), (.sc (.int .i64 (0)))]⟩,
               ⟨none, none, [], [], .sto 2 (.t 5) (.t 11)⟩] (some [3, 5, 6, 7, 8]))
             (.reg [⟨(some 12), none, [], [], .mv (.t 3)⟩,
               ⟨(some 13), none, [], [], .ld true 2 (.t 5)⟩,
               ⟨(some 14), none, [], [], .bsl 1 2 [(.sc (.int .i64 (0))), (.sc (.int .i64 (0)))] [(0, 2, (.t 13))]⟩,
               ⟨(some 15), none, [], [], .app 2 16 (.t 12) (.t 14)⟩,
               ⟨(some 3), none, [], [], .mv (.t 15)⟩] (some [3, 6, 7, 8]))))
           (.reg [⟨(some 16), none, [], [], .bin .add false (.t 8) (.k (.sc (.int .i64 (1))))⟩,
             ⟨(some 8), none, [], [], .mv (.t 16)⟩] (some [3, 6, 7, 8]))))))))
     (.seq
      (.reg [⟨(some 17), none, [], [], .mv (.t 3)⟩,
        ⟨(some 2), none, [], [], .mv (.t 17)⟩] (some [2]))
      .ret))))
theorem b61 : cmpG Try.prog 61 = some (strip a61, r61, 18) := by kernel_rfl

abbrev r79 : List AR := [.t 4]
abbrev a79 : ACode :=
  (.seq
   (.reg [⟨(some 2), none, [], [], .box (.t 0)⟩,
     ⟨(some 4), none, [], [], .mv (.k (.sc (.bool false)))⟩] (some [1, 2]))
   (.seq
    (.reg [⟨(some 5), none, [], [], .mv (.t 1)⟩,
      ⟨(some 6), none, [], [], .bin .geq false (.t 5) (.k (.sc (.int .i64 (0))))⟩,
      ⟨(some 7), none, [], [], .mv (.t 6)⟩,
      ⟨(some 8), (some (7, true)), [], [], .mv (.t 1)⟩,
      ⟨(some 9), (some (7, true)), [], [], .fa 0 (.t 2)⟩,
      ⟨(some 10), (some (7, true)), [], [], .ld false 1 (.t 9)⟩,
      ⟨(some 11), (some (7, true)), [], [], .bin .leq false (.t 8) (.t 10)⟩,
      ⟨(some 12), none, [], [], .pick (.t 7) (.t 11) (.k (.sc (.bool false)))⟩,
      ⟨(some 13), none, [], [], .mv (.t 12)⟩,
      ⟨(some 14), (some (13, true)), [], [], .mv (.t 1)⟩,
      ⟨(some 15), (some (13, true)), [], [], .bin .rem false (.t 14) (.k (.sc (.int .i64 (256))))⟩,
      ⟨(some 16), (some (13, true)), [], [], .bin .eql false (.t 15) (.k (.sc (.int .i64 (0))))⟩,
      ⟨(some 17), (some (13, true)), [], [], .mv (.t 16)⟩,
      ⟨(some 18), (some (17, false)), [], [], .mv (.t 1)⟩,
      ⟨(some 19), (some (17, false)), [], [], .fa 0 (.t 2)⟩,
      ⟨(some 20), (some (17, false)), [], [], .ld false 1 (.t 19)⟩,
      ⟨(some 21), (some (17, false)), [], [], .bin .eql false (.t 18) (.t 20)⟩,
      ⟨(some 22), (some (13, true)), [], [], .pick (.t 17) (.k (.sc (.bool true))) (.t 21)⟩,
      ⟨(some 23), none, [], [], .pick (.t 13) (.t 22) (.k (.sc (.bool false)))⟩,
      ⟨(some 4), none, [], [], .mv (.t 23)⟩] (some [4]))
    .ret))
theorem b79 : cmpG Try.prog 79 = some (strip a79, r79, 24) := by kernel_rfl

abbrev r80 : List AR := [.t 2]
abbrev a80 : ACode :=
  (.seq
   (.reg [⟨(some 1), none, [], [], .box (.t 0)⟩,
     ⟨(some 2), none, [], [], .mv (.k (.sc .nilFunc))⟩] (some [1]))
   (.seq
    (.reg [⟨(some 3), none, [], [], .mkf 83 [(.t 1)]⟩,
      ⟨(some 2), none, [], [], .mv (.t 3)⟩] (some [2]))
    .ret))
theorem b80 : cmpG Try.prog 80 = some (strip a80, r80, 4) := by kernel_rfl

abbrev r81 : List AR := [.c 2 true 1]
abbrev a81 : ACode :=
  (.seq
   (.reg [⟨(some 1), none, [], [], .box (.t 0)⟩,
     ⟨(some 2), none, [], [], .alc [.nl]⟩] (some [1, 2]))
   (.seq
    (.reg [⟨(some 5), none, [], [], .bld [.nl] []⟩,
      ⟨(some 3), none, [], [], .alc [.nl]⟩,
      ⟨none, none, [], [], .sto 1 (.t 3) (.t 5)⟩] (some [1, 2, 3]))
    (.seq
     (.seq
      (.reg [⟨(some 6), none, [], [], .ld true 3 (.t 1)⟩,
        ⟨(some 7), none, [], [], .cal (.k (.fn 80 [])) [(.t 6)]⟩] (some [1, 2, 3, 7]))
      (.block 0
       (.rgf (.t 7) 8
        (.reg [⟨(some 4), none, [], [], .alc [(.sc (.int .i64 (0))), (.sc (.int .i64 (0)))]⟩,
          ⟨none, none, [], [], .sto 2 (.t 4) (.t 8)⟩] (some [1, 3, 4]))
        (.block 1
         (.seq
          (.reg [⟨(some 9), none, [], [], .fa 2 (.t 1)⟩,
            ⟨(some 10), none, [], [], .ld true 1 (.t 9)⟩,
            ⟨(some 11), none, [], [], .fa 0 (.t 4)⟩,
            ⟨(some 12), none, [], [], .ld false 1 (.t 11)⟩,
            ⟨(some 13), none, [], [], .cal (.k (.fn 38 [])) [(.t 10), (.t 12)]⟩,
            ⟨(some 14), none, [], [], .mv (.t 13)⟩,
            ⟨(some 15), (some (14, true)), [], [], .fa 1 (.t 1)⟩,
            ⟨(some 16), (some (14, true)), [], [], .ld true 1 (.t 15)⟩,
            ⟨(some 17), (some (14, true)), [], [], .fa 0 (.t 4)⟩,
            ⟨(some 18), (some (14, true)), [], [], .ld false 1 (.t 17)⟩,
            ⟨(some 19), (some (14, true)), [], [], .cal (.k (.fn 38 [])) [(.t 16), (.t 18)]⟩,
            ⟨(some 20), (some (14, true)), [], [], .un .not (.t 19)⟩,
            ⟨(some 21), none, [], [], .pick (.t 14) (.t 20) (.k (.sc (.bool false)))⟩] (some [3, 4, 21]))
          (.cond (.t 21)
           (.keep [3, 4]
            (.reg [⟨(some 22), none, [], [], .ld true 1 (.t 3)⟩,
              ⟨(some 23), none, [], [], .fa 0 (.t 4)⟩,
              ⟨(some 24), none, [], [], .ld false 1 (.t 23)⟩,
              ⟨(some 25), none, [], [], .fa 1 (.t 4)⟩,
              ⟨(some 26), none, [], [], .ld false 1 (.t 25)⟩,
              ⟨(some 27), none, [], [], .cal (.k (.fn 43 [])) [(.t 22), (.t 24), (.t 26)]⟩,
              ⟨none, none, [], [], .sto 1 (.t 3) (.t 27)⟩] (some [])))
           (.keep []
            .skip)))))))
     (.seq
      (.reg [⟨(some 28), none, [], [], .ld true 1 (.t 3)⟩,
        ⟨none, none, [], [], .sto 1 (.t 2) (.t 28)⟩] (some [2]))
      .ret))))
theorem b81 : cmpG Try.prog 81 = some (strip a81, r81, 29) := by kernel_rfl

end Go.Proofs.Ytnfgnafphfddhaa.Cod
