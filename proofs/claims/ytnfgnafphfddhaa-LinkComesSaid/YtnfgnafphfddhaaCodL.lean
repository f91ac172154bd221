import Derived.Test.YtnfgnafphfddhaaProg
import Derived.Test.YtnfgnafphfddhaaSimD
import Derived.KernelRfl
namespace Go.Proofs.Ytnfgnafphfddhaa.Cod
open Go Go.Sim Go.Proofs
set_option maxRecDepth 100000
abbrev r5 : List AR := [.t 4]
abbrev a5 : ACode :=
  (.seq
   (.reg [⟨(some 3), none, [], [], .box (.t 1)⟩,
     ⟨(some 4), none, [], [], .mv (.k (.sc (.bool false)))⟩] (some [0, 3]))
   (.seq
    (.reg [⟨(some 24), none, [], [], .cal (.k (.fn 19 [])) [(.k (.sc (.int .i64 (20))))]⟩,
      ⟨(some 23), none, [], [], .mv (.t 24)⟩,
      ⟨(some 25), none, [], [], .ext (.t 23) 0⟩,
      ⟨(some 26), none, [], [], .ext (.t 23) 1⟩,
      ⟨(some 5), none, [], [], .alc [(.sc (.int .i64 (0))), .nl, (.sc (.int .i64 (0))), (.sc (.int .i64 (0)))]⟩,
      ⟨none, none, [], [], .sto 4 (.t 5) (.t 25)⟩,
      ⟨(some 6), none, [], [], .mv (.t 26)⟩] (some [0, 3, 5, 6]))
    (.seq
     (.seq
      (.reg [⟨(some 27), none, [], [], .mv (.t 6)⟩,
        ⟨(some 28), none, [], [], .bin .neq false (.t 27) (.k (.sc (.int .i64 (0))))⟩,
        ⟨(some 29), none, [], [], .mv (.t 28)⟩,
        ⟨(some 30), (some (29, false)), [], [], .fa 1 (.t 3)⟩,
        ⟨(some 31), (some (29, false)), [], [], .ld false 1 (.t 30)⟩,
        ⟨(some 32), (some (29, false)), [], [], .lenL (.t 31)⟩,
        ⟨(some 33), (some (29, false)), [], [], .bin .gtr false (.t 32) (.k (.sc (.int .i64 (500))))⟩,
        ⟨(some 34), none, [], [], .pick (.t 29) (.k (.sc (.bool true))) (.t 33)⟩] (some [0, 3, 5, 6, 34]))
      (.cond (.t 34)
       (.keep [6]
        (.seq
         (.reg [⟨(some 35), none, [], [], .mv (.t 6)⟩,
           ⟨(some 36), none, [], [], .bin .eql false (.t 35) (.k (.sc (.int .i64 (0))))⟩,
           ⟨(some 37), none, [], [], .mv (.t 36)⟩,
           ⟨(some 38), (some (37, true)), [], [], .cal (.k (.fn 14 [])) []⟩,
           ⟨(some 39), none, [], [], .pick (.t 37) (.t 38) (.k (.sc (.bool false)))⟩,
           ⟨(some 4), none, [], [], .mv (.t 39)⟩] (some [4]))
         .ret))
       (.keep [0, 3, 5]
        .skip)))
     (.seq
      (.reg [⟨(some 7), none, [], [], .mv (.k .nl)⟩] (some [0, 3, 5, 7]))
      (.seq
       (.seq
        (.reg [⟨(some 40), none, [], [], .mv (.t 0)⟩,
          ⟨(some 41), none, [], [], .mv (.t 0)⟩,
          ⟨(some 42), none, [], [], .lenL (.t 41)⟩,
          ⟨(some 43), none, [], [], .mn [(.t 42), (.k (.sc (.int .i64 (60))))]⟩,
          ⟨(some 44), none, [], [], .slL 8 none (some (.t 43)) none (.t 40)⟩,
          ⟨(some 45), none, [], [], .lenL (.t 44)⟩,
          ⟨(some 46), none, [], [], .mv (.k (.sc (.int .i64 (0))))⟩] (some [3, 5, 7, 44, 45, 46]))
        (.block 0
         (.loop
          (.seq
           (.reg [⟨(some 47), none, [], [], .bin .lss false (.t 46) (.t 45)⟩] none)
           (.seq
            (.cond (.t 47)
             (.keep [3, 5, 7, 44, 45, 46]
              .skip)
             (.exit 0))
            (.seq
             (.block 1
              (.seq
               (.reg [⟨(some 48), none, [], [], .ixaS 8 (.t 44) (.t 46)⟩,
                 ⟨(some 49), none, [], [], .ld true 8 (.t 48)⟩,
                 ⟨(some 9), none, [], [], .alc [(.sc (.bool false)), .nl, (.sc (.int .i64 (0))), (.sc (.int .u16 (0))), (.sc (.int .u8 (0))), (.sc (.int .u8 (0))), (.sc (.int .u8 (0))), (.sc (.int .u8 (0)))]⟩,
                 ⟨none, none, [], [], .sto 8 (.t 9) (.t 49)⟩] (some [3, 5, 7, 9, 44, 45, 46]))
               (.seq
                (.seq
                 (.reg [⟨(some 50), none, [], [], .fa 1 (.t 9)⟩,
                   ⟨(some 51), none, [], [], .ld false 1 (.t 50)⟩,
                   ⟨(some 52), none, [], [], .lenL (.t 51)⟩,
                   ⟨(some 53), none, [], [], .bin .gtr false (.t 52) (.k (.sc (.int .i64 (500))))⟩] (some [3, 5, 7, 9, 44, 45, 46, 53]))
                 (.cond (.t 53)
                  (.keep []
                   (.seq
                    (.reg [⟨(some 54), none, [], [], .cal (.k (.fn 14 [])) []⟩,
                      ⟨(some 4), none, [], [], .mv (.t 54)⟩] (some [4]))
                    .ret))
                  (.keep [3, 5, 7, 9, 44, 45, 46]
                   .skip)))
                (.seq
                 (.reg [⟨(some 55), none, [], [], .fa 1 (.t 9)⟩,
                   ⟨(some 56), none, [], [], .ld false 1 (.t 55)⟩,
                   ⟨(some 57), none, [], [], .app 1 1 (.k .nl) (.t 56)⟩,
                   ⟨(some 10), none, [], [], .mv (.t 57)⟩] (some [3, 5, 7, 9, 10, 44, 45, 46]))
                 (.seq
                  (.reg [⟨(some 58), none, [], [], .mv (.t 7)⟩,
                    ⟨(some 59), none, [], [], .fa 1 (.t 9)⟩,
                    ⟨(some 60), none, [], [], .ld false 1 (.t 59)⟩,
                    ⟨(some 61), none, [], [], .bsl 1 1 [.nl] [(0, 1, (.t 60))]⟩,
                    ⟨(some 62), none, [], [], .app 1 24 (.t 58) (.t 61)⟩,
                    ⟨(some 7), none, [], [], .mv (.t 62)⟩] (some [3, 5, 7, 9, 10, 44, 45, 46]))
                  (.seq
                   (.seq
                    (.reg [⟨(some 63), none, [], [], .fa 2 (.t 9)⟩,
                      ⟨(some 64), none, [], [], .fa 0 (.t 63)⟩,
                      ⟨(some 65), none, [], [], .ld false 1 (.t 64)⟩,
                      ⟨(some 66), none, [], [], .bin .eql false (.t 65) (.k (.sc (.int .i64 (4))))⟩] (some [3, 5, 7, 9, 10, 44, 45, 46, 66]))
                    (.cond (.t 66)
                     (.keep [3, 5, 7, 9, 10, 44, 45, 46]
                      (.reg [⟨(some 67), none, [], [], .fa 2 (.t 9)⟩,
                        ⟨(some 68), none, [], [], .fa 0 (.t 67)⟩,
                        ⟨none, none, [], [], .sto 1 (.t 68) (.k (.sc (.int .i64 (0))))⟩] (some [3, 5, 7, 9, 10, 44, 45, 46])))
                     (.keep [3, 5, 7, 9, 10, 44, 45, 46]
                      .skip)))
                   (.seq
                    (.regD [⟨(some 69), none, [(.t 5)], [], .ld true 4 (.t 5)⟩,
                      ⟨(some 70), none, [(.t 10)], [0], .mv (.t 10)⟩,
                      ⟨(some 71), none, [(.t 9)], [0, 1], .fa 2 (.t 9)⟩,
                      ⟨(some 72), none, [(.t 71)], [0, 1], .ld true 6 (.t 71)⟩,
                      ⟨(some 73), none, [(.k (.fn 16 [])), (.t 72)], [0, 1], .cal (.k (.fn 16 [])) [(.t 72)]⟩,
                      ⟨(some 74), none, [(.k (.fn 20 [])), (.t 69), (.t 70), (.t 73)], [], .calG [1] (.k (.fn 20 [])) [(.t 69), (.t 70), (.t 73)]⟩,
                      ⟨none, none, [(.t 5), (.t 74)], [], .sto 4 (.t 5) (.t 74)⟩] (some [3, 5, 7, 10, 44, 45, 46]))
                    (.seq
                     (.reg [⟨(some 75), none, [], [], .mv (.t 10)⟩,
                       ⟨(some 76), none, [], [], .lenL (.t 75)⟩,
                       ⟨(some 77), none, [], [], .mv (.k (.sc (.int .i64 (0))))⟩] (some [3, 5, 7, 10, 44, 45, 46, 76, 77]))
                     (.block 2
                      (.loop
                       (.seq
                        (.reg [⟨(some 78), none, [], [], .bin .lss false (.t 77) (.t 76)⟩] none)
                        (.seq
                         (.cond (.t 78)
                          (.keep [3, 5, 7, 10, 44, 45, 46, 76, 77]
                           .skip)
                          (.exit 2))
                         (.seq
                          (.block 3
                           (.seq
                            (.reg [⟨(some 79), none, [], [], .mv (.t 77)⟩,
                              ⟨(some 11), none, [], [], .mv (.t 79)⟩] (some [3, 5, 7, 10, 11, 44, 45, 46, 76, 77]))
                            (.reg [⟨(some 80), none, [], [], .mv (.t 10)⟩,
                              ⟨(some 81), none, [], [], .mv (.t 11)⟩,
                              ⟨(some 82), none, [], [], .ixaS 1 (.t 80) (.t 81)⟩,
                              ⟨(some 83), none, [], [], .ld false 1 (.t 82)⟩,
                              ⟨(some 84), none, [], [], .bin .add false (.t 83) (.k (.sc (.int .u8 (1))))⟩,
                              ⟨(some 85), none, [], [], .ixaS 1 (.t 80) (.t 81)⟩,
                              ⟨none, none, [], [], .sto 1 (.t 85) (.t 84)⟩] (some [3, 5, 7, 10, 44, 45, 46, 76, 77]))))
                          (.reg [⟨(some 86), none, [], [], .bin .add false (.t 77) (.k (.sc (.int .i64 (1))))⟩,
                            ⟨(some 77), none, [], [], .mv (.t 86)⟩] (some [3, 5, 7, 10, 44, 45, 46, 76, 77])))))))))))))))
             (.reg [⟨(some 87), none, [], [], .bin .add false (.t 46) (.k (.sc (.int .i64 (1))))⟩,
               ⟨(some 46), none, [], [], .mv (.t 87)⟩] (some [3, 5, 7, 44, 45, 46]))))))))
       (.seq
        (.reg [⟨(some 88), none, [], [], .ld true 4 (.t 5)⟩,
          ⟨(some 89), none, [], [], .cal (.k (.fn 24 [])) [(.t 88)]⟩,
          ⟨(some 12), none, [], [], .mv (.t 89)⟩] (some [3, 5, 7, 12]))
        (.seq
         (.regD [⟨(some 90), none, [(.t 5)], [], .ld true 4 (.t 5)⟩,
           ⟨(some 91), none, [(.t 3)], [0], .fa 1 (.t 3)⟩,
           ⟨(some 92), none, [(.t 91)], [0], .ld false 1 (.t 91)⟩,
           ⟨(some 93), none, [(.t 3)], [0, 1, 2], .fa 2 (.t 3)⟩,
           ⟨(some 94), none, [(.t 93)], [0, 1, 2], .ld true 6 (.t 93)⟩,
           ⟨(some 95), none, [(.k (.fn 16 [])), (.t 94)], [0, 1, 2], .cal (.k (.fn 16 [])) [(.t 94)]⟩,
           ⟨(some 96), none, [(.k (.fn 20 [])), (.t 90), (.t 92), (.t 95)], [], .calG [1] (.k (.fn 20 [])) [(.t 90), (.t 92), (.t 95)]⟩,
           ⟨(some 97), none, [(.t 3)], [0, 1, 2, 3, 4, 5, 6], .fa 1 (.t 3)⟩,
           ⟨(some 98), none, [(.t 97)], [0, 1, 2, 3, 4, 5, 6], .ld false 1 (.t 97)⟩,
           ⟨(some 99), none, [], [0, 1, 2, 3, 4, 5, 6, 7, 8], .bld [(.sc (.int .i64 (0))), (.sc (.int .u16 (0))), (.sc (.int .u8 (0))), (.sc (.int .u8 (0))), (.sc (.int .u8 (0))), (.sc (.int .u8 (0)))] []⟩,
           ⟨(some 100), none, [(.k (.fn 20 [])), (.t 96), (.t 98), (.t 99)], [], .calG [1] (.k (.fn 20 [])) [(.t 96), (.t 98), (.t 99)]⟩,
           ⟨(some 13), none, [], [0, 1, 2, 3, 4, 5, 6, 7, 8, 9, 10], .alc [(.sc (.int .i64 (0))), .nl, (.sc (.int .i64 (0))), (.sc (.int .i64 (0)))]⟩,
           ⟨none, none, [(.t 13), (.t 100)], [], .sto 4 (.t 13) (.t 100)⟩] (some [5, 7, 12, 13]))
         (.seq
          (.reg [⟨(some 102), none, [], [], .ld true 4 (.t 13)⟩,
            ⟨(some 103), none, [], [], .cal (.k (.fn 22 [])) [(.t 102)]⟩,
            ⟨(some 101), none, [], [], .mv (.t 103)⟩,
            ⟨(some 104), none, [], [], .ext (.t 101) 0⟩,
            ⟨(some 105), none, [], [], .ext (.t 101) 1⟩,
            ⟨(some 106), none, [], [], .ext (.t 101) 2⟩,
            ⟨(some 14), none, [], [], .alc [(.sc (.int .i64 (0))), .nl, (.sc (.int .i64 (0))), (.sc (.int .i64 (0)))]⟩,
            ⟨none, none, [], [], .sto 4 (.t 14) (.t 104)⟩,
            ⟨(some 15), none, [], [], .mv (.t 105)⟩,
            ⟨(some 16), none, [], [], .mv (.t 106)⟩] (some [5, 7, 12, 13, 14, 15, 16]))
          (.seq
           (.seq
            (.reg [⟨(some 107), none, [], [], .mv (.t 15)⟩,
              ⟨(some 108), none, [], [], .lenL (.t 107)⟩,
              ⟨(some 109), none, [], [], .mv (.k (.sc (.int .i64 (0))))⟩] (some [5, 7, 12, 13, 14, 15, 16, 108, 109]))
            (.block 4
             (.loop
              (.seq
               (.reg [⟨(some 110), none, [], [], .bin .lss false (.t 109) (.t 108)⟩] none)
               (.seq
                (.cond (.t 110)
                 (.keep [5, 7, 12, 13, 14, 15, 16, 108, 109]
                  .skip)
                 (.exit 4))
                (.seq
                 (.block 5
                  (.seq
                   (.reg [⟨(some 111), none, [], [], .mv (.t 109)⟩,
                     ⟨(some 17), none, [], [], .mv (.t 111)⟩] (some [5, 7, 12, 13, 14, 15, 16, 17, 108, 109]))
                   (.reg [⟨(some 112), none, [], [], .mv (.t 15)⟩,
                     ⟨(some 113), none, [], [], .mv (.t 17)⟩,
                     ⟨(some 114), none, [], [], .ixaS 1 (.t 112) (.t 113)⟩,
                     ⟨(some 115), none, [], [], .ld false 1 (.t 114)⟩,
                     ⟨(some 116), none, [], [], .bin .add false (.t 115) (.k (.sc (.int .u8 (1))))⟩,
                     ⟨(some 117), none, [], [], .ixaS 1 (.t 112) (.t 113)⟩,
                     ⟨none, none, [], [], .sto 1 (.t 117) (.t 116)⟩] (some [5, 7, 12, 13, 14, 15, 16, 108, 109]))))
                 (.reg [⟨(some 118), none, [], [], .bin .add false (.t 109) (.k (.sc (.int .i64 (1))))⟩,
                   ⟨(some 109), none, [], [], .mv (.t 118)⟩] (some [5, 7, 12, 13, 14, 15, 16, 108, 109]))))))))
           (.seq
            (.reg [⟨(some 119), none, [], [], .ld true 4 (.t 5)⟩,
              ⟨(some 120), none, [], [], .cal (.k (.fn 24 [])) [(.t 119)]⟩,
              ⟨(some 18), none, [], [], .mv (.t 120)⟩] (some [7, 12, 13, 14, 16, 18]))
            (.seq
             (.seq
              (.regD [⟨(some 121), none, [(.t 12)], [], .mv (.t 12)⟩,
                ⟨(some 122), none, [(.t 121)], [], .lenL (.t 121)⟩,
                ⟨(some 123), none, [(.t 18)], [0, 1], .mv (.t 18)⟩,
                ⟨(some 124), none, [(.t 123)], [0, 1], .lenL (.t 123)⟩,
                ⟨(some 125), none, [(.t 122), (.t 124)], [], .bin .neq false (.t 122) (.t 124)⟩,
                ⟨(some 126), none, [(.t 125)], [], .mv (.t 125)⟩,
                ⟨(some 127), (some (126, false)), [(.t 16)], [], .mv (.t 16)⟩,
                ⟨(some 128), (some (126, false)), [(.t 127)], [], .mv (.t 127)⟩,
                ⟨(some 129), (some (128, true)), [(.t 14)], [], .ld true 4 (.t 14)⟩,
                ⟨(some 130), (some (128, true)), [(.k (.fn 23 [])), (.t 129)], [], .cal (.k (.fn 23 [])) [(.t 129)]⟩,
                ⟨(some 131), (some (128, true)), [(.t 13)], [8, 9], .ld true 4 (.t 13)⟩,
                ⟨(some 132), (some (128, true)), [(.k (.fn 23 [])), (.t 131)], [], .cal (.k (.fn 23 [])) [(.t 131)]⟩,
                ⟨(some 133), (some (128, true)), [(.t 132), (.k (.sc (.int .i64 (1))))], [], .bin .sub false (.t 132) (.k (.sc (.int .i64 (1))))⟩,
                ⟨(some 134), (some (128, true)), [(.t 130), (.t 133)], [], .bin .neq false (.t 130) (.t 133)⟩,
                ⟨(some 135), (some (126, false)), [(.t 128), (.t 134), (.k (.sc (.bool false)))], [], .pick (.t 128) (.t 134) (.k (.sc (.bool false)))⟩,
                ⟨(some 136), none, [(.t 126), (.k (.sc (.bool true))), (.t 135)], [], .pick (.t 126) (.k (.sc (.bool true))) (.t 135)⟩] (some [7, 12, 18, 136]))
              (.cond (.t 136)
               (.keep []
                (.seq
                 (.reg [⟨(some 4), none, [], [], .mv (.k (.sc (.bool false)))⟩] none)
                 .ret))
               (.keep [7, 12, 18]
                .skip)))
             (.seq
              (.seq
               (.reg [⟨(some 137), none, [], [], .mv (.t 12)⟩,
                 ⟨(some 138), none, [], [], .lenL (.t 137)⟩,
                 ⟨(some 139), none, [], [], .mv (.k (.sc (.int .i64 (0))))⟩] (some [7, 12, 18, 138, 139]))
               (.block 6
                (.loop
                 (.seq
                  (.reg [⟨(some 140), none, [], [], .bin .lss false (.t 139) (.t 138)⟩] none)
                  (.seq
                   (.cond (.t 140)
                    (.keep [7, 12, 18, 138, 139]
                     .skip)
                    (.exit 6))
                   (.seq
                    (.block 7
                     (.seq
                      (.reg [⟨(some 141), none, [], [], .mv (.t 139)⟩,
                        ⟨(some 19), none, [], [], .mv (.t 141)⟩] (some [7, 12, 18, 19, 138, 139]))
                      (.seq
                       (.reg [⟨(some 20), none, [], [], .mv (.k (.sc (.bool false)))⟩] none)
                       (.seq
                        (.seq
                         (.reg [⟨(some 142), none, [], [], .mv (.t 7)⟩,
                           ⟨(some 143), none, [], [], .lenL (.t 142)⟩,
                           ⟨(some 144), none, [], [], .mv (.k (.sc (.int .i64 (0))))⟩] none)
                         (.block 8
                          (.loop
                           (.seq
                            (.reg [⟨(some 145), none, [], [], .bin .lss false (.t 144) (.t 143)⟩] none)
                            (.seq
                             (.cond (.t 145)
                              (.keep [7, 12, 18, 19, 20, 138, 139, 142, 143, 144]
                               .skip)
                              (.exit 8))
                             (.seq
                              (.block 9
                               (.seq
                                (.reg [⟨(some 146), none, [], [], .ixaS 1 (.t 142) (.t 144)⟩,
                                  ⟨(some 147), none, [], [], .ld false 1 (.t 146)⟩,
                                  ⟨(some 22), none, [], [], .mv (.t 147)⟩] (some [7, 12, 18, 19, 20, 22, 138, 139, 142, 143, 144]))
                                (.reg [⟨(some 148), none, [], [], .mv (.t 20)⟩,
                                  ⟨(some 149), none, [], [], .mv (.t 148)⟩,
                                  ⟨(some 150), (some (149, false)), [], [], .mv (.t 22)⟩,
                                  ⟨(some 151), (some (149, false)), [], [], .mv (.t 12)⟩,
                                  ⟨(some 152), (some (149, false)), [], [], .mv (.t 19)⟩,
                                  ⟨(some 153), (some (149, false)), [], [], .ixaS 1 (.t 151) (.t 152)⟩,
                                  ⟨(some 154), (some (149, false)), [], [], .ld false 1 (.t 153)⟩,
                                  ⟨(some 155), (some (149, false)), [], [], .cal (.k (.fn 18 [])) [(.t 150), (.t 154)]⟩,
                                  ⟨(some 156), none, [], [], .pick (.t 149) (.k (.sc (.bool true))) (.t 155)⟩,
                                  ⟨(some 20), none, [], [], .mv (.t 156)⟩] (some [7, 12, 18, 19, 20, 138, 139, 142, 143, 144]))))
                              (.reg [⟨(some 157), none, [], [], .bin .add false (.t 144) (.k (.sc (.int .i64 (1))))⟩,
                                ⟨(some 144), none, [], [], .mv (.t 157)⟩] (some [7, 12, 18, 19, 20, 138, 139, 142, 143, 144]))))))))
                        (.seq
                         (.regD [⟨(some 158), none, [(.t 20)], [], .mv (.t 20)⟩,
                           ⟨(some 159), none, [(.t 158)], [], .un .not (.t 158)⟩,
                           ⟨(some 160), none, [(.t 159)], [], .mv (.t 159)⟩,
                           ⟨(some 161), (some (160, false)), [(.t 12)], [], .mv (.t 12)⟩,
                           ⟨(some 162), (some (160, false)), [(.t 19)], [3], .mv (.t 19)⟩,
                           ⟨(some 163), (some (160, false)), [(.t 161), (.t 162)], [], .ixaS 1 (.t 161) (.t 162)⟩,
                           ⟨(some 164), (some (160, false)), [(.t 163)], [], .ld false 1 (.t 163)⟩,
                           ⟨(some 165), (some (160, false)), [(.t 18)], [3, 4, 5, 6], .mv (.t 18)⟩,
                           ⟨(some 166), (some (160, false)), [(.t 19)], [3, 4, 5, 6, 7], .mv (.t 19)⟩,
                           ⟨(some 167), (some (160, false)), [(.t 165), (.t 166)], [3, 4, 5, 6], .ixaS 1 (.t 165) (.t 166)⟩,
                           ⟨(some 168), (some (160, false)), [(.t 167)], [3, 4, 5, 6], .ld false 1 (.t 167)⟩,
                           ⟨(some 169), (some (160, false)), [(.k (.fn 18 [])), (.t 164), (.t 168)], [], .cal (.k (.fn 18 [])) [(.t 164), (.t 168)]⟩,
                           ⟨(some 170), (some (160, false)), [(.t 169)], [], .un .not (.t 169)⟩,
                           ⟨(some 171), none, [(.t 160), (.k (.sc (.bool true))), (.t 170)], [], .pick (.t 160) (.k (.sc (.bool true))) (.t 170)⟩] (some [7, 12, 18, 138, 139, 171]))
                         (.cond (.t 171)
                          (.keep []
                           (.seq
                            (.reg [⟨(some 4), none, [], [], .mv (.k (.sc (.bool false)))⟩] none)
                            .ret))
                          (.keep [7, 12, 18, 138, 139]
                           .skip)))))))
                    (.reg [⟨(some 172), none, [], [], .bin .add false (.t 139) (.k (.sc (.int .i64 (1))))⟩,
                      ⟨(some 139), none, [], [], .mv (.t 172)⟩] (some [7, 12, 18, 138, 139]))))))))
              (.seq
               (.reg [⟨(some 173), none, [], [], .cal (.k (.fn 14 [])) []⟩,
                 ⟨(some 4), none, [], [], .mv (.t 173)⟩] (some [4]))
               .ret)))))))))))))
theorem b5 : cmpG Try.prog 5 = some (strip a5, r5, 174) := by kernel_rfl

abbrev r20 : List AR := [.c 6 true 4]
abbrev a20 : ACode :=
  (.seq
   (.reg [⟨(some 3), none, [], [], .box (.t 0)⟩,
     ⟨(some 5), none, [], [], .box (.t 2)⟩,
     ⟨(some 6), none, [], [], .alc [(.sc (.int .i64 (0))), .nl, (.sc (.int .i64 (0))), (.sc (.int .i64 (0)))]⟩] (some [1, 3, 5, 6]))
   (.seq
    (.reg [⟨(some 9), none, [], [], .fa 2 (.t 3)⟩,
      ⟨(some 10), none, [], [], .ld false 1 (.t 9)⟩,
      ⟨(some 11), none, [], [], .bin .add false (.t 10) (.k (.sc (.int .i64 (1))))⟩,
      ⟨(some 12), none, [], [], .fa 2 (.t 3)⟩,
      ⟨none, none, [], [], .sto 1 (.t 12) (.t 11)⟩] (some [1, 3, 5, 6]))
    (.seq
     (.seq
      (.reg [⟨(some 13), none, [], [], .fa 0 (.t 5)⟩,
        ⟨(some 14), none, [], [], .ld false 1 (.t 13)⟩] (some [1, 3, 5, 6, 14]))
      (.block 0
       (.seq
        (.reg [⟨(some 16), none, [], [], .bin .eql false (.t 14) (.k (.sc (.int .i64 (1))))⟩,
          ⟨(some 15), none, [], [], .mv (.t 16)⟩] (some [1, 3, 5, 6, 14, 15]))
        (.cond (.t 15)
         (.keep [3, 6]
          (.seq
           (.reg [⟨(some 17), none, [], [], .fa 3 (.t 3)⟩,
             ⟨(some 18), none, [], [], .ld false 1 (.t 17)⟩,
             ⟨(some 19), none, [], [], .bin .add false (.t 18) (.k (.sc (.int .i64 (1))))⟩,
             ⟨(some 20), none, [], [], .fa 3 (.t 3)⟩,
             ⟨none, none, [], [], .sto 1 (.t 20) (.t 19)⟩] (some [3, 6]))
           (.seq
            (.reg [⟨(some 21), none, [], [], .ld true 4 (.t 3)⟩,
              ⟨none, none, [], [], .sto 4 (.t 6) (.t 21)⟩] (some [6]))
            .ret)))
         (.keep [1, 3, 5, 6, 14]
          (.seq
           (.reg [⟨(some 23), none, [], [], .bin .eql false (.t 14) (.k (.sc (.int .i64 (2))))⟩,
             ⟨(some 22), none, [], [], .mv (.t 23)⟩] (some [1, 3, 5, 6, 14, 22]))
           (.cond (.t 22)
            (.keep [1, 3, 6]
             (.reg [⟨(some 24), none, [], [], .ld true 4 (.t 3)⟩,
               ⟨(some 25), none, [], [], .mv (.t 1)⟩,
               ⟨(some 26), none, [], [], .calG [1] (.k (.fn 63 [])) [(.t 24), (.t 25)]⟩,
               ⟨none, none, [], [], .sto 4 (.t 3) (.t 26)⟩] (some [1, 3, 6])))
            (.keep [1, 3, 5, 6, 14]
             (.seq
              (.reg [⟨(some 28), none, [], [], .bin .eql false (.t 14) (.k (.sc (.int .i64 (3))))⟩,
                ⟨(some 27), none, [], [], .mv (.t 28)⟩] (some [1, 3, 5, 6, 14, 27]))
              (.cond (.t 27)
               (.keep [1, 3, 6]
                (.seq
                 (.reg [⟨(some 29), none, [], [], .ld true 4 (.t 3)⟩,
                   ⟨(some 30), none, [], [], .mv (.t 1)⟩,
                   ⟨(some 31), none, [], [], .calG [1] (.k (.fn 64 [])) [(.t 29), (.t 30)]⟩,
                   ⟨none, none, [], [], .sto 4 (.t 6) (.t 31)⟩] (some [6]))
                 .ret))
               (.keep [1, 3, 5, 6, 14]
                (.seq
                 (.reg [⟨(some 33), none, [], [], .bin .eql false (.t 14) (.k (.sc (.int .i64 (4))))⟩,
                   ⟨(some 32), none, [], [], .mv (.t 33)⟩] (some [1, 3, 5, 6, 32]))
                 (.cond (.t 32)
                  (.keep [1, 3, 5, 6]
                   (.seq
                    (.reg [⟨(some 35), none, [], [], .mv (.t 1)⟩,
                      ⟨(some 36), none, [], [], .ld true 6 (.t 5)⟩,
                      ⟨(some 37), none, [], [], .cal (.k (.fn 15 [])) [(.t 35), (.t 36)]⟩,
                      ⟨(some 34), none, [], [], .mv (.t 37)⟩,
                      ⟨(some 38), none, [], [], .ext (.t 34) 0⟩,
                      ⟨(some 39), none, [], [], .ext (.t 34) 1⟩,
                      ⟨(some 7), none, [], [], .mv (.t 38)⟩,
                      ⟨(some 8), none, [], [], .mv (.t 39)⟩] (some [3, 6, 7, 8]))
                    (.seq
                     (.seq
                      (.reg [⟨(some 40), none, [], [], .mv (.t 8)⟩,
                        ⟨(some 41), none, [], [], .un .not (.t 40)⟩] (some [3, 6, 7, 41]))
                      (.cond (.t 41)
                       (.keep [3, 6]
                        (.seq
                         (.reg [⟨(some 42), none, [], [], .fa 3 (.t 3)⟩,
                           ⟨(some 43), none, [], [], .ld false 1 (.t 42)⟩,
                           ⟨(some 44), none, [], [], .bin .add false (.t 43) (.k (.sc (.int .i64 (1))))⟩,
                           ⟨(some 45), none, [], [], .fa 3 (.t 3)⟩,
                           ⟨none, none, [], [], .sto 1 (.t 45) (.t 44)⟩] (some [3, 6]))
                         (.seq
                          (.reg [⟨(some 46), none, [], [], .ld true 4 (.t 3)⟩,
                            ⟨none, none, [], [], .sto 4 (.t 6) (.t 46)⟩] (some [6]))
                          .ret)))
                       (.keep [3, 6, 7]
                        .skip)))
                     (.reg [⟨(some 47), none, [], [], .mv (.t 7)⟩,
                       ⟨(some 1), none, [], [], .mv (.t 47)⟩] (some [1, 3, 6])))))
                  (.keep [1, 3, 6]
                   .skip))))))))))))))
     (.seq
      (.reg [⟨(some 48), none, [], [], .ld true 4 (.t 3)⟩,
        ⟨(some 49), none, [], [], .mv (.t 1)⟩,
        ⟨(some 50), none, [], [], .calG [1] (.k (.fn 63 [])) [(.t 48), (.t 49)]⟩,
        ⟨none, none, [], [], .sto 4 (.t 6) (.t 50)⟩] (some [6]))
      .ret))))
theorem b20 : cmpG Try.prog 20 = some (strip a20, r20, 51) := by kernel_rfl

abbrev r24 : List AR := [.t 2]
abbrev a24 : ACode :=
  (.seq
   (.reg [⟨(some 1), none, [], [], .box (.t 0)⟩,
     ⟨(some 2), none, [], [], .mv (.k .nl)⟩] (some [1]))
   (.seq
    (.reg [⟨(some 3), none, [], [], .mv (.k .nl)⟩] none)
    (.seq
     (.seq
      (.reg [⟨(some 6), none, [], [], .fa 1 (.t 1)⟩,
        ⟨(some 7), none, [], [], .ld false 1 (.t 6)⟩,
        ⟨(some 8), none, [], [], .lenL (.t 7)⟩,
        ⟨(some 9), none, [], [], .mv (.k (.sc (.int .i64 (0))))⟩] (some [3, 7, 8, 9]))
      (.block 0
       (.loop
        (.seq
         (.reg [⟨(some 10), none, [], [], .bin .lss false (.t 9) (.t 8)⟩] none)
         (.seq
          (.cond (.t 10)
           (.keep [3, 7, 8, 9]
            .skip)
           (.exit 0))
          (.seq
           (.block 1
            (.seq
             (.reg [⟨(some 11), none, [], [], .ixaS 1 (.t 7) (.t 9)⟩,
               ⟨(some 12), none, [], [], .ld false 1 (.t 11)⟩,
               ⟨(some 5), none, [], [], .mv (.t 12)⟩] (some [3, 5, 7, 8, 9]))
             (.reg [⟨(some 13), none, [], [], .mv (.t 3)⟩,
               ⟨(some 14), none, [], [], .mv (.t 5)⟩,
               ⟨(some 15), none, [], [], .calG [0] (.k (.fn 62 [])) [(.t 14)]⟩,
               ⟨(some 16), none, [], [], .bsl 1 1 [.nl] [(0, 1, (.t 15))]⟩,
               ⟨(some 17), none, [], [], .app 1 24 (.t 13) (.t 16)⟩,
               ⟨(some 3), none, [], [], .mv (.t 17)⟩] (some [3, 7, 8, 9]))))
           (.reg [⟨(some 18), none, [], [], .bin .add false (.t 9) (.k (.sc (.int .i64 (1))))⟩,
             ⟨(some 9), none, [], [], .mv (.t 18)⟩] (some [3, 7, 8, 9]))))))))
     (.seq
      (.reg [⟨(some 19), none, [], [], .mv (.t 3)⟩,
        ⟨(some 2), none, [], [], .mv (.t 19)⟩] (some [2]))
      .ret))))
theorem b24 : cmpG Try.prog 24 = some (strip a24, r24, 20) := by kernel_rfl

abbrev r22 : List AR := [.c 2 true 4, .t 3, .t 4]
abbrev a22 : ACode :=
  (.seq
   (.reg [⟨(some 1), none, [], [], .box (.t 0)⟩,
     ⟨(some 2), none, [], [], .alc [(.sc (.int .i64 (0))), .nl, (.sc (.int .i64 (0))), (.sc (.int .i64 (0)))]⟩,
     ⟨(some 3), none, [], [], .mv (.k .nl)⟩,
     ⟨(some 4), none, [], [], .mv (.k (.sc (.bool false)))⟩] (some [1, 2]))
   (.seq
    (.seq
     (.reg [⟨(some 6), none, [], [], .fa 1 (.t 1)⟩,
       ⟨(some 7), none, [], [], .ld false 1 (.t 6)⟩,
       ⟨(some 8), none, [], [], .lenL (.t 7)⟩,
       ⟨(some 9), none, [], [], .bin .eql false (.t 8) (.k (.sc (.int .i64 (0))))⟩] (some [1, 2, 9]))
     (.cond (.t 9)
      (.keep [1, 2]
       (.seq
        (.reg [⟨(some 10), none, [], [], .ld true 4 (.t 1)⟩,
          ⟨none, none, [], [], .sto 4 (.t 2) (.t 10)⟩,
          ⟨(some 3), none, [], [], .mv (.k .nl)⟩,
          ⟨(some 4), none, [], [], .mv (.k (.sc (.bool false)))⟩] (some [2, 3, 4]))
        .ret))
      (.keep [1, 2]
       .skip)))
    (.seq
     (.reg [⟨(some 11), none, [], [], .fa 1 (.t 1)⟩,
       ⟨(some 12), none, [], [], .ld false 1 (.t 11)⟩,
       ⟨(some 13), none, [], [], .ixaS 1 (.t 12) (.k (.sc (.int .i64 (0))))⟩,
       ⟨(some 14), none, [], [], .ld false 1 (.t 13)⟩,
       ⟨(some 15), none, [], [], .calG [0] (.k (.fn 62 [])) [(.t 14)]⟩,
       ⟨(some 5), none, [], [], .mv (.t 15)⟩] (some [1, 2, 5]))
     (.seq
      (.reg [⟨(some 16), none, [], [], .fa 1 (.t 1)⟩,
        ⟨(some 17), none, [], [], .ld false 1 (.t 16)⟩,
        ⟨(some 18), none, [], [], .slL 1 (some (.k (.sc (.int .i64 (1))))) none none (.t 17)⟩,
        ⟨(some 19), none, [], [], .fa 1 (.t 1)⟩,
        ⟨none, none, [], [], .sto 1 (.t 19) (.t 18)⟩] (some [1, 2, 5]))
      (.seq
       (.reg [⟨(some 20), none, [], [], .ld true 4 (.t 1)⟩,
         ⟨(some 21), none, [], [], .mv (.t 5)⟩,
         ⟨none, none, [], [], .sto 4 (.t 2) (.t 20)⟩,
         ⟨(some 3), none, [], [], .mv (.t 21)⟩,
         ⟨(some 4), none, [], [], .mv (.k (.sc (.bool true)))⟩] (some [2, 3, 4]))
       .ret)))))
theorem b22 : cmpG Try.prog 22 = some (strip a22, r22, 22) := by kernel_rfl

abbrev r62 : List AR := [.t 2]
abbrev a62 : ACode :=
  (.seq
   (.reg [⟨(some 2), none, [], [], .mv (.k .nl)⟩] (some [0]))
   (.seq
    (.seq
     (.reg [⟨(some 3), none, [], [], .mv (.t 0)⟩,
       ⟨(some 4), none, [], [], .nil true (.t 3) (.k .nl)⟩] (some [0, 4]))
     (.cond (.t 4)
      (.keep []
       (.seq
        (.reg [⟨(some 2), none, [], [], .mv (.k .nl)⟩] none)
        .ret))
      (.keep [0]
       .skip)))
    (.seq
     (.reg [⟨(some 5), none, [], [], .bsl 0 1 [] []⟩,
       ⟨(some 6), none, [], [], .mv (.t 0)⟩,
       ⟨(some 7), none, [], [], .app 1 1 (.t 5) (.t 6)⟩,
       ⟨(some 2), none, [], [], .mv (.t 7)⟩] (some [2]))
     .ret)))
theorem b62 : cmpG Try.prog 62 = some (strip a62, r62, 8) := by kernel_rfl

abbrev r63 : List AR := [.c 4 true 4]
abbrev a63 : ACode :=
  (.seq
   (.reg [⟨(some 2), none, [], [], .box (.t 0)⟩,
     ⟨(some 4), none, [], [], .alc [(.sc (.int .i64 (0))), .nl, (.sc (.int .i64 (0))), (.sc (.int .i64 (0)))]⟩] (some [1, 2, 4]))
   (.seq
    (.reg [⟨(some 6), none, [], [], .fa 1 (.t 2)⟩,
      ⟨(some 7), none, [], [], .ld false 1 (.t 6)⟩,
      ⟨(some 8), none, [], [], .lenL (.t 7)⟩,
      ⟨(some 5), none, [], [], .mv (.t 8)⟩] (some [1, 2, 4, 5]))
    (.seq
     (.seq
      (.reg [⟨(some 9), none, [], [], .mv (.t 5)⟩,
        ⟨(some 10), none, [], [], .fa 0 (.t 2)⟩,
        ⟨(some 11), none, [], [], .ld false 1 (.t 10)⟩,
        ⟨(some 12), none, [], [], .bin .geq false (.t 9) (.t 11)⟩] (some [1, 2, 4, 5, 12]))
      (.cond (.t 12)
       (.keep [2, 4]
        (.seq
         (.reg [⟨(some 13), none, [], [], .fa 3 (.t 2)⟩,
           ⟨(some 14), none, [], [], .ld false 1 (.t 13)⟩,
           ⟨(some 15), none, [], [], .bin .add false (.t 14) (.k (.sc (.int .i64 (1))))⟩,
           ⟨(some 16), none, [], [], .fa 3 (.t 2)⟩,
           ⟨none, none, [], [], .sto 1 (.t 16) (.t 15)⟩] (some [2, 4]))
         (.seq
          (.reg [⟨(some 17), none, [], [], .ld true 4 (.t 2)⟩,
            ⟨none, none, [], [], .sto 4 (.t 4) (.t 17)⟩] (some [4]))
          .ret)))
       (.keep [1, 2, 4, 5]
        .skip)))
     (.seq
      (.regD [⟨(some 18), none, [(.t 2)], [], .fa 1 (.t 2)⟩,
        ⟨(some 19), none, [(.t 18)], [], .ld false 1 (.t 18)⟩,
        ⟨(some 20), none, [(.t 5)], [0, 1], .mv (.t 5)⟩,
        ⟨(some 21), none, [(.t 5)], [0, 1, 2], .mv (.t 5)⟩,
        ⟨(some 22), none, [(.t 19), (.t 20), (.t 21)], [], .slL 1 none (some (.t 20)) (some (.t 21)) (.t 19)⟩,
        ⟨(some 23), none, [(.t 1)], [0, 1, 2, 3, 4], .mv (.t 1)⟩,
        ⟨(some 24), none, [(.k (.fn 62 [])), (.t 23)], [0, 1, 2, 3, 4], .calG [0] (.k (.fn 62 [])) [(.t 23)]⟩,
        ⟨(some 25), none, [(.t 24)], [0, 1, 2, 3, 4], .bsl 1 1 [.nl] [(0, 1, (.t 24))]⟩,
        ⟨(some 26), none, [(.t 22), (.t 25)], [], .app 1 24 (.t 22) (.t 25)⟩,
        ⟨(some 27), none, [(.t 2)], [], .fa 1 (.t 2)⟩,
        ⟨none, none, [(.t 27), (.t 26)], [], .sto 1 (.t 27) (.t 26)⟩] (some [2, 4]))
      (.seq
       (.reg [⟨(some 28), none, [], [], .ld true 4 (.t 2)⟩,
         ⟨none, none, [], [], .sto 4 (.t 4) (.t 28)⟩] (some [4]))
       .ret)))))
theorem b63 : cmpG Try.prog 63 = some (strip a63, r63, 29) := by kernel_rfl

abbrev r64 : List AR := [.c 4 true 4]
abbrev a64 : ACode :=
  (.seq
   (.reg [⟨(some 2), none, [], [], .box (.t 0)⟩,
     ⟨(some 4), none, [], [], .alc [(.sc (.int .i64 (0))), .nl, (.sc (.int .i64 (0))), (.sc (.int .i64 (0)))]⟩] (some [1, 2, 4]))
   (.seq
    (.seq
     (.reg [⟨(some 5), none, [], [], .fa 1 (.t 2)⟩,
       ⟨(some 6), none, [], [], .ld false 1 (.t 5)⟩,
       ⟨(some 7), none, [], [], .lenL (.t 6)⟩,
       ⟨(some 8), none, [], [], .fa 0 (.t 2)⟩,
       ⟨(some 9), none, [], [], .ld false 1 (.t 8)⟩,
       ⟨(some 10), none, [], [], .bin .geq false (.t 7) (.t 9)⟩] (some [1, 2, 4, 10]))
     (.cond (.t 10)
      (.keep [2, 4]
       (.seq
        (.reg [⟨(some 11), none, [], [], .fa 3 (.t 2)⟩,
          ⟨(some 12), none, [], [], .ld false 1 (.t 11)⟩,
          ⟨(some 13), none, [], [], .bin .add false (.t 12) (.k (.sc (.int .i64 (1))))⟩,
          ⟨(some 14), none, [], [], .fa 3 (.t 2)⟩,
          ⟨none, none, [], [], .sto 1 (.t 14) (.t 13)⟩] (some [2, 4]))
        (.seq
         (.reg [⟨(some 15), none, [], [], .ld true 4 (.t 2)⟩,
           ⟨none, none, [], [], .sto 4 (.t 4) (.t 15)⟩] (some [4]))
         .ret)))
      (.keep [1, 2, 4]
       .skip)))
    (.seq
     (.regD [⟨(some 16), none, [(.t 1)], [], .mv (.t 1)⟩,
       ⟨(some 17), none, [(.k (.fn 62 [])), (.t 16)], [], .calG [0] (.k (.fn 62 [])) [(.t 16)]⟩,
       ⟨(some 18), none, [(.t 17)], [], .bsl 1 1 [.nl] [(0, 1, (.t 17))]⟩,
       ⟨(some 19), none, [(.t 2)], [0, 1, 2], .fa 1 (.t 2)⟩,
       ⟨(some 20), none, [(.t 19)], [0, 1, 2], .ld false 1 (.t 19)⟩,
       ⟨(some 21), none, [(.t 18), (.t 20)], [], .app 1 24 (.t 18) (.t 20)⟩,
       ⟨(some 22), none, [(.t 2)], [], .fa 1 (.t 2)⟩,
       ⟨none, none, [(.t 22), (.t 21)], [], .sto 1 (.t 22) (.t 21)⟩] (some [2, 4]))
     (.seq
      (.reg [⟨(some 23), none, [], [], .ld true 4 (.t 2)⟩,
        ⟨none, none, [], [], .sto 4 (.t 4) (.t 23)⟩] (some [4]))
      .ret))))
theorem b64 : cmpG Try.prog 64 = some (strip a64, r64, 24) := by kernel_rfl


end Go.Proofs.Ytnfgnafphfddhaa.Cod
