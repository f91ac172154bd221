import Derived.Test.YtbmdahhhgpbchaaProg
import Derived.Test.YtbmdahhhgpbchaaSimD
import Derived.KernelRfl
namespace Go.Proofs.Ytbmdahhhgpbchaa.Cod
open Go Go.Sim Go.Proofs
set_option maxRecDepth 100000
abbrev r7 : List AR := [.t 6]
abbrev a7 : ACode :=
  (.seq
   (.reg [⟨(some 6), none, [], [], .mv (.k (.sc (.bool false)))⟩] (some [0, 1, 2]))
   (.seq
    (.reg [⟨(some 24), none, [], [], .mv (.t 0)⟩,
      ⟨(some 25), none, [], [], .mv (.t 1)⟩,
      ⟨(some 26), none, [], [], .calG [0] (.k (.fn 31 [])) [(.t 24), (.t 25)]⟩,
      ⟨(some 23), none, [], [], .mv (.t 26)⟩,
      ⟨(some 27), none, [], [], .ext (.t 23) 0⟩,
      ⟨(some 28), none, [], [], .ext (.t 23) 1⟩,
      ⟨(some 7), none, [], [], .alc [.nl, (.sc (.int .i64 (0))), .nl, .nl, (.sc (.bool false)), (.sc (.int .i64 (0))), (.sc (.int .i64 (0)))]⟩,
      ⟨none, none, [], [], .sto 7 (.t 7) (.t 27)⟩,
      ⟨(some 8), none, [], [], .mv (.t 28)⟩] (some [0, 1, 2, 7, 8]))
    (.seq
     (.reg [⟨(some 30), none, [], [], .mv (.t 0)⟩,
       ⟨(some 31), none, [], [], .mv (.t 1)⟩,
       ⟨(some 32), none, [], [], .cal (.k (.fn 39 [])) [(.t 30), (.t 31)]⟩,
       ⟨(some 29), none, [], [], .mv (.t 32)⟩,
       ⟨(some 33), none, [], [], .ext (.t 29) 0⟩,
       ⟨(some 34), none, [], [], .ext (.t 29) 1⟩,
       ⟨(some 9), none, [], [], .alc [.nl, (.sc (.int .i64 (0))), (.sc (.int .i64 (0))), .nl, .nl, (.sc (.bool false)), (.sc (.int .i64 (0))), (.sc (.int .i64 (0)))]⟩,
       ⟨none, none, [], [], .sto 8 (.t 9) (.t 33)⟩,
       ⟨(some 10), none, [], [], .mv (.t 34)⟩] (some [0, 2, 7, 8, 9, 10]))
     (.seq
      (.seq
       (.reg [⟨(some 35), none, [], [], .mv (.t 8)⟩,
         ⟨(some 36), none, [], [], .mv (.t 10)⟩,
         ⟨(some 37), none, [], [], .bin .neq false (.t 35) (.t 36)⟩,
         ⟨(some 38), none, [], [], .mv (.t 37)⟩,
         ⟨(some 39), (some (38, false)), [], [], .mv (.t 8)⟩,
         ⟨(some 40), (some (38, false)), [], [], .bin .neq false (.t 39) (.k (.sc (.int .i64 (0))))⟩,
         ⟨(some 41), none, [], [], .pick (.t 38) (.k (.sc (.bool true))) (.t 40)⟩,
         ⟨(some 42), none, [], [], .mv (.t 41)⟩,
         ⟨(some 43), (some (42, false)), [], [], .mv (.t 0)⟩,
         ⟨(some 44), (some (42, false)), [], [], .lenL (.t 43)⟩,
         ⟨(some 45), (some (42, false)), [], [], .bin .gtr false (.t 44) (.k (.sc (.int .i64 (8000))))⟩,
         ⟨(some 46), none, [], [], .pick (.t 42) (.k (.sc (.bool true))) (.t 45)⟩] (some [2, 7, 8, 9, 10, 46]))
       (.cond (.t 46)
        (.keep [8, 10]
         (.seq
          (.reg [⟨(some 47), none, [], [], .mv (.t 8)⟩,
            ⟨(some 48), none, [], [], .mv (.t 10)⟩,
            ⟨(some 49), none, [], [], .bin .eql false (.t 47) (.t 48)⟩,
            ⟨(some 50), none, [], [], .mv (.t 49)⟩,
            ⟨(some 51), (some (50, true)), [], [], .cal (.k (.fn 30 [])) []⟩,
            ⟨(some 52), none, [], [], .pick (.t 50) (.t 51) (.k (.sc (.bool false)))⟩,
            ⟨(some 6), none, [], [], .mv (.t 52)⟩] (some [6]))
          .ret))
        (.keep [2, 7, 9]
         .skip)))
      (.seq
       (.seq
        (.reg [⟨(some 53), none, [], [], .mv (.t 2)⟩,
          ⟨(some 54), none, [], [], .mv (.t 2)⟩,
          ⟨(some 55), none, [], [], .lenL (.t 54)⟩,
          ⟨(some 56), none, [], [], .mn [(.t 55), (.k (.sc (.int .i64 (40))))]⟩,
          ⟨(some 57), none, [], [], .slL 3 none (some (.t 56)) none (.t 53)⟩,
          ⟨(some 58), none, [], [], .lenL (.t 57)⟩,
          ⟨(some 59), none, [], [], .mv (.k (.sc (.int .i64 (0))))⟩] (some [7, 9, 57, 58, 59]))
        (.block 0
         (.loop
          (.seq
           (.reg [⟨(some 60), none, [], [], .bin .lss false (.t 59) (.t 58)⟩] none)
           (.seq
            (.cond (.t 60)
             (.keep [7, 9, 57, 58, 59]
              .skip)
             (.exit 0))
            (.seq
             (.block 1
              (.seq
               (.reg [⟨(some 61), none, [], [], .ixaS 3 (.t 57) (.t 59)⟩,
                 ⟨(some 62), none, [], [], .ld true 3 (.t 61)⟩,
                 ⟨(some 12), none, [], [], .alc [(.sc (.int .u8 (0))), (.sc (.int .i64 (0))), .nl]⟩,
                 ⟨none, none, [], [], .sto 3 (.t 12) (.t 62)⟩] (some [7, 9, 12, 57, 58, 59]))
               (.seq
                (.seq
                 (.reg [⟨(some 63), none, [], [], .fa 2 (.t 12)⟩,
                   ⟨(some 64), none, [], [], .ld false 1 (.t 63)⟩,
                   ⟨(some 65), none, [], [], .lenL (.t 64)⟩,
                   ⟨(some 66), none, [], [], .bin .gtr false (.t 65) (.k (.sc (.int .i64 (10))))⟩] (some [7, 9, 12, 57, 58, 59, 66]))
                 (.cond (.t 66)
                  (.keep []
                   (.seq
                    (.reg [⟨(some 67), none, [], [], .cal (.k (.fn 30 [])) []⟩,
                      ⟨(some 6), none, [], [], .mv (.t 67)⟩] (some [6]))
                    .ret))
                  (.keep [7, 9, 12, 57, 58, 59]
                   .skip)))
                (.seq
                 (.reg [⟨(some 13), none, [], [], .mv (.k .nl)⟩] (some [7, 9, 12, 13, 57, 58, 59]))
                 (.seq
                  (.seq
                   (.reg [⟨(some 68), none, [], [], .fa 2 (.t 12)⟩,
                     ⟨(some 69), none, [], [], .ld false 1 (.t 68)⟩,
                     ⟨(some 70), none, [], [], .lenL (.t 69)⟩,
                     ⟨(some 71), none, [], [], .mv (.k (.sc (.int .i64 (0))))⟩] (some [7, 9, 12, 13, 57, 58, 59, 69, 70, 71]))
                   (.block 2
                    (.loop
                     (.seq
                      (.reg [⟨(some 72), none, [], [], .bin .lss false (.t 71) (.t 70)⟩] none)
                      (.seq
                       (.cond (.t 72)
                        (.keep [7, 9, 12, 13, 57, 58, 59, 69, 70, 71]
                         .skip)
                        (.exit 2))
                       (.seq
                        (.block 3
                         (.seq
                          (.reg [⟨(some 73), none, [], [], .ixaS 2 (.t 69) (.t 71)⟩,
                            ⟨(some 74), none, [], [], .ld true 2 (.t 73)⟩,
                            ⟨(some 15), none, [], [], .alc [(.sc (.int .i64 (0))), (.sc (.int .i64 (0)))]⟩,
                            ⟨none, none, [], [], .sto 2 (.t 15) (.t 74)⟩] (some [7, 9, 12, 13, 15, 57, 58, 59, 69, 70, 71]))
                          (.reg [⟨(some 75), none, [], [], .mv (.t 13)⟩,
                            ⟨(some 76), none, [], [], .ld true 2 (.t 15)⟩,
                            ⟨(some 77), none, [], [], .bsl 1 2 [(.sc (.int .i64 (0))), (.sc (.int .i64 (0)))] [(0, 2, (.t 76))]⟩,
                            ⟨(some 78), none, [], [], .app 2 16 (.t 75) (.t 77)⟩,
                            ⟨(some 13), none, [], [], .mv (.t 78)⟩] (some [7, 9, 12, 13, 57, 58, 59, 69, 70, 71]))))
                        (.reg [⟨(some 79), none, [], [], .bin .add false (.t 71) (.k (.sc (.int .i64 (1))))⟩,
                          ⟨(some 71), none, [], [], .mv (.t 79)⟩] (some [7, 9, 12, 13, 57, 58, 59, 69, 70, 71]))))))))
                  (.seq
                   (.reg [⟨(some 16), none, [], [], .mv (.k (.sc (.bool false)))⟩,
                     ⟨(some 17), none, [], [], .mv (.k (.sc (.bool false)))⟩] (some [7, 9, 12, 13, 16, 17, 57, 58, 59]))
                   (.seq
                    (.seq
                     (.reg [⟨(some 80), none, [], [], .fa 0 (.t 12)⟩,
                       ⟨(some 81), none, [], [], .ld false 1 (.t 80)⟩,
                       ⟨(some 82), none, [], [], .bin .rem false (.t 81) (.k (.sc (.int .u8 (4))))⟩] (some [7, 9, 12, 13, 16, 17, 57, 58, 59, 82]))
                     (.block 4
                      (.seq
                       (.reg [⟨(some 101), none, [], [], .bin .eql false (.t 82) (.k (.sc (.int .u8 (0))))⟩,
                         ⟨(some 100), none, [], [], .mv (.t 101)⟩] (some [7, 9, 12, 13, 16, 17, 57, 58, 59, 82, 100]))
                       (.cond (.t 100)
                        (.keep [7, 9, 16, 17, 57, 58, 59]
                         (.seq
                          (.reg [⟨(some 103), none, [], [], .ld true 7 (.t 7)⟩,
                            ⟨(some 104), none, [], [], .cal (.k (.fn 32 [])) [(.t 103)]⟩,
                            ⟨(some 102), none, [], [], .mv (.t 104)⟩,
                            ⟨(some 105), none, [], [], .ext (.t 102) 0⟩,
                            ⟨(some 106), none, [], [], .ext (.t 102) 1⟩,
                            ⟨(some 18), none, [], [], .alc [.nl, (.sc (.int .i64 (0))), .nl, .nl, (.sc (.bool false)), (.sc (.int .i64 (0))), (.sc (.int .i64 (0)))]⟩,
                            ⟨none, none, [], [], .sto 7 (.t 18) (.t 105)⟩,
                            ⟨(some 19), none, [], [], .mv (.t 106)⟩] (some [7, 9, 16, 17, 18, 19, 57, 58, 59]))
                          (.seq
                           (.reg [⟨(some 108), none, [], [], .ld true 8 (.t 9)⟩,
                             ⟨(some 109), none, [], [], .cal (.k (.fn 40 [])) [(.t 108)]⟩,
                             ⟨(some 107), none, [], [], .mv (.t 109)⟩,
                             ⟨(some 110), none, [], [], .ext (.t 107) 0⟩,
                             ⟨(some 111), none, [], [], .ext (.t 107) 1⟩,
                             ⟨(some 20), none, [], [], .alc [.nl, (.sc (.int .i64 (0))), (.sc (.int .i64 (0))), .nl, .nl, (.sc (.bool false)), (.sc (.int .i64 (0))), (.sc (.int .i64 (0)))]⟩,
                             ⟨none, none, [], [], .sto 8 (.t 20) (.t 110)⟩,
                             ⟨(some 21), none, [], [], .mv (.t 111)⟩] (some [7, 9, 16, 17, 18, 19, 20, 21, 57, 58, 59]))
                           (.seq
                            (.regD [⟨(some 112), none, [(.t 18)], [], .ld true 7 (.t 18)⟩,
                              ⟨(some 113), none, [(.t 20)], [0], .ld true 8 (.t 20)⟩,
                              ⟨none, none, [(.t 7), (.t 112)], [1], .sto 7 (.t 7) (.t 112)⟩,
                              ⟨none, none, [(.t 9), (.t 113)], [], .sto 8 (.t 9) (.t 113)⟩] (some [7, 9, 16, 17, 19, 21, 57, 58, 59]))
                            (.seq
                             (.seq
                              (.reg [⟨(some 114), none, [], [], .mv (.t 19)⟩,
                                ⟨(some 115), none, [], [], .lenL (.t 114)⟩,
                                ⟨(some 116), none, [], [], .mv (.t 21)⟩,
                                ⟨(some 117), none, [], [], .lenL (.t 116)⟩,
                                ⟨(some 118), none, [], [], .bin .neq false (.t 115) (.t 117)⟩] (some [7, 9, 16, 17, 19, 21, 57, 58, 59, 118]))
                              (.cond (.t 118)
                               (.keep []
                                (.seq
                                 (.reg [⟨(some 6), none, [], [], .mv (.k (.sc (.bool false)))⟩] none)
                                 .ret))
                               (.keep [7, 9, 16, 17, 19, 21, 57, 58, 59]
                                .skip)))
                             (.seq
                              (.reg [⟨(some 119), none, [], [], .mv (.t 19)⟩,
                                ⟨(some 120), none, [], [], .lenL (.t 119)⟩,
                                ⟨(some 121), none, [], [], .mv (.k (.sc (.int .i64 (0))))⟩] (some [7, 9, 16, 17, 19, 21, 57, 58, 59, 120, 121]))
                              (.block 5
                               (.loop
                                (.seq
                                 (.reg [⟨(some 122), none, [], [], .bin .lss false (.t 121) (.t 120)⟩] none)
                                 (.seq
                                  (.cond (.t 122)
                                   (.keep [7, 9, 16, 17, 19, 21, 57, 58, 59, 120, 121]
                                    .skip)
                                   (.exit 5))
                                  (.seq
                                   (.block 6
                                    (.seq
                                     (.reg [⟨(some 123), none, [], [], .mv (.t 121)⟩,
                                       ⟨(some 22), none, [], [], .mv (.t 123)⟩] (some [7, 9, 16, 17, 19, 21, 22, 57, 58, 59, 120, 121]))
                                     (.seq
                                      (.regD (⟨(some 124), none, [(.t 19)], [], .mv (.t 19)⟩ ::
                                        ⟨(some 125), none, [(.t 22)], [0], .mv (.t 22)⟩ ::
                                        ⟨(some 126), none, [(.t 124), (.t 125)], [], .ixaS 2 (.t 124) (.t 125)⟩ ::
                                        ⟨(some 127), none, [(.t 126)], [], .fa 0 (.t 126)⟩ ::
                                        ⟨(some 128), none, [(.t 127)], [], .ld false 1 (.t 127)⟩ ::
                                        ⟨(some 129), none, [(.t 21)], [0, 1, 2, 3, 4], .mv (.t 21)⟩ ::
                                        ⟨(some 130), none, [(.t 22)], [0, 1, 2, 3, 4, 5], .mv (.t 22)⟩ ::
                                        ⟨(some 131), none, [(.t 129), (.t 130)], [0, 1, 2, 3, 4], .ixaS 2 (.t 129) (.t 130)⟩ ::
                                        ⟨(some 132), none, [(.t 131)], [0, 1, 2, 3, 4], .fa 0 (.t 131)⟩ ::
                                        ⟨(some 133), none, [(.t 132)], [0, 1, 2, 3, 4], .ld false 1 (.t 132)⟩ ::
                                        ⟨(some 134), none, [(.t 128), (.t 133)], [], .bin .neq false (.t 128) (.t 133)⟩ ::
                                        ⟨(some 135), none, [(.t 134)], [], .mv (.t 134)⟩ ::
                                        ⟨(some 136), (some (135, false)), [(.t 19)], [], .mv (.t 19)⟩ ::
                                        ⟨(some 137), (some (135, false)), [(.t 22)], [12], .mv (.t 22)⟩ ::
                                        ⟨(some 138), (some (135, false)), [(.t 136), (.t 137)], [], .ixaS 2 (.t 136) (.t 137)⟩ ::
                                        ⟨(some 139), (some (135, false)), [(.t 138)], [], .fa 1 (.t 138)⟩ ::
                                        ⟨(some 140), (some (135, false)), [(.t 139)], [], .ld false 1 (.t 139)⟩ ::
                                        ⟨(some 141), (some (135, false)), [(.t 21)], [12, 13, 14, 15, 16], .mv (.t 21)⟩ ::
                                        ⟨(some 142), (some (135, false)), [(.t 22)], [12, 13, 14, 15, 16, 17], .mv (.t 22)⟩ ::
                                        ⟨(some 143), (some (135, false)), [(.t 141), (.t 142)], [12, 13, 14, 15, 16], .ixaS 2 (.t 141) (.t 142)⟩ ::
                                        ⟨(some 144), (some (135, false)), [(.t 143)], [12, 13, 14, 15, 16], .fa 1 (.t 143)⟩ ::
                                        ⟨(some 145), (some (135, false)), [(.t 144)], [12, 13, 14, 15, 16], .ld false 1 (.t 144)⟩ ::
                                        ⟨(some 146), (some (135, false)), [(.k (.fn 22 [])), (.t 140), (.t 145)], [], .cal (.k (.fn 22 [])) [(.t 140), (.t 145)]⟩ ::
                                        ⟨(some 147), (some (135, false)), [(.t 146)], [], .un .not (.t 146)⟩ ::
                                        ⟨(some 148), none, [(.t 135), (.k (.sc (.bool true))), (.t 147)], [], .pick (.t 135) (.k (.sc (.bool true))) (.t 147)⟩ :: []) (some [7, 9, 16, 17, 19, 21, 57, 58, 59, 120, 121, 148]))
                                      (.cond (.t 148)
                                       (.keep []
                                        (.seq
                                         (.reg [⟨(some 6), none, [], [], .mv (.k (.sc (.bool false)))⟩] none)
                                         .ret))
                                       (.keep [7, 9, 16, 17, 19, 21, 57, 58, 59, 120, 121]
                                        .skip)))))
                                   (.reg [⟨(some 149), none, [], [], .bin .add false (.t 121) (.k (.sc (.int .i64 (1))))⟩,
                                     ⟨(some 121), none, [], [], .mv (.t 149)⟩] (some [7, 9, 16, 17, 19, 21, 57, 58, 59, 120, 121])))))))))))))
                        (.keep [7, 9, 12, 13, 57, 58, 59, 82]
                         (.seq
                          (.reg [⟨(some 151), none, [], [], .bin .eql false (.t 82) (.k (.sc (.int .u8 (1))))⟩,
                            ⟨(some 150), none, [], [], .mv (.t 151)⟩] (some [7, 9, 12, 13, 57, 58, 59, 150]))
                          (.cond (.t 150)
                           (.keep [7, 9, 57, 58, 59]
                            (.seq
                             (.reg [⟨(some 153), none, [], [], .ld true 7 (.t 7)⟩,
                               ⟨(some 154), none, [], [], .cal (.k (.fn 35 [])) [(.t 153)]⟩,
                               ⟨(some 152), none, [], [], .mv (.t 154)⟩,
                               ⟨(some 155), none, [], [], .ext (.t 152) 0⟩,
                               ⟨(some 156), none, [], [], .ext (.t 152) 1⟩,
                               ⟨none, none, [], [], .sto 7 (.t 7) (.t 155)⟩,
                               ⟨(some 16), none, [], [], .mv (.t 156)⟩] (some [7, 9, 16, 57, 58, 59]))
                             (.reg [⟨(some 158), none, [], [], .ld true 8 (.t 9)⟩,
                               ⟨(some 159), none, [], [], .cal (.k (.fn 41 [])) [(.t 158)]⟩,
                               ⟨(some 157), none, [], [], .mv (.t 159)⟩,
                               ⟨(some 160), none, [], [], .ext (.t 157) 0⟩,
                               ⟨(some 161), none, [], [], .ext (.t 157) 1⟩,
                               ⟨none, none, [], [], .sto 8 (.t 9) (.t 160)⟩,
                               ⟨(some 17), none, [], [], .mv (.t 161)⟩] (some [7, 9, 16, 17, 57, 58, 59]))))
                           (.keep [7, 9, 12, 13, 57, 58, 59]
                            (.seq
                             (.reg [⟨(some 84), none, [], [], .ld true 7 (.t 7)⟩,
                               ⟨(some 85), none, [], [], .fa 1 (.t 12)⟩,
                               ⟨(some 86), none, [], [], .ld false 1 (.t 85)⟩,
                               ⟨(some 87), none, [], [], .mv (.t 13)⟩,
                               ⟨(some 88), none, [], [], .cal (.k (.fn 33 [])) [(.t 84), (.t 86), (.t 87)]⟩,
                               ⟨(some 83), none, [], [], .mv (.t 88)⟩,
                               ⟨(some 89), none, [], [], .ext (.t 83) 0⟩,
                               ⟨(some 90), none, [], [], .ext (.t 83) 1⟩,
                               ⟨none, none, [], [], .sto 7 (.t 7) (.t 89)⟩,
                               ⟨(some 16), none, [], [], .mv (.t 90)⟩] (some [7, 9, 12, 16, 57, 58, 59]))
                             (.reg [⟨(some 92), none, [], [], .ld true 8 (.t 9)⟩,
                               ⟨(some 93), none, [], [], .fa 1 (.t 12)⟩,
                               ⟨(some 94), none, [], [], .ld false 1 (.t 93)⟩,
                               ⟨(some 95), none, [], [], .fa 2 (.t 12)⟩,
                               ⟨(some 96), none, [], [], .ld false 1 (.t 95)⟩,
                               ⟨(some 97), none, [], [], .cal (.k (.fn 42 [])) [(.t 92), (.t 94), (.t 96)]⟩,
                               ⟨(some 91), none, [], [], .mv (.t 97)⟩,
                               ⟨(some 98), none, [], [], .ext (.t 91) 0⟩,
                               ⟨(some 99), none, [], [], .ext (.t 91) 1⟩,
                               ⟨none, none, [], [], .sto 8 (.t 9) (.t 98)⟩,
                               ⟨(some 17), none, [], [], .mv (.t 99)⟩] (some [7, 9, 16, 17, 57, 58, 59])))))))))))
                    (.seq
                     (.regD (⟨(some 162), none, [(.t 16)], [], .mv (.t 16)⟩ ::
                       ⟨(some 163), none, [(.t 17)], [0], .mv (.t 17)⟩ ::
                       ⟨(some 164), none, [(.t 162), (.t 163)], [], .bin .neq true (.t 162) (.t 163)⟩ ::
                       ⟨(some 165), none, [(.t 164)], [], .mv (.t 164)⟩ ::
                       ⟨(some 166), (some (165, false)), [(.t 7)], [], .ld true 7 (.t 7)⟩ ::
                       ⟨(some 167), (some (165, false)), [(.k (.fn 34 [])), (.t 166)], [], .cal (.k (.fn 34 [])) [(.t 166)]⟩ ::
                       ⟨(some 168), (some (165, false)), [(.t 9)], [4, 5], .fa 1 (.t 9)⟩ ::
                       ⟨(some 169), (some (165, false)), [(.t 168)], [4, 5], .ld true 4 (.t 168)⟩ ::
                       ⟨(some 170), (some (165, false)), [(.k (.fn 43 [])), (.t 169)], [], .cal (.k (.fn 43 [])) [(.t 169)]⟩ ::
                       ⟨(some 171), (some (165, false)), [(.t 167), (.t 170)], [], .bin .neq false (.t 167) (.t 170)⟩ ::
                       ⟨(some 172), none, [(.t 165), (.k (.sc (.bool true))), (.t 171)], [], .pick (.t 165) (.k (.sc (.bool true))) (.t 171)⟩ ::
                       ⟨(some 173), none, [(.t 172)], [], .mv (.t 172)⟩ ::
                       ⟨(some 174), (some (173, false)), [(.t 7)], [], .ld true 7 (.t 7)⟩ ::
                       ⟨(some 175), (some (173, false)), [(.k (.fn 38 [])), (.t 174)], [], .cal (.k (.fn 38 [])) [(.t 174)]⟩ ::
                       ⟨(some 176), (some (173, false)), [(.t 9)], [12, 13], .fa 1 (.t 9)⟩ ::
                       ⟨(some 177), (some (173, false)), [(.t 176)], [12, 13], .fa 3 (.t 176)⟩ ::
                       ⟨(some 178), (some (173, false)), [(.t 177)], [12, 13], .ld false 1 (.t 177)⟩ ::
                       ⟨(some 179), (some (173, false)), [(.t 178)], [12, 13], .lenL (.t 178)⟩ ::
                       ⟨(some 180), (some (173, false)), [(.t 175), (.t 179)], [], .bin .neq false (.t 175) (.t 179)⟩ ::
                       ⟨(some 181), none, [(.t 173), (.k (.sc (.bool true))), (.t 180)], [], .pick (.t 173) (.k (.sc (.bool true))) (.t 180)⟩ ::
                       ⟨(some 182), none, [(.t 181)], [], .mv (.t 181)⟩ ::
                       ⟨(some 183), (some (182, false)), [(.t 7)], [], .ld true 7 (.t 7)⟩ ::
                       ⟨(some 184), (some (182, false)), [(.k (.fn 36 [])), (.t 183)], [], .cal (.k (.fn 36 [])) [(.t 183)]⟩ ::
                       ⟨(some 185), (some (182, false)), [(.t 9)], [21, 22], .fa 1 (.t 9)⟩ ::
                       ⟨(some 186), (some (182, false)), [(.t 185)], [21, 22], .ld true 4 (.t 185)⟩ ::
                       ⟨(some 187), (some (182, false)), [(.k (.fn 44 [])), (.t 186)], [], .cal (.k (.fn 44 [])) [(.t 186)]⟩ ::
                       ⟨(some 188), (some (182, false)), [(.t 187), (.k (.sc (.int .i64 (0))))], [], .bin .eql false (.t 187) (.k (.sc (.int .i64 (0))))⟩ ::
                       ⟨(some 189), (some (182, false)), [(.t 184), (.t 188)], [], .bin .neq true (.t 184) (.t 188)⟩ ::
                       ⟨(some 190), none, [(.t 182), (.k (.sc (.bool true))), (.t 189)], [], .pick (.t 182) (.k (.sc (.bool true))) (.t 189)⟩ ::
                       ⟨(some 191), none, [(.t 190)], [], .mv (.t 190)⟩ ::
                       ⟨(some 192), (some (191, false)), [(.t 7)], [], .ld true 7 (.t 7)⟩ ::
                       ⟨(some 193), (some (191, false)), [(.k (.fn 37 [])), (.t 192)], [], .cal (.k (.fn 37 [])) [(.t 192)]⟩ ::
                       ⟨(some 194), (some (191, false)), [(.t 9)], [30, 31], .fa 5 (.t 9)⟩ ::
                       ⟨(some 195), (some (191, false)), [(.t 194)], [30, 31], .fa 1 (.t 194)⟩ ::
                       ⟨(some 196), (some (191, false)), [(.t 195)], [30, 31], .ld false 1 (.t 195)⟩ ::
                       ⟨(some 197), (some (191, false)), [(.t 193), (.t 196)], [], .bin .neq false (.t 193) (.t 196)⟩ ::
                       ⟨(some 198), none, [(.t 191), (.k (.sc (.bool true))), (.t 197)], [], .pick (.t 191) (.k (.sc (.bool true))) (.t 197)⟩ :: []) (some [7, 9, 57, 58, 59, 198]))
                     (.cond (.t 198)
                      (.keep []
                       (.seq
                        (.reg [⟨(some 6), none, [], [], .mv (.k (.sc (.bool false)))⟩] none)
                        .ret))
                      (.keep [7, 9, 57, 58, 59]
                       .skip))))))))))
             (.reg [⟨(some 199), none, [], [], .bin .add false (.t 59) (.k (.sc (.int .i64 (1))))⟩,
               ⟨(some 59), none, [], [], .mv (.t 199)⟩] (some [7, 9, 57, 58, 59]))))))))
       (.seq
        (.reg [⟨(some 200), none, [], [], .cal (.k (.fn 30 [])) []⟩,
          ⟨(some 6), none, [], [], .mv (.t 200)⟩] (some [6]))
        .ret))))))
theorem b7 : cmpG Try.prog 7 = some (strip a7, r7, 201) := by kernel_rfl

abbrev r39 : List AR := [.c 4 true 8, .t 5]
abbrev a39 : ACode :=
  (.seq
   (.reg [⟨(some 4), none, [], [], .alc [.nl, (.sc (.int .i64 (0))), (.sc (.int .i64 (0))), .nl, .nl, (.sc (.bool false)), (.sc (.int .i64 (0))), (.sc (.int .i64 (0)))]⟩,
     ⟨(some 5), none, [], [], .mv (.k (.sc (.int .i64 (0))))⟩] (some [0, 1, 4]))
   (.seq
    (.reg [⟨(some 9), none, [], [], .mv (.t 0)⟩,
      ⟨(some 10), none, [], [], .lenL (.t 9)⟩,
      ⟨(some 11), none, [], [], .mv (.t 1)⟩,
      ⟨(some 12), none, [], [], .cal (.k (.fn 78 [])) [(.t 10), (.t 11)]⟩,
      ⟨(some 8), none, [], [], .mv (.t 12)⟩,
      ⟨(some 13), none, [], [], .ext (.t 8) 0⟩,
      ⟨(some 14), none, [], [], .ext (.t 8) 1⟩,
      ⟨(some 6), none, [], [], .alc [(.sc (.int .i64 (0))), (.sc (.int .i64 (0))), .nl, .nl]⟩,
      ⟨none, none, [], [], .sto 4 (.t 6) (.t 13)⟩,
      ⟨(some 7), none, [], [], .mv (.t 14)⟩] (some [0, 4, 6, 7]))
    (.seq
     (.seq
      (.reg [⟨(some 15), none, [], [], .mv (.t 7)⟩,
        ⟨(some 16), none, [], [], .bin .neq false (.t 15) (.k (.sc (.int .i64 (0))))⟩] (some [0, 4, 6, 7, 16]))
      (.cond (.t 16)
       (.keep [4, 7]
        (.seq
         (.reg [⟨(some 17), none, [], [], .bld [.nl, (.sc (.int .i64 (0))), (.sc (.int .i64 (0))), .nl, .nl, (.sc (.bool false)), (.sc (.int .i64 (0))), (.sc (.int .i64 (0)))] []⟩,
           ⟨(some 18), none, [], [], .mv (.t 7)⟩,
           ⟨none, none, [], [], .sto 8 (.t 4) (.t 17)⟩,
           ⟨(some 5), none, [], [], .mv (.t 18)⟩] (some [4, 5]))
         .ret))
       (.keep [0, 4, 6]
        .skip)))
     (.seq
      (.reg [⟨(some 19), none, [], [], .mv (.t 0)⟩,
        ⟨(some 20), none, [], [], .ld true 4 (.t 6)⟩,
        ⟨(some 21), none, [], [], .bld [(.sc (.bool false)), (.sc (.int .i64 (0))), (.sc (.int .i64 (0)))] [(0, 1, (.k (.sc (.bool true)))), (1, 1, (.k (.sc (.int .i64 (1))))), (2, 1, (.k (.sc (.int .i64 (1)))))]⟩,
        ⟨(some 22), none, [], [], .bld [.nl, (.sc (.int .i64 (0))), (.sc (.int .i64 (0))), .nl, .nl, (.sc (.bool false)), (.sc (.int .i64 (0))), (.sc (.int .i64 (0)))] [(0, 1, (.t 19)), (1, 4, (.t 20)), (5, 3, (.t 21))]⟩,
        ⟨(some 23), none, [], [], .cal (.k (.fn 79 [])) [(.t 22)]⟩,
        ⟨none, none, [], [], .sto 8 (.t 4) (.t 23)⟩,
        ⟨(some 5), none, [], [], .mv (.k (.sc (.int .i64 (0))))⟩] (some [4, 5]))
      .ret))))
theorem b39 : cmpG Try.prog 39 = some (strip a39, r39, 24) := by kernel_rfl

abbrev r40 : List AR := [.c 2 true 8, .t 3]
abbrev a40 : ACode :=
  (.seq
   (.reg [⟨(some 1), none, [], [], .box (.t 0)⟩,
     ⟨(some 2), none, [], [], .alc [.nl, (.sc (.int .i64 (0))), (.sc (.int .i64 (0))), .nl, .nl, (.sc (.bool false)), (.sc (.int .i64 (0))), (.sc (.int .i64 (0)))]⟩,
     ⟨(some 3), none, [], [], .mv (.k .nl)⟩] (some [1, 2]))
   (.seq
    (.reg [⟨(some 4), none, [], [], .mv (.k .nl)⟩] none)
    (.seq
     (.seq
      (.reg [⟨(some 5), none, [], [], .mv (.k (.sc (.int .i64 (0))))⟩] none)
      (.block 0
       (.loop
        (.seq
         (.seq
          (.reg [⟨(some 9), none, [], [], .mv (.t 5)⟩,
            ⟨(some 10), none, [], [], .bin .leq false (.t 9) (.k (.sc (.int .i64 (8))))⟩] (some [1, 2, 4, 5, 10]))
          (.cond (.t 10)
           (.keep [1, 2, 4, 5]
            .skip)
           (.exit 0)))
         (.seq
          (.block 1
           (.seq
            (.reg [⟨(some 14), none, [], [], .fa 1 (.t 1)⟩,
              ⟨(some 15), none, [], [], .ld true 4 (.t 14)⟩,
              ⟨(some 16), none, [], [], .cal (.k (.fn 80 [])) [(.t 15)]⟩,
              ⟨(some 13), none, [], [], .mv (.t 16)⟩,
              ⟨(some 17), none, [], [], .ext (.t 13) 0⟩,
              ⟨(some 18), none, [], [], .ext (.t 13) 1⟩,
              ⟨(some 19), none, [], [], .ext (.t 13) 2⟩,
              ⟨(some 6), none, [], [], .alc [(.sc (.int .i64 (0))), (.sc (.int .i64 (0))), .nl, .nl]⟩,
              ⟨(some 7), none, [], [], .alc [(.sc (.int .i64 (0))), (.sc (.int .i64 (0)))]⟩,
              ⟨none, none, [], [], .sto 4 (.t 6) (.t 17)⟩,
              ⟨none, none, [], [], .sto 2 (.t 7) (.t 18)⟩,
              ⟨(some 8), none, [], [], .mv (.t 19)⟩] (some [1, 2, 4, 5, 6, 7, 8]))
            (.seq
             (.seq
              (.reg [⟨(some 20), none, [], [], .mv (.t 8)⟩,
                ⟨(some 21), none, [], [], .un .not (.t 20)⟩] (some [1, 2, 4, 5, 6, 7, 21]))
              (.cond (.t 21)
               (.keep [1, 2, 4]
                (.seq
                 (.reg [⟨(some 22), none, [], [], .ld true 8 (.t 1)⟩,
                   ⟨(some 23), none, [], [], .mv (.t 4)⟩,
                   ⟨none, none, [], [], .sto 8 (.t 2) (.t 22)⟩,
                   ⟨(some 3), none, [], [], .mv (.t 23)⟩] (some [2, 3]))
                 .ret))
               (.keep [1, 2, 4, 5, 6, 7]
                .skip)))
             (.seq
              (.reg [⟨(some 24), none, [], [], .ld true 4 (.t 6)⟩,
                ⟨(some 25), none, [], [], .fa 1 (.t 1)⟩,
                ⟨none, none, [], [], .sto 4 (.t 25) (.t 24)⟩] (some [1, 2, 4, 5, 7]))
              (.regD [⟨(some 26), none, [(.t 4)], [], .mv (.t 4)⟩,
                ⟨(some 27), none, [(.t 7)], [0], .fa 0 (.t 7)⟩,
                ⟨(some 28), none, [(.t 27)], [0], .ld false 1 (.t 27)⟩,
                ⟨(some 29), none, [(.t 1)], [0, 1, 2], .fa 0 (.t 1)⟩,
                ⟨(some 30), none, [(.t 29)], [0, 1, 2], .ld false 1 (.t 29)⟩,
                ⟨(some 31), none, [(.t 7)], [0, 1, 2, 3, 4], .fa 0 (.t 7)⟩,
                ⟨(some 32), none, [(.t 31)], [0, 1, 2, 3, 4], .ld false 1 (.t 31)⟩,
                ⟨(some 33), none, [(.t 7)], [0, 1, 2, 3, 4, 5, 6], .fa 1 (.t 7)⟩,
                ⟨(some 34), none, [(.t 33)], [0, 1, 2, 3, 4, 5, 6], .ld false 1 (.t 33)⟩,
                ⟨(some 35), none, [(.t 30), (.t 32), (.t 34)], [0, 1, 2], .slL 1 (some (.t 32)) (some (.t 34)) none (.t 30)⟩,
                ⟨(some 36), none, [(.t 28), (.t 35)], [0], .bld [(.sc (.int .i64 (0))), .nl] [(0, 1, (.t 28)), (1, 1, (.t 35))]⟩,
                ⟨(some 37), none, [(.t 36)], [0], .bsl 1 2 [(.sc (.int .i64 (0))), .nl] [(0, 2, (.t 36))]⟩,
                ⟨(some 38), none, [(.t 26), (.t 37)], [], .app 2 32 (.t 26) (.t 37)⟩,
                ⟨(some 4), none, [(.t 38)], [], .mv (.t 38)⟩] (some [1, 2, 4, 5]))))))
          (.reg [⟨(some 11), none, [], [], .mv (.t 5)⟩,
            ⟨(some 12), none, [], [], .bin .add false (.t 11) (.k (.sc (.int .i64 (1))))⟩,
            ⟨(some 5), none, [], [], .mv (.t 12)⟩] (some [1, 2, 4, 5])))))))
     (.seq
      (.reg [⟨(some 39), none, [], [], .ld true 8 (.t 1)⟩,
        ⟨(some 40), none, [], [], .mv (.t 4)⟩,
        ⟨none, none, [], [], .sto 8 (.t 2) (.t 39)⟩,
        ⟨(some 3), none, [], [], .mv (.t 40)⟩] (some [2, 3]))
      .ret))))
theorem b40 : cmpG Try.prog 40 = some (strip a40, r40, 41) := by kernel_rfl

abbrev r41 : List AR := [.c 2 true 8, .t 3]
abbrev a41 : ACode :=
  (.seq
   (.reg [⟨(some 1), none, [], [], .box (.t 0)⟩,
     ⟨(some 2), none, [], [], .alc [.nl, (.sc (.int .i64 (0))), (.sc (.int .i64 (0))), .nl, .nl, (.sc (.bool false)), (.sc (.int .i64 (0))), (.sc (.int .i64 (0)))]⟩,
     ⟨(some 3), none, [], [], .mv (.k (.sc (.bool false)))⟩] (some [1, 2]))
   (.seq
    (.reg [⟨(some 7), none, [], [], .fa 5 (.t 1)⟩,
      ⟨(some 8), none, [], [], .ld true 3 (.t 7)⟩,
      ⟨(some 9), none, [], [], .cal (.k (.fn 81 [])) [(.t 8)]⟩,
      ⟨(some 6), none, [], [], .mv (.t 9)⟩,
      ⟨(some 10), none, [], [], .ext (.t 6) 0⟩,
      ⟨(some 11), none, [], [], .ext (.t 6) 1⟩,
      ⟨(some 4), none, [], [], .alc [(.sc (.bool false)), (.sc (.int .i64 (0))), (.sc (.int .i64 (0)))]⟩,
      ⟨none, none, [], [], .sto 3 (.t 4) (.t 10)⟩,
      ⟨(some 5), none, [], [], .mv (.t 11)⟩] (some [1, 2, 4, 5]))
    (.seq
     (.reg [⟨(some 12), none, [], [], .ld true 3 (.t 4)⟩,
       ⟨(some 13), none, [], [], .fa 5 (.t 1)⟩,
       ⟨none, none, [], [], .sto 3 (.t 13) (.t 12)⟩] (some [1, 2, 5]))
     (.seq
      (.seq
       (.reg [⟨(some 14), none, [], [], .mv (.t 5)⟩] none)
       (.cond (.t 14)
        (.keep [1, 2, 5]
         (.reg [⟨(some 15), none, [], [], .fa 1 (.t 1)⟩,
           ⟨(some 16), none, [], [], .fa 3 (.t 15)⟩,
           ⟨none, none, [], [], .sto 1 (.t 16) (.k .nl)⟩] (some [1, 2, 5])))
        (.keep [1, 2, 5]
         .skip)))
      (.seq
       (.reg [⟨(some 17), none, [], [], .ld true 8 (.t 1)⟩,
         ⟨(some 18), none, [], [], .mv (.t 5)⟩,
         ⟨none, none, [], [], .sto 8 (.t 2) (.t 17)⟩,
         ⟨(some 3), none, [], [], .mv (.t 18)⟩] (some [2, 3]))
       .ret)))))
theorem b41 : cmpG Try.prog 41 = some (strip a41, r41, 19) := by kernel_rfl

abbrev r42 : List AR := [.c 6 true 8, .t 7]
abbrev a42 : ACode :=
  (.seq
   (.reg [⟨(some 3), none, [], [], .box (.t 0)⟩,
     ⟨(some 6), none, [], [], .alc [.nl, (.sc (.int .i64 (0))), (.sc (.int .i64 (0))), .nl, .nl, (.sc (.bool false)), (.sc (.int .i64 (0))), (.sc (.int .i64 (0)))]⟩,
     ⟨(some 7), none, [], [], .mv (.k (.sc (.bool false)))⟩] (some [1, 2, 3, 6]))
   (.seq
    (.reg [⟨(some 11), none, [], [], .fa 1 (.t 3)⟩,
      ⟨(some 12), none, [], [], .ld true 4 (.t 11)⟩,
      ⟨(some 13), none, [], [], .mv (.t 1)⟩,
      ⟨(some 14), none, [], [], .mv (.t 2)⟩,
      ⟨(some 15), none, [], [], .cal (.k (.fn 82 [])) [(.t 12), (.t 13), (.t 14)]⟩,
      ⟨(some 10), none, [], [], .mv (.t 15)⟩,
      ⟨(some 16), none, [], [], .ext (.t 10) 0⟩,
      ⟨(some 17), none, [], [], .ext (.t 10) 1⟩,
      ⟨(some 8), none, [], [], .alc [(.sc (.int .i64 (0))), (.sc (.int .i64 (0))), .nl, .nl]⟩,
      ⟨none, none, [], [], .sto 4 (.t 8) (.t 16)⟩,
      ⟨(some 9), none, [], [], .mv (.t 17)⟩] (some [3, 6, 8, 9]))
    (.seq
     (.reg [⟨(some 18), none, [], [], .ld true 4 (.t 8)⟩,
       ⟨(some 19), none, [], [], .fa 1 (.t 3)⟩,
       ⟨none, none, [], [], .sto 4 (.t 19) (.t 18)⟩] (some [3, 6, 9]))
     (.seq
      (.seq
       (.reg [⟨(some 20), none, [], [], .mv (.t 9)⟩,
         ⟨(some 21), none, [], [], .mv (.t 20)⟩,
         ⟨(some 22), (some (21, true)), [], [], .fa 5 (.t 3)⟩,
         ⟨(some 23), (some (21, true)), [], [], .fa 0 (.t 22)⟩,
         ⟨(some 24), (some (21, true)), [], [], .ld false 1 (.t 23)⟩,
         ⟨(some 25), none, [], [], .pick (.t 21) (.t 24) (.k (.sc (.bool false)))⟩] (some [3, 6, 9, 25]))
       (.cond (.t 25)
        (.keep [3, 6, 9]
         (.reg [⟨(some 26), none, [], [], .bld [(.sc (.bool false)), (.sc (.int .i64 (0))), (.sc (.int .i64 (0)))] [(0, 1, (.k (.sc (.bool true)))), (1, 1, (.k (.sc (.int .i64 (1))))), (2, 1, (.k (.sc (.int .i64 (1)))))]⟩,
           ⟨(some 27), none, [], [], .fa 5 (.t 3)⟩,
           ⟨none, none, [], [], .sto 3 (.t 27) (.t 26)⟩] (some [3, 6, 9])))
        (.keep [3, 6, 9]
         .skip)))
      (.seq
       (.reg [⟨(some 28), none, [], [], .ld true 8 (.t 3)⟩,
         ⟨(some 29), none, [], [], .cal (.k (.fn 79 [])) [(.t 28)]⟩,
         ⟨(some 30), none, [], [], .mv (.t 9)⟩,
         ⟨none, none, [], [], .sto 8 (.t 6) (.t 29)⟩,
         ⟨(some 7), none, [], [], .mv (.t 30)⟩] (some [6, 7]))
       .ret)))))
theorem b42 : cmpG Try.prog 42 = some (strip a42, r42, 31) := by kernel_rfl

abbrev r43 : List AR := [.t 2]
abbrev a43 : ACode :=
  (.seq
   (.reg [⟨(some 1), none, [], [], .box (.t 0)⟩,
     ⟨(some 2), none, [], [], .mv (.k (.sc (.int .i64 (0))))⟩] (some [1]))
   (.seq
    (.reg [⟨(some 4), none, [], [], .fa 1 (.t 1)⟩,
      ⟨(some 5), none, [], [], .ld false 1 (.t 4)⟩,
      ⟨(some 3), none, [], [], .mv (.t 5)⟩] (some [1, 3]))
    (.seq
     (.block 0
      (.loop
       (.seq
        (.seq
         (.reg [⟨(some 6), none, [], [], .mv (.t 3)⟩,
           ⟨(some 7), none, [], [], .fa 0 (.t 1)⟩,
           ⟨(some 8), none, [], [], .ld false 1 (.t 7)⟩,
           ⟨(some 9), none, [], [], .bin .lss false (.t 6) (.t 8)⟩,
           ⟨(some 10), none, [], [], .mv (.t 9)⟩,
           ⟨(some 11), (some (10, true)), [], [], .ld true 4 (.t 1)⟩,
           ⟨(some 12), (some (10, true)), [], [], .mv (.t 3)⟩,
           ⟨(some 13), (some (10, true)), [], [], .cal (.k (.fn 83 [])) [(.t 11), (.t 12)]⟩,
           ⟨(some 14), none, [], [], .pick (.t 10) (.t 13) (.k (.sc (.bool false)))⟩] (some [1, 3, 14]))
         (.cond (.t 14)
          (.keep [1, 3]
           .skip)
          (.exit 0)))
        (.block 1
         (.reg [⟨(some 15), none, [], [], .mv (.t 3)⟩,
           ⟨(some 16), none, [], [], .bin .add false (.t 15) (.k (.sc (.int .i64 (256))))⟩,
           ⟨(some 17), none, [], [], .fa 0 (.t 1)⟩,
           ⟨(some 18), none, [], [], .ld false 1 (.t 17)⟩,
           ⟨(some 19), none, [], [], .mn [(.t 16), (.t 18)]⟩,
           ⟨(some 3), none, [], [], .mv (.t 19)⟩] (some [1, 3]))))))
     (.seq
      (.reg [⟨(some 20), none, [], [], .mv (.t 3)⟩,
        ⟨(some 2), none, [], [], .mv (.t 20)⟩] (some [2]))
      .ret))))
theorem b43 : cmpG Try.prog 43 = some (strip a43, r43, 21) := by kernel_rfl

abbrev r44 : List AR := [.t 2]
abbrev a44 : ACode :=
  (.seq
   (.reg [⟨(some 1), none, [], [], .box (.t 0)⟩,
     ⟨(some 2), none, [], [], .mv (.k (.sc (.int .i64 (0))))⟩] (some [1]))
   (.seq
    (.reg [⟨(some 5), none, [], [], .fa 0 (.t 1)⟩,
      ⟨(some 6), none, [], [], .ld false 1 (.t 5)⟩,
      ⟨(some 7), none, [], [], .fa 1 (.t 1)⟩,
      ⟨(some 8), none, [], [], .ld false 1 (.t 7)⟩,
      ⟨(some 9), none, [], [], .bin .sub false (.t 6) (.t 8)⟩,
      ⟨(some 3), none, [], [], .mv (.t 9)⟩] (some [1, 3]))
    (.seq
     (.seq
      (.reg [⟨(some 4), none, [], [], .mv (.k (.sc (.int .i64 (0))))⟩] none)
      (.block 0
       (.loop
        (.seq
         (.seq
          (.reg [⟨(some 10), none, [], [], .mv (.t 4)⟩,
            ⟨(some 11), none, [], [], .fa 2 (.t 1)⟩,
            ⟨(some 12), none, [], [], .ld false 1 (.t 11)⟩,
            ⟨(some 13), none, [], [], .lenL (.t 12)⟩,
            ⟨(some 14), none, [], [], .bin .lss false (.t 10) (.t 13)⟩] (some [1, 3, 4, 14]))
          (.cond (.t 14)
           (.keep [1, 3, 4]
            .skip)
           (.exit 0)))
         (.seq
          (.block 1
           (.seq
            (.regD [⟨(some 17), none, [(.t 1)], [], .fa 2 (.t 1)⟩,
              ⟨(some 18), none, [(.t 17)], [], .ld false 1 (.t 17)⟩,
              ⟨(some 19), none, [(.t 4)], [0, 1], .mv (.t 4)⟩,
              ⟨(some 20), none, [(.t 18), (.t 19)], [], .ixaS 1 (.t 18) (.t 19)⟩,
              ⟨(some 21), none, [(.t 20)], [], .ld false 1 (.t 20)⟩,
              ⟨(some 22), none, [(.t 1)], [0, 1, 2, 3, 4], .fa 1 (.t 1)⟩,
              ⟨(some 23), none, [(.t 22)], [0, 1, 2, 3, 4], .ld false 1 (.t 22)⟩,
              ⟨(some 24), none, [(.t 21), (.t 23)], [], .bin .geq false (.t 21) (.t 23)⟩] (some [1, 3, 4, 24]))
            (.cond (.t 24)
             (.keep [1, 3, 4]
              (.regD [⟨(some 25), none, [(.t 3)], [], .mv (.t 3)⟩,
                ⟨(some 26), none, [(.t 1)], [0], .ld true 4 (.t 1)⟩,
                ⟨(some 27), none, [(.t 1)], [0, 1], .fa 2 (.t 1)⟩,
                ⟨(some 28), none, [(.t 27)], [0, 1], .ld false 1 (.t 27)⟩,
                ⟨(some 29), none, [(.t 4)], [0, 1, 2, 3], .mv (.t 4)⟩,
                ⟨(some 30), none, [(.t 28), (.t 29)], [0, 1], .ixaS 1 (.t 28) (.t 29)⟩,
                ⟨(some 31), none, [(.t 30)], [0, 1], .ld false 1 (.t 30)⟩,
                ⟨(some 32), none, [(.k (.fn 84 [])), (.t 26), (.t 31)], [0], .cal (.k (.fn 84 [])) [(.t 26), (.t 31)]⟩,
                ⟨(some 33), none, [(.t 1)], [0, 1, 2, 3, 4, 5, 6, 7], .fa 2 (.t 1)⟩,
                ⟨(some 34), none, [(.t 33)], [0, 1, 2, 3, 4, 5, 6, 7], .ld false 1 (.t 33)⟩,
                ⟨(some 35), none, [(.t 4)], [0, 1, 2, 3, 4, 5, 6, 7, 8, 9], .mv (.t 4)⟩,
                ⟨(some 36), none, [(.t 34), (.t 35)], [0, 1, 2, 3, 4, 5, 6, 7], .ixaS 1 (.t 34) (.t 35)⟩,
                ⟨(some 37), none, [(.t 36)], [0, 1, 2, 3, 4, 5, 6, 7], .ld false 1 (.t 36)⟩,
                ⟨(some 38), none, [(.t 32), (.t 37)], [0], .bin .sub false (.t 32) (.t 37)⟩,
                ⟨(some 39), none, [(.t 25), (.t 38)], [], .bin .sub false (.t 25) (.t 38)⟩,
                ⟨(some 3), none, [(.t 39)], [], .mv (.t 39)⟩] (some [1, 3, 4])))
             (.keep [1, 3, 4]
              .skip))))
          (.reg [⟨(some 15), none, [], [], .mv (.t 4)⟩,
            ⟨(some 16), none, [], [], .bin .add false (.t 15) (.k (.sc (.int .i64 (1))))⟩,
            ⟨(some 4), none, [], [], .mv (.t 16)⟩] (some [1, 3, 4])))))))
     (.seq
      (.reg [⟨(some 40), none, [], [], .mv (.t 3)⟩,
        ⟨(some 2), none, [], [], .mv (.t 40)⟩] (some [2]))
      .ret))))
theorem b44 : cmpG Try.prog 44 = some (strip a44, r44, 41) := by kernel_rfl

abbrev r78 : List AR := [.c 4 true 4, .t 5]
abbrev a78 : ACode :=
  (.seq
   (.reg [⟨(some 4), none, [], [], .alc [(.sc (.int .i64 (0))), (.sc (.int .i64 (0))), .nl, .nl]⟩,
     ⟨(some 5), none, [], [], .mv (.k (.sc (.int .i64 (0))))⟩] (some [0, 1, 4]))
   (.seq
    (.seq
     (.reg [⟨(some 6), none, [], [], .mv (.t 0)⟩,
       ⟨(some 7), none, [], [], .bin .lss false (.t 6) (.k (.sc (.int .i64 (0))))⟩,
       ⟨(some 8), none, [], [], .mv (.t 7)⟩,
       ⟨(some 9), (some (8, false)), [], [], .mv (.t 0)⟩,
       ⟨(some 10), (some (8, false)), [], [], .bin .gtr false (.t 9) (.k (.sc (.int .i64 (1099511627776))))⟩,
       ⟨(some 11), none, [], [], .pick (.t 8) (.k (.sc (.bool true))) (.t 10)⟩,
       ⟨(some 12), none, [], [], .mv (.t 11)⟩,
       ⟨(some 13), (some (12, false)), [], [], .mv (.t 0)⟩,
       ⟨(some 14), (some (12, false)), [], [], .mv (.t 1)⟩,
       ⟨(some 15), (some (12, false)), [], [], .cal (.k (.fn 96 [])) [(.t 13), (.t 14)]⟩,
       ⟨(some 16), (some (12, false)), [], [], .un .not (.t 15)⟩,
       ⟨(some 17), none, [], [], .pick (.t 12) (.k (.sc (.bool true))) (.t 16)⟩] (some [0, 1, 4, 17]))
     (.cond (.t 17)
      (.keep [4]
       (.seq
        (.reg [⟨(some 18), none, [], [], .bld [(.sc (.int .i64 (0))), (.sc (.int .i64 (0))), .nl, .nl] []⟩,
          ⟨none, none, [], [], .sto 4 (.t 4) (.t 18)⟩,
          ⟨(some 5), none, [], [], .mv (.k (.sc (.int .i64 (1))))⟩] (some [4, 5]))
        .ret))
      (.keep [0, 1, 4]
       .skip)))
    (.seq
     (.reg [⟨(some 19), none, [], [], .mv (.t 0)⟩,
       ⟨(some 20), none, [], [], .mv (.t 1)⟩,
       ⟨(some 21), none, [], [], .bld [(.sc (.int .i64 (0))), (.sc (.int .i64 (0))), .nl, .nl] [(0, 1, (.t 19)), (1, 1, (.t 20))]⟩,
       ⟨none, none, [], [], .sto 4 (.t 4) (.t 21)⟩,
       ⟨(some 5), none, [], [], .mv (.k (.sc (.int .i64 (0))))⟩] (some [4, 5]))
     .ret)))
theorem b78 : cmpG Try.prog 78 = some (strip a78, r78, 22) := by kernel_rfl

abbrev r79 : List AR := [.c 2 true 8]
abbrev a79 : ACode :=
  (.seq
   (.reg [⟨(some 1), none, [], [], .box (.t 0)⟩,
     ⟨(some 2), none, [], [], .alc [.nl, (.sc (.int .i64 (0))), (.sc (.int .i64 (0))), .nl, .nl, (.sc (.bool false)), (.sc (.int .i64 (0))), (.sc (.int .i64 (0)))]⟩] (some [1, 2]))
   (.seq
    (.seq
     (.reg [⟨(some 3), none, [], [], .fa 1 (.t 1)⟩,
       ⟨(some 4), none, [], [], .ld true 4 (.t 3)⟩,
       ⟨(some 5), none, [], [], .cal (.k (.fn 44 [])) [(.t 4)]⟩,
       ⟨(some 6), none, [], [], .bin .eql false (.t 5) (.k (.sc (.int .i64 (0))))⟩] (some [1, 2, 6]))
     (.cond (.t 6)
      (.keep [1, 2]
       (.reg [⟨(some 7), none, [], [], .bld [(.sc (.bool false)), (.sc (.int .i64 (0))), (.sc (.int .i64 (0)))] []⟩,
         ⟨(some 8), none, [], [], .fa 5 (.t 1)⟩,
         ⟨none, none, [], [], .sto 3 (.t 8) (.t 7)⟩] (some [1, 2])))
      (.keep [1, 2]
       .skip)))
    (.seq
     (.reg [⟨(some 9), none, [], [], .ld true 8 (.t 1)⟩,
       ⟨none, none, [], [], .sto 8 (.t 2) (.t 9)⟩] (some [2]))
     .ret)))
theorem b79 : cmpG Try.prog 79 = some (strip a79, r79, 10) := by kernel_rfl

abbrev r80 : List AR := [.c 2 true 4, .c 3 true 2, .t 4]
abbrev a80 : ACode :=
  (.seq
   (.reg [⟨(some 1), none, [], [], .box (.t 0)⟩,
     ⟨(some 2), none, [], [], .alc [(.sc (.int .i64 (0))), (.sc (.int .i64 (0))), .nl, .nl]⟩,
     ⟨(some 3), none, [], [], .alc [(.sc (.int .i64 (0))), (.sc (.int .i64 (0)))]⟩,
     ⟨(some 4), none, [], [], .mv (.k (.sc (.bool false)))⟩] (some [1, 2, 3]))
   (.seq
    (.reg [⟨(some 8), none, [], [], .ld true 4 (.t 1)⟩,
      ⟨(some 9), none, [], [], .cal (.k (.fn 43 [])) [(.t 8)]⟩,
      ⟨(some 5), none, [], [], .mv (.t 9)⟩] (some [1, 2, 3, 5]))
    (.seq
     (.seq
      (.reg [⟨(some 10), none, [], [], .mv (.t 5)⟩,
        ⟨(some 6), none, [], [], .mv (.t 10)⟩] (some [1, 2, 3, 5, 6]))
      (.block 0
       (.loop
        (.seq
         (.seq
          (.reg [⟨(some 11), none, [], [], .mv (.t 6)⟩,
            ⟨(some 12), none, [], [], .fa 0 (.t 1)⟩,
            ⟨(some 13), none, [], [], .ld false 1 (.t 12)⟩,
            ⟨(some 14), none, [], [], .bin .lss false (.t 11) (.t 13)⟩,
            ⟨(some 15), none, [], [], .mv (.t 14)⟩,
            ⟨(some 16), (some (15, true)), [], [], .mv (.t 6)⟩,
            ⟨(some 17), (some (15, true)), [], [], .mv (.t 5)⟩,
            ⟨(some 18), (some (15, true)), [], [], .bin .add false (.t 17) (.k (.sc (.int .i64 (2048))))⟩,
            ⟨(some 19), (some (15, true)), [], [], .bin .lss false (.t 16) (.t 18)⟩,
            ⟨(some 20), none, [], [], .pick (.t 15) (.t 19) (.k (.sc (.bool false)))⟩] (some [1, 2, 3, 5, 6, 20]))
          (.cond (.t 20)
           (.keep [1, 2, 3, 5, 6]
            .skip)
           (.exit 0)))
         (.seq
          (.block 1
           (.seq
            (.reg [⟨(some 23), none, [], [], .ld true 4 (.t 1)⟩,
              ⟨(some 24), none, [], [], .mv (.t 6)⟩,
              ⟨(some 25), none, [], [], .cal (.k (.fn 83 [])) [(.t 23), (.t 24)]⟩,
              ⟨(some 26), none, [], [], .un .not (.t 25)⟩,
              ⟨(some 27), none, [], [], .mv (.t 26)⟩,
              ⟨(some 28), (some (27, true)), [], [], .fa 3 (.t 1)⟩,
              ⟨(some 29), (some (27, true)), [], [], .ld false 1 (.t 28)⟩,
              ⟨(some 30), (some (27, true)), [], [], .mv (.t 6)⟩,
              ⟨(some 31), (some (27, true)), [], [], .cal (.k (.fn 113 [])) [(.t 29), (.t 30)]⟩,
              ⟨(some 32), (some (27, true)), [], [], .un .not (.t 31)⟩,
              ⟨(some 33), none, [], [], .pick (.t 27) (.t 32) (.k (.sc (.bool false)))⟩] (some [1, 2, 3, 5, 6, 33]))
            (.cond (.t 33)
             (.keep [1, 2, 3, 6]
              (.seq
               (.reg [⟨(some 34), none, [], [], .fa 3 (.t 1)⟩,
                 ⟨(some 35), none, [], [], .ld false 1 (.t 34)⟩,
                 ⟨(some 36), none, [], [], .app 1 8 (.k .nl) (.t 35)⟩,
                 ⟨(some 37), none, [], [], .mv (.t 6)⟩,
                 ⟨(some 38), none, [], [], .bsl 1 1 [(.sc (.int .i64 (0)))] [(0, 1, (.t 37))]⟩,
                 ⟨(some 39), none, [], [], .app 1 8 (.t 36) (.t 38)⟩,
                 ⟨(some 7), none, [], [], .mv (.t 39)⟩] (some [1, 2, 3, 6, 7]))
               (.seq
                (.regD [⟨(some 40), none, [(.t 1)], [], .fa 0 (.t 1)⟩,
                  ⟨(some 41), none, [(.t 40)], [], .ld false 1 (.t 40)⟩,
                  ⟨(some 42), none, [(.t 1)], [0, 1], .fa 1 (.t 1)⟩,
                  ⟨(some 43), none, [(.t 42)], [0, 1], .ld false 1 (.t 42)⟩,
                  ⟨(some 44), none, [(.t 1)], [0, 1, 2, 3], .fa 2 (.t 1)⟩,
                  ⟨(some 45), none, [(.t 44)], [0, 1, 2, 3], .ld false 1 (.t 44)⟩,
                  ⟨(some 46), none, [(.t 7)], [0, 1, 2, 3, 4, 5], .mv (.t 7)⟩,
                  ⟨(some 47), none, [(.t 41), (.t 43), (.t 45), (.t 46)], [], .bld [(.sc (.int .i64 (0))), (.sc (.int .i64 (0))), .nl, .nl] [(0, 1, (.t 41)), (1, 1, (.t 43)), (2, 1, (.t 45)), (3, 1, (.t 46))]⟩,
                  ⟨(some 48), none, [(.t 6)], [0, 1, 2, 3, 4, 5, 6, 7], .mv (.t 6)⟩,
                  ⟨(some 49), none, [(.t 1)], [0, 1, 2, 3, 4, 5, 6, 7, 8], .ld true 4 (.t 1)⟩,
                  ⟨(some 50), none, [(.t 6)], [0, 1, 2, 3, 4, 5, 6, 7, 8, 9], .mv (.t 6)⟩,
                  ⟨(some 51), none, [(.k (.fn 84 [])), (.t 49), (.t 50)], [0, 1, 2, 3, 4, 5, 6, 7, 8], .cal (.k (.fn 84 [])) [(.t 49), (.t 50)]⟩,
                  ⟨(some 52), none, [(.t 48), (.t 51)], [0, 1, 2, 3, 4, 5, 6, 7], .bld [(.sc (.int .i64 (0))), (.sc (.int .i64 (0)))] [(0, 1, (.t 48)), (1, 1, (.t 51))]⟩,
                  ⟨none, none, [(.t 2), (.t 47)], [8, 12], .sto 4 (.t 2) (.t 47)⟩,
                  ⟨none, none, [(.t 3), (.t 52)], [], .sto 2 (.t 3) (.t 52)⟩,
                  ⟨(some 4), none, [(.k (.sc (.bool true)))], [], .mv (.k (.sc (.bool true)))⟩] (some [2, 3, 4]))
                .ret)))
             (.keep [1, 2, 3, 5, 6]
              .skip))))
          (.reg [⟨(some 21), none, [], [], .mv (.t 6)⟩,
            ⟨(some 22), none, [], [], .bin .add false (.t 21) (.k (.sc (.int .i64 (256))))⟩,
            ⟨(some 6), none, [], [], .mv (.t 22)⟩] (some [1, 2, 3, 5, 6])))))))
     (.seq
      (.reg [⟨(some 53), none, [], [], .ld true 4 (.t 1)⟩,
        ⟨(some 54), none, [], [], .bld [(.sc (.int .i64 (0))), (.sc (.int .i64 (0)))] []⟩,
        ⟨none, none, [], [], .sto 4 (.t 2) (.t 53)⟩,
        ⟨none, none, [], [], .sto 2 (.t 3) (.t 54)⟩,
        ⟨(some 4), none, [], [], .mv (.k (.sc (.bool false)))⟩] (some [2, 3, 4]))
      .ret))))
theorem b80 : cmpG Try.prog 80 = some (strip a80, r80, 55) := by kernel_rfl

abbrev r81 : List AR := [.c 2 true 3, .t 3]
abbrev a81 : ACode :=
  (.seq
   (.reg [⟨(some 1), none, [], [], .box (.t 0)⟩,
     ⟨(some 2), none, [], [], .alc [(.sc (.bool false)), (.sc (.int .i64 (0))), (.sc (.int .i64 (0)))]⟩,
     ⟨(some 3), none, [], [], .mv (.k (.sc (.bool false)))⟩] (some [1, 2]))
   (.seq
    (.seq
     (.reg [⟨(some 5), none, [], [], .fa 0 (.t 1)⟩,
       ⟨(some 6), none, [], [], .ld false 1 (.t 5)⟩,
       ⟨(some 7), none, [], [], .un .not (.t 6)⟩,
       ⟨(some 8), none, [], [], .mv (.t 7)⟩,
       ⟨(some 9), (some (8, false)), [], [], .ld true 3 (.t 1)⟩,
       ⟨(some 10), (some (8, false)), [], [], .cal (.k (.fn 114 [])) [(.t 9)]⟩,
       ⟨(some 11), (some (8, false)), [], [], .un .not (.t 10)⟩,
       ⟨(some 12), none, [], [], .pick (.t 8) (.k (.sc (.bool true))) (.t 11)⟩] (some [1, 2, 12]))
     (.cond (.t 12)
      (.keep [1, 2]
       (.seq
        (.reg [⟨(some 13), none, [], [], .ld true 3 (.t 1)⟩,
          ⟨none, none, [], [], .sto 3 (.t 2) (.t 13)⟩,
          ⟨(some 3), none, [], [], .mv (.k (.sc (.bool false)))⟩] (some [2, 3]))
        .ret))
      (.keep [1, 2]
       .skip)))
    (.seq
     (.seq
      (.reg [⟨(some 14), none, [], [], .fa 2 (.t 1)⟩,
        ⟨(some 15), none, [], [], .ld false 1 (.t 14)⟩,
        ⟨(some 16), none, [], [], .bin .gtr false (.t 15) (.k (.sc (.int .i64 (1))))⟩] (some [1, 2, 16]))
      (.cond (.t 16)
       (.keep [1, 2]
        (.seq
         (.reg [⟨(some 17), none, [], [], .fa 1 (.t 1)⟩,
           ⟨(some 18), none, [], [], .ld false 1 (.t 17)⟩,
           ⟨(some 19), none, [], [], .fa 2 (.t 1)⟩,
           ⟨(some 20), none, [], [], .ld false 1 (.t 19)⟩,
           ⟨(some 21), none, [], [], .bin .sub false (.t 20) (.k (.sc (.int .i64 (1))))⟩,
           ⟨(some 22), none, [], [], .bld [(.sc (.bool false)), (.sc (.int .i64 (0))), (.sc (.int .i64 (0)))] [(0, 1, (.k (.sc (.bool true)))), (1, 1, (.t 18)), (2, 1, (.t 21))]⟩,
           ⟨none, none, [], [], .sto 3 (.t 2) (.t 22)⟩,
           ⟨(some 3), none, [], [], .mv (.k (.sc (.bool false)))⟩] (some [2, 3]))
         .ret))
       (.keep [1, 2]
        .skip)))
     (.seq
      (.reg [⟨(some 23), none, [], [], .fa 1 (.t 1)⟩,
        ⟨(some 24), none, [], [], .ld false 1 (.t 23)⟩,
        ⟨(some 25), none, [], [], .bin .mul false (.k (.sc (.int .i64 (2)))) (.t 24)⟩,
        ⟨(some 26), none, [], [], .mn [(.t 25), (.k (.sc (.int .i64 (16))))]⟩,
        ⟨(some 4), none, [], [], .mv (.t 26)⟩] (some [2, 4]))
      (.seq
       (.reg [⟨(some 27), none, [], [], .mv (.t 4)⟩,
         ⟨(some 28), none, [], [], .mv (.t 4)⟩,
         ⟨(some 29), none, [], [], .bld [(.sc (.bool false)), (.sc (.int .i64 (0))), (.sc (.int .i64 (0)))] [(0, 1, (.k (.sc (.bool true)))), (1, 1, (.t 27)), (2, 1, (.t 28))]⟩,
         ⟨none, none, [], [], .sto 3 (.t 2) (.t 29)⟩,
         ⟨(some 3), none, [], [], .mv (.k (.sc (.bool true)))⟩] (some [2, 3]))
       .ret)))))
theorem b81 : cmpG Try.prog 81 = some (strip a81, r81, 30) := by kernel_rfl

abbrev r82 : List AR := [.c 6 true 4, .t 7]
abbrev a82 : ACode :=
  (.seq
   (.reg [⟨(some 3), none, [], [], .box (.t 0)⟩,
     ⟨(some 6), none, [], [], .alc [(.sc (.int .i64 (0))), (.sc (.int .i64 (0))), .nl, .nl]⟩,
     ⟨(some 7), none, [], [], .mv (.k (.sc (.bool false)))⟩] (some [1, 2, 3, 6]))
   (.seq
    (.seq
     (.reg [⟨(some 12), none, [], [], .fa 0 (.t 3)⟩,
       ⟨(some 13), none, [], [], .ld false 1 (.t 12)⟩,
       ⟨(some 14), none, [], [], .mv (.t 1)⟩,
       ⟨(some 15), none, [], [], .cal (.k (.fn 96 [])) [(.t 13), (.t 14)]⟩,
       ⟨(some 16), none, [], [], .un .not (.t 15)⟩,
       ⟨(some 17), none, [], [], .mv (.t 16)⟩,
       ⟨(some 18), (some (17, false)), [], [], .mv (.t 1)⟩,
       ⟨(some 19), (some (17, false)), [], [], .ld true 4 (.t 3)⟩,
       ⟨(some 20), (some (17, false)), [], [], .cal (.k (.fn 43 [])) [(.t 19)]⟩,
       ⟨(some 21), (some (17, false)), [], [], .bin .lss false (.t 18) (.t 20)⟩,
       ⟨(some 22), none, [], [], .pick (.t 17) (.k (.sc (.bool true))) (.t 21)⟩] (some [1, 2, 3, 6, 22]))
     (.cond (.t 22)
      (.keep [3, 6]
       (.seq
        (.reg [⟨(some 23), none, [], [], .ld true 4 (.t 3)⟩,
          ⟨none, none, [], [], .sto 4 (.t 6) (.t 23)⟩,
          ⟨(some 7), none, [], [], .mv (.k (.sc (.bool false)))⟩] (some [6, 7]))
        .ret))
      (.keep [1, 2, 3, 6]
       .skip)))
    (.seq
     (.reg [⟨(some 24), none, [], [], .ld true 4 (.t 3)⟩,
       ⟨(some 25), none, [], [], .cal (.k (.fn 44 [])) [(.t 24)]⟩,
       ⟨(some 8), none, [], [], .mv (.t 25)⟩] (some [1, 2, 3, 6, 8]))
     (.seq
      (.reg [⟨(some 26), none, [], [], .ld true 4 (.t 3)⟩,
        ⟨(some 27), none, [], [], .fa 1 (.t 3)⟩,
        ⟨(some 28), none, [], [], .ld false 1 (.t 27)⟩,
        ⟨(some 29), none, [], [], .mv (.t 1)⟩,
        ⟨(some 30), none, [], [], .cal (.k (.fn 115 [])) [(.t 26), (.t 28), (.t 29)]⟩,
        ⟨none, none, [], [], .sto 4 (.t 3) (.t 30)⟩] (some [1, 2, 3, 6, 8]))
      (.seq
       (.seq
        (.reg [⟨(some 9), none, [], [], .mv (.k (.sc (.int .i64 (0))))⟩] none)
        (.block 0
         (.loop
          (.seq
           (.seq
            (.reg [⟨(some 31), none, [], [], .mv (.t 9)⟩,
              ⟨(some 32), none, [], [], .mv (.t 2)⟩,
              ⟨(some 33), none, [], [], .lenL (.t 32)⟩,
              ⟨(some 34), none, [], [], .bin .lss false (.t 31) (.t 33)⟩] (some [1, 2, 3, 6, 8, 9, 34]))
            (.cond (.t 34)
             (.keep [1, 2, 3, 6, 8, 9]
              .skip)
             (.exit 0)))
           (.seq
            (.block 1
             (.seq
              (.regD (⟨(some 37), none, [(.t 3)], [], .fa 0 (.t 3)⟩ ::
                ⟨(some 38), none, [(.t 37)], [], .ld false 1 (.t 37)⟩ ::
                ⟨(some 39), none, [(.t 2)], [0, 1], .mv (.t 2)⟩ ::
                ⟨(some 40), none, [(.t 9)], [0, 1, 2], .mv (.t 9)⟩ ::
                ⟨(some 41), none, [(.t 39), (.t 40)], [0, 1], .ixaS 2 (.t 39) (.t 40)⟩ ::
                ⟨(some 42), none, [(.t 41)], [0, 1], .fa 0 (.t 41)⟩ ::
                ⟨(some 43), none, [(.t 42)], [0, 1], .ld false 1 (.t 42)⟩ ::
                ⟨(some 44), none, [(.k (.fn 96 [])), (.t 38), (.t 43)], [], .cal (.k (.fn 96 [])) [(.t 38), (.t 43)]⟩ ::
                ⟨(some 45), none, [(.t 44)], [], .mv (.t 44)⟩ ::
                ⟨(some 46), (some (45, true)), [(.t 3)], [], .fa 0 (.t 3)⟩ ::
                ⟨(some 47), (some (45, true)), [(.t 46)], [], .ld false 1 (.t 46)⟩ ::
                ⟨(some 48), (some (45, true)), [(.t 2)], [9, 10], .mv (.t 2)⟩ ::
                ⟨(some 49), (some (45, true)), [(.t 9)], [9, 10, 11], .mv (.t 9)⟩ ::
                ⟨(some 50), (some (45, true)), [(.t 48), (.t 49)], [9, 10], .ixaS 2 (.t 48) (.t 49)⟩ ::
                ⟨(some 51), (some (45, true)), [(.t 50)], [9, 10], .fa 1 (.t 50)⟩ ::
                ⟨(some 52), (some (45, true)), [(.t 51)], [9, 10], .ld false 1 (.t 51)⟩ ::
                ⟨(some 53), (some (45, true)), [(.k (.fn 96 [])), (.t 47), (.t 52)], [], .cal (.k (.fn 96 [])) [(.t 47), (.t 52)]⟩ ::
                ⟨(some 54), none, [(.t 45), (.t 53), (.k (.sc (.bool false)))], [], .pick (.t 45) (.t 53) (.k (.sc (.bool false)))⟩ ::
                ⟨(some 55), none, [(.t 54)], [], .mv (.t 54)⟩ ::
                ⟨(some 56), (some (55, true)), [(.t 2)], [], .mv (.t 2)⟩ ::
                ⟨(some 57), (some (55, true)), [(.t 9)], [19], .mv (.t 9)⟩ ::
                ⟨(some 58), (some (55, true)), [(.t 56), (.t 57)], [], .ixaS 2 (.t 56) (.t 57)⟩ ::
                ⟨(some 59), (some (55, true)), [(.t 58)], [], .fa 0 (.t 58)⟩ ::
                ⟨(some 60), (some (55, true)), [(.t 59)], [], .ld false 1 (.t 59)⟩ ::
                ⟨(some 61), (some (55, true)), [(.t 1)], [19, 20, 21, 22, 23], .mv (.t 1)⟩ ::
                ⟨(some 62), (some (55, true)), [(.t 60), (.t 61)], [], .bin .geq false (.t 60) (.t 61)⟩ ::
                ⟨(some 63), none, [(.t 55), (.t 62), (.k (.sc (.bool false)))], [], .pick (.t 55) (.t 62) (.k (.sc (.bool false)))⟩ :: []) (some [1, 2, 3, 6, 8, 9, 63]))
              (.cond (.t 63)
               (.keep [1, 2, 3, 6, 8, 9]
                (.regD [⟨(some 64), none, [(.t 3)], [], .ld true 4 (.t 3)⟩,
                  ⟨(some 65), none, [(.t 2)], [0], .mv (.t 2)⟩,
                  ⟨(some 66), none, [(.t 9)], [0, 1], .mv (.t 9)⟩,
                  ⟨(some 67), none, [(.t 65), (.t 66)], [0], .ixaS 2 (.t 65) (.t 66)⟩,
                  ⟨(some 68), none, [(.t 67)], [0], .fa 0 (.t 67)⟩,
                  ⟨(some 69), none, [(.t 68)], [0], .ld false 1 (.t 68)⟩,
                  ⟨(some 70), none, [(.t 2)], [0, 1, 2, 3, 4, 5], .mv (.t 2)⟩,
                  ⟨(some 71), none, [(.t 9)], [0, 1, 2, 3, 4, 5, 6], .mv (.t 9)⟩,
                  ⟨(some 72), none, [(.t 70), (.t 71)], [0, 1, 2, 3, 4, 5], .ixaS 2 (.t 70) (.t 71)⟩,
                  ⟨(some 73), none, [(.t 72)], [0, 1, 2, 3, 4, 5], .fa 1 (.t 72)⟩,
                  ⟨(some 74), none, [(.t 73)], [0, 1, 2, 3, 4, 5], .ld false 1 (.t 73)⟩,
                  ⟨(some 75), none, [(.k (.fn 115 [])), (.t 64), (.t 69), (.t 74)], [], .cal (.k (.fn 115 [])) [(.t 64), (.t 69), (.t 74)]⟩,
                  ⟨none, none, [(.t 3), (.t 75)], [], .sto 4 (.t 3) (.t 75)⟩] (some [1, 2, 3, 6, 8, 9])))
               (.keep [1, 2, 3, 6, 8, 9]
                .skip))))
            (.reg [⟨(some 35), none, [], [], .mv (.t 9)⟩,
              ⟨(some 36), none, [], [], .bin .add false (.t 35) (.k (.sc (.int .i64 (1))))⟩,
              ⟨(some 9), none, [], [], .mv (.t 36)⟩] (some [1, 2, 3, 6, 8, 9])))))))
       (.seq
        (.reg [⟨(some 10), none, [], [], .mv (.k .nl)⟩] (some [3, 6, 8, 10]))
        (.seq
         (.seq
          (.reg [⟨(some 11), none, [], [], .mv (.k (.sc (.int .i64 (0))))⟩] none)
          (.block 2
           (.loop
            (.seq
             (.seq
              (.reg [⟨(some 76), none, [], [], .mv (.t 11)⟩,
                ⟨(some 77), none, [], [], .fa 3 (.t 3)⟩,
                ⟨(some 78), none, [], [], .ld false 1 (.t 77)⟩,
                ⟨(some 79), none, [], [], .lenL (.t 78)⟩,
                ⟨(some 80), none, [], [], .bin .lss false (.t 76) (.t 79)⟩] (some [3, 6, 8, 10, 11, 80]))
              (.cond (.t 80)
               (.keep [3, 6, 8, 10, 11]
                .skip)
               (.exit 2)))
             (.seq
              (.block 3
               (.seq
                (.regD [⟨(some 83), none, [(.t 3)], [], .ld true 4 (.t 3)⟩,
                  ⟨(some 84), none, [(.t 3)], [0], .fa 3 (.t 3)⟩,
                  ⟨(some 85), none, [(.t 84)], [0], .ld false 1 (.t 84)⟩,
                  ⟨(some 86), none, [(.t 11)], [0, 1, 2], .mv (.t 11)⟩,
                  ⟨(some 87), none, [(.t 85), (.t 86)], [0], .ixaS 1 (.t 85) (.t 86)⟩,
                  ⟨(some 88), none, [(.t 87)], [0], .ld false 1 (.t 87)⟩,
                  ⟨(some 89), none, [(.k (.fn 83 [])), (.t 83), (.t 88)], [], .cal (.k (.fn 83 [])) [(.t 83), (.t 88)]⟩,
                  ⟨(some 90), none, [(.t 89)], [], .un .not (.t 89)⟩] (some [3, 6, 8, 10, 11, 90]))
                (.cond (.t 90)
                 (.keep [3, 6, 8, 10, 11]
                  (.reg [⟨(some 91), none, [], [], .mv (.t 10)⟩,
                    ⟨(some 92), none, [], [], .fa 3 (.t 3)⟩,
                    ⟨(some 93), none, [], [], .ld false 1 (.t 92)⟩,
                    ⟨(some 94), none, [], [], .mv (.t 11)⟩,
                    ⟨(some 95), none, [], [], .ixaS 1 (.t 93) (.t 94)⟩,
                    ⟨(some 96), none, [], [], .ld false 1 (.t 95)⟩,
                    ⟨(some 97), none, [], [], .bsl 1 1 [(.sc (.int .i64 (0)))] [(0, 1, (.t 96))]⟩,
                    ⟨(some 98), none, [], [], .app 1 8 (.t 91) (.t 97)⟩,
                    ⟨(some 10), none, [], [], .mv (.t 98)⟩] (some [3, 6, 8, 10, 11])))
                 (.keep [3, 6, 8, 10, 11]
                  .skip))))
              (.reg [⟨(some 81), none, [], [], .mv (.t 11)⟩,
                ⟨(some 82), none, [], [], .bin .add false (.t 81) (.k (.sc (.int .i64 (1))))⟩,
                ⟨(some 11), none, [], [], .mv (.t 82)⟩] (some [3, 6, 8, 10, 11])))))))
         (.seq
          (.reg [⟨(some 99), none, [], [], .mv (.t 10)⟩,
            ⟨(some 100), none, [], [], .fa 3 (.t 3)⟩,
            ⟨none, none, [], [], .sto 1 (.t 100) (.t 99)⟩] (some [3, 6, 8]))
          (.seq
           (.regD [⟨(some 101), none, [(.t 3)], [], .ld true 4 (.t 3)⟩,
             ⟨(some 102), none, [(.t 3)], [0], .ld true 4 (.t 3)⟩,
             ⟨(some 103), none, [(.k (.fn 44 [])), (.t 102)], [0], .cal (.k (.fn 44 [])) [(.t 102)]⟩,
             ⟨(some 104), none, [(.t 8)], [0, 1, 2], .mv (.t 8)⟩,
             ⟨(some 105), none, [(.t 103), (.t 104)], [0], .bin .lss false (.t 103) (.t 104)⟩,
             ⟨none, none, [(.t 6), (.t 101)], [3, 4], .sto 4 (.t 6) (.t 101)⟩,
             ⟨(some 7), none, [(.t 105)], [], .mv (.t 105)⟩] (some [6, 7]))
           .ret)))))))))
theorem b82 : cmpG Try.prog 82 = some (strip a82, r82, 106) := by kernel_rfl

abbrev r83 : List AR := [.t 4]
abbrev a83 : ACode :=
  (.seq
   (.reg [⟨(some 2), none, [], [], .box (.t 0)⟩,
     ⟨(some 4), none, [], [], .mv (.k (.sc (.bool false)))⟩] (some [1, 2]))
   (.seq
    (.reg [⟨(some 5), none, [], [], .mv (.t 1)⟩,
      ⟨(some 6), none, [], [], .fa 1 (.t 2)⟩,
      ⟨(some 7), none, [], [], .ld false 1 (.t 6)⟩,
      ⟨(some 8), none, [], [], .bin .lss false (.t 5) (.t 7)⟩,
      ⟨(some 9), none, [], [], .mv (.t 8)⟩,
      ⟨(some 10), (some (9, false)), [], [], .fa 2 (.t 2)⟩,
      ⟨(some 11), (some (9, false)), [], [], .ld false 1 (.t 10)⟩,
      ⟨(some 12), (some (9, false)), [], [], .mv (.t 1)⟩,
      ⟨(some 13), (some (9, false)), [], [], .cal (.k (.fn 113 [])) [(.t 11), (.t 12)]⟩,
      ⟨(some 14), none, [], [], .pick (.t 9) (.k (.sc (.bool true))) (.t 13)⟩,
      ⟨(some 4), none, [], [], .mv (.t 14)⟩] (some [4]))
    .ret))
theorem b83 : cmpG Try.prog 83 = some (strip a83, r83, 15) := by kernel_rfl

abbrev r84 : List AR := [.t 4]
abbrev a84 : ACode :=
  (.seq
   (.reg [⟨(some 2), none, [], [], .box (.t 0)⟩,
     ⟨(some 4), none, [], [], .mv (.k (.sc (.int .i64 (0))))⟩] (some [1, 2]))
   (.seq
    (.reg [⟨(some 5), none, [], [], .mv (.t 1)⟩,
      ⟨(some 6), none, [], [], .bin .add false (.t 5) (.k (.sc (.int .i64 (256))))⟩,
      ⟨(some 7), none, [], [], .fa 0 (.t 2)⟩,
      ⟨(some 8), none, [], [], .ld false 1 (.t 7)⟩,
      ⟨(some 9), none, [], [], .mn [(.t 6), (.t 8)]⟩,
      ⟨(some 4), none, [], [], .mv (.t 9)⟩] (some [4]))
    .ret))
theorem b84 : cmpG Try.prog 84 = some (strip a84, r84, 10) := by kernel_rfl

abbrev r96 : List AR := [.t 4]
abbrev a96 : ACode :=
  (.seq
   (.reg [⟨(some 4), none, [], [], .mv (.k (.sc (.bool false)))⟩] (some [0, 1]))
   (.seq
    (.reg [⟨(some 5), none, [], [], .mv (.t 1)⟩,
      ⟨(some 6), none, [], [], .bin .geq false (.t 5) (.k (.sc (.int .i64 (0))))⟩,
      ⟨(some 7), none, [], [], .mv (.t 6)⟩,
      ⟨(some 8), (some (7, true)), [], [], .mv (.t 1)⟩,
      ⟨(some 9), (some (7, true)), [], [], .mv (.t 0)⟩,
      ⟨(some 10), (some (7, true)), [], [], .bin .leq false (.t 8) (.t 9)⟩,
      ⟨(some 11), none, [], [], .pick (.t 7) (.t 10) (.k (.sc (.bool false)))⟩,
      ⟨(some 12), none, [], [], .mv (.t 11)⟩,
      ⟨(some 13), (some (12, true)), [], [], .mv (.t 1)⟩,
      ⟨(some 14), (some (12, true)), [], [], .bin .rem false (.t 13) (.k (.sc (.int .i64 (256))))⟩,
      ⟨(some 15), (some (12, true)), [], [], .bin .eql false (.t 14) (.k (.sc (.int .i64 (0))))⟩,
      ⟨(some 16), (some (12, true)), [], [], .mv (.t 15)⟩,
      ⟨(some 17), (some (16, false)), [], [], .mv (.t 1)⟩,
      ⟨(some 18), (some (16, false)), [], [], .mv (.t 0)⟩,
      ⟨(some 19), (some (16, false)), [], [], .bin .eql false (.t 17) (.t 18)⟩,
      ⟨(some 20), (some (12, true)), [], [], .pick (.t 16) (.k (.sc (.bool true))) (.t 19)⟩,
      ⟨(some 21), none, [], [], .pick (.t 12) (.t 20) (.k (.sc (.bool false)))⟩,
      ⟨(some 4), none, [], [], .mv (.t 21)⟩] (some [4]))
    .ret))
theorem b96 : cmpG Try.prog 96 = some (strip a96, r96, 22) := by kernel_rfl

abbrev r113 : List AR := [.t 4]
abbrev a113 : ACode :=
  (.seq
   (.reg [⟨(some 4), none, [], [], .mv (.k (.sc (.bool false)))⟩] (some [0, 1]))
   (.seq
    (.seq
     (.reg [⟨(some 5), none, [], [], .mv (.k (.sc (.int .i64 (0))))⟩] none)
     (.block 0
      (.loop
       (.seq
        (.seq
         (.reg [⟨(some 6), none, [], [], .mv (.t 5)⟩,
           ⟨(some 7), none, [], [], .mv (.t 0)⟩,
           ⟨(some 8), none, [], [], .lenL (.t 7)⟩,
           ⟨(some 9), none, [], [], .bin .lss false (.t 6) (.t 8)⟩] (some [0, 1, 5, 9]))
         (.cond (.t 9)
          (.keep [0, 1, 5]
           .skip)
          (.exit 0)))
        (.seq
         (.block 1
          (.seq
           (.reg [⟨(some 12), none, [], [], .mv (.t 0)⟩,
             ⟨(some 13), none, [], [], .mv (.t 5)⟩,
             ⟨(some 14), none, [], [], .ixaS 1 (.t 12) (.t 13)⟩,
             ⟨(some 15), none, [], [], .ld false 1 (.t 14)⟩,
             ⟨(some 16), none, [], [], .mv (.t 1)⟩,
             ⟨(some 17), none, [], [], .bin .eql false (.t 15) (.t 16)⟩] (some [0, 1, 5, 17]))
           (.cond (.t 17)
            (.keep []
             (.seq
              (.reg [⟨(some 4), none, [], [], .mv (.k (.sc (.bool true)))⟩] none)
              .ret))
            (.keep [0, 1, 5]
             .skip))))
         (.reg [⟨(some 10), none, [], [], .mv (.t 5)⟩,
           ⟨(some 11), none, [], [], .bin .add false (.t 10) (.k (.sc (.int .i64 (1))))⟩,
           ⟨(some 5), none, [], [], .mv (.t 11)⟩] (some [0, 1, 5])))))))
    (.seq
     (.reg [⟨(some 4), none, [], [], .mv (.k (.sc (.bool false)))⟩] (some [4]))
     .ret)))
theorem b113 : cmpG Try.prog 113 = some (strip a113, r113, 18) := by kernel_rfl

abbrev r114 : List AR := [.t 2]
abbrev a114 : ACode :=
  (.seq
   (.reg [⟨(some 1), none, [], [], .box (.t 0)⟩,
     ⟨(some 2), none, [], [], .mv (.k (.sc (.bool false)))⟩] (some [1]))
   (.seq
    (.seq
     (.reg [⟨(some 3), none, [], [], .fa 0 (.t 1)⟩,
       ⟨(some 4), none, [], [], .ld false 1 (.t 3)⟩,
       ⟨(some 5), none, [], [], .un .not (.t 4)⟩] (some [1, 5]))
     (.cond (.t 5)
      (.keep [1]
       (.seq
        (.reg [⟨(some 6), none, [], [], .fa 1 (.t 1)⟩,
          ⟨(some 7), none, [], [], .ld false 1 (.t 6)⟩,
          ⟨(some 8), none, [], [], .bin .eql false (.t 7) (.k (.sc (.int .i64 (0))))⟩,
          ⟨(some 9), none, [], [], .mv (.t 8)⟩,
          ⟨(some 10), (some (9, true)), [], [], .fa 2 (.t 1)⟩,
          ⟨(some 11), (some (9, true)), [], [], .ld false 1 (.t 10)⟩,
          ⟨(some 12), (some (9, true)), [], [], .bin .eql false (.t 11) (.k (.sc (.int .i64 (0))))⟩,
          ⟨(some 13), none, [], [], .pick (.t 9) (.t 12) (.k (.sc (.bool false)))⟩,
          ⟨(some 2), none, [], [], .mv (.t 13)⟩] (some [2]))
        .ret))
      (.keep [1]
       .skip)))
    (.seq
     (.reg [⟨(some 14), none, [], [], .fa 1 (.t 1)⟩,
       ⟨(some 15), none, [], [], .ld false 1 (.t 14)⟩,
       ⟨(some 16), none, [], [], .bin .geq false (.t 15) (.k (.sc (.int .i64 (1))))⟩,
       ⟨(some 17), none, [], [], .mv (.t 16)⟩,
       ⟨(some 18), (some (17, true)), [], [], .fa 1 (.t 1)⟩,
       ⟨(some 19), (some (17, true)), [], [], .ld false 1 (.t 18)⟩,
       ⟨(some 20), (some (17, true)), [], [], .bin .leq false (.t 19) (.k (.sc (.int .i64 (16))))⟩,
       ⟨(some 21), none, [], [], .pick (.t 17) (.t 20) (.k (.sc (.bool false)))⟩,
       ⟨(some 22), none, [], [], .mv (.t 21)⟩,
       ⟨(some 23), (some (22, true)), [], [], .fa 2 (.t 1)⟩,
       ⟨(some 24), (some (22, true)), [], [], .ld false 1 (.t 23)⟩,
       ⟨(some 25), (some (22, true)), [], [], .bin .geq false (.t 24) (.k (.sc (.int .i64 (1))))⟩,
       ⟨(some 26), none, [], [], .pick (.t 22) (.t 25) (.k (.sc (.bool false)))⟩,
       ⟨(some 27), none, [], [], .mv (.t 26)⟩,
       ⟨(some 28), (some (27, true)), [], [], .fa 2 (.t 1)⟩,
       ⟨(some 29), (some (27, true)), [], [], .ld false 1 (.t 28)⟩,
       ⟨(some 30), (some (27, true)), [], [], .fa 1 (.t 1)⟩,
       ⟨(some 31), (some (27, true)), [], [], .ld false 1 (.t 30)⟩,
       ⟨(some 32), (some (27, true)), [], [], .bin .leq false (.t 29) (.t 31)⟩,
       ⟨(some 33), none, [], [], .pick (.t 27) (.t 32) (.k (.sc (.bool false)))⟩,
       ⟨(some 2), none, [], [], .mv (.t 33)⟩] (some [2]))
     .ret)))
theorem b114 : cmpG Try.prog 114 = some (strip a114, r114, 34) := by kernel_rfl

abbrev r115 : List AR := [.c 6 true 4]
abbrev a115 : ACode :=
  (.seq
   (.reg [⟨(some 3), none, [], [], .box (.t 0)⟩,
     ⟨(some 6), none, [], [], .alc [(.sc (.int .i64 (0))), (.sc (.int .i64 (0))), .nl, .nl]⟩] (some [1, 2, 3, 6]))
   (.seq
    (.seq
     (.reg [⟨(some 8), none, [], [], .mv (.t 1)⟩,
       ⟨(some 7), none, [], [], .mv (.t 8)⟩] (some [2, 3, 6, 7]))
     (.block 0
      (.loop
       (.seq
        (.seq
         (.reg [⟨(some 9), none, [], [], .mv (.t 7)⟩,
           ⟨(some 10), none, [], [], .mv (.t 2)⟩,
           ⟨(some 11), none, [], [], .bin .lss false (.t 9) (.t 10)⟩] (some [2, 3, 6, 7, 11]))
         (.cond (.t 11)
          (.keep [2, 3, 6, 7]
           .skip)
          (.exit 0)))
        (.seq
         (.block 1
          (.seq
           (.reg [⟨(some 14), none, [], [], .ld true 4 (.t 3)⟩,
             ⟨(some 15), none, [], [], .mv (.t 7)⟩,
             ⟨(some 16), none, [], [], .cal (.k (.fn 83 [])) [(.t 14), (.t 15)]⟩,
             ⟨(some 17), none, [], [], .un .not (.t 16)⟩] (some [2, 3, 6, 7, 17]))
           (.cond (.t 17)
            (.keep [2, 3, 6, 7]
             (.reg [⟨(some 18), none, [], [], .fa 2 (.t 3)⟩,
               ⟨(some 19), none, [], [], .ld false 1 (.t 18)⟩,
               ⟨(some 20), none, [], [], .app 1 8 (.k .nl) (.t 19)⟩,
               ⟨(some 21), none, [], [], .mv (.t 7)⟩,
               ⟨(some 22), none, [], [], .bsl 1 1 [(.sc (.int .i64 (0)))] [(0, 1, (.t 21))]⟩,
               ⟨(some 23), none, [], [], .app 1 8 (.t 20) (.t 22)⟩,
               ⟨(some 24), none, [], [], .fa 2 (.t 3)⟩,
               ⟨none, none, [], [], .sto 1 (.t 24) (.t 23)⟩] (some [2, 3, 6, 7])))
            (.keep [2, 3, 6, 7]
             .skip))))
         (.reg [⟨(some 12), none, [], [], .mv (.t 7)⟩,
           ⟨(some 13), none, [], [], .bin .add false (.t 12) (.k (.sc (.int .i64 (256))))⟩,
           ⟨(some 7), none, [], [], .mv (.t 13)⟩] (some [2, 3, 6, 7])))))))
    (.seq
     (.reg [⟨(some 25), none, [], [], .ld true 4 (.t 3)⟩,
       ⟨none, none, [], [], .sto 4 (.t 6) (.t 25)⟩] (some [6]))
     .ret)))
theorem b115 : cmpG Try.prog 115 = some (strip a115, r115, 26) := by kernel_rfl


end Go.Proofs.Ytbmdahhhgpbchaa.Cod
