import Derived.Test.YtdjjibmjinllnaaProg
import Derived.Test.YtdjjibmjinllnaaSimD
import Derived.KernelRfl
namespace Go.Proofs.Ytdjjibmjinllnaa.Cod
open Go Go.Sim Go.Proofs
set_option maxRecDepth 100000
abbrev r3 : List AR := [.t 2]
abbrev a3 : ACode :=
  (.seq
   (.reg [⟨(some 2), none, [], [], .mv (.k (.sc (.bool false)))⟩] (some [0]))
   (.seq
    (.seq
     (.reg [⟨(some 3), none, [], [], .mv (.t 0)⟩,
       ⟨(some 4), none, [], [], .lenL (.t 3)⟩,
       ⟨(some 5), none, [], [], .bin .gtr false (.t 4) (.k (.sc (.int .i64 (500))))⟩] (some [0, 5]))
     (.cond (.t 5)
      (.keep []
       (.seq
        (.reg [⟨(some 6), none, [], [], .cal (.k (.fn 11 [])) []⟩,
          ⟨(some 2), none, [], [], .mv (.t 6)⟩] (some [2]))
        .ret))
      (.keep [0]
       .skip)))
    (.seq
     (.reg [⟨(some 7), none, [], [], .mv (.t 0)⟩,
       ⟨(some 8), none, [], [], .cal (.k (.fn 12 [])) [(.t 7)]⟩,
       ⟨(some 9), none, [], [], .mv (.t 0)⟩,
       ⟨(some 10), none, [], [], .cal (.k (.fn 13 [])) [(.t 9)]⟩,
       ⟨(some 11), none, [], [], .aeq false 32 (.i :: .i :: .i :: .i :: .i :: .i :: .i :: .i :: .i :: .i :: .i :: .i :: .i :: .i :: .i :: .i :: .i :: .i :: .i :: .i :: .i :: .i :: .i :: .i :: .i :: .i :: .i :: .i :: .i :: .i :: .i :: .i :: []) (.t 8) (.t 10)⟩,
       ⟨(some 12), none, [], [], .mv (.t 11)⟩,
       ⟨(some 13), (some (12, true)), [], [], .cal (.k (.fn 11 [])) []⟩,
       ⟨(some 14), none, [], [], .pick (.t 12) (.t 13) (.k (.sc (.bool false)))⟩,
       ⟨(some 2), none, [], [], .mv (.t 14)⟩] (some [2]))
     .ret)))
theorem b3 : cmpG Try.prog 3 = some (strip a3, r3, 15) := by kernel_rfl

abbrev r13 : List AR := [.c 2 true 32]
abbrev a13 : ACode :=
  (.seq
   (.reg [⟨(some 2), none, [], [], .alc (List.replicate 32 (.sc (.int .u8 (0))))⟩] none)
   (.seq
    (.reg [⟨(some 20), none, [], [], .cal (.k (.fn 40 [])) [(.k (.sc (.int .i64 (64))))]⟩,
      ⟨(some 21), none, [], [], .bld [(.sc (.int .u32 (0))), (.sc (.int .u32 (0))), (.sc (.int .u32 (0))), (.sc (.int .u32 (0))), (.sc (.int .u32 (0))), (.sc (.int .u32 (0))), (.sc (.int .u32 (0))), (.sc (.int .u32 (0)))] []⟩,
      ⟨(some 4), none, [], [], .alc [(.sc (.int .u32 (0))), (.sc (.int .u32 (0))), (.sc (.int .u32 (0))), (.sc (.int .u32 (0))), (.sc (.int .u32 (0))), (.sc (.int .u32 (0))), (.sc (.int .u32 (0))), (.sc (.int .u32 (0)))]⟩,
      ⟨(some 3), none, [], [], .mv (.t 20)⟩,
      ⟨none, none, [], [], .sto 8 (.t 4) (.t 21)⟩] (some [0, 2, 3, 4]))
    (.seq
     (.reg [⟨(some 5), none, [], [], .alc (List.replicate 64 (.sc (.int .u32 (0))))⟩] none)
     (.seq
      (.seq
       (.reg [⟨(some 6), none, [], [], .mv (.k (.sc (.int .i64 (0))))⟩] none)
       (.block 0
        (.loop
         (.seq
          (.seq
           (.reg [⟨(some 22), none, [], [], .mv (.t 6)⟩,
             ⟨(some 23), none, [], [], .bin .lss false (.t 22) (.k (.sc (.int .i64 (64))))⟩] (some [0, 2, 3, 4, 5, 6, 23]))
           (.cond (.t 23)
            (.keep [0, 2, 3, 4, 5, 6]
             .skip)
            (.exit 0)))
          (.seq
           (.block 1
            (.reg [⟨(some 26), none, [], [], .mv (.t 6)⟩,
              ⟨(some 27), none, [], [], .mv (.t 3)⟩,
              ⟨(some 28), none, [], [], .mv (.t 6)⟩,
              ⟨(some 29), none, [], [], .ixaS 1 (.t 27) (.t 28)⟩,
              ⟨(some 30), none, [], [], .ld false 1 (.t 29)⟩,
              ⟨(some 31), none, [], [], .cal (.k (.fn 41 [])) [(.t 30), (.k (.sc (.bool true)))]⟩,
              ⟨(some 32), none, [], [], .ixaA 64 1 (.t 5) (.t 26)⟩,
              ⟨none, none, [], [], .sto 1 (.t 32) (.t 31)⟩] (some [0, 2, 3, 4, 5, 6])))
           (.reg [⟨(some 24), none, [], [], .mv (.t 6)⟩,
             ⟨(some 25), none, [], [], .bin .add false (.t 24) (.k (.sc (.int .i64 (1))))⟩,
             ⟨(some 6), none, [], [], .mv (.t 25)⟩] (some [0, 2, 3, 4, 5, 6])))))))
      (.seq
       (.seq
        (.reg [⟨(some 7), none, [], [], .mv (.k (.sc (.int .i64 (0))))⟩] (some [0, 2, 3, 4, 5, 7]))
        (.block 2
         (.loop
          (.seq
           (.seq
            (.reg [⟨(some 33), none, [], [], .mv (.t 7)⟩,
              ⟨(some 34), none, [], [], .bin .lss false (.t 33) (.k (.sc (.int .i64 (8))))⟩] (some [0, 2, 3, 4, 5, 7, 34]))
            (.cond (.t 34)
             (.keep [0, 2, 3, 4, 5, 7]
              .skip)
             (.exit 2)))
           (.seq
            (.block 3
             (.reg [⟨(some 37), none, [], [], .mv (.t 7)⟩,
               ⟨(some 38), none, [], [], .mv (.t 3)⟩,
               ⟨(some 39), none, [], [], .mv (.t 7)⟩,
               ⟨(some 40), none, [], [], .ixaS 1 (.t 38) (.t 39)⟩,
               ⟨(some 41), none, [], [], .ld false 1 (.t 40)⟩,
               ⟨(some 42), none, [], [], .cal (.k (.fn 41 [])) [(.t 41), (.k (.sc (.bool false)))]⟩,
               ⟨(some 43), none, [], [], .ixaA 8 1 (.t 4) (.t 37)⟩,
               ⟨none, none, [], [], .sto 1 (.t 43) (.t 42)⟩] (some [0, 2, 3, 4, 5, 7])))
            (.reg [⟨(some 35), none, [], [], .mv (.t 7)⟩,
              ⟨(some 36), none, [], [], .bin .add false (.t 35) (.k (.sc (.int .i64 (1))))⟩,
              ⟨(some 7), none, [], [], .mv (.t 36)⟩] (some [0, 2, 3, 4, 5, 7])))))))
       (.seq
        (.reg [⟨(some 44), none, [], [], .mv (.t 0)⟩,
          ⟨(some 45), none, [], [], .cal (.k (.fn 42 [])) [(.t 44)]⟩,
          ⟨(some 8), none, [], [], .mv (.t 45)⟩] (some [2, 4, 5, 8]))
        (.seq
         (.seq
          (.reg [⟨(some 9), none, [], [], .mv (.k (.sc (.int .i64 (0))))⟩] none)
          (.block 4
           (.loop
            (.seq
             (.seq
              (.reg [⟨(some 46), none, [], [], .mv (.t 9)⟩,
                ⟨(some 47), none, [], [], .mv (.t 8)⟩,
                ⟨(some 48), none, [], [], .lenL (.t 47)⟩,
                ⟨(some 49), none, [], [], .bin .lss false (.t 46) (.t 48)⟩] (some [2, 4, 5, 8, 9, 49]))
              (.cond (.t 49)
               (.keep [2, 4, 5, 8, 9]
                .skip)
               (.exit 4)))
             (.seq
              (.block 5
               (.seq
                (.reg [⟨(some 52), none, [], [], .mv (.t 8)⟩,
                  ⟨(some 53), none, [], [], .mv (.t 9)⟩,
                  ⟨(some 54), none, [], [], .mv (.t 9)⟩,
                  ⟨(some 55), none, [], [], .bin .add false (.t 54) (.k (.sc (.int .i64 (64))))⟩,
                  ⟨(some 56), none, [], [], .slL 1 (some (.t 53)) (some (.t 55)) none (.t 52)⟩,
                  ⟨(some 57), none, [], [], .cal (.k (.fn 43 [])) [(.t 56)]⟩,
                  ⟨(some 10), none, [], [], .alc (List.replicate 64 (.sc (.int .u32 (0))))⟩,
                  ⟨none, none, [], [], .sto 64 (.t 10) (.t 57)⟩] (some [2, 4, 5, 8, 9, 10]))
                (.seq
                 (.reg [⟨(some 58), none, [], [], .ld true 8 (.t 4)⟩,
                   ⟨(some 11), none, [], [], .alc [(.sc (.int .u32 (0))), (.sc (.int .u32 (0))), (.sc (.int .u32 (0))), (.sc (.int .u32 (0))), (.sc (.int .u32 (0))), (.sc (.int .u32 (0))), (.sc (.int .u32 (0))), (.sc (.int .u32 (0)))]⟩,
                   ⟨none, none, [], [], .sto 8 (.t 11) (.t 58)⟩] (some [2, 4, 5, 8, 9, 10, 11]))
                 (.seq
                  (.seq
                   (.reg [⟨(some 12), none, [], [], .mv (.k (.sc (.int .i64 (0))))⟩] none)
                   (.block 6
                    (.loop
                     (.seq
                      (.seq
                       (.reg [⟨(some 59), none, [], [], .mv (.t 12)⟩,
                         ⟨(some 60), none, [], [], .bin .lss false (.t 59) (.k (.sc (.int .i64 (64))))⟩] (some [2, 4, 5, 8, 9, 10, 11, 12, 60]))
                       (.cond (.t 60)
                        (.keep [2, 4, 5, 8, 9, 10, 11, 12]
                         .skip)
                        (.exit 6)))
                      (.seq
                       (.block 7
                        (.seq
                         (.regD [⟨(some 63), none, [(.t 11), (.k (.sc (.int .i64 (4))))], [], .ixaA 8 1 (.t 11) (.k (.sc (.int .i64 (4))))⟩,
                           ⟨(some 64), none, [(.t 63)], [], .ld false 1 (.t 63)⟩,
                           ⟨(some 65), none, [(.t 11), (.k (.sc (.int .i64 (0))))], [0, 1], .ixaA 8 1 (.t 11) (.k (.sc (.int .i64 (0))))⟩,
                           ⟨(some 66), none, [(.t 65)], [0, 1], .ld false 1 (.t 65)⟩,
                           ⟨(some 13), none, [(.t 64)], [2, 3], .mv (.t 64)⟩,
                           ⟨(some 14), none, [(.t 66)], [], .mv (.t 66)⟩] (some [2, 4, 5, 8, 9, 10, 11, 12, 13, 14]))
                         (.seq
                          (.regD (⟨(some 67), none, [(.t 11), (.k (.sc (.int .i64 (7))))], [], .ixaA 8 1 (.t 11) (.k (.sc (.int .i64 (7))))⟩ ::
                            ⟨(some 68), none, [(.t 67)], [], .ld false 1 (.t 67)⟩ ::
                            ⟨(some 69), none, [(.t 13)], [0, 1], .mv (.t 13)⟩ ::
                            ⟨(some 70), none, [(.k (.fn 44 [])), (.t 69), (.k (.sc (.int .i64 (6))))], [0, 1], .cal (.k (.fn 44 [])) [(.t 69), (.k (.sc (.int .i64 (6))))]⟩ ::
                            ⟨(some 71), none, [(.t 13)], [0, 1, 2, 3], .mv (.t 13)⟩ ::
                            ⟨(some 72), none, [(.k (.fn 44 [])), (.t 71), (.k (.sc (.int .i64 (11))))], [0, 1], .cal (.k (.fn 44 [])) [(.t 71), (.k (.sc (.int .i64 (11))))]⟩ ::
                            ⟨(some 73), none, [(.t 70), (.t 72)], [0, 1], .bin .xor false (.t 70) (.t 72)⟩ ::
                            ⟨(some 74), none, [(.t 13)], [0, 1, 2, 3, 4, 5, 6], .mv (.t 13)⟩ ::
                            ⟨(some 75), none, [(.k (.fn 44 [])), (.t 74), (.k (.sc (.int .i64 (25))))], [0, 1, 6], .cal (.k (.fn 44 [])) [(.t 74), (.k (.sc (.int .i64 (25))))]⟩ ::
                            ⟨(some 76), none, [(.t 73), (.t 75)], [0, 1], .bin .xor false (.t 73) (.t 75)⟩ ::
                            ⟨(some 77), none, [(.t 68), (.t 76)], [], .bin .add false (.t 68) (.t 76)⟩ ::
                            ⟨(some 78), none, [(.t 13)], [0, 1, 2, 3, 4, 5, 6, 7, 8, 9, 10], .mv (.t 13)⟩ ::
                            ⟨(some 79), none, [(.t 11), (.k (.sc (.int .i64 (5))))], [0, 1, 2, 3, 4, 5, 6, 7, 8, 9, 10, 11], .ixaA 8 1 (.t 11) (.k (.sc (.int .i64 (5))))⟩ ::
                            ⟨(some 80), none, [(.t 79)], [0, 1, 2, 3, 4, 5, 6, 7, 8, 9, 10, 11], .ld false 1 (.t 79)⟩ ::
                            ⟨(some 81), none, [(.t 78), (.t 80)], [0, 1, 2, 3, 4, 5, 6, 7, 8, 9, 10], .bin .and false (.t 78) (.t 80)⟩ ::
                            ⟨(some 82), none, [(.t 13)], [0, 1, 2, 3, 4, 5, 6, 7, 8, 9, 10, 11, 12, 13, 14], .mv (.t 13)⟩ ::
                            ⟨(some 83), none, [(.t 82)], [0, 1, 2, 3, 4, 5, 6, 7, 8, 9, 10, 11, 12, 13, 14], .un .xor (.t 82)⟩ ::
                            ⟨(some 84), none, [(.t 11), (.k (.sc (.int .i64 (6))))], [0, 1, 2, 3, 4, 5, 6, 7, 8, 9, 10, 11, 12, 13, 14, 15, 16], .ixaA 8 1 (.t 11) (.k (.sc (.int .i64 (6))))⟩ ::
                            ⟨(some 85), none, [(.t 84)], [0, 1, 2, 3, 4, 5, 6, 7, 8, 9, 10, 11, 12, 13, 14, 15, 16], .ld false 1 (.t 84)⟩ ::
                            ⟨(some 86), none, [(.t 83), (.t 85)], [0, 1, 2, 3, 4, 5, 6, 7, 8, 9, 10, 11, 12, 13, 14], .bin .and false (.t 83) (.t 85)⟩ ::
                            ⟨(some 87), none, [(.t 81), (.t 86)], [0, 1, 2, 3, 4, 5, 6, 7, 8, 9, 10], .bin .xor false (.t 81) (.t 86)⟩ ::
                            ⟨(some 88), none, [(.t 77), (.t 87)], [], .bin .add false (.t 77) (.t 87)⟩ ::
                            ⟨(some 89), none, [(.t 12)], [0, 1, 2, 3, 4, 5, 6, 7, 8, 9, 10, 11, 12, 13, 14, 15, 16, 17, 18, 19, 20, 21], .mv (.t 12)⟩ ::
                            ⟨(some 90), none, [(.t 5), (.t 89)], [0, 1, 2, 3, 4, 5, 6, 7, 8, 9, 10, 11, 12, 13, 14, 15, 16, 17, 18, 19, 20, 21], .ixaA 64 1 (.t 5) (.t 89)⟩ ::
                            ⟨(some 91), none, [(.t 90)], [0, 1, 2, 3, 4, 5, 6, 7, 8, 9, 10, 11, 12, 13, 14, 15, 16, 17, 18, 19, 20, 21], .ld false 1 (.t 90)⟩ ::
                            ⟨(some 92), none, [(.t 88), (.t 91)], [], .bin .add false (.t 88) (.t 91)⟩ ::
                            ⟨(some 93), none, [(.t 12)], (0 :: 1 :: 2 :: 3 :: 4 :: 5 :: 6 :: 7 :: 8 :: 9 :: 10 :: 11 :: 12 :: 13 :: 14 :: 15 :: 16 :: 17 :: 18 :: 19 :: 20 :: 21 :: 22 :: 23 :: 24 :: 25 :: []), .mv (.t 12)⟩ ::
                            ⟨(some 94), none, [(.t 10), (.t 93)], (0 :: 1 :: 2 :: 3 :: 4 :: 5 :: 6 :: 7 :: 8 :: 9 :: 10 :: 11 :: 12 :: 13 :: 14 :: 15 :: 16 :: 17 :: 18 :: 19 :: 20 :: 21 :: 22 :: 23 :: 24 :: 25 :: []), .ixaA 64 1 (.t 10) (.t 93)⟩ ::
                            ⟨(some 95), none, [(.t 94)], (0 :: 1 :: 2 :: 3 :: 4 :: 5 :: 6 :: 7 :: 8 :: 9 :: 10 :: 11 :: 12 :: 13 :: 14 :: 15 :: 16 :: 17 :: 18 :: 19 :: 20 :: 21 :: 22 :: 23 :: 24 :: 25 :: []), .ld false 1 (.t 94)⟩ ::
                            ⟨(some 96), none, [(.t 92), (.t 95)], [], .bin .add false (.t 92) (.t 95)⟩ ::
                            ⟨(some 15), none, [(.t 96)], [], .mv (.t 96)⟩ :: []) (some [2, 4, 5, 8, 9, 10, 11, 12, 14, 15]))
                          (.seq
                           (.regD (⟨(some 97), none, [(.t 14)], [], .mv (.t 14)⟩ ::
                             ⟨(some 98), none, [(.k (.fn 44 [])), (.t 97), (.k (.sc (.int .i64 (2))))], [], .cal (.k (.fn 44 [])) [(.t 97), (.k (.sc (.int .i64 (2))))]⟩ ::
                             ⟨(some 99), none, [(.t 14)], [0, 1], .mv (.t 14)⟩ ::
                             ⟨(some 100), none, [(.k (.fn 44 [])), (.t 99), (.k (.sc (.int .i64 (13))))], [], .cal (.k (.fn 44 [])) [(.t 99), (.k (.sc (.int .i64 (13))))]⟩ ::
                             ⟨(some 101), none, [(.t 98), (.t 100)], [], .bin .xor false (.t 98) (.t 100)⟩ ::
                             ⟨(some 102), none, [(.t 14)], [0, 1, 2, 3, 4], .mv (.t 14)⟩ ::
                             ⟨(some 103), none, [(.k (.fn 44 [])), (.t 102), (.k (.sc (.int .i64 (22))))], [4], .cal (.k (.fn 44 [])) [(.t 102), (.k (.sc (.int .i64 (22))))]⟩ ::
                             ⟨(some 104), none, [(.t 101), (.t 103)], [], .bin .xor false (.t 101) (.t 103)⟩ ::
                             ⟨(some 105), none, [(.t 14)], [0, 1, 2, 3, 4, 5, 6, 7], .mv (.t 14)⟩ ::
                             ⟨(some 106), none, [(.t 11), (.k (.sc (.int .i64 (1))))], [0, 1, 2, 3, 4, 5, 6, 7, 8], .ixaA 8 1 (.t 11) (.k (.sc (.int .i64 (1))))⟩ ::
                             ⟨(some 107), none, [(.t 106)], [0, 1, 2, 3, 4, 5, 6, 7, 8], .ld false 1 (.t 106)⟩ ::
                             ⟨(some 108), none, [(.t 105), (.t 107)], [0, 1, 2, 3, 4, 5, 6, 7], .bin .and false (.t 105) (.t 107)⟩ ::
                             ⟨(some 109), none, [(.t 14)], [0, 1, 2, 3, 4, 5, 6, 7, 8, 9, 10, 11], .mv (.t 14)⟩ ::
                             ⟨(some 110), none, [(.t 11), (.k (.sc (.int .i64 (2))))], [0, 1, 2, 3, 4, 5, 6, 7, 8, 9, 10, 11, 12], .ixaA 8 1 (.t 11) (.k (.sc (.int .i64 (2))))⟩ ::
                             ⟨(some 111), none, [(.t 110)], [0, 1, 2, 3, 4, 5, 6, 7, 8, 9, 10, 11, 12], .ld false 1 (.t 110)⟩ ::
                             ⟨(some 112), none, [(.t 109), (.t 111)], [0, 1, 2, 3, 4, 5, 6, 7, 8, 9, 10, 11], .bin .and false (.t 109) (.t 111)⟩ ::
                             ⟨(some 113), none, [(.t 108), (.t 112)], [0, 1, 2, 3, 4, 5, 6, 7], .bin .xor false (.t 108) (.t 112)⟩ ::
                             ⟨(some 114), none, [(.t 11), (.k (.sc (.int .i64 (1))))], [0, 1, 2, 3, 4, 5, 6, 7, 8, 9, 10, 11, 12, 13, 14, 15, 16], .ixaA 8 1 (.t 11) (.k (.sc (.int .i64 (1))))⟩ ::
                             ⟨(some 115), none, [(.t 114)], [0, 1, 2, 3, 4, 5, 6, 7, 8, 9, 10, 11, 12, 13, 14, 15, 16], .ld false 1 (.t 114)⟩ ::
                             ⟨(some 116), none, [(.t 11), (.k (.sc (.int .i64 (2))))], [0, 1, 2, 3, 4, 5, 6, 7, 8, 9, 10, 11, 12, 13, 14, 15, 16, 17, 18], .ixaA 8 1 (.t 11) (.k (.sc (.int .i64 (2))))⟩ ::
                             ⟨(some 117), none, [(.t 116)], [0, 1, 2, 3, 4, 5, 6, 7, 8, 9, 10, 11, 12, 13, 14, 15, 16, 17, 18], .ld false 1 (.t 116)⟩ ::
                             ⟨(some 118), none, [(.t 115), (.t 117)], [0, 1, 2, 3, 4, 5, 6, 7, 8, 9, 10, 11, 12, 13, 14, 15, 16], .bin .and false (.t 115) (.t 117)⟩ ::
                             ⟨(some 119), none, [(.t 113), (.t 118)], [0, 1, 2, 3, 4, 5, 6, 7], .bin .xor false (.t 113) (.t 118)⟩ ::
                             ⟨(some 120), none, [(.t 104), (.t 119)], [], .bin .add false (.t 104) (.t 119)⟩ ::
                             ⟨(some 16), none, [(.t 120)], [], .mv (.t 120)⟩ :: []) (some [2, 4, 5, 8, 9, 10, 11, 12, 15, 16]))
                           (.reg [⟨(some 121), none, [], [], .mv (.t 15)⟩,
                             ⟨(some 122), none, [], [], .mv (.t 16)⟩,
                             ⟨(some 123), none, [], [], .bin .add false (.t 121) (.t 122)⟩,
                             ⟨(some 124), none, [], [], .ixaA 8 1 (.t 11) (.k (.sc (.int .i64 (0))))⟩,
                             ⟨(some 125), none, [], [], .ld false 1 (.t 124)⟩,
                             ⟨(some 126), none, [], [], .ixaA 8 1 (.t 11) (.k (.sc (.int .i64 (1))))⟩,
                             ⟨(some 127), none, [], [], .ld false 1 (.t 126)⟩,
                             ⟨(some 128), none, [], [], .ixaA 8 1 (.t 11) (.k (.sc (.int .i64 (2))))⟩,
                             ⟨(some 129), none, [], [], .ld false 1 (.t 128)⟩,
                             ⟨(some 130), none, [], [], .ixaA 8 1 (.t 11) (.k (.sc (.int .i64 (3))))⟩,
                             ⟨(some 131), none, [], [], .ld false 1 (.t 130)⟩,
                             ⟨(some 132), none, [], [], .mv (.t 15)⟩,
                             ⟨(some 133), none, [], [], .bin .add false (.t 131) (.t 132)⟩,
                             ⟨(some 134), none, [], [], .ixaA 8 1 (.t 11) (.k (.sc (.int .i64 (4))))⟩,
                             ⟨(some 135), none, [], [], .ld false 1 (.t 134)⟩,
                             ⟨(some 136), none, [], [], .ixaA 8 1 (.t 11) (.k (.sc (.int .i64 (5))))⟩,
                             ⟨(some 137), none, [], [], .ld false 1 (.t 136)⟩,
                             ⟨(some 138), none, [], [], .ixaA 8 1 (.t 11) (.k (.sc (.int .i64 (6))))⟩,
                             ⟨(some 139), none, [], [], .ld false 1 (.t 138)⟩,
                             ⟨(some 140), none, [], [], .bld [(.sc (.int .u32 (0))), (.sc (.int .u32 (0))), (.sc (.int .u32 (0))), (.sc (.int .u32 (0))), (.sc (.int .u32 (0))), (.sc (.int .u32 (0))), (.sc (.int .u32 (0))), (.sc (.int .u32 (0)))] [(0, 1, (.t 123)), (1, 1, (.t 125)), (2, 1, (.t 127)), (3, 1, (.t 129)), (4, 1, (.t 133)), (5, 1, (.t 135)), (6, 1, (.t 137)), (7, 1, (.t 139))]⟩,
                             ⟨none, none, [], [], .sto 8 (.t 11) (.t 140)⟩] (some [2, 4, 5, 8, 9, 10, 11, 12]))))))
                       (.reg [⟨(some 61), none, [], [], .mv (.t 12)⟩,
                         ⟨(some 62), none, [], [], .bin .add false (.t 61) (.k (.sc (.int .i64 (1))))⟩,
                         ⟨(some 12), none, [], [], .mv (.t 62)⟩] (some [2, 4, 5, 8, 9, 10, 11, 12])))))))
                  (.seq
                   (.reg [⟨(some 17), none, [], [], .mv (.k (.sc (.int .i64 (0))))⟩] (some [2, 4, 5, 8, 9, 11, 17]))
                   (.block 8
                    (.loop
                     (.seq
                      (.seq
                       (.reg [⟨(some 141), none, [], [], .mv (.t 17)⟩,
                         ⟨(some 142), none, [], [], .bin .lss false (.t 141) (.k (.sc (.int .i64 (8))))⟩] (some [2, 4, 5, 8, 9, 11, 17, 142]))
                       (.cond (.t 142)
                        (.keep [2, 4, 5, 8, 9, 11, 17]
                         .skip)
                        (.exit 8)))
                      (.seq
                       (.block 9
                        (.regD [⟨(some 145), none, [(.t 17)], [], .mv (.t 17)⟩,
                          ⟨(some 146), none, [(.t 4), (.t 145)], [], .ixaA 8 1 (.t 4) (.t 145)⟩,
                          ⟨(some 147), none, [(.t 146)], [], .ld false 1 (.t 146)⟩,
                          ⟨(some 148), none, [(.t 17)], [0, 1, 2], .mv (.t 17)⟩,
                          ⟨(some 149), none, [(.t 11), (.t 148)], [0, 1, 2], .ixaA 8 1 (.t 11) (.t 148)⟩,
                          ⟨(some 150), none, [(.t 149)], [0, 1, 2], .ld false 1 (.t 149)⟩,
                          ⟨(some 151), none, [(.t 147), (.t 150)], [], .bin .add false (.t 147) (.t 150)⟩,
                          ⟨(some 152), none, [(.t 4), (.t 145)], [], .ixaA 8 1 (.t 4) (.t 145)⟩,
                          ⟨none, none, [(.t 152), (.t 151)], [], .sto 1 (.t 152) (.t 151)⟩] (some [2, 4, 5, 8, 9, 11, 17])))
                       (.reg [⟨(some 143), none, [], [], .mv (.t 17)⟩,
                         ⟨(some 144), none, [], [], .bin .add false (.t 143) (.k (.sc (.int .i64 (1))))⟩,
                         ⟨(some 17), none, [], [], .mv (.t 144)⟩] (some [2, 4, 5, 8, 9, 11, 17])))))))))))
              (.reg [⟨(some 50), none, [], [], .mv (.t 9)⟩,
                ⟨(some 51), none, [], [], .bin .add false (.t 50) (.k (.sc (.int .i64 (64))))⟩,
                ⟨(some 9), none, [], [], .mv (.t 51)⟩] (some [2, 4, 5, 8, 9])))))))
         (.seq
          (.reg [⟨(some 18), none, [], [], .alc (List.replicate 32 (.sc (.int .u8 (0))))⟩] (some [2, 4, 18]))
          (.seq
           (.seq
            (.reg [⟨(some 19), none, [], [], .mv (.k (.sc (.int .i64 (0))))⟩] none)
            (.block 10
             (.loop
              (.seq
               (.seq
                (.reg [⟨(some 153), none, [], [], .mv (.t 19)⟩,
                  ⟨(some 154), none, [], [], .bin .lss false (.t 153) (.k (.sc (.int .i64 (32))))⟩] (some [2, 4, 18, 19, 154]))
                (.cond (.t 154)
                 (.keep [2, 4, 18, 19]
                  .skip)
                 (.exit 10)))
               (.seq
                (.block 11
                 (.reg [⟨(some 157), none, [], [], .mv (.t 19)⟩,
                   ⟨(some 158), none, [], [], .mv (.t 19)⟩,
                   ⟨(some 159), none, [], [], .bin .quo false (.t 158) (.k (.sc (.int .i64 (4))))⟩,
                   ⟨(some 160), none, [], [], .ixaA 8 1 (.t 4) (.t 159)⟩,
                   ⟨(some 161), none, [], [], .ld false 1 (.t 160)⟩,
                   ⟨(some 162), none, [], [], .mv (.t 19)⟩,
                   ⟨(some 163), none, [], [], .bin .rem false (.t 162) (.k (.sc (.int .i64 (4))))⟩,
                   ⟨(some 164), none, [], [], .bin .mul false (.k (.sc (.int .i64 (8)))) (.t 163)⟩,
                   ⟨(some 165), none, [], [], .bin .sub false (.k (.sc (.int .i64 (24)))) (.t 164)⟩,
                   ⟨(some 166), none, [], [], .bin .shr false (.t 161) (.t 165)⟩,
                   ⟨(some 167), none, [], [], .cvi .u8 (.t 166)⟩,
                   ⟨(some 168), none, [], [], .ixaA 32 1 (.t 18) (.t 157)⟩,
                   ⟨none, none, [], [], .sto 1 (.t 168) (.t 167)⟩] (some [2, 4, 18, 19])))
                (.reg [⟨(some 155), none, [], [], .mv (.t 19)⟩,
                  ⟨(some 156), none, [], [], .bin .add false (.t 155) (.k (.sc (.int .i64 (1))))⟩,
                  ⟨(some 19), none, [], [], .mv (.t 156)⟩] (some [2, 4, 18, 19])))))))
           (.seq
            (.reg [⟨(some 169), none, [], [], .ld true 32 (.t 18)⟩,
              ⟨none, none, [], [], .sto 32 (.t 2) (.t 169)⟩] (some [2]))
            .ret))))))))))
theorem b13 : cmpG Try.prog 13 = some (strip a13, r13, 170) := by kernel_rfl

abbrev r40 : List AR := [.t 2]
abbrev a40 : ACode :=
  (.seq
   (.reg [⟨(some 2), none, [], [], .mv (.k .nl)⟩] (some [0]))
   (.seq
    (.reg [⟨(some 3), none, [], [], .mv (.k .nl)⟩] none)
    (.seq
     (.seq
      (.reg [⟨(some 4), none, [], [], .mv (.k (.sc (.int .i64 (2))))⟩] none)
      (.block 0
       (.loop
        (.seq
         (.seq
          (.reg [⟨(some 7), none, [], [], .mv (.t 4)⟩,
            ⟨(some 8), none, [], [], .bin .lss false (.t 7) (.k (.sc (.int .i64 (400))))⟩,
            ⟨(some 9), none, [], [], .mv (.t 8)⟩,
            ⟨(some 10), (some (9, true)), [], [], .mv (.t 3)⟩,
            ⟨(some 11), (some (9, true)), [], [], .lenL (.t 10)⟩,
            ⟨(some 12), (some (9, true)), [], [], .mv (.t 0)⟩,
            ⟨(some 13), (some (9, true)), [], [], .bin .lss false (.t 11) (.t 12)⟩,
            ⟨(some 14), none, [], [], .pick (.t 9) (.t 13) (.k (.sc (.bool false)))⟩] (some [0, 3, 4, 14]))
          (.cond (.t 14)
           (.keep [0, 3, 4]
            .skip)
           (.exit 0)))
         (.seq
          (.block 1
           (.seq
            (.reg [⟨(some 5), none, [], [], .mv (.k (.sc (.bool true)))⟩] none)
            (.seq
             (.seq
              (.reg [⟨(some 6), none, [], [], .mv (.k (.sc (.int .i64 (0))))⟩] none)
              (.block 2
               (.loop
                (.seq
                 (.seq
                  (.reg [⟨(some 17), none, [], [], .mv (.t 6)⟩,
                    ⟨(some 18), none, [], [], .mv (.t 3)⟩,
                    ⟨(some 19), none, [], [], .lenL (.t 18)⟩,
                    ⟨(some 20), none, [], [], .bin .lss false (.t 17) (.t 19)⟩] (some [0, 3, 4, 5, 6, 20]))
                  (.cond (.t 20)
                   (.keep [0, 3, 4, 5, 6]
                    .skip)
                   (.exit 2)))
                 (.seq
                  (.block 3
                   (.reg [⟨(some 23), none, [], [], .mv (.t 5)⟩,
                     ⟨(some 24), none, [], [], .mv (.t 23)⟩,
                     ⟨(some 25), (some (24, true)), [], [], .mv (.t 4)⟩,
                     ⟨(some 26), (some (24, true)), [], [], .mv (.t 3)⟩,
                     ⟨(some 27), (some (24, true)), [], [], .mv (.t 6)⟩,
                     ⟨(some 28), (some (24, true)), [], [], .ixaS 1 (.t 26) (.t 27)⟩,
                     ⟨(some 29), (some (24, true)), [], [], .ld false 1 (.t 28)⟩,
                     ⟨(some 30), (some (24, true)), [], [], .bin .rem false (.t 25) (.t 29)⟩,
                     ⟨(some 31), (some (24, true)), [], [], .bin .neq false (.t 30) (.k (.sc (.int .i64 (0))))⟩,
                     ⟨(some 32), none, [], [], .pick (.t 24) (.t 31) (.k (.sc (.bool false)))⟩,
                     ⟨(some 5), none, [], [], .mv (.t 32)⟩] (some [0, 3, 4, 5, 6])))
                  (.reg [⟨(some 21), none, [], [], .mv (.t 6)⟩,
                    ⟨(some 22), none, [], [], .bin .add false (.t 21) (.k (.sc (.int .i64 (1))))⟩,
                    ⟨(some 6), none, [], [], .mv (.t 22)⟩] (some [0, 3, 4, 5, 6])))))))
             (.seq
              (.reg [⟨(some 33), none, [], [], .mv (.t 5)⟩] (some [0, 3, 4, 33]))
              (.cond (.t 33)
               (.keep [0, 3, 4]
                (.reg [⟨(some 34), none, [], [], .mv (.t 3)⟩,
                  ⟨(some 35), none, [], [], .mv (.t 4)⟩,
                  ⟨(some 36), none, [], [], .bsl 1 1 [(.sc (.int .i64 (0)))] [(0, 1, (.t 35))]⟩,
                  ⟨(some 37), none, [], [], .app 1 8 (.t 34) (.t 36)⟩,
                  ⟨(some 3), none, [], [], .mv (.t 37)⟩] (some [0, 3, 4])))
               (.keep [0, 3, 4]
                .skip))))))
          (.reg [⟨(some 15), none, [], [], .mv (.t 4)⟩,
            ⟨(some 16), none, [], [], .bin .add false (.t 15) (.k (.sc (.int .i64 (1))))⟩,
            ⟨(some 4), none, [], [], .mv (.t 16)⟩] (some [0, 3, 4])))))))
     (.seq
      (.reg [⟨(some 38), none, [], [], .mv (.t 3)⟩,
        ⟨(some 2), none, [], [], .mv (.t 38)⟩] (some [2]))
      .ret))))
theorem b40 : cmpG Try.prog 40 = some (strip a40, r40, 39) := by kernel_rfl

abbrev r41 : List AR := [.t 4]
abbrev a41 : ACode :=
  (.seq
   (.reg [⟨(some 4), none, [], [], .mv (.k (.sc (.int .u32 (0))))⟩] (some [0, 1]))
   (.seq
    (.reg [⟨(some 5), none, [], [], .mv (.k (.sc (.int .u64 (0))))⟩] none)
    (.seq
     (.seq
      (.reg [⟨(some 6), none, [], [], .mv (.k (.sc (.int .i64 (35))))⟩] none)
      (.block 0
       (.loop
        (.seq
         (.seq
          (.reg [⟨(some 8), none, [], [], .mv (.t 6)⟩,
            ⟨(some 9), none, [], [], .bin .geq false (.t 8) (.k (.sc (.int .i64 (0))))⟩] (some [0, 1, 5, 6, 9]))
          (.cond (.t 9)
           (.keep [0, 1, 5, 6]
            .skip)
           (.exit 0)))
         (.seq
          (.block 1
           (.seq
            (.reg [⟨(some 12), none, [], [], .mv (.t 5)⟩,
              ⟨(some 13), none, [], [], .mv (.t 6)⟩,
              ⟨(some 14), none, [], [], .bin .shl false (.k (.sc (.int .u64 (1)))) (.t 13)⟩,
              ⟨(some 15), none, [], [], .bin .add false (.t 12) (.t 14)⟩,
              ⟨(some 7), none, [], [], .mv (.t 15)⟩] (some [0, 1, 5, 6, 7]))
            (.seq
             (.reg [⟨(some 16), none, [], [], .mv (.t 1)⟩,
               ⟨(some 17), none, [], [], .mv (.t 16)⟩,
               ⟨(some 18), (some (17, true)), [], [], .mv (.t 7)⟩,
               ⟨(some 19), (some (17, true)), [], [], .mv (.t 0)⟩,
               ⟨(some 20), (some (17, true)), [], [], .cal (.k (.fn 65 [])) [(.t 18), (.t 19)]⟩,
               ⟨(some 21), none, [], [], .pick (.t 17) (.t 20) (.k (.sc (.bool false)))⟩,
               ⟨(some 22), none, [], [], .mv (.t 21)⟩,
               ⟨(some 23), (some (22, false)), [], [], .mv (.t 1)⟩,
               ⟨(some 24), (some (22, false)), [], [], .un .not (.t 23)⟩,
               ⟨(some 25), (some (22, false)), [], [], .mv (.t 24)⟩,
               ⟨(some 26), (some (25, true)), [], [], .mv (.t 7)⟩,
               ⟨(some 27), (some (25, true)), [], [], .mv (.t 0)⟩,
               ⟨(some 28), (some (25, true)), [], [], .cal (.k (.fn 66 [])) [(.t 26), (.t 27)]⟩,
               ⟨(some 29), (some (22, false)), [], [], .pick (.t 25) (.t 28) (.k (.sc (.bool false)))⟩,
               ⟨(some 30), none, [], [], .pick (.t 22) (.k (.sc (.bool true))) (.t 29)⟩] (some [0, 1, 5, 6, 7, 30]))
             (.cond (.t 30)
              (.keep [0, 1, 6, 7]
               (.reg [⟨(some 31), none, [], [], .mv (.t 7)⟩,
                 ⟨(some 5), none, [], [], .mv (.t 31)⟩] (some [0, 1, 5, 6])))
              (.keep [0, 1, 5, 6]
               .skip)))))
          (.reg [⟨(some 10), none, [], [], .mv (.t 6)⟩,
            ⟨(some 11), none, [], [], .bin .sub false (.t 10) (.k (.sc (.int .i64 (1))))⟩,
            ⟨(some 6), none, [], [], .mv (.t 11)⟩] (some [0, 1, 5, 6])))))))
     (.seq
      (.reg [⟨(some 32), none, [], [], .mv (.t 5)⟩,
        ⟨(some 33), none, [], [], .bin .rem false (.t 32) (.k (.sc (.int .u64 (4294967296))))⟩,
        ⟨(some 34), none, [], [], .cvi .u32 (.t 33)⟩,
        ⟨(some 4), none, [], [], .mv (.t 34)⟩] (some [4]))
      .ret))))
theorem b41 : cmpG Try.prog 41 = some (strip a41, r41, 35) := by kernel_rfl

abbrev r42 : List AR := [.t 2]
abbrev a42 : ACode :=
  (.seq
   (.reg [⟨(some 2), none, [], [], .mv (.k .nl)⟩] (some [0]))
   (.seq
    (.reg [⟨(some 6), none, [], [], .mv (.t 0)⟩,
      ⟨(some 7), none, [], [], .app 1 1 (.k .nl) (.t 6)⟩,
      ⟨(some 8), none, [], [], .bsl 1 1 [(.sc (.int .u8 (0)))] [(0, 1, (.k (.sc (.int .u8 (128)))))]⟩,
      ⟨(some 9), none, [], [], .app 1 1 (.t 7) (.t 8)⟩,
      ⟨(some 3), none, [], [], .mv (.t 9)⟩] (some [0, 3]))
    (.seq
     (.block 0
      (.loop
       (.seq
        (.seq
         (.reg [⟨(some 10), none, [], [], .mv (.t 3)⟩,
           ⟨(some 11), none, [], [], .lenL (.t 10)⟩,
           ⟨(some 12), none, [], [], .bin .rem false (.t 11) (.k (.sc (.int .i64 (64))))⟩,
           ⟨(some 13), none, [], [], .bin .neq false (.t 12) (.k (.sc (.int .i64 (56))))⟩] (some [0, 3, 13]))
         (.cond (.t 13)
          (.keep [0, 3]
           .skip)
          (.exit 0)))
        (.block 1
         (.reg [⟨(some 14), none, [], [], .mv (.t 3)⟩,
           ⟨(some 15), none, [], [], .bsl 1 1 [(.sc (.int .u8 (0)))] [(0, 1, (.k (.sc (.int .u8 (0)))))]⟩,
           ⟨(some 16), none, [], [], .app 1 1 (.t 14) (.t 15)⟩,
           ⟨(some 3), none, [], [], .mv (.t 16)⟩] (some [0, 3]))))))
     (.seq
      (.reg [⟨(some 17), none, [], [], .mv (.t 0)⟩,
        ⟨(some 18), none, [], [], .lenL (.t 17)⟩,
        ⟨(some 19), none, [], [], .cvi .u64 (.t 18)⟩,
        ⟨(some 20), none, [], [], .bin .mul false (.k (.sc (.int .u64 (8)))) (.t 19)⟩,
        ⟨(some 4), none, [], [], .mv (.t 20)⟩] (some [3, 4]))
      (.seq
       (.seq
        (.reg [⟨(some 5), none, [], [], .mv (.k (.sc (.int .i64 (7))))⟩] none)
        (.block 2
         (.loop
          (.seq
           (.seq
            (.reg [⟨(some 21), none, [], [], .mv (.t 5)⟩,
              ⟨(some 22), none, [], [], .bin .geq false (.t 21) (.k (.sc (.int .i64 (0))))⟩] (some [3, 4, 5, 22]))
            (.cond (.t 22)
             (.keep [3, 4, 5]
              .skip)
             (.exit 2)))
           (.seq
            (.block 3
             (.reg [⟨(some 25), none, [], [], .mv (.t 3)⟩,
               ⟨(some 26), none, [], [], .mv (.t 4)⟩,
               ⟨(some 27), none, [], [], .mv (.t 5)⟩,
               ⟨(some 28), none, [], [], .bin .mul false (.k (.sc (.int .i64 (8)))) (.t 27)⟩,
               ⟨(some 29), none, [], [], .bin .shr false (.t 26) (.t 28)⟩,
               ⟨(some 30), none, [], [], .cvi .u8 (.t 29)⟩,
               ⟨(some 31), none, [], [], .bsl 1 1 [(.sc (.int .u8 (0)))] [(0, 1, (.t 30))]⟩,
               ⟨(some 32), none, [], [], .app 1 1 (.t 25) (.t 31)⟩,
               ⟨(some 3), none, [], [], .mv (.t 32)⟩] (some [3, 4, 5])))
            (.reg [⟨(some 23), none, [], [], .mv (.t 5)⟩,
              ⟨(some 24), none, [], [], .bin .sub false (.t 23) (.k (.sc (.int .i64 (1))))⟩,
              ⟨(some 5), none, [], [], .mv (.t 24)⟩] (some [3, 4, 5])))))))
       (.seq
        (.reg [⟨(some 33), none, [], [], .mv (.t 3)⟩,
          ⟨(some 2), none, [], [], .mv (.t 33)⟩] (some [2]))
        .ret))))))
theorem b42 : cmpG Try.prog 42 = some (strip a42, r42, 34) := by kernel_rfl

abbrev r43 : List AR := [.c 2 true 64]
abbrev a43 : ACode :=
  (.seq
   (.reg [⟨(some 2), none, [], [], .alc (List.replicate 64 (.sc (.int .u32 (0))))⟩] none)
   (.seq
    (.reg [⟨(some 3), none, [], [], .alc (List.replicate 64 (.sc (.int .u32 (0))))⟩] none)
    (.seq
     (.seq
      (.reg [⟨(some 4), none, [], [], .mv (.k (.sc (.int .i64 (0))))⟩] none)
      (.block 0
       (.loop
        (.seq
         (.seq
          (.reg [⟨(some 7), none, [], [], .mv (.t 4)⟩,
            ⟨(some 8), none, [], [], .bin .lss false (.t 7) (.k (.sc (.int .i64 (64))))⟩] (some [0, 2, 3, 4, 8]))
          (.cond (.t 8)
           (.keep [0, 2, 3, 4]
            .skip)
           (.exit 0)))
         (.seq
          (.block 1
           (.seq
            (.seq
             (.reg [⟨(some 11), none, [], [], .mv (.t 4)⟩,
               ⟨(some 12), none, [], [], .bin .lss false (.t 11) (.k (.sc (.int .i64 (16))))⟩] (some [0, 2, 3, 4, 12]))
             (.cond (.t 12)
              (.keep [0, 2, 3, 4]
               (.seq
                (.regD (⟨(some 13), none, [(.t 4)], [], .mv (.t 4)⟩ ::
                  ⟨(some 14), none, [(.t 0)], [0], .mv (.t 0)⟩ ::
                  ⟨(some 15), none, [(.t 4)], [0, 1], .mv (.t 4)⟩ ::
                  ⟨(some 16), none, [(.k (.sc (.int .i64 (4)))), (.t 15)], [0, 1], .bin .mul false (.k (.sc (.int .i64 (4)))) (.t 15)⟩ ::
                  ⟨(some 17), none, [(.t 14), (.t 16)], [0], .ixaS 1 (.t 14) (.t 16)⟩ ::
                  ⟨(some 18), none, [(.t 17)], [0], .ld false 1 (.t 17)⟩ ::
                  ⟨(some 19), none, [(.t 18)], [0], .cvi .u32 (.t 18)⟩ ::
                  ⟨(some 20), none, [(.t 19), (.k (.sc (.int .u64 (24))))], [0], .bin .shl false (.t 19) (.k (.sc (.int .u64 (24))))⟩ ::
                  ⟨(some 21), none, [(.t 0)], [0, 1, 2, 3, 4, 5, 6, 7], .mv (.t 0)⟩ ::
                  ⟨(some 22), none, [(.t 4)], [0, 1, 2, 3, 4, 5, 6, 7, 8], .mv (.t 4)⟩ ::
                  ⟨(some 23), none, [(.k (.sc (.int .i64 (4)))), (.t 22)], [0, 1, 2, 3, 4, 5, 6, 7, 8], .bin .mul false (.k (.sc (.int .i64 (4)))) (.t 22)⟩ ::
                  ⟨(some 24), none, [(.t 23), (.k (.sc (.int .i64 (1))))], [0, 1, 2, 3, 4, 5, 6, 7, 8], .bin .add false (.t 23) (.k (.sc (.int .i64 (1))))⟩ ::
                  ⟨(some 25), none, [(.t 21), (.t 24)], [0, 1, 2, 3, 4, 5, 6, 7], .ixaS 1 (.t 21) (.t 24)⟩ ::
                  ⟨(some 26), none, [(.t 25)], [0, 1, 2, 3, 4, 5, 6, 7], .ld false 1 (.t 25)⟩ ::
                  ⟨(some 27), none, [(.t 26)], [0, 1, 2, 3, 4, 5, 6, 7], .cvi .u32 (.t 26)⟩ ::
                  ⟨(some 28), none, [(.t 27), (.k (.sc (.int .u64 (16))))], [0, 1, 2, 3, 4, 5, 6, 7], .bin .shl false (.t 27) (.k (.sc (.int .u64 (16))))⟩ ::
                  ⟨(some 29), none, [(.t 20), (.t 28)], [0], .bin .add false (.t 20) (.t 28)⟩ ::
                  ⟨(some 30), none, [(.t 0)], [0, 1, 2, 3, 4, 5, 6, 7, 8, 9, 10, 11, 12, 13, 14, 15, 16], .mv (.t 0)⟩ ::
                  ⟨(some 31), none, [(.t 4)], [0, 1, 2, 3, 4, 5, 6, 7, 8, 9, 10, 11, 12, 13, 14, 15, 16, 17], .mv (.t 4)⟩ ::
                  ⟨(some 32), none, [(.k (.sc (.int .i64 (4)))), (.t 31)], [0, 1, 2, 3, 4, 5, 6, 7, 8, 9, 10, 11, 12, 13, 14, 15, 16, 17], .bin .mul false (.k (.sc (.int .i64 (4)))) (.t 31)⟩ ::
                  ⟨(some 33), none, [(.t 32), (.k (.sc (.int .i64 (2))))], [0, 1, 2, 3, 4, 5, 6, 7, 8, 9, 10, 11, 12, 13, 14, 15, 16, 17], .bin .add false (.t 32) (.k (.sc (.int .i64 (2))))⟩ ::
                  ⟨(some 34), none, [(.t 30), (.t 33)], [0, 1, 2, 3, 4, 5, 6, 7, 8, 9, 10, 11, 12, 13, 14, 15, 16], .ixaS 1 (.t 30) (.t 33)⟩ ::
                  ⟨(some 35), none, [(.t 34)], [0, 1, 2, 3, 4, 5, 6, 7, 8, 9, 10, 11, 12, 13, 14, 15, 16], .ld false 1 (.t 34)⟩ ::
                  ⟨(some 36), none, [(.t 35)], [0, 1, 2, 3, 4, 5, 6, 7, 8, 9, 10, 11, 12, 13, 14, 15, 16], .cvi .u32 (.t 35)⟩ ::
                  ⟨(some 37), none, [(.t 36), (.k (.sc (.int .u64 (8))))], [0, 1, 2, 3, 4, 5, 6, 7, 8, 9, 10, 11, 12, 13, 14, 15, 16], .bin .shl false (.t 36) (.k (.sc (.int .u64 (8))))⟩ ::
                  ⟨(some 38), none, [(.t 29), (.t 37)], [0], .bin .add false (.t 29) (.t 37)⟩ ::
                  ⟨(some 39), none, [(.t 0)], (0 :: 1 :: 2 :: 3 :: 4 :: 5 :: 6 :: 7 :: 8 :: 9 :: 10 :: 11 :: 12 :: 13 :: 14 :: 15 :: 16 :: 17 :: 18 :: 19 :: 20 :: 21 :: 22 :: 23 :: 24 :: 25 :: []), .mv (.t 0)⟩ ::
                  ⟨(some 40), none, [(.t 4)], (0 :: 1 :: 2 :: 3 :: 4 :: 5 :: 6 :: 7 :: 8 :: 9 :: 10 :: 11 :: 12 :: 13 :: 14 :: 15 :: 16 :: 17 :: 18 :: 19 :: 20 :: 21 :: 22 :: 23 :: 24 :: 25 :: 26 :: []), .mv (.t 4)⟩ ::
                  ⟨(some 41), none, [(.k (.sc (.int .i64 (4)))), (.t 40)], (0 :: 1 :: 2 :: 3 :: 4 :: 5 :: 6 :: 7 :: 8 :: 9 :: 10 :: 11 :: 12 :: 13 :: 14 :: 15 :: 16 :: 17 :: 18 :: 19 :: 20 :: 21 :: 22 :: 23 :: 24 :: 25 :: 26 :: []), .bin .mul false (.k (.sc (.int .i64 (4)))) (.t 40)⟩ ::
                  ⟨(some 42), none, [(.t 41), (.k (.sc (.int .i64 (3))))], (0 :: 1 :: 2 :: 3 :: 4 :: 5 :: 6 :: 7 :: 8 :: 9 :: 10 :: 11 :: 12 :: 13 :: 14 :: 15 :: 16 :: 17 :: 18 :: 19 :: 20 :: 21 :: 22 :: 23 :: 24 :: 25 :: 26 :: []), .bin .add false (.t 41) (.k (.sc (.int .i64 (3))))⟩ ::
                  ⟨(some 43), none, [(.t 39), (.t 42)], (0 :: 1 :: 2 :: 3 :: 4 :: 5 :: 6 :: 7 :: 8 :: 9 :: 10 :: 11 :: 12 :: 13 :: 14 :: 15 :: 16 :: 17 :: 18 :: 19 :: 20 :: 21 :: 22 :: 23 :: 24 :: 25 :: []), .ixaS 1 (.t 39) (.t 42)⟩ ::
                  ⟨(some 44), none, [(.t 43)], (0 :: 1 :: 2 :: 3 :: 4 :: 5 :: 6 :: 7 :: 8 :: 9 :: 10 :: 11 :: 12 :: 13 :: 14 :: 15 :: 16 :: 17 :: 18 :: 19 :: 20 :: 21 :: 22 :: 23 :: 24 :: 25 :: []), .ld false 1 (.t 43)⟩ ::
                  ⟨(some 45), none, [(.t 44)], (0 :: 1 :: 2 :: 3 :: 4 :: 5 :: 6 :: 7 :: 8 :: 9 :: 10 :: 11 :: 12 :: 13 :: 14 :: 15 :: 16 :: 17 :: 18 :: 19 :: 20 :: 21 :: 22 :: 23 :: 24 :: 25 :: []), .cvi .u32 (.t 44)⟩ ::
                  ⟨(some 46), none, [(.t 38), (.t 45)], [0], .bin .add false (.t 38) (.t 45)⟩ ::
                  ⟨(some 47), none, [(.t 3), (.t 13)], [], .ixaA 64 1 (.t 3) (.t 13)⟩ ::
                  ⟨none, none, [(.t 47), (.t 46)], [], .sto 1 (.t 47) (.t 46)⟩ :: []) (some [0, 2, 3, 4]))
                (.exit 1)))
              (.keep [0, 2, 3, 4]
               .skip)))
            (.seq
             (.regD [⟨(some 48), none, [(.t 4)], [], .mv (.t 4)⟩,
               ⟨(some 49), none, [(.t 48), (.k (.sc (.int .i64 (15))))], [], .bin .sub false (.t 48) (.k (.sc (.int .i64 (15))))⟩,
               ⟨(some 50), none, [(.t 3), (.t 49)], [], .ixaA 64 1 (.t 3) (.t 49)⟩,
               ⟨(some 51), none, [(.t 50)], [], .ld false 1 (.t 50)⟩,
               ⟨(some 52), none, [(.t 4)], [0, 1, 2, 3], .mv (.t 4)⟩,
               ⟨(some 53), none, [(.t 52), (.k (.sc (.int .i64 (2))))], [0, 1, 2, 3], .bin .sub false (.t 52) (.k (.sc (.int .i64 (2))))⟩,
               ⟨(some 54), none, [(.t 3), (.t 53)], [0, 1, 2, 3], .ixaA 64 1 (.t 3) (.t 53)⟩,
               ⟨(some 55), none, [(.t 54)], [0, 1, 2, 3], .ld false 1 (.t 54)⟩,
               ⟨(some 5), none, [(.t 51)], [4, 5, 6, 7], .mv (.t 51)⟩,
               ⟨(some 6), none, [(.t 55)], [], .mv (.t 55)⟩] (some [0, 2, 3, 4, 5, 6]))
             (.regD (⟨(some 56), none, [(.t 4)], [], .mv (.t 4)⟩ ::
               ⟨(some 57), none, [(.t 4)], [0], .mv (.t 4)⟩ ::
               ⟨(some 58), none, [(.t 57), (.k (.sc (.int .i64 (16))))], [0], .bin .sub false (.t 57) (.k (.sc (.int .i64 (16))))⟩ ::
               ⟨(some 59), none, [(.t 3), (.t 58)], [0], .ixaA 64 1 (.t 3) (.t 58)⟩ ::
               ⟨(some 60), none, [(.t 59)], [0], .ld false 1 (.t 59)⟩ ::
               ⟨(some 61), none, [(.t 5)], [0, 1, 2, 3, 4], .mv (.t 5)⟩ ::
               ⟨(some 62), none, [(.k (.fn 44 [])), (.t 61), (.k (.sc (.int .i64 (7))))], [0, 1, 2, 3, 4], .cal (.k (.fn 44 [])) [(.t 61), (.k (.sc (.int .i64 (7))))]⟩ ::
               ⟨(some 63), none, [(.t 5)], [0, 1, 2, 3, 4, 5, 6], .mv (.t 5)⟩ ::
               ⟨(some 64), none, [(.k (.fn 44 [])), (.t 63), (.k (.sc (.int .i64 (18))))], [0, 1, 2, 3, 4], .cal (.k (.fn 44 [])) [(.t 63), (.k (.sc (.int .i64 (18))))]⟩ ::
               ⟨(some 65), none, [(.t 62), (.t 64)], [0, 1, 2, 3, 4], .bin .xor false (.t 62) (.t 64)⟩ ::
               ⟨(some 66), none, [(.t 5)], [0, 1, 2, 3, 4, 5, 6, 7, 8, 9], .mv (.t 5)⟩ ::
               ⟨(some 67), none, [(.t 66), (.k (.sc (.int .u64 (3))))], [0, 1, 2, 3, 4, 5, 6, 7, 8, 9], .bin .shr false (.t 66) (.k (.sc (.int .u64 (3))))⟩ ::
               ⟨(some 68), none, [(.t 65), (.t 67)], [0, 1, 2, 3, 4], .bin .xor false (.t 65) (.t 67)⟩ ::
               ⟨(some 69), none, [(.t 60), (.t 68)], [0], .bin .add false (.t 60) (.t 68)⟩ ::
               ⟨(some 70), none, [(.t 4)], [0, 1, 2, 3, 4, 5, 6, 7, 8, 9, 10, 11, 12, 13], .mv (.t 4)⟩ ::
               ⟨(some 71), none, [(.t 70), (.k (.sc (.int .i64 (7))))], [0, 1, 2, 3, 4, 5, 6, 7, 8, 9, 10, 11, 12, 13], .bin .sub false (.t 70) (.k (.sc (.int .i64 (7))))⟩ ::
               ⟨(some 72), none, [(.t 3), (.t 71)], [0, 1, 2, 3, 4, 5, 6, 7, 8, 9, 10, 11, 12, 13], .ixaA 64 1 (.t 3) (.t 71)⟩ ::
               ⟨(some 73), none, [(.t 72)], [0, 1, 2, 3, 4, 5, 6, 7, 8, 9, 10, 11, 12, 13], .ld false 1 (.t 72)⟩ ::
               ⟨(some 74), none, [(.t 69), (.t 73)], [0], .bin .add false (.t 69) (.t 73)⟩ ::
               ⟨(some 75), none, [(.t 6)], [0, 1, 2, 3, 4, 5, 6, 7, 8, 9, 10, 11, 12, 13, 14, 15, 16, 17, 18], .mv (.t 6)⟩ ::
               ⟨(some 76), none, [(.k (.fn 44 [])), (.t 75), (.k (.sc (.int .i64 (17))))], [0, 1, 2, 3, 4, 9, 10, 11, 12, 13, 14, 15, 16, 17, 18], .cal (.k (.fn 44 [])) [(.t 75), (.k (.sc (.int .i64 (17))))]⟩ ::
               ⟨(some 77), none, [(.t 6)], [0, 1, 2, 3, 4, 5, 6, 7, 8, 9, 10, 11, 12, 13, 14, 15, 16, 17, 18, 19, 20], .mv (.t 6)⟩ ::
               ⟨(some 78), none, [(.k (.fn 44 [])), (.t 77), (.k (.sc (.int .i64 (19))))], [0, 1, 2, 3, 4, 9, 10, 11, 12, 13, 14, 15, 16, 17, 18], .cal (.k (.fn 44 [])) [(.t 77), (.k (.sc (.int .i64 (19))))]⟩ ::
               ⟨(some 79), none, [(.t 76), (.t 78)], [0, 1, 2, 3, 4, 9, 10, 11, 12, 13, 14, 15, 16, 17, 18], .bin .xor false (.t 76) (.t 78)⟩ ::
               ⟨(some 80), none, [(.t 6)], (0 :: 1 :: 2 :: 3 :: 4 :: 5 :: 6 :: 7 :: 8 :: 9 :: 10 :: 11 :: 12 :: 13 :: 14 :: 15 :: 16 :: 17 :: 18 :: 19 :: 20 :: 21 :: 22 :: 23 :: []), .mv (.t 6)⟩ ::
               ⟨(some 81), none, [(.t 80), (.k (.sc (.int .u64 (10))))], (0 :: 1 :: 2 :: 3 :: 4 :: 5 :: 6 :: 7 :: 8 :: 9 :: 10 :: 11 :: 12 :: 13 :: 14 :: 15 :: 16 :: 17 :: 18 :: 19 :: 20 :: 21 :: 22 :: 23 :: []), .bin .shr false (.t 80) (.k (.sc (.int .u64 (10))))⟩ ::
               ⟨(some 82), none, [(.t 79), (.t 81)], [0, 1, 2, 3, 4, 9, 10, 11, 12, 13, 14, 15, 16, 17, 18], .bin .xor false (.t 79) (.t 81)⟩ ::
               ⟨(some 83), none, [(.t 74), (.t 82)], [0], .bin .add false (.t 74) (.t 82)⟩ ::
               ⟨(some 84), none, [(.t 3), (.t 56)], [], .ixaA 64 1 (.t 3) (.t 56)⟩ ::
               ⟨none, none, [(.t 84), (.t 83)], [], .sto 1 (.t 84) (.t 83)⟩ :: []) (some [0, 2, 3, 4])))))
          (.reg [⟨(some 9), none, [], [], .mv (.t 4)⟩,
            ⟨(some 10), none, [], [], .bin .add false (.t 9) (.k (.sc (.int .i64 (1))))⟩,
            ⟨(some 4), none, [], [], .mv (.t 10)⟩] (some [0, 2, 3, 4])))))))
     (.seq
      (.reg [⟨(some 85), none, [], [], .ld true 64 (.t 3)⟩,
        ⟨none, none, [], [], .sto 64 (.t 2) (.t 85)⟩] (some [2]))
      .ret))))
theorem b43 : cmpG Try.prog 43 = some (strip a43, r43, 86) := by kernel_rfl

abbrev r44 : List AR := [.t 4]
abbrev a44 : ACode :=
  (.seq
   (.reg [⟨(some 4), none, [], [], .mv (.k (.sc (.int .u32 (0))))⟩] (some [0, 1]))
   (.seq
    (.regD [⟨(some 5), none, [(.t 0)], [], .mv (.t 0)⟩,
      ⟨(some 6), none, [(.t 1)], [0], .mv (.t 1)⟩,
      ⟨(some 7), none, [(.t 5), (.t 6)], [], .bin .shr false (.t 5) (.t 6)⟩,
      ⟨(some 8), none, [(.t 0)], [0, 1, 2], .mv (.t 0)⟩,
      ⟨(some 9), none, [(.t 1)], [0, 1, 2, 3], .mv (.t 1)⟩,
      ⟨(some 10), none, [(.k (.sc (.int .i64 (32)))), (.t 9)], [0, 1, 2, 3], .bin .sub false (.k (.sc (.int .i64 (32)))) (.t 9)⟩,
      ⟨(some 11), none, [(.t 8), (.t 10)], [0, 1, 2], .bin .shl false (.t 8) (.t 10)⟩,
      ⟨(some 12), none, [(.t 7), (.t 11)], [], .bin .or false (.t 7) (.t 11)⟩,
      ⟨(some 4), none, [(.t 12)], [], .mv (.t 12)⟩] (some [4]))
    .ret))
theorem b44 : cmpG Try.prog 44 = some (strip a44, r44, 13) := by kernel_rfl

abbrev r65 : List AR := [.t 4]
abbrev a65 : ACode :=
  (.seq
   (.reg [⟨(some 4), none, [], [], .mv (.k (.sc (.bool false)))⟩] (some [0, 1]))
   (.seq
    (.reg [⟨(some 12), none, [], [], .mv (.t 0)⟩,
      ⟨(some 13), none, [], [], .mv (.t 0)⟩,
      ⟨(some 14), none, [], [], .cal (.k (.fn 80 [])) [(.t 12), (.t 13)]⟩,
      ⟨(some 5), none, [], [], .alc [(.sc (.int .u64 (0))), (.sc (.int .u64 (0))), (.sc (.int .u64 (0))), (.sc (.int .u64 (0)))]⟩,
      ⟨none, none, [], [], .sto 4 (.t 5) (.t 14)⟩] (some [0, 1, 5]))
    (.seq
     (.reg [⟨(some 15), none, [], [], .ixaA 4 1 (.t 5) (.k (.sc (.int .i64 (0))))⟩,
       ⟨(some 16), none, [], [], .ld false 1 (.t 15)⟩,
       ⟨(some 17), none, [], [], .ixaA 4 1 (.t 5) (.k (.sc (.int .i64 (1))))⟩,
       ⟨(some 18), none, [], [], .ld false 1 (.t 17)⟩,
       ⟨(some 19), none, [], [], .bin .mul false (.t 18) (.k (.sc (.int .u64 (4294967296))))⟩,
       ⟨(some 20), none, [], [], .bin .add false (.t 16) (.t 19)⟩,
       ⟨(some 21), none, [], [], .mv (.t 0)⟩,
       ⟨(some 22), none, [], [], .cal (.k (.fn 80 [])) [(.t 20), (.t 21)]⟩,
       ⟨(some 6), none, [], [], .alc [(.sc (.int .u64 (0))), (.sc (.int .u64 (0))), (.sc (.int .u64 (0))), (.sc (.int .u64 (0)))]⟩,
       ⟨none, none, [], [], .sto 4 (.t 6) (.t 22)⟩] (some [0, 1, 5, 6]))
     (.seq
      (.reg [⟨(some 23), none, [], [], .ixaA 4 1 (.t 5) (.k (.sc (.int .i64 (2))))⟩,
        ⟨(some 24), none, [], [], .ld false 1 (.t 23)⟩,
        ⟨(some 25), none, [], [], .ixaA 4 1 (.t 5) (.k (.sc (.int .i64 (3))))⟩,
        ⟨(some 26), none, [], [], .ld false 1 (.t 25)⟩,
        ⟨(some 27), none, [], [], .bin .mul false (.t 26) (.k (.sc (.int .u64 (4294967296))))⟩,
        ⟨(some 28), none, [], [], .bin .add false (.t 24) (.t 27)⟩,
        ⟨(some 29), none, [], [], .mv (.t 0)⟩,
        ⟨(some 30), none, [], [], .cal (.k (.fn 80 [])) [(.t 28), (.t 29)]⟩,
        ⟨(some 7), none, [], [], .alc [(.sc (.int .u64 (0))), (.sc (.int .u64 (0))), (.sc (.int .u64 (0))), (.sc (.int .u64 (0)))]⟩,
        ⟨none, none, [], [], .sto 4 (.t 7) (.t 30)⟩] (some [1, 6, 7]))
      (.seq
       (.reg [⟨(some 31), none, [], [], .ixaA 4 1 (.t 6) (.k (.sc (.int .i64 (2))))⟩,
         ⟨(some 32), none, [], [], .ld false 1 (.t 31)⟩,
         ⟨(some 33), none, [], [], .ixaA 4 1 (.t 7) (.k (.sc (.int .i64 (0))))⟩,
         ⟨(some 34), none, [], [], .ld false 1 (.t 33)⟩,
         ⟨(some 35), none, [], [], .bin .add false (.t 32) (.t 34)⟩,
         ⟨(some 8), none, [], [], .mv (.t 35)⟩] (some [1, 6, 7, 8]))
       (.seq
        (.reg [⟨(some 36), none, [], [], .ixaA 4 1 (.t 6) (.k (.sc (.int .i64 (3))))⟩,
          ⟨(some 37), none, [], [], .ld false 1 (.t 36)⟩,
          ⟨(some 38), none, [], [], .ixaA 4 1 (.t 7) (.k (.sc (.int .i64 (1))))⟩,
          ⟨(some 39), none, [], [], .ld false 1 (.t 38)⟩,
          ⟨(some 40), none, [], [], .bin .add false (.t 37) (.t 39)⟩,
          ⟨(some 41), none, [], [], .mv (.t 8)⟩,
          ⟨(some 42), none, [], [], .bin .quo false (.t 41) (.k (.sc (.int .u64 (4294967296))))⟩,
          ⟨(some 43), none, [], [], .bin .add false (.t 40) (.t 42)⟩,
          ⟨(some 9), none, [], [], .mv (.t 43)⟩] (some [1, 6, 7, 8, 9]))
        (.seq
         (.reg [⟨(some 44), none, [], [], .ixaA 4 1 (.t 7) (.k (.sc (.int .i64 (2))))⟩,
           ⟨(some 45), none, [], [], .ld false 1 (.t 44)⟩,
           ⟨(some 46), none, [], [], .mv (.t 9)⟩,
           ⟨(some 47), none, [], [], .bin .quo false (.t 46) (.k (.sc (.int .u64 (4294967296))))⟩,
           ⟨(some 48), none, [], [], .bin .add false (.t 45) (.t 47)⟩,
           ⟨(some 10), none, [], [], .mv (.t 48)⟩] (some [1, 6, 8, 9, 10]))
         (.seq
          (.reg [⟨(some 49), none, [], [], .mv (.t 9)⟩,
            ⟨(some 50), none, [], [], .bin .rem false (.t 49) (.k (.sc (.int .u64 (4294967296))))⟩,
            ⟨(some 11), none, [], [], .mv (.t 50)⟩] (some [1, 6, 8, 10, 11]))
          (.seq
           (.reg (⟨(some 51), none, [], [], .mv (.t 10)⟩ ::
             ⟨(some 52), none, [], [], .bin .eql false (.t 51) (.k (.sc (.int .u64 (0))))⟩ ::
             ⟨(some 53), none, [], [], .mv (.t 52)⟩ ::
             ⟨(some 54), (some (53, true)), [], [], .mv (.t 11)⟩ ::
             ⟨(some 55), (some (53, true)), [], [], .mv (.t 1)⟩ ::
             ⟨(some 56), (some (53, true)), [], [], .cvi .u64 (.t 55)⟩ ::
             ⟨(some 57), (some (53, true)), [], [], .bin .lss false (.t 54) (.t 56)⟩ ::
             ⟨(some 58), (some (53, true)), [], [], .mv (.t 57)⟩ ::
             ⟨(some 59), (some (58, false)), [], [], .mv (.t 11)⟩ ::
             ⟨(some 60), (some (58, false)), [], [], .mv (.t 1)⟩ ::
             ⟨(some 61), (some (58, false)), [], [], .cvi .u64 (.t 60)⟩ ::
             ⟨(some 62), (some (58, false)), [], [], .bin .eql false (.t 59) (.t 61)⟩ ::
             ⟨(some 63), (some (58, false)), [], [], .mv (.t 62)⟩ ::
             ⟨(some 64), (some (63, true)), [], [], .ixaA 4 1 (.t 6) (.k (.sc (.int .i64 (0))))⟩ ::
             ⟨(some 65), (some (63, true)), [], [], .ld false 1 (.t 64)⟩ ::
             ⟨(some 66), (some (63, true)), [], [], .bin .eql false (.t 65) (.k (.sc (.int .u64 (0))))⟩ ::
             ⟨(some 67), (some (58, false)), [], [], .pick (.t 63) (.t 66) (.k (.sc (.bool false)))⟩ ::
             ⟨(some 68), (some (58, false)), [], [], .mv (.t 67)⟩ ::
             ⟨(some 69), (some (68, true)), [], [], .ixaA 4 1 (.t 6) (.k (.sc (.int .i64 (1))))⟩ ::
             ⟨(some 70), (some (68, true)), [], [], .ld false 1 (.t 69)⟩ ::
             ⟨(some 71), (some (68, true)), [], [], .bin .eql false (.t 70) (.k (.sc (.int .u64 (0))))⟩ ::
             ⟨(some 72), (some (58, false)), [], [], .pick (.t 68) (.t 71) (.k (.sc (.bool false)))⟩ ::
             ⟨(some 73), (some (58, false)), [], [], .mv (.t 72)⟩ ::
             ⟨(some 74), (some (73, true)), [], [], .mv (.t 8)⟩ ::
             ⟨(some 75), (some (73, true)), [], [], .bin .rem false (.t 74) (.k (.sc (.int .u64 (4294967296))))⟩ ::
             ⟨(some 76), (some (73, true)), [], [], .bin .eql false (.t 75) (.k (.sc (.int .u64 (0))))⟩ ::
             ⟨(some 77), (some (58, false)), [], [], .pick (.t 73) (.t 76) (.k (.sc (.bool false)))⟩ ::
             ⟨(some 78), (some (53, true)), [], [], .pick (.t 58) (.k (.sc (.bool true))) (.t 77)⟩ ::
             ⟨(some 79), none, [], [], .pick (.t 53) (.t 78) (.k (.sc (.bool false)))⟩ ::
             ⟨(some 4), none, [], [], .mv (.t 79)⟩ :: []) (some [4]))
           .ret)))))))))
theorem b65 : cmpG Try.prog 65 = some (strip a65, r65, 80) := by kernel_rfl

abbrev r66 : List AR := [.t 4]
abbrev a66 : ACode :=
  (.seq
   (.reg [⟨(some 4), none, [], [], .mv (.k (.sc (.bool false)))⟩] (some [0, 1]))
   (.seq
    (.reg [⟨(some 7), none, [], [], .mv (.t 0)⟩,
      ⟨(some 8), none, [], [], .mv (.t 0)⟩,
      ⟨(some 9), none, [], [], .cal (.k (.fn 80 [])) [(.t 7), (.t 8)]⟩,
      ⟨(some 5), none, [], [], .alc [(.sc (.int .u64 (0))), (.sc (.int .u64 (0))), (.sc (.int .u64 (0))), (.sc (.int .u64 (0)))]⟩,
      ⟨none, none, [], [], .sto 4 (.t 5) (.t 9)⟩] (some [1, 5]))
    (.seq
     (.reg [⟨(some 10), none, [], [], .ixaA 4 1 (.t 5) (.k (.sc (.int .i64 (2))))⟩,
       ⟨(some 11), none, [], [], .ld false 1 (.t 10)⟩,
       ⟨(some 12), none, [], [], .ixaA 4 1 (.t 5) (.k (.sc (.int .i64 (3))))⟩,
       ⟨(some 13), none, [], [], .ld false 1 (.t 12)⟩,
       ⟨(some 14), none, [], [], .bin .mul false (.t 13) (.k (.sc (.int .u64 (4294967296))))⟩,
       ⟨(some 15), none, [], [], .bin .add false (.t 11) (.t 14)⟩,
       ⟨(some 6), none, [], [], .mv (.t 15)⟩] (some [1, 5, 6]))
     (.seq
      (.reg [⟨(some 16), none, [], [], .mv (.t 6)⟩,
        ⟨(some 17), none, [], [], .mv (.t 1)⟩,
        ⟨(some 18), none, [], [], .cvi .u64 (.t 17)⟩,
        ⟨(some 19), none, [], [], .bin .lss false (.t 16) (.t 18)⟩,
        ⟨(some 20), none, [], [], .mv (.t 19)⟩,
        ⟨(some 21), (some (20, false)), [], [], .mv (.t 6)⟩,
        ⟨(some 22), (some (20, false)), [], [], .mv (.t 1)⟩,
        ⟨(some 23), (some (20, false)), [], [], .cvi .u64 (.t 22)⟩,
        ⟨(some 24), (some (20, false)), [], [], .bin .eql false (.t 21) (.t 23)⟩,
        ⟨(some 25), (some (20, false)), [], [], .mv (.t 24)⟩,
        ⟨(some 26), (some (25, true)), [], [], .ixaA 4 1 (.t 5) (.k (.sc (.int .i64 (0))))⟩,
        ⟨(some 27), (some (25, true)), [], [], .ld false 1 (.t 26)⟩,
        ⟨(some 28), (some (25, true)), [], [], .bin .eql false (.t 27) (.k (.sc (.int .u64 (0))))⟩,
        ⟨(some 29), (some (20, false)), [], [], .pick (.t 25) (.t 28) (.k (.sc (.bool false)))⟩,
        ⟨(some 30), (some (20, false)), [], [], .mv (.t 29)⟩,
        ⟨(some 31), (some (30, true)), [], [], .ixaA 4 1 (.t 5) (.k (.sc (.int .i64 (1))))⟩,
        ⟨(some 32), (some (30, true)), [], [], .ld false 1 (.t 31)⟩,
        ⟨(some 33), (some (30, true)), [], [], .bin .eql false (.t 32) (.k (.sc (.int .u64 (0))))⟩,
        ⟨(some 34), (some (20, false)), [], [], .pick (.t 30) (.t 33) (.k (.sc (.bool false)))⟩,
        ⟨(some 35), none, [], [], .pick (.t 20) (.k (.sc (.bool true))) (.t 34)⟩,
        ⟨(some 4), none, [], [], .mv (.t 35)⟩] (some [4]))
      .ret))))
theorem b66 : cmpG Try.prog 66 = some (strip a66, r66, 36) := by kernel_rfl

abbrev r80 : List AR := [.c 4 true 4]
abbrev a80 : ACode :=
  (.seq
   (.reg [⟨(some 4), none, [], [], .alc [(.sc (.int .u64 (0))), (.sc (.int .u64 (0))), (.sc (.int .u64 (0))), (.sc (.int .u64 (0)))]⟩] none)
   (.seq
    (.reg [⟨(some 12), none, [], [], .mv (.t 0)⟩,
      ⟨(some 13), none, [], [], .bin .rem false (.t 12) (.k (.sc (.int .u64 (4294967296))))⟩,
      ⟨(some 14), none, [], [], .mv (.t 0)⟩,
      ⟨(some 15), none, [], [], .bin .quo false (.t 14) (.k (.sc (.int .u64 (4294967296))))⟩,
      ⟨(some 16), none, [], [], .mv (.t 1)⟩,
      ⟨(some 17), none, [], [], .bin .rem false (.t 16) (.k (.sc (.int .u64 (4294967296))))⟩,
      ⟨(some 18), none, [], [], .mv (.t 1)⟩,
      ⟨(some 19), none, [], [], .bin .quo false (.t 18) (.k (.sc (.int .u64 (4294967296))))⟩,
      ⟨(some 5), none, [], [], .mv (.t 13)⟩,
      ⟨(some 6), none, [], [], .mv (.t 15)⟩,
      ⟨(some 7), none, [], [], .mv (.t 17)⟩,
      ⟨(some 8), none, [], [], .mv (.t 19)⟩] (some [4, 5, 6, 7, 8]))
    (.seq
     (.reg [⟨(some 9), none, [], [], .alc [(.sc (.int .u64 (0))), (.sc (.int .u64 (0))), (.sc (.int .u64 (0))), (.sc (.int .u64 (0)))]⟩] none)
     (.seq
      (.reg [⟨(some 20), none, [], [], .mv (.t 5)⟩,
        ⟨(some 21), none, [], [], .mv (.t 7)⟩,
        ⟨(some 22), none, [], [], .bin .mul false (.t 20) (.t 21)⟩,
        ⟨(some 23), none, [], [], .bin .rem false (.t 22) (.k (.sc (.int .u64 (4294967296))))⟩,
        ⟨(some 24), none, [], [], .ixaA 4 1 (.t 9) (.k (.sc (.int .i64 (0))))⟩,
        ⟨none, none, [], [], .sto 1 (.t 24) (.t 23)⟩] (some [4, 5, 6, 7, 8, 9]))
      (.seq
       (.reg [⟨(some 25), none, [], [], .mv (.t 5)⟩,
         ⟨(some 26), none, [], [], .mv (.t 7)⟩,
         ⟨(some 27), none, [], [], .bin .mul false (.t 25) (.t 26)⟩,
         ⟨(some 28), none, [], [], .bin .quo false (.t 27) (.k (.sc (.int .u64 (4294967296))))⟩,
         ⟨(some 29), none, [], [], .mv (.t 6)⟩,
         ⟨(some 30), none, [], [], .mv (.t 7)⟩,
         ⟨(some 31), none, [], [], .bin .mul false (.t 29) (.t 30)⟩,
         ⟨(some 32), none, [], [], .bin .rem false (.t 31) (.k (.sc (.int .u64 (4294967296))))⟩,
         ⟨(some 33), none, [], [], .bin .add false (.t 28) (.t 32)⟩,
         ⟨(some 34), none, [], [], .mv (.t 5)⟩,
         ⟨(some 35), none, [], [], .mv (.t 8)⟩,
         ⟨(some 36), none, [], [], .bin .mul false (.t 34) (.t 35)⟩,
         ⟨(some 37), none, [], [], .bin .rem false (.t 36) (.k (.sc (.int .u64 (4294967296))))⟩,
         ⟨(some 38), none, [], [], .bin .add false (.t 33) (.t 37)⟩,
         ⟨(some 10), none, [], [], .mv (.t 38)⟩] (some [4, 5, 6, 7, 8, 9, 10]))
       (.seq
        (.reg [⟨(some 39), none, [], [], .mv (.t 10)⟩,
          ⟨(some 40), none, [], [], .bin .rem false (.t 39) (.k (.sc (.int .u64 (4294967296))))⟩,
          ⟨(some 41), none, [], [], .ixaA 4 1 (.t 9) (.k (.sc (.int .i64 (1))))⟩,
          ⟨none, none, [], [], .sto 1 (.t 41) (.t 40)⟩] (some [4, 5, 6, 7, 8, 9, 10]))
        (.seq
         (.reg [⟨(some 42), none, [], [], .mv (.t 10)⟩,
           ⟨(some 43), none, [], [], .bin .quo false (.t 42) (.k (.sc (.int .u64 (4294967296))))⟩,
           ⟨(some 44), none, [], [], .mv (.t 6)⟩,
           ⟨(some 45), none, [], [], .mv (.t 7)⟩,
           ⟨(some 46), none, [], [], .bin .mul false (.t 44) (.t 45)⟩,
           ⟨(some 47), none, [], [], .bin .quo false (.t 46) (.k (.sc (.int .u64 (4294967296))))⟩,
           ⟨(some 48), none, [], [], .bin .add false (.t 43) (.t 47)⟩,
           ⟨(some 49), none, [], [], .mv (.t 5)⟩,
           ⟨(some 50), none, [], [], .mv (.t 8)⟩,
           ⟨(some 51), none, [], [], .bin .mul false (.t 49) (.t 50)⟩,
           ⟨(some 52), none, [], [], .bin .quo false (.t 51) (.k (.sc (.int .u64 (4294967296))))⟩,
           ⟨(some 53), none, [], [], .bin .add false (.t 48) (.t 52)⟩,
           ⟨(some 54), none, [], [], .mv (.t 6)⟩,
           ⟨(some 55), none, [], [], .mv (.t 8)⟩,
           ⟨(some 56), none, [], [], .bin .mul false (.t 54) (.t 55)⟩,
           ⟨(some 57), none, [], [], .bin .rem false (.t 56) (.k (.sc (.int .u64 (4294967296))))⟩,
           ⟨(some 58), none, [], [], .bin .add false (.t 53) (.t 57)⟩,
           ⟨(some 11), none, [], [], .mv (.t 58)⟩] (some [4, 6, 8, 9, 11]))
         (.seq
          (.reg [⟨(some 59), none, [], [], .mv (.t 11)⟩,
            ⟨(some 60), none, [], [], .bin .rem false (.t 59) (.k (.sc (.int .u64 (4294967296))))⟩,
            ⟨(some 61), none, [], [], .ixaA 4 1 (.t 9) (.k (.sc (.int .i64 (2))))⟩,
            ⟨none, none, [], [], .sto 1 (.t 61) (.t 60)⟩] (some [4, 6, 8, 9, 11]))
          (.seq
           (.reg [⟨(some 62), none, [], [], .mv (.t 11)⟩,
             ⟨(some 63), none, [], [], .bin .quo false (.t 62) (.k (.sc (.int .u64 (4294967296))))⟩,
             ⟨(some 64), none, [], [], .mv (.t 6)⟩,
             ⟨(some 65), none, [], [], .mv (.t 8)⟩,
             ⟨(some 66), none, [], [], .bin .mul false (.t 64) (.t 65)⟩,
             ⟨(some 67), none, [], [], .bin .quo false (.t 66) (.k (.sc (.int .u64 (4294967296))))⟩,
             ⟨(some 68), none, [], [], .bin .add false (.t 63) (.t 67)⟩,
             ⟨(some 69), none, [], [], .ixaA 4 1 (.t 9) (.k (.sc (.int .i64 (3))))⟩,
             ⟨none, none, [], [], .sto 1 (.t 69) (.t 68)⟩] (some [4, 9]))
           (.seq
            (.reg [⟨(some 70), none, [], [], .ld true 4 (.t 9)⟩,
              ⟨none, none, [], [], .sto 4 (.t 4) (.t 70)⟩] (some [4]))
            .ret))))))))))
theorem b80 : cmpG Try.prog 80 = some (strip a80, r80, 71) := by kernel_rfl


end Go.Proofs.Ytdjjibmjinllnaa.Cod
