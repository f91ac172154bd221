import Derived.Test.YtnfgnafphfddhaaProg
import Derived.Test.YtnfgnafphfddhaaSimD
import Derived.KernelRfl
namespace Go.Proofs.Ytnfgnafphfddhaa.Cod
open Go Go.Sim Go.Proofs
set_option maxRecDepth 100000
abbrev r8 : List AR := [.t 4]
abbrev a8 : ACode :=
  (.seq
   (.reg [⟨(some 4), none, [], [], .mv (.k (.sc (.bool false)))⟩] (some [0, 1]))
   (.seq
    (.reg [⟨(some 8), none, [], [], .mv (.t 0)⟩,
      ⟨(some 9), none, [], [], .cal (.k (.fn 32 [])) [(.t 8)]⟩,
      ⟨(some 7), none, [], [], .mv (.t 9)⟩,
      ⟨(some 10), none, [], [], .ext (.t 7) 0⟩,
      ⟨(some 11), none, [], [], .ext (.t 7) 1⟩,
      ⟨(some 5), none, [], [], .alc [.nl]⟩,
      ⟨(some 6), none, [], [], .alc [.nl, (.sc (.int .i64 (0)))]⟩,
      ⟨none, none, [], [], .sto 1 (.t 5) (.t 10)⟩,
      ⟨none, none, [], [], .sto 2 (.t 6) (.t 11)⟩] (some [1, 5, 6]))
    (.seq
     (.regD (⟨(some 12), none, [(.t 5)], [], .ld true 1 (.t 5)⟩ ::
       ⟨(some 13), none, [(.k (.fn 34 [])), (.t 12)], [], .cal (.k (.fn 34 [])) [(.t 12)]⟩ ::
       ⟨(some 14), none, [(.t 6)], [0, 1], .ld true 2 (.t 6)⟩ ::
       ⟨(some 15), none, [(.k (.fn 35 [])), (.t 14)], [], .cal (.k (.fn 35 [])) [(.t 14)]⟩ ::
       ⟨(some 16), none, [(.k (.fn 33 [])), (.t 13), (.t 15)], [], .cal (.k (.fn 33 [])) [(.t 13), (.t 15)]⟩ ::
       ⟨(some 17), none, [(.t 16)], [], .mv (.t 16)⟩ ::
       ⟨(some 18), (some (17, true)), [(.t 5)], [], .ld true 1 (.t 5)⟩ ::
       ⟨(some 19), (some (17, true)), [(.k (.fn 36 [])), (.t 18)], [], .cal (.k (.fn 36 [])) [(.t 18)]⟩ ::
       ⟨(some 20), (some (17, true)), [(.t 6)], [6, 7], .ld true 2 (.t 6)⟩ ::
       ⟨(some 21), (some (17, true)), [(.k (.fn 37 [])), (.t 20)], [], .cal (.k (.fn 37 [])) [(.t 20)]⟩ ::
       ⟨(some 22), (some (17, true)), [(.t 19), (.t 21)], [], .bin .eql false (.t 19) (.t 21)⟩ ::
       ⟨(some 23), none, [(.t 17), (.t 22), (.k (.sc (.bool false)))], [], .pick (.t 17) (.t 22) (.k (.sc (.bool false)))⟩ ::
       ⟨(some 24), none, [(.t 23)], [], .mv (.t 23)⟩ ::
       ⟨(some 25), (some (24, true)), [(.t 5)], [], .ld true 1 (.t 5)⟩ ::
       ⟨(some 26), (some (24, true)), [(.t 1)], [13], .mv (.t 1)⟩ ::
       ⟨(some 27), (some (24, true)), [(.k (.fn 38 [])), (.t 25), (.t 26)], [], .cal (.k (.fn 38 [])) [(.t 25), (.t 26)]⟩ ::
       ⟨(some 28), (some (24, true)), [(.t 6)], [13, 14, 15], .ld true 2 (.t 6)⟩ ::
       ⟨(some 29), (some (24, true)), [(.t 1)], [13, 14, 15, 16], .mv (.t 1)⟩ ::
       ⟨(some 30), (some (24, true)), [(.k (.fn 39 [])), (.t 28), (.t 29)], [], .cal (.k (.fn 39 [])) [(.t 28), (.t 29)]⟩ ::
       ⟨(some 31), (some (24, true)), [(.t 27), (.t 30)], [], .bin .eql true (.t 27) (.t 30)⟩ ::
       ⟨(some 32), none, [(.t 24), (.t 31), (.k (.sc (.bool false)))], [], .pick (.t 24) (.t 31) (.k (.sc (.bool false)))⟩ ::
       ⟨(some 33), none, [(.t 32)], [], .mv (.t 32)⟩ ::
       ⟨(some 34), (some (33, true)), [(.t 5)], [], .ld true 1 (.t 5)⟩ ::
       ⟨(some 35), (some (33, true)), [(.t 1)], [22], .mv (.t 1)⟩ ::
       ⟨(some 36), (some (33, true)), [(.k (.fn 40 [])), (.t 34), (.t 35)], [], .cal (.k (.fn 40 [])) [(.t 34), (.t 35)]⟩ ::
       ⟨(some 37), (some (33, true)), [(.t 6)], [22, 23, 24], .ld true 2 (.t 6)⟩ ::
       ⟨(some 38), (some (33, true)), [(.t 1)], [22, 23, 24, 25], .mv (.t 1)⟩ ::
       ⟨(some 39), (some (33, true)), [(.k (.fn 41 [])), (.t 37), (.t 38)], [], .cal (.k (.fn 41 [])) [(.t 37), (.t 38)]⟩ ::
       ⟨(some 40), (some (33, true)), [(.t 36), (.t 39)], [], .bin .eql false (.t 36) (.t 39)⟩ ::
       ⟨(some 41), none, [(.t 33), (.t 40), (.k (.sc (.bool false)))], [], .pick (.t 33) (.t 40) (.k (.sc (.bool false)))⟩ ::
       ⟨(some 42), none, [(.t 41)], [], .mv (.t 41)⟩ ::
       ⟨(some 43), (some (42, true)), [(.k (.fn 42 []))], [], .cal (.k (.fn 42 [])) []⟩ ::
       ⟨(some 44), none, [(.t 42), (.t 43), (.k (.sc (.bool false)))], [], .pick (.t 42) (.t 43) (.k (.sc (.bool false)))⟩ ::
       ⟨(some 4), none, [(.t 44)], [], .mv (.t 44)⟩ :: []) (some [4]))
     .ret)))
theorem b8 : cmpG Try.prog 8 = some (strip a8, r8, 45) := by kernel_rfl

abbrev r9 : List AR := [.t 4]
abbrev a9 : ACode :=
  (.seq
   (.reg [⟨(some 3), none, [], [], .box (.t 1)⟩,
     ⟨(some 4), none, [], [], .mv (.k (.sc (.bool false)))⟩] (some [0, 3]))
   (.seq
    (.reg [⟨(some 15), none, [], [], .mv (.t 0)⟩,
      ⟨(some 16), none, [], [], .mv (.t 0)⟩,
      ⟨(some 17), none, [], [], .lenL (.t 16)⟩,
      ⟨(some 18), none, [], [], .mn [(.t 17), (.k (.sc (.int .i64 (30))))]⟩,
      ⟨(some 19), none, [], [], .slL 2 none (some (.t 18)) none (.t 15)⟩,
      ⟨(some 0), none, [], [], .mv (.t 19)⟩] (some [0, 3]))
    (.seq
     (.reg [⟨(some 20), none, [], [], .bld [.nl] []⟩,
       ⟨(some 21), none, [], [], .bld [.nl] []⟩,
       ⟨(some 5), none, [], [], .alc [.nl]⟩,
       ⟨(some 6), none, [], [], .alc [.nl]⟩,
       ⟨none, none, [], [], .sto 1 (.t 5) (.t 20)⟩,
       ⟨none, none, [], [], .sto 1 (.t 6) (.t 21)⟩] (some [0, 3, 5, 6]))
     (.seq
      (.seq
       (.reg [⟨(some 22), none, [], [], .mv (.t 0)⟩,
         ⟨(some 23), none, [], [], .lenL (.t 22)⟩,
         ⟨(some 24), none, [], [], .mv (.k (.sc (.int .i64 (0))))⟩] (some [0, 3, 5, 6, 23, 24]))
       (.block 0
        (.loop
         (.seq
          (.reg [⟨(some 25), none, [], [], .bin .lss false (.t 24) (.t 23)⟩] none)
          (.seq
           (.cond (.t 25)
            (.keep [0, 3, 5, 6, 23, 24]
             .skip)
            (.exit 0))
           (.seq
            (.block 1
             (.seq
              (.reg [⟨(some 26), none, [], [], .mv (.t 24)⟩,
                ⟨(some 7), none, [], [], .mv (.t 26)⟩] (some [0, 3, 5, 6, 7, 23, 24]))
              (.seq
               (.regD [⟨(some 27), none, [(.t 5)], [], .ld true 1 (.t 5)⟩,
                 ⟨(some 28), none, [(.t 0)], [0], .mv (.t 0)⟩,
                 ⟨(some 29), none, [(.t 7)], [0, 1], .mv (.t 7)⟩,
                 ⟨(some 30), none, [(.t 28), (.t 29)], [0], .ixaS 2 (.t 28) (.t 29)⟩,
                 ⟨(some 31), none, [(.t 30)], [0], .fa 0 (.t 30)⟩,
                 ⟨(some 32), none, [(.t 31)], [0], .ld false 1 (.t 31)⟩,
                 ⟨(some 33), none, [(.t 0)], [0, 1, 2, 3, 4, 5], .mv (.t 0)⟩,
                 ⟨(some 34), none, [(.t 7)], [0, 1, 2, 3, 4, 5, 6], .mv (.t 7)⟩,
                 ⟨(some 35), none, [(.t 33), (.t 34)], [0, 1, 2, 3, 4, 5], .ixaS 2 (.t 33) (.t 34)⟩,
                 ⟨(some 36), none, [(.t 35)], [0, 1, 2, 3, 4, 5], .fa 1 (.t 35)⟩,
                 ⟨(some 37), none, [(.t 36)], [0, 1, 2, 3, 4, 5], .ld false 1 (.t 36)⟩,
                 ⟨(some 38), none, [(.k (.fn 43 [])), (.t 27), (.t 32), (.t 37)], [], .cal (.k (.fn 43 [])) [(.t 27), (.t 32), (.t 37)]⟩,
                 ⟨none, none, [(.t 5), (.t 38)], [], .sto 1 (.t 5) (.t 38)⟩] (some [0, 3, 5, 6, 7, 23, 24]))
               (.seq
                (.reg [⟨(some 39), none, [], [], .mv (.t 0)⟩,
                  ⟨(some 40), none, [], [], .lenL (.t 39)⟩,
                  ⟨(some 41), none, [], [], .bin .sub false (.t 40) (.k (.sc (.int .i64 (1))))⟩,
                  ⟨(some 42), none, [], [], .mv (.t 7)⟩,
                  ⟨(some 43), none, [], [], .bin .sub false (.t 41) (.t 42)⟩,
                  ⟨(some 8), none, [], [], .mv (.t 43)⟩] (some [0, 3, 5, 6, 8, 23, 24]))
                (.regD [⟨(some 44), none, [(.t 6)], [], .ld true 1 (.t 6)⟩,
                  ⟨(some 45), none, [(.t 0)], [0], .mv (.t 0)⟩,
                  ⟨(some 46), none, [(.t 8)], [0, 1], .mv (.t 8)⟩,
                  ⟨(some 47), none, [(.t 45), (.t 46)], [0], .ixaS 2 (.t 45) (.t 46)⟩,
                  ⟨(some 48), none, [(.t 47)], [0], .fa 0 (.t 47)⟩,
                  ⟨(some 49), none, [(.t 48)], [0], .ld false 1 (.t 48)⟩,
                  ⟨(some 50), none, [(.t 0)], [0, 1, 2, 3, 4, 5], .mv (.t 0)⟩,
                  ⟨(some 51), none, [(.t 8)], [0, 1, 2, 3, 4, 5, 6], .mv (.t 8)⟩,
                  ⟨(some 52), none, [(.t 50), (.t 51)], [0, 1, 2, 3, 4, 5], .ixaS 2 (.t 50) (.t 51)⟩,
                  ⟨(some 53), none, [(.t 52)], [0, 1, 2, 3, 4, 5], .fa 1 (.t 52)⟩,
                  ⟨(some 54), none, [(.t 53)], [0, 1, 2, 3, 4, 5], .ld false 1 (.t 53)⟩,
                  ⟨(some 55), none, [(.k (.fn 43 [])), (.t 44), (.t 49), (.t 54)], [], .cal (.k (.fn 43 [])) [(.t 44), (.t 49), (.t 54)]⟩,
                  ⟨none, none, [(.t 6), (.t 55)], [], .sto 1 (.t 6) (.t 55)⟩] (some [0, 3, 5, 6, 23, 24]))))))
            (.reg [⟨(some 56), none, [], [], .bin .add false (.t 24) (.k (.sc (.int .i64 (1))))⟩,
              ⟨(some 24), none, [], [], .mv (.t 56)⟩] (some [0, 3, 5, 6, 23, 24]))))))))
      (.seq
       (.regD [⟨(some 57), none, [(.t 5)], [], .ld true 1 (.t 5)⟩,
         ⟨(some 58), none, [(.k (.fn 34 [])), (.t 57)], [], .cal (.k (.fn 34 [])) [(.t 57)]⟩,
         ⟨(some 59), none, [(.t 6)], [0, 1], .ld true 1 (.t 6)⟩,
         ⟨(some 60), none, [(.k (.fn 34 [])), (.t 59)], [], .cal (.k (.fn 34 [])) [(.t 59)]⟩,
         ⟨(some 9), none, [(.t 58)], [], .mv (.t 58)⟩,
         ⟨(some 10), none, [(.t 60)], [], .mv (.t 60)⟩] (some [3, 5, 9, 10]))
       (.seq
        (.seq
         (.reg [⟨(some 61), none, [], [], .mv (.t 9)⟩,
           ⟨(some 62), none, [], [], .lenL (.t 61)⟩,
           ⟨(some 63), none, [], [], .mv (.t 10)⟩,
           ⟨(some 64), none, [], [], .lenL (.t 63)⟩,
           ⟨(some 65), none, [], [], .bin .neq false (.t 62) (.t 64)⟩] (some [3, 5, 9, 10, 65]))
         (.cond (.t 65)
          (.keep []
           (.seq
            (.reg [⟨(some 4), none, [], [], .mv (.k (.sc (.bool false)))⟩] none)
            .ret))
          (.keep [3, 5, 9, 10]
           .skip)))
        (.seq
         (.reg [⟨(some 66), none, [], [], .ld true 1 (.t 5)⟩,
           ⟨(some 67), none, [], [], .fa 0 (.t 3)⟩,
           ⟨(some 68), none, [], [], .ld false 1 (.t 67)⟩,
           ⟨(some 69), none, [], [], .fa 1 (.t 3)⟩,
           ⟨(some 70), none, [], [], .ld false 1 (.t 69)⟩,
           ⟨(some 71), none, [], [], .cal (.k (.fn 43 [])) [(.t 66), (.t 68), (.t 70)]⟩,
           ⟨(some 11), none, [], [], .alc [.nl]⟩,
           ⟨none, none, [], [], .sto 1 (.t 11) (.t 71)⟩] (some [3, 5, 9, 10, 11]))
         (.seq
          (.reg [⟨(some 72), none, [], [], .ld true 1 (.t 5)⟩,
            ⟨(some 73), none, [], [], .fa 0 (.t 3)⟩,
            ⟨(some 74), none, [], [], .ld false 1 (.t 73)⟩,
            ⟨(some 75), none, [], [], .cal (.k (.fn 44 [])) [(.t 72), (.t 74)]⟩,
            ⟨(some 12), none, [], [], .alc [.nl]⟩,
            ⟨none, none, [], [], .sto 1 (.t 12) (.t 75)⟩] (some [3, 5, 9, 10, 11, 12]))
          (.seq
           (.reg [⟨(some 76), none, [], [], .ld true 1 (.t 5)⟩,
             ⟨(some 77), none, [], [], .cal (.k (.fn 34 [])) [(.t 76)]⟩,
             ⟨(some 13), none, [], [], .mv (.t 77)⟩] (some [3, 5, 9, 10, 11, 12, 13]))
           (.seq
            (.seq
             (.regD (⟨(some 78), none, [(.t 13)], [], .mv (.t 13)⟩ ::
               ⟨(some 79), none, [(.t 78)], [], .lenL (.t 78)⟩ ::
               ⟨(some 80), none, [(.t 9)], [0, 1], .mv (.t 9)⟩ ::
               ⟨(some 81), none, [(.t 80)], [0, 1], .lenL (.t 80)⟩ ::
               ⟨(some 82), none, [(.t 79), (.t 81)], [], .bin .neq false (.t 79) (.t 81)⟩ ::
               ⟨(some 83), none, [(.t 82)], [], .mv (.t 82)⟩ ::
               ⟨(some 84), (some (83, false)), [(.t 11)], [], .ld true 1 (.t 11)⟩ ::
               ⟨(some 85), (some (83, false)), [(.k (.fn 36 [])), (.t 84)], [], .cal (.k (.fn 36 [])) [(.t 84)]⟩ ::
               ⟨(some 86), (some (83, false)), [(.t 5)], [6, 7], .ld true 1 (.t 5)⟩ ::
               ⟨(some 87), (some (83, false)), [(.k (.fn 36 [])), (.t 86)], [], .cal (.k (.fn 36 [])) [(.t 86)]⟩ ::
               ⟨(some 88), (some (83, false)), [(.t 85), (.t 87)], [], .bin .lss false (.t 85) (.t 87)⟩ ::
               ⟨(some 89), none, [(.t 83), (.k (.sc (.bool true))), (.t 88)], [], .pick (.t 83) (.k (.sc (.bool true))) (.t 88)⟩ ::
               ⟨(some 90), none, [(.t 89)], [], .mv (.t 89)⟩ ::
               ⟨(some 91), (some (90, false)), [(.t 12)], [], .ld true 1 (.t 12)⟩ ::
               ⟨(some 92), (some (90, false)), [(.k (.fn 36 [])), (.t 91)], [], .cal (.k (.fn 36 [])) [(.t 91)]⟩ ::
               ⟨(some 93), (some (90, false)), [(.t 5)], [13, 14], .ld true 1 (.t 5)⟩ ::
               ⟨(some 94), (some (90, false)), [(.k (.fn 36 [])), (.t 93)], [], .cal (.k (.fn 36 [])) [(.t 93)]⟩ ::
               ⟨(some 95), (some (90, false)), [(.t 92), (.t 94)], [], .bin .gtr false (.t 92) (.t 94)⟩ ::
               ⟨(some 96), none, [(.t 90), (.k (.sc (.bool true))), (.t 95)], [], .pick (.t 90) (.k (.sc (.bool true))) (.t 95)⟩ ::
               ⟨(some 97), none, [(.t 96)], [], .mv (.t 96)⟩ ::
               ⟨(some 98), (some (97, false)), [(.t 11)], [], .ld true 1 (.t 11)⟩ ::
               ⟨(some 99), (some (97, false)), [(.t 3)], [20], .fa 0 (.t 3)⟩ ::
               ⟨(some 100), (some (97, false)), [(.t 99)], [20], .ld false 1 (.t 99)⟩ ::
               ⟨(some 101), (some (97, false)), [(.t 3)], [20, 21, 22], .fa 1 (.t 3)⟩ ::
               ⟨(some 102), (some (97, false)), [(.t 101)], [20, 21, 22], .ld false 1 (.t 101)⟩ ::
               ⟨(some 103), (some (97, false)), [(.k (.fn 45 [])), (.t 98), (.t 100), (.t 102)], [], .cal (.k (.fn 45 [])) [(.t 98), (.t 100), (.t 102)]⟩ ::
               ⟨(some 104), (some (97, false)), [(.t 103)], [], .un .not (.t 103)⟩ ::
               ⟨(some 105), none, [(.t 97), (.k (.sc (.bool true))), (.t 104)], [], .pick (.t 97) (.k (.sc (.bool true))) (.t 104)⟩ :: []) (some [5, 9, 10, 13, 105]))
             (.cond (.t 105)
              (.keep []
               (.seq
                (.reg [⟨(some 4), none, [], [], .mv (.k (.sc (.bool false)))⟩] none)
                .ret))
              (.keep [5, 9, 10, 13]
               .skip)))
            (.seq
             (.seq
              (.reg [⟨(some 106), none, [], [], .mv (.t 9)⟩,
                ⟨(some 107), none, [], [], .lenL (.t 106)⟩,
                ⟨(some 108), none, [], [], .mv (.k (.sc (.int .i64 (0))))⟩] (some [5, 9, 10, 13, 107, 108]))
              (.block 2
               (.loop
                (.seq
                 (.reg [⟨(some 109), none, [], [], .bin .lss false (.t 108) (.t 107)⟩] none)
                 (.seq
                  (.cond (.t 109)
                   (.keep [5, 9, 10, 13, 107, 108]
                    .skip)
                   (.exit 2))
                  (.seq
                   (.block 3
                    (.seq
                     (.reg [⟨(some 110), none, [], [], .mv (.t 108)⟩,
                       ⟨(some 14), none, [], [], .mv (.t 110)⟩] (some [5, 9, 10, 13, 14, 107, 108]))
                     (.seq
                      (.regD (⟨(some 111), none, [(.t 9)], [], .mv (.t 9)⟩ ::
                        ⟨(some 112), none, [(.t 14)], [0], .mv (.t 14)⟩ ::
                        ⟨(some 113), none, [(.t 111), (.t 112)], [], .ixaS 2 (.t 111) (.t 112)⟩ ::
                        ⟨(some 114), none, [(.t 113)], [], .ld true 2 (.t 113)⟩ ::
                        ⟨(some 115), none, [(.t 10)], [0, 1, 2, 3], .mv (.t 10)⟩ ::
                        ⟨(some 116), none, [(.t 14)], [0, 1, 2, 3, 4], .mv (.t 14)⟩ ::
                        ⟨(some 117), none, [(.t 115), (.t 116)], [0, 1, 2, 3], .ixaS 2 (.t 115) (.t 116)⟩ ::
                        ⟨(some 118), none, [(.t 117)], [0, 1, 2, 3], .ld true 2 (.t 117)⟩ ::
                        ⟨(some 119), none, [(.t 114), (.t 118)], [], .aeq true 2 [.i, .i] (.t 114) (.t 118)⟩ ::
                        ⟨(some 120), none, [(.t 119)], [], .mv (.t 119)⟩ ::
                        ⟨(some 121), (some (120, false)), [(.t 9)], [], .mv (.t 9)⟩ ::
                        ⟨(some 122), (some (120, false)), [(.t 14)], [10], .mv (.t 14)⟩ ::
                        ⟨(some 123), (some (120, false)), [(.t 121), (.t 122)], [], .ixaS 2 (.t 121) (.t 122)⟩ ::
                        ⟨(some 124), (some (120, false)), [(.t 123)], [], .ld true 2 (.t 123)⟩ ::
                        ⟨(some 125), (some (120, false)), [(.t 13)], [10, 11, 12, 13], .mv (.t 13)⟩ ::
                        ⟨(some 126), (some (120, false)), [(.t 14)], [10, 11, 12, 13, 14], .mv (.t 14)⟩ ::
                        ⟨(some 127), (some (120, false)), [(.t 125), (.t 126)], [10, 11, 12, 13], .ixaS 2 (.t 125) (.t 126)⟩ ::
                        ⟨(some 128), (some (120, false)), [(.t 127)], [10, 11, 12, 13], .ld true 2 (.t 127)⟩ ::
                        ⟨(some 129), (some (120, false)), [(.t 124), (.t 128)], [], .aeq true 2 [.i, .i] (.t 124) (.t 128)⟩ ::
                        ⟨(some 130), none, [(.t 120), (.k (.sc (.bool true))), (.t 129)], [], .pick (.t 120) (.k (.sc (.bool true))) (.t 129)⟩ ::
                        ⟨(some 131), none, [(.t 130)], [], .mv (.t 130)⟩ ::
                        ⟨(some 132), (some (131, false)), [(.t 9)], [], .mv (.t 9)⟩ ::
                        ⟨(some 133), (some (131, false)), [(.t 14)], [21], .mv (.t 14)⟩ ::
                        ⟨(some 134), (some (131, false)), [(.t 132), (.t 133)], [], .ixaS 2 (.t 132) (.t 133)⟩ ::
                        ⟨(some 135), (some (131, false)), [(.t 134)], [], .fa 0 (.t 134)⟩ ::
                        ⟨(some 136), (some (131, false)), [(.t 135)], [], .ld false 1 (.t 135)⟩ ::
                        ⟨(some 137), (some (131, false)), [(.t 9)], [21, 22, 23, 24, 25], .mv (.t 9)⟩ ::
                        ⟨(some 138), (some (131, false)), [(.t 14)], [21, 22, 23, 24, 25, 26], .mv (.t 14)⟩ ::
                        ⟨(some 139), (some (131, false)), [(.t 137), (.t 138)], [21, 22, 23, 24, 25], .ixaS 2 (.t 137) (.t 138)⟩ ::
                        ⟨(some 140), (some (131, false)), [(.t 139)], [21, 22, 23, 24, 25], .fa 1 (.t 139)⟩ ::
                        ⟨(some 141), (some (131, false)), [(.t 140)], [21, 22, 23, 24, 25], .ld false 1 (.t 140)⟩ ::
                        ⟨(some 142), (some (131, false)), [(.t 136), (.t 141)], [], .bin .geq false (.t 136) (.t 141)⟩ ::
                        ⟨(some 143), none, [(.t 131), (.k (.sc (.bool true))), (.t 142)], [], .pick (.t 131) (.k (.sc (.bool true))) (.t 142)⟩ ::
                        ⟨(some 144), none, [(.t 143)], [], .mv (.t 143)⟩ ::
                        ⟨(some 145), (some (144, false)), [(.t 14)], [], .mv (.t 14)⟩ ::
                        ⟨(some 146), (some (144, false)), [(.t 145), (.k (.sc (.int .i64 (0))))], [], .bin .gtr false (.t 145) (.k (.sc (.int .i64 (0))))⟩ ::
                        ⟨(some 147), (some (144, false)), [(.t 146)], [], .mv (.t 146)⟩ ::
                        ⟨(some 148), (some (147, true)), [(.t 9)], [], .mv (.t 9)⟩ ::
                        ⟨(some 149), (some (147, true)), [(.t 14)], [37], .mv (.t 14)⟩ ::
                        ⟨(some 150), (some (147, true)), [(.t 149), (.k (.sc (.int .i64 (1))))], [37], .bin .sub false (.t 149) (.k (.sc (.int .i64 (1))))⟩ ::
                        ⟨(some 151), (some (147, true)), [(.t 148), (.t 150)], [], .ixaS 2 (.t 148) (.t 150)⟩ ::
                        ⟨(some 152), (some (147, true)), [(.t 151)], [], .fa 1 (.t 151)⟩ ::
                        ⟨(some 153), (some (147, true)), [(.t 152)], [], .ld false 1 (.t 152)⟩ ::
                        ⟨(some 154), (some (147, true)), [(.t 9)], [37, 38, 39, 40, 41, 42], .mv (.t 9)⟩ ::
                        ⟨(some 155), (some (147, true)), [(.t 14)], [37, 38, 39, 40, 41, 42, 43], .mv (.t 14)⟩ ::
                        ⟨(some 156), (some (147, true)), [(.t 154), (.t 155)], [37, 38, 39, 40, 41, 42], .ixaS 2 (.t 154) (.t 155)⟩ ::
                        ⟨(some 157), (some (147, true)), [(.t 156)], [37, 38, 39, 40, 41, 42], .fa 0 (.t 156)⟩ ::
                        ⟨(some 158), (some (147, true)), [(.t 157)], [37, 38, 39, 40, 41, 42], .ld false 1 (.t 157)⟩ ::
                        ⟨(some 159), (some (147, true)), [(.t 153), (.t 158)], [], .bin .geq false (.t 153) (.t 158)⟩ ::
                        ⟨(some 160), (some (144, false)), [(.t 147), (.t 159), (.k (.sc (.bool false)))], [], .pick (.t 147) (.t 159) (.k (.sc (.bool false)))⟩ ::
                        ⟨(some 161), none, [(.t 144), (.k (.sc (.bool true))), (.t 160)], [], .pick (.t 144) (.k (.sc (.bool true))) (.t 160)⟩ ::
                        ⟨(some 162), none, [(.t 161)], [], .mv (.t 161)⟩ ::
                        ⟨(some 163), (some (162, false)), [(.t 5)], [], .ld true 1 (.t 5)⟩ ::
                        ⟨(some 164), (some (162, false)), [(.t 9)], [52], .mv (.t 9)⟩ ::
                        ⟨(some 165), (some (162, false)), [(.t 14)], [52, 53], .mv (.t 14)⟩ ::
                        ⟨(some 166), (some (162, false)), [(.t 164), (.t 165)], [52], .ixaS 2 (.t 164) (.t 165)⟩ ::
                        ⟨(some 167), (some (162, false)), [(.t 166)], [52], .fa 0 (.t 166)⟩ ::
                        ⟨(some 168), (some (162, false)), [(.t 167)], [52], .ld false 1 (.t 167)⟩ ::
                        ⟨(some 169), (some (162, false)), [(.t 9)], [52, 53, 54, 55, 56, 57], .mv (.t 9)⟩ ::
                        ⟨(some 170), (some (162, false)), [(.t 14)], [52, 53, 54, 55, 56, 57, 58], .mv (.t 14)⟩ ::
                        ⟨(some 171), (some (162, false)), [(.t 169), (.t 170)], [52, 53, 54, 55, 56, 57], .ixaS 2 (.t 169) (.t 170)⟩ ::
                        ⟨(some 172), (some (162, false)), [(.t 171)], [52, 53, 54, 55, 56, 57], .fa 1 (.t 171)⟩ ::
                        ⟨(some 173), (some (162, false)), [(.t 172)], [52, 53, 54, 55, 56, 57], .ld false 1 (.t 172)⟩ ::
                        ⟨(some 174), (some (162, false)), [(.k (.fn 45 [])), (.t 163), (.t 168), (.t 173)], [], .cal (.k (.fn 45 [])) [(.t 163), (.t 168), (.t 173)]⟩ ::
                        ⟨(some 175), (some (162, false)), [(.t 174)], [], .un .not (.t 174)⟩ ::
                        ⟨(some 176), none, [(.t 162), (.k (.sc (.bool true))), (.t 175)], [], .pick (.t 162) (.k (.sc (.bool true))) (.t 175)⟩ ::
                        ⟨(some 177), none, [(.t 176)], [], .mv (.t 176)⟩ ::
                        ⟨(some 178), (some (177, false)), [(.t 5)], [], .ld true 1 (.t 5)⟩ ::
                        ⟨(some 179), (some (177, false)), [(.t 9)], [67], .mv (.t 9)⟩ ::
                        ⟨(some 180), (some (177, false)), [(.t 14)], [67, 68], .mv (.t 14)⟩ ::
                        ⟨(some 181), (some (177, false)), [(.t 179), (.t 180)], [67], .ixaS 2 (.t 179) (.t 180)⟩ ::
                        ⟨(some 182), (some (177, false)), [(.t 181)], [67], .fa 1 (.t 181)⟩ ::
                        ⟨(some 183), (some (177, false)), [(.t 182)], [67], .ld false 1 (.t 182)⟩ ::
                        ⟨(some 184), (some (177, false)), [(.k (.fn 38 [])), (.t 178), (.t 183)], [], .cal (.k (.fn 38 [])) [(.t 178), (.t 183)]⟩ ::
                        ⟨(some 185), none, [(.t 177), (.k (.sc (.bool true))), (.t 184)], [], .pick (.t 177) (.k (.sc (.bool true))) (.t 184)⟩ :: []) (some [5, 9, 10, 13, 107, 108, 185]))
                      (.cond (.t 185)
                       (.keep []
                        (.seq
                         (.reg [⟨(some 4), none, [], [], .mv (.k (.sc (.bool false)))⟩] none)
                         .ret))
                       (.keep [5, 9, 10, 13, 107, 108]
                        .skip)))))
                   (.reg [⟨(some 186), none, [], [], .bin .add false (.t 108) (.k (.sc (.int .i64 (1))))⟩,
                     ⟨(some 108), none, [], [], .mv (.t 186)⟩] (some [5, 9, 10, 13, 107, 108]))))))))
             (.seq
              (.reg [⟨(some 187), none, [], [], .cal (.k (.fn 42 [])) []⟩,
                ⟨(some 4), none, [], [], .mv (.t 187)⟩] (some [4]))
              .ret))))))))))))
theorem b9 : cmpG Try.prog 9 = some (strip a9, r9, 188) := by kernel_rfl

abbrev r10 : List AR := [.t 4]
abbrev a10 : ACode :=
  (.seq
   (.reg [⟨(some 3), none, [], [], .box (.t 1)⟩,
     ⟨(some 4), none, [], [], .mv (.k (.sc (.bool false)))⟩] (some [0, 3]))
   (.seq
    (.reg [⟨(some 13), none, [], [], .mv (.t 0)⟩,
      ⟨(some 14), none, [], [], .cal (.k (.fn 32 [])) [(.t 13)]⟩,
      ⟨(some 12), none, [], [], .mv (.t 14)⟩,
      ⟨(some 15), none, [], [], .ext (.t 12) 0⟩,
      ⟨(some 16), none, [], [], .ext (.t 12) 1⟩,
      ⟨(some 5), none, [], [], .alc [.nl]⟩,
      ⟨(some 6), none, [], [], .alc [.nl, (.sc (.int .i64 (0)))]⟩,
      ⟨none, none, [], [], .sto 1 (.t 5) (.t 15)⟩,
      ⟨none, none, [], [], .sto 2 (.t 6) (.t 16)⟩] (some [3, 5]))
    (.seq
     (.regD [⟨(some 17), none, [(.t 3)], [], .fa 0 (.t 3)⟩,
       ⟨(some 18), none, [(.t 17)], [], .ld false 1 (.t 17)⟩,
       ⟨(some 19), none, [(.t 18), (.k (.sc (.int .i64 (0))))], [], .mx [(.t 18), (.k (.sc (.int .i64 (0))))]⟩,
       ⟨(some 20), none, [(.t 19), (.k (.sc (.int .i64 (4611686018427387904))))], [], .mn [(.t 19), (.k (.sc (.int .i64 (4611686018427387904))))]⟩,
       ⟨(some 21), none, [(.t 3)], [0, 1, 2, 3], .fa 1 (.t 3)⟩,
       ⟨(some 22), none, [(.t 21)], [0, 1, 2, 3], .ld false 1 (.t 21)⟩,
       ⟨(some 23), none, [(.t 22), (.k (.sc (.int .i64 (0))))], [0, 1, 2, 3], .mx [(.t 22), (.k (.sc (.int .i64 (0))))]⟩,
       ⟨(some 24), none, [(.t 23), (.k (.sc (.int .i64 (4611686018427387904))))], [0, 1, 2, 3], .mn [(.t 23), (.k (.sc (.int .i64 (4611686018427387904))))]⟩,
       ⟨(some 7), none, [(.t 20)], [4, 5, 6, 7], .mv (.t 20)⟩,
       ⟨(some 8), none, [(.t 24)], [], .mv (.t 24)⟩] (some [3, 5, 7, 8]))
     (.seq
      (.reg [⟨(some 25), none, [], [], .mv (.t 7)⟩,
        ⟨(some 9), none, [], [], .mv (.t 25)⟩] (some [3, 5, 8, 9]))
      (.seq
       (.seq
        (.reg [⟨(some 26), none, [], [], .ld true 1 (.t 5)⟩,
          ⟨(some 27), none, [], [], .fa 0 (.t 3)⟩,
          ⟨(some 28), none, [], [], .ld false 1 (.t 27)⟩,
          ⟨(some 29), none, [], [], .fa 1 (.t 3)⟩,
          ⟨(some 30), none, [], [], .ld false 1 (.t 29)⟩,
          ⟨(some 31), none, [], [], .cal (.k (.fn 46 [])) [(.t 26), (.t 28), (.t 30)]⟩,
          ⟨(some 32), none, [], [], .lenL (.t 31)⟩,
          ⟨(some 33), none, [], [], .mv (.k (.sc (.int .i64 (0))))⟩] (some [3, 5, 8, 9, 31, 32, 33]))
        (.block 0
         (.loop
          (.seq
           (.reg [⟨(some 34), none, [], [], .bin .lss false (.t 33) (.t 32)⟩] none)
           (.seq
            (.cond (.t 34)
             (.keep [3, 5, 8, 9, 31, 32, 33]
              .skip)
             (.exit 0))
            (.seq
             (.block 1
              (.seq
               (.reg [⟨(some 35), none, [], [], .ixaS 2 (.t 31) (.t 33)⟩,
                 ⟨(some 36), none, [], [], .ld true 2 (.t 35)⟩,
                 ⟨(some 11), none, [], [], .alc [(.sc (.int .i64 (0))), (.sc (.int .i64 (0)))]⟩,
                 ⟨none, none, [], [], .sto 2 (.t 11) (.t 36)⟩] (some [3, 5, 8, 9, 11, 31, 32, 33]))
               (.seq
                (.seq
                 (.reg (⟨(some 37), none, [], [], .fa 0 (.t 11)⟩ ::
                   ⟨(some 38), none, [], [], .ld false 1 (.t 37)⟩ ::
                   ⟨(some 39), none, [], [], .mv (.t 9)⟩ ::
                   ⟨(some 40), none, [], [], .bin .lss false (.t 38) (.t 39)⟩ ::
                   ⟨(some 41), none, [], [], .mv (.t 40)⟩ ::
                   ⟨(some 42), (some (41, false)), [], [], .fa 1 (.t 11)⟩ ::
                   ⟨(some 43), (some (41, false)), [], [], .ld false 1 (.t 42)⟩ ::
                   ⟨(some 44), (some (41, false)), [], [], .fa 0 (.t 11)⟩ ::
                   ⟨(some 45), (some (41, false)), [], [], .ld false 1 (.t 44)⟩ ::
                   ⟨(some 46), (some (41, false)), [], [], .bin .leq false (.t 43) (.t 45)⟩ ::
                   ⟨(some 47), none, [], [], .pick (.t 41) (.k (.sc (.bool true))) (.t 46)⟩ ::
                   ⟨(some 48), none, [], [], .mv (.t 47)⟩ ::
                   ⟨(some 49), (some (48, false)), [], [], .fa 1 (.t 11)⟩ ::
                   ⟨(some 50), (some (48, false)), [], [], .ld false 1 (.t 49)⟩ ::
                   ⟨(some 51), (some (48, false)), [], [], .mv (.t 8)⟩ ::
                   ⟨(some 52), (some (48, false)), [], [], .bin .gtr false (.t 50) (.t 51)⟩ ::
                   ⟨(some 53), none, [], [], .pick (.t 48) (.k (.sc (.bool true))) (.t 52)⟩ ::
                   ⟨(some 54), none, [], [], .mv (.t 53)⟩ ::
                   ⟨(some 55), (some (54, false)), [], [], .fa 0 (.t 11)⟩ ::
                   ⟨(some 56), (some (54, false)), [], [], .ld false 1 (.t 55)⟩ ::
                   ⟨(some 57), (some (54, false)), [], [], .mv (.t 9)⟩ ::
                   ⟨(some 58), (some (54, false)), [], [], .bin .gtr false (.t 56) (.t 57)⟩ ::
                   ⟨(some 59), (some (54, false)), [], [], .mv (.t 58)⟩ ::
                   ⟨(some 60), (some (59, true)), [], [], .ld true 1 (.t 5)⟩ ::
                   ⟨(some 61), (some (59, true)), [], [], .mv (.t 9)⟩ ::
                   ⟨(some 62), (some (59, true)), [], [], .fa 0 (.t 11)⟩ ::
                   ⟨(some 63), (some (59, true)), [], [], .ld false 1 (.t 62)⟩ ::
                   ⟨(some 64), (some (59, true)), [], [], .cal (.k (.fn 45 [])) [(.t 60), (.t 61), (.t 63)]⟩ ::
                   ⟨(some 65), (some (59, true)), [], [], .un .not (.t 64)⟩ ::
                   ⟨(some 66), (some (54, false)), [], [], .pick (.t 59) (.t 65) (.k (.sc (.bool false)))⟩ ::
                   ⟨(some 67), none, [], [], .pick (.t 54) (.k (.sc (.bool true))) (.t 66)⟩ ::
                   ⟨(some 68), none, [], [], .mv (.t 67)⟩ ::
                   ⟨(some 69), (some (68, false)), [], [], .ld true 1 (.t 5)⟩ ::
                   ⟨(some 70), (some (68, false)), [], [], .fa 0 (.t 11)⟩ ::
                   ⟨(some 71), (some (68, false)), [], [], .ld false 1 (.t 70)⟩ ::
                   ⟨(some 72), (some (68, false)), [], [], .cal (.k (.fn 38 [])) [(.t 69), (.t 71)]⟩ ::
                   ⟨(some 73), none, [], [], .pick (.t 68) (.k (.sc (.bool true))) (.t 72)⟩ ::
                   ⟨(some 74), none, [], [], .mv (.t 73)⟩ ::
                   ⟨(some 75), (some (74, false)), [], [], .ld true 1 (.t 5)⟩ ::
                   ⟨(some 76), (some (74, false)), [], [], .fa 1 (.t 11)⟩ ::
                   ⟨(some 77), (some (74, false)), [], [], .ld false 1 (.t 76)⟩ ::
                   ⟨(some 78), (some (74, false)), [], [], .bin .sub false (.t 77) (.k (.sc (.int .i64 (1))))⟩ ::
                   ⟨(some 79), (some (74, false)), [], [], .cal (.k (.fn 38 [])) [(.t 75), (.t 78)]⟩ ::
                   ⟨(some 80), none, [], [], .pick (.t 74) (.k (.sc (.bool true))) (.t 79)⟩ :: []) (some [3, 5, 8, 11, 31, 32, 33, 80]))
                 (.cond (.t 80)
                  (.keep []
                   (.seq
                    (.reg [⟨(some 4), none, [], [], .mv (.k (.sc (.bool false)))⟩] none)
                    .ret))
                  (.keep [3, 5, 8, 11, 31, 32, 33]
                   .skip)))
                (.reg [⟨(some 81), none, [], [], .fa 1 (.t 11)⟩,
                  ⟨(some 82), none, [], [], .ld false 1 (.t 81)⟩,
                  ⟨(some 9), none, [], [], .mv (.t 82)⟩] (some [3, 5, 8, 9, 31, 32, 33])))))
             (.reg [⟨(some 83), none, [], [], .bin .add false (.t 33) (.k (.sc (.int .i64 (1))))⟩,
               ⟨(some 33), none, [], [], .mv (.t 83)⟩] (some [3, 5, 8, 9, 31, 32, 33]))))))))
       (.seq
        (.regD [⟨(some 84), none, [(.t 9)], [], .mv (.t 9)⟩,
          ⟨(some 85), none, [(.t 8)], [0], .mv (.t 8)⟩,
          ⟨(some 86), none, [(.t 84), (.t 85)], [], .bin .geq false (.t 84) (.t 85)⟩,
          ⟨(some 87), none, [(.t 86)], [], .mv (.t 86)⟩,
          ⟨(some 88), (some (87, false)), [(.t 5)], [], .ld true 1 (.t 5)⟩,
          ⟨(some 89), (some (87, false)), [(.t 9)], [4], .mv (.t 9)⟩,
          ⟨(some 90), (some (87, false)), [(.t 8)], [4, 5], .mv (.t 8)⟩,
          ⟨(some 91), (some (87, false)), [(.k (.fn 45 [])), (.t 88), (.t 89), (.t 90)], [], .cal (.k (.fn 45 [])) [(.t 88), (.t 89), (.t 90)]⟩,
          ⟨(some 92), none, [(.t 87), (.k (.sc (.bool true))), (.t 91)], [], .pick (.t 87) (.k (.sc (.bool true))) (.t 91)⟩,
          ⟨(some 93), none, [(.t 92)], [], .mv (.t 92)⟩,
          ⟨(some 94), (some (93, true)), [(.t 5)], [], .ld true 1 (.t 5)⟩,
          ⟨(some 95), (some (93, true)), [(.t 3)], [10], .fa 0 (.t 3)⟩,
          ⟨(some 96), (some (93, true)), [(.t 95)], [10], .ld false 1 (.t 95)⟩,
          ⟨(some 97), (some (93, true)), [(.k (.fn 44 [])), (.t 94), (.t 96)], [], .cal (.k (.fn 44 [])) [(.t 94), (.t 96)]⟩,
          ⟨(some 98), (some (93, true)), [(.k (.fn 36 [])), (.t 97)], [], .cal (.k (.fn 36 [])) [(.t 97)]⟩,
          ⟨(some 99), (some (93, true)), [(.t 5)], [10, 11, 12, 13, 14], .ld true 1 (.t 5)⟩,
          ⟨(some 100), (some (93, true)), [(.k (.fn 36 [])), (.t 99)], [], .cal (.k (.fn 36 [])) [(.t 99)]⟩,
          ⟨(some 101), (some (93, true)), [(.t 98), (.t 100)], [], .bin .leq false (.t 98) (.t 100)⟩,
          ⟨(some 102), none, [(.t 93), (.t 101), (.k (.sc (.bool false)))], [], .pick (.t 93) (.t 101) (.k (.sc (.bool false)))⟩,
          ⟨(some 103), none, [(.t 102)], [], .mv (.t 102)⟩,
          ⟨(some 104), (some (103, true)), [(.k (.fn 42 []))], [], .cal (.k (.fn 42 [])) []⟩,
          ⟨(some 105), none, [(.t 103), (.t 104), (.k (.sc (.bool false)))], [], .pick (.t 103) (.t 104) (.k (.sc (.bool false)))⟩,
          ⟨(some 4), none, [(.t 105)], [], .mv (.t 105)⟩] (some [4]))
        .ret))))))
theorem b10 : cmpG Try.prog 10 = some (strip a10, r10, 106) := by kernel_rfl

abbrev r11 : List AR := [.t 6]
abbrev a11 : ACode :=
  (.seq
   (.reg [⟨(some 4), none, [], [], .box (.t 1)⟩,
     ⟨(some 6), none, [], [], .mv (.k (.sc (.bool false)))⟩] (some [0, 2, 4]))
   (.seq
    (.reg [⟨(some 10), none, [], [], .mv (.t 0)⟩,
      ⟨(some 11), none, [], [], .cal (.k (.fn 32 [])) [(.t 10)]⟩,
      ⟨(some 9), none, [], [], .mv (.t 11)⟩,
      ⟨(some 12), none, [], [], .ext (.t 9) 0⟩,
      ⟨(some 13), none, [], [], .ext (.t 9) 1⟩,
      ⟨(some 7), none, [], [], .alc [.nl]⟩,
      ⟨(some 8), none, [], [], .alc [.nl, (.sc (.int .i64 (0)))]⟩,
      ⟨none, none, [], [], .sto 1 (.t 7) (.t 12)⟩,
      ⟨none, none, [], [], .sto 2 (.t 8) (.t 13)⟩] (some [2, 4, 7, 8]))
    (.seq
     (.regD (⟨(some 14), none, [(.t 7)], [], .ld true 1 (.t 7)⟩ ::
       ⟨(some 15), none, [(.t 4)], [0], .fa 0 (.t 4)⟩ ::
       ⟨(some 16), none, [(.t 15)], [0], .ld false 1 (.t 15)⟩ ::
       ⟨(some 17), none, [(.t 4)], [0, 1, 2], .fa 1 (.t 4)⟩ ::
       ⟨(some 18), none, [(.t 17)], [0, 1, 2], .ld false 1 (.t 17)⟩ ::
       ⟨(some 19), none, [(.k (.fn 45 [])), (.t 14), (.t 16), (.t 18)], [], .cal (.k (.fn 45 [])) [(.t 14), (.t 16), (.t 18)]⟩ ::
       ⟨(some 20), none, [(.t 8)], [0, 1, 2, 3, 4, 5], .ld true 2 (.t 8)⟩ ::
       ⟨(some 21), none, [(.t 4)], [0, 1, 2, 3, 4, 5, 6], .fa 0 (.t 4)⟩ ::
       ⟨(some 22), none, [(.t 21)], [0, 1, 2, 3, 4, 5, 6], .ld false 1 (.t 21)⟩ ::
       ⟨(some 23), none, [(.t 4)], [0, 1, 2, 3, 4, 5, 6, 7, 8], .fa 1 (.t 4)⟩ ::
       ⟨(some 24), none, [(.t 23)], [0, 1, 2, 3, 4, 5, 6, 7, 8], .ld false 1 (.t 23)⟩ ::
       ⟨(some 25), none, [(.k (.fn 47 [])), (.t 20), (.t 22), (.t 24)], [], .cal (.k (.fn 47 [])) [(.t 20), (.t 22), (.t 24)]⟩ ::
       ⟨(some 26), none, [(.t 19), (.t 25)], [], .bin .eql true (.t 19) (.t 25)⟩ ::
       ⟨(some 27), none, [(.t 26)], [], .mv (.t 26)⟩ ::
       ⟨(some 28), (some (27, true)), [(.t 7)], [], .ld true 1 (.t 7)⟩ ::
       ⟨(some 29), (some (27, true)), [(.t 4)], [14], .fa 0 (.t 4)⟩ ::
       ⟨(some 30), (some (27, true)), [(.t 29)], [14], .ld false 1 (.t 29)⟩ ::
       ⟨(some 31), (some (27, true)), [(.t 2)], [14, 15, 16], .mv (.t 2)⟩ ::
       ⟨(some 32), (some (27, true)), [(.k (.fn 48 [])), (.t 28), (.t 30), (.t 31)], [], .cal (.k (.fn 48 [])) [(.t 28), (.t 30), (.t 31)]⟩ ::
       ⟨(some 33), (some (27, true)), [(.t 8)], [14, 15, 16, 17, 18], .ld true 2 (.t 8)⟩ ::
       ⟨(some 34), (some (27, true)), [(.t 4)], [14, 15, 16, 17, 18, 19], .fa 0 (.t 4)⟩ ::
       ⟨(some 35), (some (27, true)), [(.t 34)], [14, 15, 16, 17, 18, 19], .ld false 1 (.t 34)⟩ ::
       ⟨(some 36), (some (27, true)), [(.t 2)], [14, 15, 16, 17, 18, 19, 20, 21], .mv (.t 2)⟩ ::
       ⟨(some 37), (some (27, true)), [(.k (.fn 49 [])), (.t 33), (.t 35), (.t 36)], [], .cal (.k (.fn 49 [])) [(.t 33), (.t 35), (.t 36)]⟩ ::
       ⟨(some 38), (some (27, true)), [(.k (.fn 33 [])), (.t 32), (.t 37)], [], .cal (.k (.fn 33 [])) [(.t 32), (.t 37)]⟩ ::
       ⟨(some 39), none, [(.t 27), (.t 38), (.k (.sc (.bool false)))], [], .pick (.t 27) (.t 38) (.k (.sc (.bool false)))⟩ ::
       ⟨(some 40), none, [(.t 39)], [], .mv (.t 39)⟩ ::
       ⟨(some 41), (some (40, true)), [(.t 7)], [], .ld true 1 (.t 7)⟩ ::
       ⟨(some 42), (some (40, true)), [(.t 4)], [27], .fa 0 (.t 4)⟩ ::
       ⟨(some 43), (some (40, true)), [(.t 42)], [27], .ld false 1 (.t 42)⟩ ::
       ⟨(some 44), (some (40, true)), [(.t 4)], [27, 28, 29], .fa 1 (.t 4)⟩ ::
       ⟨(some 45), (some (40, true)), [(.t 44)], [27, 28, 29], .ld false 1 (.t 44)⟩ ::
       ⟨(some 46), (some (40, true)), [(.k (.fn 46 [])), (.t 41), (.t 43), (.t 45)], [], .cal (.k (.fn 46 [])) [(.t 41), (.t 43), (.t 45)]⟩ ::
       ⟨(some 47), (some (40, true)), [(.t 8)], [27, 28, 29, 30, 31, 32], .ld true 2 (.t 8)⟩ ::
       ⟨(some 48), (some (40, true)), [(.t 4)], [27, 28, 29, 30, 31, 32, 33], .fa 0 (.t 4)⟩ ::
       ⟨(some 49), (some (40, true)), [(.t 48)], [27, 28, 29, 30, 31, 32, 33], .ld false 1 (.t 48)⟩ ::
       ⟨(some 50), (some (40, true)), [(.t 4)], [27, 28, 29, 30, 31, 32, 33, 34, 35], .fa 1 (.t 4)⟩ ::
       ⟨(some 51), (some (40, true)), [(.t 50)], [27, 28, 29, 30, 31, 32, 33, 34, 35], .ld false 1 (.t 50)⟩ ::
       ⟨(some 52), (some (40, true)), [(.k (.fn 50 [])), (.t 47), (.t 49), (.t 51), (.k (.sc (.bool false)))], [], .cal (.k (.fn 50 [])) [(.t 47), (.t 49), (.t 51), (.k (.sc (.bool false)))]⟩ ::
       ⟨(some 53), (some (40, true)), [(.k (.fn 33 [])), (.t 46), (.t 52)], [], .cal (.k (.fn 33 [])) [(.t 46), (.t 52)]⟩ ::
       ⟨(some 54), none, [(.t 40), (.t 53), (.k (.sc (.bool false)))], [], .pick (.t 40) (.t 53) (.k (.sc (.bool false)))⟩ ::
       ⟨(some 55), none, [(.t 54)], [], .mv (.t 54)⟩ ::
       ⟨(some 56), (some (55, true)), [(.k (.fn 42 []))], [], .cal (.k (.fn 42 [])) []⟩ ::
       ⟨(some 57), none, [(.t 55), (.t 56), (.k (.sc (.bool false)))], [], .pick (.t 55) (.t 56) (.k (.sc (.bool false)))⟩ ::
       ⟨(some 6), none, [(.t 57)], [], .mv (.t 57)⟩ :: []) (some [6]))
     .ret)))
theorem b11 : cmpG Try.prog 11 = some (strip a11, r11, 58) := by kernel_rfl


end Go.Proofs.Ytnfgnafphfddhaa.Cod
