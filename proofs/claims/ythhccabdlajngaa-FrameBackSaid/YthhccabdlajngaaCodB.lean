import Derived.Test.YthhccabdlajngaaCodA
import Derived.Test.YthhccabdlajngaaProg
import Derived.Test.YthhccabdlajngaaSimD
import Derived.KernelRfl
namespace Go.Proofs.Ythhccabdlajngaa.Cod
open Go Go.Sim Go.Proofs
set_option maxRecDepth 100000
abbrev r3 : List AR := [.t 2]
abbrev a3 : ACode :=
  (.seq
   (.reg [⟨(some 1), none, [], [], .box (.t 0)⟩,
     ⟨(some 2), none, [], [], .mv (.k (.sc (.bool false)))⟩] (some [1]))
   (.seq
    (.seq
     (.reg [⟨(some 7), none, [], [], .ld true 56 (.t 1)⟩,
       ⟨(some 8), none, [], [], .cal (.k (.fn 7 [])) [(.t 7)]⟩] (some [1, 8]))
     (.cond (.t 8)
      (.keep []
       (.seq
        (.reg [⟨(some 9), none, [], [], .cal (.k (.fn 8 [])) []⟩,
          ⟨(some 2), none, [], [], .mv (.t 9)⟩] (some [2]))
        .ret))
      (.keep [1]
       .skip)))
    (.seq
     (.reg [⟨(some 11), none, [], [], .ld true 56 (.t 1)⟩,
       ⟨(some 12), none, [], [], .cal (.k (.fn 10 [])) [(.t 11)]⟩,
       ⟨(some 13), none, [], [], .cal (.k (.fn 9 [])) [(.t 12)]⟩,
       ⟨(some 10), none, [], [], .mv (.t 13)⟩,
       ⟨(some 14), none, [], [], .ext (.t 10) 0⟩,
       ⟨(some 15), none, [], [], .ext (.t 10) 1⟩,
       ⟨(some 3), none, [], [], .mv (.t 14)⟩,
       ⟨(some 4), none, [], [], .mv (.t 15)⟩] (some [1, 3, 4]))
     (.seq
      (.reg [⟨(some 17), none, [], [], .ld true 56 (.t 1)⟩,
        ⟨(some 18), none, [], [], .cal (.k (.fn 11 [])) [(.t 17)]⟩,
        ⟨(some 16), none, [], [], .mv (.t 18)⟩,
        ⟨(some 19), none, [], [], .ext (.t 16) 0⟩,
        ⟨(some 20), none, [], [], .ext (.t 16) 1⟩,
        ⟨(some 5), none, [], [], .mv (.t 19)⟩,
        ⟨(some 6), none, [], [], .mv (.t 20)⟩] (some [1, 3, 4, 5, 6]))
      (.seq
       (.regD (⟨(some 21), none, [(.t 3)], [], .mv (.t 3)⟩ ::
         ⟨(some 22), none, [(.t 5)], [0], .mv (.t 5)⟩ ::
         ⟨(some 23), none, [(.k (.fn 12 [])), (.t 21), (.t 22)], [], .cal (.k (.fn 12 [])) [(.t 21), (.t 22)]⟩ ::
         ⟨(some 24), none, [(.t 23)], [], .mv (.t 23)⟩ ::
         ⟨(some 25), (some (24, true)), [(.t 4)], [], .mv (.t 4)⟩ ::
         ⟨(some 26), (some (24, true)), [(.t 6)], [4], .mv (.t 6)⟩ ::
         ⟨(some 27), (some (24, true)), [(.t 25), (.t 26)], [], .bin .eql false (.t 25) (.t 26)⟩ ::
         ⟨(some 28), none, [(.t 24), (.t 27), (.k (.sc (.bool false)))], [], .pick (.t 24) (.t 27) (.k (.sc (.bool false)))⟩ ::
         ⟨(some 29), none, [(.t 28)], [], .mv (.t 28)⟩ ::
         ⟨(some 30), (some (29, true)), [(.t 1)], [], .ld true 56 (.t 1)⟩ ::
         ⟨(some 31), (some (29, true)), [(.k (.fn 10 [])), (.t 30)], [], .cal (.k (.fn 10 [])) [(.t 30)]⟩ ::
         ⟨(some 32), (some (29, true)), [(.k (.fn 14 [])), (.t 31)], [], .cal (.k (.fn 14 [])) [(.t 31)]⟩ ::
         ⟨(some 33), (some (29, true)), [(.t 1)], [9, 10, 11], .ld true 56 (.t 1)⟩ ::
         ⟨(some 34), (some (29, true)), [(.k (.fn 15 [])), (.t 33)], [], .cal (.k (.fn 15 [])) [(.t 33)]⟩ ::
         ⟨(some 35), (some (29, true)), [(.k (.fn 10 [])), (.t 34)], [], .cal (.k (.fn 10 [])) [(.t 34)]⟩ ::
         ⟨(some 36), (some (29, true)), [(.k (.fn 13 [])), (.t 32), (.t 35)], [], .cal (.k (.fn 13 [])) [(.t 32), (.t 35)]⟩ ::
         ⟨(some 37), none, [(.t 29), (.t 36), (.k (.sc (.bool false)))], [], .pick (.t 29) (.t 36) (.k (.sc (.bool false)))⟩ ::
         ⟨(some 38), none, [(.t 37)], [], .mv (.t 37)⟩ ::
         ⟨(some 39), (some (38, true)), [(.t 1)], [], .fa 19 (.t 1)⟩ ::
         ⟨(some 40), (some (38, true)), [(.t 39)], [], .ld false 1 (.t 39)⟩ ::
         ⟨(some 41), (some (38, true)), [(.t 1)], [18, 19], .ld true 56 (.t 1)⟩ ::
         ⟨(some 42), (some (38, true)), [(.k (.fn 10 [])), (.t 41)], [18, 19], .cal (.k (.fn 10 [])) [(.t 41)]⟩ ::
         ⟨(some 43), (some (38, true)), [(.t 42)], [18, 19], .fld false 1 54 (.t 42)⟩ ::
         ⟨(some 44), (some (38, true)), [(.k (.fn 16 [])), (.t 40), (.t 43)], [], .cal (.k (.fn 16 [])) [(.t 40), (.t 43)]⟩ ::
         ⟨(some 45), (some (38, true)), [(.t 1)], [18, 19, 20, 21, 22, 23], .fa 19 (.t 1)⟩ ::
         ⟨(some 46), (some (38, true)), [(.t 45)], [18, 19, 20, 21, 22, 23], .ld false 1 (.t 45)⟩ ::
         ⟨(some 47), (some (38, true)), [(.t 1)], [18, 19, 20, 21, 22, 23, 24, 25], .fa 54 (.t 1)⟩ ::
         ⟨(some 48), (some (38, true)), [(.t 47)], [18, 19, 20, 21, 22, 23, 24, 25], .ld false 1 (.t 47)⟩ ::
         ⟨(some 49), (some (38, true)), [(.k (.fn 17 [])), (.t 46), (.t 48)], [], .cal (.k (.fn 17 [])) [(.t 46), (.t 48)]⟩ ::
         ⟨(some 50), (some (38, true)), [(.t 44), (.t 49)], [], .bin .eql true (.t 44) (.t 49)⟩ ::
         ⟨(some 51), none, [(.t 38), (.t 50), (.k (.sc (.bool false)))], [], .pick (.t 38) (.t 50) (.k (.sc (.bool false)))⟩ ::
         ⟨(some 52), none, [(.t 51)], [], .mv (.t 51)⟩ ::
         ⟨(some 53), (some (52, true)), [(.k (.fn 8 []))], [], .cal (.k (.fn 8 [])) []⟩ ::
         ⟨(some 54), none, [(.t 52), (.t 53), (.k (.sc (.bool false)))], [], .pick (.t 52) (.t 53) (.k (.sc (.bool false)))⟩ ::
         ⟨(some 2), none, [(.t 54)], [], .mv (.t 54)⟩ :: []) (some [2]))
       .ret)))))
theorem b3 : cmpG Try.prog 3 = some (strip a3, r3, 55) := by kernel_rfl

abbrev r4 : List AR := [.t 4]
abbrev a4 : ACode :=
  (.seq
   (.reg [⟨(some 4), none, [], [], .mv (.k (.sc (.bool false)))⟩] (some [0, 1]))
   (.seq
    (.seq
     (.reg [⟨(some 9), none, [], [], .mv (.t 0)⟩,
       ⟨(some 10), none, [], [], .lenL (.t 9)⟩,
       ⟨(some 11), none, [], [], .bin .gtr false (.t 10) (.k (.sc (.int .i64 (1000))))⟩] (some [0, 1, 11]))
     (.cond (.t 11)
      (.keep []
       (.seq
        (.reg [⟨(some 12), none, [], [], .cal (.k (.fn 8 [])) []⟩,
          ⟨(some 4), none, [], [], .mv (.t 12)⟩] (some [4]))
        .ret))
      (.keep [0, 1]
       .skip)))
    (.seq
     (.seq
      (.reg [⟨(some 13), none, [], [], .mv (.t 1)⟩] (some [0, 13]))
      (.cond (.t 13)
       (.keep [0]
        (.reg [⟨(some 14), none, [], [], .mv (.t 0)⟩,
          ⟨(some 15), none, [], [], .cal (.k (.fn 18 [])) [(.t 14)]⟩,
          ⟨(some 0), none, [], [], .mv (.t 15)⟩] (some [0])))
       (.keep [0]
        .skip)))
     (.seq
      (.reg [⟨(some 17), none, [], [], .mv (.t 0)⟩,
        ⟨(some 18), none, [], [], .cal (.k (.fn 19 [])) [(.t 17)]⟩,
        ⟨(some 16), none, [], [], .mv (.t 18)⟩,
        ⟨(some 19), none, [], [], .ext (.t 16) 0⟩,
        ⟨(some 20), none, [], [], .ext (.t 16) 1⟩,
        ⟨(some 5), none, [], [], .alc zF0⟩,
        ⟨none, none, [], [], .sto 56 (.t 5) (.t 19)⟩,
        ⟨(some 6), none, [], [], .mv (.t 20)⟩] (some [0, 5, 6]))
      (.seq
       (.reg [⟨(some 22), none, [], [], .mv (.t 0)⟩,
         ⟨(some 23), none, [], [], .cal (.k (.fn 20 [])) [(.t 22)]⟩,
         ⟨(some 21), none, [], [], .mv (.t 23)⟩,
         ⟨(some 24), none, [], [], .ext (.t 21) 0⟩,
         ⟨(some 25), none, [], [], .ext (.t 21) 1⟩,
         ⟨(some 7), none, [], [], .alc zF0⟩,
         ⟨none, none, [], [], .sto 56 (.t 7) (.t 24)⟩,
         ⟨(some 8), none, [], [], .mv (.t 25)⟩] (some [5, 6, 7, 8]))
       (.seq
        (.regD [⟨(some 26), none, [(.t 5)], [], .ld true 56 (.t 5)⟩,
          ⟨(some 27), none, [(.t 7)], [0], .ld true 56 (.t 7)⟩,
          ⟨(some 28), none, [(.k (.fn 10 [])), (.t 27)], [0], .cal (.k (.fn 10 [])) [(.t 27)]⟩,
          ⟨(some 29), none, [(.k (.fn 13 [])), (.t 26), (.t 28)], [], .cal (.k (.fn 13 [])) [(.t 26), (.t 28)]⟩,
          ⟨(some 30), none, [(.t 29)], [], .mv (.t 29)⟩,
          ⟨(some 31), (some (30, true)), [(.t 6)], [], .mv (.t 6)⟩,
          ⟨(some 32), (some (30, true)), [(.t 8)], [5], .mv (.t 8)⟩,
          ⟨(some 33), (some (30, true)), [(.t 31), (.t 32)], [], .bin .eql false (.t 31) (.t 32)⟩,
          ⟨(some 34), none, [(.t 30), (.t 33), (.k (.sc (.bool false)))], [], .pick (.t 30) (.t 33) (.k (.sc (.bool false)))⟩,
          ⟨(some 35), none, [(.t 34)], [], .mv (.t 34)⟩,
          ⟨(some 36), (some (35, true)), [(.k (.fn 8 []))], [], .cal (.k (.fn 8 [])) []⟩,
          ⟨(some 37), none, [(.t 35), (.t 36), (.k (.sc (.bool false)))], [], .pick (.t 35) (.t 36) (.k (.sc (.bool false)))⟩,
          ⟨(some 4), none, [(.t 37)], [], .mv (.t 37)⟩] (some [4]))
        .ret))))))
theorem b4 : cmpG Try.prog 4 = some (strip a4, r4, 38) := by kernel_rfl

abbrev r5 : List AR := [.t 6]
abbrev a5 : ACode :=
  (.seq
   (.reg [⟨(some 3), none, [], [], .box (.t 0)⟩,
     ⟨(some 4), none, [], [], .box (.t 1)⟩,
     ⟨(some 6), none, [], [], .mv (.k (.sc (.bool false)))⟩] (some [2, 3, 4]))
   (.seq
    (.seq
     (.reg [⟨(some 15), none, [], [], .ld true 56 (.t 3)⟩,
       ⟨(some 16), none, [], [], .cal (.k (.fn 7 [])) [(.t 15)]⟩,
       ⟨(some 17), none, [], [], .mv (.t 16)⟩,
       ⟨(some 18), (some (17, false)), [], [], .ld true 56 (.t 4)⟩,
       ⟨(some 19), (some (17, false)), [], [], .cal (.k (.fn 7 [])) [(.t 18)]⟩,
       ⟨(some 20), none, [], [], .pick (.t 17) (.k (.sc (.bool true))) (.t 19)⟩,
       ⟨(some 21), none, [], [], .mv (.t 20)⟩,
       ⟨(some 22), (some (21, false)), [], [], .mv (.t 2)⟩,
       ⟨(some 23), (some (21, false)), [], [], .lenL (.t 22)⟩,
       ⟨(some 24), (some (21, false)), [], [], .bin .gtr false (.t 23) (.k (.sc (.int .i64 (1000))))⟩,
       ⟨(some 25), none, [], [], .pick (.t 21) (.k (.sc (.bool true))) (.t 24)⟩] (some [2, 3, 4, 25]))
     (.cond (.t 25)
      (.keep []
       (.seq
        (.reg [⟨(some 26), none, [], [], .cal (.k (.fn 8 [])) []⟩,
          ⟨(some 6), none, [], [], .mv (.t 26)⟩] (some [6]))
        .ret))
      (.keep [2, 3, 4]
       .skip)))
    (.seq
     (.seq
      (.regD [⟨(some 27), none, [(.t 3)], [], .ld true 56 (.t 3)⟩,
        ⟨(some 28), none, [(.k (.fn 10 [])), (.t 27)], [], .cal (.k (.fn 10 [])) [(.t 27)]⟩,
        ⟨(some 29), none, [(.t 4)], [0, 1], .ld true 56 (.t 4)⟩,
        ⟨(some 30), none, [(.k (.fn 10 [])), (.t 29)], [], .cal (.k (.fn 10 [])) [(.t 29)]⟩,
        ⟨(some 31), none, [(.k (.fn 13 [])), (.t 28), (.t 30)], [], .cal (.k (.fn 13 [])) [(.t 28), (.t 30)]⟩,
        ⟨(some 32), none, [(.t 3)], [0, 1, 2, 3, 4], .ld true 56 (.t 3)⟩,
        ⟨(some 33), none, [(.t 4)], [0, 1, 2, 3, 4, 5], .ld true 56 (.t 4)⟩,
        ⟨(some 34), none, [(.k (.fn 21 [])), (.t 32), (.t 33)], [], .cal (.k (.fn 21 [])) [(.t 32), (.t 33)]⟩,
        ⟨(some 35), none, [(.t 31), (.t 34)], [], .bin .neq true (.t 31) (.t 34)⟩] (some [2, 3, 35]))
      (.cond (.t 35)
       (.keep []
        (.seq
         (.reg [⟨(some 6), none, [], [], .mv (.k (.sc (.bool false)))⟩] none)
         .ret))
       (.keep [2, 3]
        .skip)))
     (.seq
      (.reg [⟨(some 37), none, [], [], .ld true 56 (.t 3)⟩,
        ⟨(some 38), none, [], [], .cal (.k (.fn 10 [])) [(.t 37)]⟩,
        ⟨(some 39), none, [], [], .cal (.k (.fn 9 [])) [(.t 38)]⟩,
        ⟨(some 36), none, [], [], .mv (.t 39)⟩,
        ⟨(some 40), none, [], [], .ext (.t 36) 0⟩,
        ⟨(some 41), none, [], [], .ext (.t 36) 1⟩,
        ⟨(some 7), none, [], [], .mv (.t 40)⟩,
        ⟨(some 8), none, [], [], .mv (.t 41)⟩] (some [2, 3, 7, 8]))
      (.seq
       (.seq
        (.reg [⟨(some 42), none, [], [], .mv (.t 8)⟩,
          ⟨(some 43), none, [], [], .bin .eql false (.t 42) (.k (.sc (.int .i64 (0))))⟩] (some [2, 3, 7, 43]))
        (.cond (.t 43)
         (.keep [2, 3, 7]
          (.seq
           (.reg [⟨(some 45), none, [], [], .mv (.t 7)⟩,
             ⟨(some 46), none, [], [], .cal (.k (.fn 19 [])) [(.t 45)]⟩,
             ⟨(some 44), none, [], [], .mv (.t 46)⟩,
             ⟨(some 47), none, [], [], .ext (.t 44) 0⟩,
             ⟨(some 48), none, [], [], .ext (.t 44) 1⟩,
             ⟨(some 9), none, [], [], .alc zF0⟩,
             ⟨none, none, [], [], .sto 56 (.t 9) (.t 47)⟩,
             ⟨(some 10), none, [], [], .mv (.t 48)⟩] (some [2, 3, 9, 10]))
           (.seq
            (.regD [⟨(some 49), none, [(.t 9)], [], .ld true 56 (.t 9)⟩,
              ⟨(some 50), none, [(.t 3)], [0], .ld true 56 (.t 3)⟩,
              ⟨(some 51), none, [(.k (.fn 10 [])), (.t 50)], [0], .cal (.k (.fn 10 [])) [(.t 50)]⟩,
              ⟨(some 52), none, [(.k (.fn 14 [])), (.t 51)], [0], .cal (.k (.fn 14 [])) [(.t 51)]⟩,
              ⟨(some 53), none, [(.k (.fn 13 [])), (.t 49), (.t 52)], [], .cal (.k (.fn 13 [])) [(.t 49), (.t 52)]⟩,
              ⟨(some 54), none, [(.t 53)], [], .un .not (.t 53)⟩,
              ⟨(some 55), none, [(.t 54)], [], .mv (.t 54)⟩,
              ⟨(some 56), (some (55, false)), [(.t 10)], [], .mv (.t 10)⟩,
              ⟨(some 57), (some (55, false)), [(.t 56), (.k (.sc (.int .i64 (0))))], [], .bin .neq false (.t 56) (.k (.sc (.int .i64 (0))))⟩,
              ⟨(some 58), none, [(.t 55), (.k (.sc (.bool true))), (.t 57)], [], .pick (.t 55) (.k (.sc (.bool true))) (.t 57)⟩] (some [2, 58]))
            (.cond (.t 58)
             (.keep []
              (.seq
               (.reg [⟨(some 6), none, [], [], .mv (.k (.sc (.bool false)))⟩] none)
               .ret))
             (.keep [2]
              .skip)))))
         (.keep [2]
          .skip)))
       (.seq
        (.reg [⟨(some 60), none, [], [], .mv (.t 2)⟩,
          ⟨(some 61), none, [], [], .cal (.k (.fn 19 [])) [(.t 60)]⟩,
          ⟨(some 59), none, [], [], .mv (.t 61)⟩,
          ⟨(some 62), none, [], [], .ext (.t 59) 0⟩,
          ⟨(some 63), none, [], [], .ext (.t 59) 1⟩,
          ⟨(some 11), none, [], [], .alc zF0⟩,
          ⟨none, none, [], [], .sto 56 (.t 11) (.t 62)⟩,
          ⟨(some 12), none, [], [], .mv (.t 63)⟩] (some [2, 11, 12]))
        (.seq
         (.seq
          (.reg [⟨(some 64), none, [], [], .mv (.t 12)⟩,
            ⟨(some 65), none, [], [], .bin .neq false (.t 64) (.k (.sc (.int .i64 (0))))⟩] (some [2, 11, 65]))
          (.cond (.t 65)
           (.keep [11]
            (.seq
             (.reg [⟨(some 66), none, [], [], .ld true 56 (.t 11)⟩,
               ⟨(some 67), none, [], [], .bld zF0 []⟩,
               ⟨(some 68), none, [], [], .cal (.k (.fn 13 [])) [(.t 66), (.t 67)]⟩,
               ⟨(some 69), none, [], [], .mv (.t 68)⟩,
               ⟨(some 70), (some (69, true)), [], [], .cal (.k (.fn 8 [])) []⟩,
               ⟨(some 71), none, [], [], .pick (.t 69) (.t 70) (.k (.sc (.bool false)))⟩,
               ⟨(some 6), none, [], [], .mv (.t 71)⟩] (some [6]))
             .ret))
           (.keep [2, 11]
            .skip)))
         (.seq
          (.reg [⟨(some 73), none, [], [], .ld true 56 (.t 11)⟩,
            ⟨(some 74), none, [], [], .cal (.k (.fn 9 [])) [(.t 73)]⟩,
            ⟨(some 72), none, [], [], .mv (.t 74)⟩,
            ⟨(some 75), none, [], [], .ext (.t 72) 0⟩,
            ⟨(some 76), none, [], [], .ext (.t 72) 1⟩,
            ⟨(some 13), none, [], [], .mv (.t 75)⟩,
            ⟨(some 14), none, [], [], .mv (.t 76)⟩] (some [2, 13, 14]))
          (.seq
           (.reg [⟨(some 77), none, [], [], .mv (.t 14)⟩,
             ⟨(some 78), none, [], [], .bin .eql false (.t 77) (.k (.sc (.int .i64 (0))))⟩,
             ⟨(some 79), none, [], [], .mv (.t 78)⟩,
             ⟨(some 80), (some (79, true)), [], [], .mv (.t 13)⟩,
             ⟨(some 81), (some (79, true)), [], [], .mv (.t 2)⟩,
             ⟨(some 82), (some (79, true)), [], [], .cal (.k (.fn 12 [])) [(.t 80), (.t 81)]⟩,
             ⟨(some 83), none, [], [], .pick (.t 79) (.t 82) (.k (.sc (.bool false)))⟩,
             ⟨(some 84), none, [], [], .mv (.t 83)⟩,
             ⟨(some 85), (some (84, true)), [], [], .cal (.k (.fn 8 [])) []⟩,
             ⟨(some 86), none, [], [], .pick (.t 84) (.t 85) (.k (.sc (.bool false)))⟩,
             ⟨(some 6), none, [], [], .mv (.t 86)⟩] (some [6]))
           .ret)))))))))
theorem b5 : cmpG Try.prog 5 = some (strip a5, r5, 87) := by kernel_rfl

abbrev r6 : List AR := [.t 6]
abbrev a6 : ACode :=
  (.seq
   (.reg [⟨(some 3), none, [], [], .box (.t 0)⟩,
     ⟨(some 5), none, [], [], .box (.t 2)⟩,
     ⟨(some 6), none, [], [], .mv (.k (.sc (.bool false)))⟩] (some [1, 3, 5]))
   (.seq
    (.seq
     (.reg [⟨(some 14), none, [], [], .ld true 56 (.t 3)⟩,
       ⟨(some 15), none, [], [], .cal (.k (.fn 7 [])) [(.t 14)]⟩,
       ⟨(some 16), none, [], [], .mv (.t 15)⟩,
       ⟨(some 17), (some (16, false)), [], [], .ld true 4 (.t 5)⟩,
       ⟨(some 18), (some (16, false)), [], [], .bld [(.sc (.int .u8 (0))), (.sc (.int .u8 (0))), (.sc (.int .u8 (0))), (.sc (.int .u8 (0)))] []⟩,
       ⟨(some 19), (some (16, false)), [], [], .aeq false 4 [.i, .i, .i, .i] (.t 17) (.t 18)⟩,
       ⟨(some 20), none, [], [], .pick (.t 16) (.k (.sc (.bool true))) (.t 19)⟩] (some [1, 3, 5, 20]))
     (.cond (.t 20)
      (.keep []
       (.seq
        (.reg [⟨(some 21), none, [], [], .cal (.k (.fn 8 [])) []⟩,
          ⟨(some 6), none, [], [], .mv (.t 21)⟩] (some [6]))
        .ret))
      (.keep [1, 3, 5]
       .skip)))
    (.seq
     (.reg [⟨(some 23), none, [], [], .ld true 56 (.t 3)⟩,
       ⟨(some 24), none, [], [], .cal (.k (.fn 10 [])) [(.t 23)]⟩,
       ⟨(some 25), none, [], [], .cal (.k (.fn 9 [])) [(.t 24)]⟩,
       ⟨(some 22), none, [], [], .mv (.t 25)⟩,
       ⟨(some 26), none, [], [], .ext (.t 22) 0⟩,
       ⟨(some 27), none, [], [], .ext (.t 22) 1⟩,
       ⟨(some 7), none, [], [], .mv (.t 26)⟩,
       ⟨(some 8), none, [], [], .mv (.t 27)⟩] (some [1, 5, 7, 8]))
     (.seq
      (.seq
       (.reg [⟨(some 28), none, [], [], .mv (.t 8)⟩,
         ⟨(some 29), none, [], [], .bin .neq false (.t 28) (.k (.sc (.int .i64 (0))))⟩,
         ⟨(some 30), none, [], [], .mv (.t 29)⟩,
         ⟨(some 31), (some (30, false)), [], [], .mv (.t 7)⟩,
         ⟨(some 32), (some (30, false)), [], [], .lenL (.t 31)⟩,
         ⟨(some 33), (some (30, false)), [], [], .bin .lss false (.t 32) (.k (.sc (.int .i64 (32))))⟩,
         ⟨(some 34), none, [], [], .pick (.t 30) (.k (.sc (.bool true))) (.t 33)⟩] (some [1, 5, 7, 8, 34]))
       (.cond (.t 34)
        (.keep [8]
         (.seq
          (.reg [⟨(some 35), none, [], [], .mv (.t 8)⟩,
            ⟨(some 36), none, [], [], .bin .neq false (.t 35) (.k (.sc (.int .i64 (0))))⟩,
            ⟨(some 37), none, [], [], .mv (.t 36)⟩,
            ⟨(some 38), (some (37, true)), [], [], .cal (.k (.fn 8 [])) []⟩,
            ⟨(some 39), none, [], [], .pick (.t 37) (.t 38) (.k (.sc (.bool false)))⟩,
            ⟨(some 6), none, [], [], .mv (.t 39)⟩] (some [6]))
          .ret))
        (.keep [1, 5, 7]
         .skip)))
      (.seq
       (.reg [⟨(some 40), none, [], [], .mv (.t 1)⟩,
         ⟨(some 41), none, [], [], .cvi .i64 (.t 40)⟩,
         ⟨(some 42), none, [], [], .mv (.t 7)⟩,
         ⟨(some 43), none, [], [], .lenL (.t 42)⟩,
         ⟨(some 44), none, [], [], .bin .sub false (.t 43) (.k (.sc (.int .i64 (3))))⟩,
         ⟨(some 45), none, [], [], .bin .rem false (.t 41) (.t 44)⟩,
         ⟨(some 9), none, [], [], .mv (.t 45)⟩] (some [5, 7, 9]))
       (.seq
        (.seq
         (.reg [⟨(some 46), none, [], [], .ld true 4 (.t 5)⟩,
           ⟨(some 47), none, [], [], .mv (.k (.sc (.int .i64 (0))))⟩] (some [7, 9, 46, 47]))
         (.block 0
          (.loop
           (.seq
            (.reg [⟨(some 48), none, [], [], .bin .lss false (.t 47) (.k (.sc (.int .i64 (4))))⟩] none)
            (.seq
             (.cond (.t 48)
              (.keep [7, 9, 46, 47]
               .skip)
              (.exit 0))
             (.seq
              (.block 1
               (.seq
                (.reg [⟨(some 49), none, [], [], .mv (.t 47)⟩,
                  ⟨(some 50), none, [], [], .ixA 4 false 1 (.t 46) (.t 47)⟩,
                  ⟨(some 10), none, [], [], .mv (.t 49)⟩,
                  ⟨(some 11), none, [], [], .mv (.t 50)⟩] (some [7, 9, 10, 11, 46, 47]))
                (.reg [⟨(some 51), none, [], [], .mv (.t 7)⟩,
                  ⟨(some 52), none, [], [], .mv (.t 9)⟩,
                  ⟨(some 53), none, [], [], .mv (.t 10)⟩,
                  ⟨(some 54), none, [], [], .bin .add false (.t 52) (.t 53)⟩,
                  ⟨(some 55), none, [], [], .ixaS 1 (.t 51) (.t 54)⟩,
                  ⟨(some 56), none, [], [], .ld false 1 (.t 55)⟩,
                  ⟨(some 57), none, [], [], .mv (.t 11)⟩,
                  ⟨(some 58), none, [], [], .bin .xor false (.t 56) (.t 57)⟩,
                  ⟨(some 59), none, [], [], .ixaS 1 (.t 51) (.t 54)⟩,
                  ⟨none, none, [], [], .sto 1 (.t 59) (.t 58)⟩] (some [7, 9, 46, 47]))))
              (.reg [⟨(some 60), none, [], [], .bin .add false (.t 47) (.k (.sc (.int .i64 (1))))⟩,
                ⟨(some 47), none, [], [], .mv (.t 60)⟩] (some [7, 9, 46, 47]))))))))
        (.seq
         (.reg [⟨(some 62), none, [], [], .mv (.t 7)⟩,
           ⟨(some 63), none, [], [], .cal (.k (.fn 19 [])) [(.t 62)]⟩,
           ⟨(some 61), none, [], [], .mv (.t 63)⟩,
           ⟨(some 64), none, [], [], .ext (.t 61) 0⟩,
           ⟨(some 65), none, [], [], .ext (.t 61) 1⟩,
           ⟨(some 12), none, [], [], .alc zF0⟩,
           ⟨none, none, [], [], .sto 56 (.t 12) (.t 64)⟩,
           ⟨(some 13), none, [], [], .mv (.t 65)⟩] (some [12, 13]))
         (.seq
          (.reg [⟨(some 66), none, [], [], .mv (.t 13)⟩,
            ⟨(some 67), none, [], [], .bin .eql false (.t 66) (.k (.sc (.int .i64 (9))))⟩,
            ⟨(some 68), none, [], [], .mv (.t 67)⟩,
            ⟨(some 69), (some (68, true)), [], [], .ld true 56 (.t 12)⟩,
            ⟨(some 70), (some (68, true)), [], [], .bld zF0 []⟩,
            ⟨(some 71), (some (68, true)), [], [], .cal (.k (.fn 13 [])) [(.t 69), (.t 70)]⟩,
            ⟨(some 72), none, [], [], .pick (.t 68) (.t 71) (.k (.sc (.bool false)))⟩,
            ⟨(some 73), none, [], [], .mv (.t 72)⟩,
            ⟨(some 74), (some (73, true)), [], [], .cal (.k (.fn 8 [])) []⟩,
            ⟨(some 75), none, [], [], .pick (.t 73) (.t 74) (.k (.sc (.bool false)))⟩,
            ⟨(some 6), none, [], [], .mv (.t 75)⟩] (some [6]))
          .ret))))))))
theorem b6 : cmpG Try.prog 6 = some (strip a6, r6, 76) := by kernel_rfl


end Go.Proofs.Ythhccabdlajngaa.Cod
