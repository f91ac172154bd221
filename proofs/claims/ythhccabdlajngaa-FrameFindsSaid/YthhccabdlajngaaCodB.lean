import Derived.Test.YthhccabdlajngaaCodA
import Derived.Test.YthhccabdlajngaaProg
import Derived.Test.YthhccabdlajngaaSimD
import Derived.KernelRfl
namespace Go.Proofs.Ythhccabdlajngaa.Cod
open Go Go.Sim Go.Proofs
set_option maxRecDepth 100000
abbrev r3 : List AR := [.t 2]
abbrev a3 : ACode :=
  (.seq
   (.reg [⟨(some 1), none, [], [], .box (.t 0)⟩,
     ⟨(some 2), none, [], [], .mv (.k (.sc (.bool false)))⟩] (some [1]))
   (.seq
    (.seq
     (.reg [⟨(some 7), none, [], [], .ld true 56 (.t 1)⟩,
       ⟨(some 8), none, [], [], .cal (.k (.fn 7 [])) [(.t 7)]⟩] (some [1, 8]))
     (.cond (.t 8)
      (.keep []
       (.seq
        (.reg [⟨(some 9), none, [], [], .cal (.k (.fn 8 [])) []⟩,
          ⟨(some 2), none, [], [], .mv (.t 9)⟩] (some [2]))
        .ret))
      (.keep [1]
       .skip)))
    (.seq
     (.reg [⟨(some 11), none, [], [], .ld true 56 (.t 1)⟩,
       ⟨(some 12), none, [], [], .cal (.k (.fn 10 [])) [(.t 11)]⟩,
       ⟨(some 13), none, [], [], .cal (.k (.fn 9 [])) [(.t 12)]⟩,
       ⟨(some 10), none, [], [], .mv (.t 13)⟩,
       ⟨(some 14), none, [], [], .ext (.t 10) 0⟩,
       ⟨(some 15), none, [], [], .ext (.t 10) 1⟩,
       ⟨(some 3), none, [], [], .mv (.t 14)⟩,
       ⟨(some 4), none, [], [], .mv (.t 15)⟩] (some [1, 3, 4]))
     (.seq
      (.reg [⟨(some 17), none, [], [], .ld true 56 (.t 1)⟩,
        ⟨(some 18), none, [], [], .cal (.k (.fn 11 [])) [(.t 17)]⟩,
        ⟨(some 16), none, [], [], .mv (.t 18)⟩,
        ⟨(some 19), none, [], [], .ext (.t 16) 0⟩,
        ⟨(some 20), none, [], [], .ext (.t 16) 1⟩,
        ⟨(some 5), none, [], [], .mv (.t 19)⟩,
        ⟨(some 6), none, [], [], .mv (.t 20)⟩] (some [1, 3, 4, 5, 6]))
      (.seq
       (.regD (⟨(some 21), none, [(.t 3)], [], .mv (.t 3)⟩ ::
         ⟨(some 22), none, [(.t 5)], [0], .mv (.t 5)⟩ ::
         ⟨(some 23), none, [(.k (.fn 12 [])), (.t 21), (.t 22)], [], .cal (.k (.fn 12 [])) [(.t 21), (.t 22)]⟩ ::
         ⟨(some 24), none, [(.t 23)], [], .mv (.t 23)⟩ ::
         ⟨(some 25), (some (24, true)), [(.t 4)], [], .mv (.t 4)⟩ ::
         ⟨(some 26), (some (24, true)), [(.t 6)], [4], .mv (.t 6)⟩ ::
         ⟨(some 27), (some (24, true)), [(.t 25), (.t 26)], [], .bin .eql false (.t 25) (.t 26)⟩ ::
         ⟨(some 28), none, [(.t 24), (.t 27), (.k (.sc (.bool false)))], [], .pick (.t 24) (.t 27) (.k (.sc (.bool false)))⟩ ::
         ⟨(some 29), none, [(.t 28)], [], .mv (.t 28)⟩ ::
         ⟨(some 30), (some (29, true)), [(.t 1)], [], .ld true 56 (.t 1)⟩ ::
         ⟨(some 31), (some (29, true)), [(.k (.fn 10 [])), (.t 30)], [], .cal (.k (.fn 10 [])) [(.t 30)]⟩ ::
         ⟨(some 32), (some (29, true)), [(.k (.fn 14 [])), (.t 31)], [], .cal (.k (.fn 14 [])) [(.t 31)]⟩ ::
         ⟨(some 33), (some (29, true)), [(.t 1)], [9, 10, 11], .ld true 56 (.t 1)⟩ ::
         ⟨(some 34), (some (29, true)), [(.k (.fn 15 [])), (.t 33)], [], .cal (.k (.fn 15 [])) [(.t 33)]⟩ ::
         ⟨(some 35), (some (29, true)), [(.k (.fn 10 [])), (.t 34)], [], .cal (.k (.fn 10 [])) [(.t 34)]⟩ ::
         ⟨(some 36), (some (29, true)), [(.k (.fn 13 [])), (.t 32), (.t 35)], [], .cal (.k (.fn 13 [])) [(.t 32), (.t 35)]⟩ ::
         ⟨(some 37), none, [(.t 29), (.t 36), (.k (.sc (.bool false)))], [], .pick (.t 29) (.t 36) (.k (.sc (.bool false)))⟩ ::
         ⟨(some 38), none, [(.t 37)], [], .mv (.t 37)⟩ ::
         ⟨(some 39), (some (38, true)), [(.t 1)], [], .fa 19 (.t 1)⟩ ::
         ⟨(some 40), (some (38, true)), [(.t 39)], [], .ld false 1 (.t 39)⟩ ::
         ⟨(some 41), (some (38, true)), [(.t 1)], [18, 19], .ld true 56 (.t 1)⟩ ::
         ⟨(some 42), (some (38, true)), [(.k (.fn 10 [])), (.t 41)], [18, 19], .cal (.k (.fn 10 [])) [(.t 41)]⟩ ::
         ⟨(some 43), (some (38, true)), [(.t 42)], [18, 19], .fld false 1 54 (.t 42)⟩ ::
         ⟨(some 44), (some (38, true)), [(.k (.fn 16 [])), (.t 40), (.t 43)], [], .cal (.k (.fn 16 [])) [(.t 40), (.t 43)]⟩ ::
         ⟨(some 45), (some (38, true)), [(.t 1)], [18, 19, 20, 21, 22, 23], .fa 19 (.t 1)⟩ ::
         ⟨(some 46), (some (38, true)), [(.t 45)], [18, 19, 20, 21, 22, 23], .ld false 1 (.t 45)⟩ ::
         ⟨(some 47), (some (38, true)), [(.t 1)], [18, 19, 20, 21, 22, 23, 24, 25], .fa 54 (.t 1)⟩ ::
         ⟨(some 48), (some (38, true)), [(.t 47)], [18, 19, 20, 21, 22, 23, 24, 25], .ld false 1 (.t 47)⟩ ::
         ⟨(some 49), (some (38, true)), [(.k (.fn 17 [])), (.t 46), (.t 48)], [], .cal (.k (.fn 17 [])) [(.t 46), (.t 48)]⟩ ::
         ⟨(some 50), (some (38, true)), [(.t 44), (.t 49)], [], .bin .eql true (.t 44) (.t 49)⟩ ::
         ⟨(some 51), none, [(.t 38), (.t 50), (.k (.sc (.bool false)))], [], .pick (.t 38) (.t 50) (.k (.sc (.bool false)))⟩ ::
         ⟨(some 52), none, [(.t 51)], [], .mv (.t 51)⟩ ::
         ⟨(some 53), (some (52, true)), [(.k (.fn 8 []))], [], .cal (.k (.fn 8 [])) []⟩ ::
         ⟨(some 54), none, [(.t 52), (.t 53), (.k (.sc (.bool false)))], [], .pick (.t 52) (.t 53) (.k (.sc (.bool false)))⟩ ::
         ⟨(some 2), none, [(.t 54)], [], .mv (.t 54)⟩ :: []) (some [2]))
       .ret)))))
theorem b3 : cmpG Try.prog 3 = some (strip a3, r3, 55) := by kernel_rfl

abbrev r6 : List AR := [.t 6]
abbrev a6 : ACode :=
  (.seq
   (.reg [⟨(some 3), none, [], [], .box (.t 0)⟩,
     ⟨(some 5), none, [], [], .box (.t 2)⟩,
     ⟨(some 6), none, [], [], .mv (.k (.sc (.bool false)))⟩] (some [1, 3, 5]))
   (.seq
    (.seq
     (.reg [⟨(some 14), none, [], [], .ld true 56 (.t 3)⟩,
       ⟨(some 15), none, [], [], .cal (.k (.fn 7 [])) [(.t 14)]⟩,
       ⟨(some 16), none, [], [], .mv (.t 15)⟩,
       ⟨(some 17), (some (16, false)), [], [], .ld true 4 (.t 5)⟩,
       ⟨(some 18), (some (16, false)), [], [], .bld [(.sc (.int .u8 (0))), (.sc (.int .u8 (0))), (.sc (.int .u8 (0))), (.sc (.int .u8 (0)))] []⟩,
       ⟨(some 19), (some (16, false)), [], [], .aeq false 4 [.i, .i, .i, .i] (.t 17) (.t 18)⟩,
       ⟨(some 20), none, [], [], .pick (.t 16) (.k (.sc (.bool true))) (.t 19)⟩] (some [1, 3, 5, 20]))
     (.cond (.t 20)
      (.keep []
       (.seq
        (.reg [⟨(some 21), none, [], [], .cal (.k (.fn 8 [])) []⟩,
          ⟨(some 6), none, [], [], .mv (.t 21)⟩] (some [6]))
        .ret))
      (.keep [1, 3, 5]
       .skip)))
    (.seq
     (.reg [⟨(some 23), none, [], [], .ld true 56 (.t 3)⟩,
       ⟨(some 24), none, [], [], .cal (.k (.fn 10 [])) [(.t 23)]⟩,
       ⟨(some 25), none, [], [], .cal (.k (.fn 9 [])) [(.t 24)]⟩,
       ⟨(some 22), none, [], [], .mv (.t 25)⟩,
       ⟨(some 26), none, [], [], .ext (.t 22) 0⟩,
       ⟨(some 27), none, [], [], .ext (.t 22) 1⟩,
       ⟨(some 7), none, [], [], .mv (.t 26)⟩,
       ⟨(some 8), none, [], [], .mv (.t 27)⟩] (some [1, 5, 7, 8]))
     (.seq
      (.seq
       (.reg [⟨(some 28), none, [], [], .mv (.t 8)⟩,
         ⟨(some 29), none, [], [], .bin .neq false (.t 28) (.k (.sc (.int .i64 (0))))⟩,
         ⟨(some 30), none, [], [], .mv (.t 29)⟩,
         ⟨(some 31), (some (30, false)), [], [], .mv (.t 7)⟩,
         ⟨(some 32), (some (30, false)), [], [], .lenL (.t 31)⟩,
         ⟨(some 33), (some (30, false)), [], [], .bin .lss false (.t 32) (.k (.sc (.int .i64 (32))))⟩,
         ⟨(some 34), none, [], [], .pick (.t 30) (.k (.sc (.bool true))) (.t 33)⟩] (some [1, 5, 7, 8, 34]))
       (.cond (.t 34)
        (.keep [8]
         (.seq
          (.reg [⟨(some 35), none, [], [], .mv (.t 8)⟩,
            ⟨(some 36), none, [], [], .bin .neq false (.t 35) (.k (.sc (.int .i64 (0))))⟩,
            ⟨(some 37), none, [], [], .mv (.t 36)⟩,
            ⟨(some 38), (some (37, true)), [], [], .cal (.k (.fn 8 [])) []⟩,
            ⟨(some 39), none, [], [], .pick (.t 37) (.t 38) (.k (.sc (.bool false)))⟩,
            ⟨(some 6), none, [], [], .mv (.t 39)⟩] (some [6]))
          .ret))
        (.keep [1, 5, 7]
         .skip)))
      (.seq
       (.reg [⟨(some 40), none, [], [], .mv (.t 1)⟩,
         ⟨(some 41), none, [], [], .cvi .i64 (.t 40)⟩,
         ⟨(some 42), none, [], [], .mv (.t 7)⟩,
         ⟨(some 43), none, [], [], .lenL (.t 42)⟩,
         ⟨(some 44), none, [], [], .bin .sub false (.t 43) (.k (.sc (.int .i64 (3))))⟩,
         ⟨(some 45), none, [], [], .bin .rem false (.t 41) (.t 44)⟩,
         ⟨(some 9), none, [], [], .mv (.t 45)⟩] (some [5, 7, 9]))
       (.seq
        (.seq
         (.reg [⟨(some 46), none, [], [], .ld true 4 (.t 5)⟩,
           ⟨(some 47), none, [], [], .mv (.k (.sc (.int .i64 (0))))⟩] (some [7, 9, 46, 47]))
         (.block 0
          (.loop
           (.seq
            (.reg [⟨(some 48), none, [], [], .bin .lss false (.t 47) (.k (.sc (.int .i64 (4))))⟩] none)
            (.seq
             (.cond (.t 48)
              (.keep [7, 9, 46, 47]
               .skip)
              (.exit 0))
             (.seq
              (.block 1
               (.seq
                (.reg [⟨(some 49), none, [], [], .mv (.t 47)⟩,
                  ⟨(some 50), none, [], [], .ixA 4 false 1 (.t 46) (.t 47)⟩,
                  ⟨(some 10), none, [], [], .mv (.t 49)⟩,
                  ⟨(some 11), none, [], [], .mv (.t 50)⟩] (some [7, 9, 10, 11, 46, 47]))
                (.reg [⟨(some 51), none, [], [], .mv (.t 7)⟩,
                  ⟨(some 52), none, [], [], .mv (.t 9)⟩,
                  ⟨(some 53), none, [], [], .mv (.t 10)⟩,
                  ⟨(some 54), none, [], [], .bin .add false (.t 52) (.t 53)⟩,
                  ⟨(some 55), none, [], [], .ixaS 1 (.t 51) (.t 54)⟩,
                  ⟨(some 56), none, [], [], .ld false 1 (.t 55)⟩,
                  ⟨(some 57), none, [], [], .mv (.t 11)⟩,
                  ⟨(some 58), none, [], [], .bin .xor false (.t 56) (.t 57)⟩,
                  ⟨(some 59), none, [], [], .ixaS 1 (.t 51) (.t 54)⟩,
                  ⟨none, none, [], [], .sto 1 (.t 59) (.t 58)⟩] (some [7, 9, 46, 47]))))
              (.reg [⟨(some 60), none, [], [], .bin .add false (.t 47) (.k (.sc (.int .i64 (1))))⟩,
                ⟨(some 47), none, [], [], .mv (.t 60)⟩] (some [7, 9, 46, 47]))))))))
        (.seq
         (.reg [⟨(some 62), none, [], [], .mv (.t 7)⟩,
           ⟨(some 63), none, [], [], .cal (.k (.fn 19 [])) [(.t 62)]⟩,
           ⟨(some 61), none, [], [], .mv (.t 63)⟩,
           ⟨(some 64), none, [], [], .ext (.t 61) 0⟩,
           ⟨(some 65), none, [], [], .ext (.t 61) 1⟩,
           ⟨(some 12), none, [], [], .alc zF0⟩,
           ⟨none, none, [], [], .sto 56 (.t 12) (.t 64)⟩,
           ⟨(some 13), none, [], [], .mv (.t 65)⟩] (some [12, 13]))
         (.seq
          (.reg [⟨(some 66), none, [], [], .mv (.t 13)⟩,
            ⟨(some 67), none, [], [], .bin .eql false (.t 66) (.k (.sc (.int .i64 (9))))⟩,
            ⟨(some 68), none, [], [], .mv (.t 67)⟩,
            ⟨(some 69), (some (68, true)), [], [], .ld true 56 (.t 12)⟩,
            ⟨(some 70), (some (68, true)), [], [], .bld zF0 []⟩,
            ⟨(some 71), (some (68, true)), [], [], .cal (.k (.fn 13 [])) [(.t 69), (.t 70)]⟩,
            ⟨(some 72), none, [], [], .pick (.t 68) (.t 71) (.k (.sc (.bool false)))⟩,
            ⟨(some 73), none, [], [], .mv (.t 72)⟩,
            ⟨(some 74), (some (73, true)), [], [], .cal (.k (.fn 8 [])) []⟩,
            ⟨(some 75), none, [], [], .pick (.t 73) (.t 74) (.k (.sc (.bool false)))⟩,
            ⟨(some 6), none, [], [], .mv (.t 75)⟩] (some [6]))
          .ret))))))))
theorem b6 : cmpG Try.prog 6 = some (strip a6, r6, 76) := by kernel_rfl


end Go.Proofs.Ythhccabdlajngaa.Cod
