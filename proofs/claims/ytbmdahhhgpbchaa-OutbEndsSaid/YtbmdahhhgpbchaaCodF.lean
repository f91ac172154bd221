import Derived.Test.YtbmdahhhgpbchaaProg
import Derived.Test.YtbmdahhhgpbchaaSimD
import Derived.KernelRfl
namespace Go.Proofs.Ytbmdahhhgpbchaa.Cod
open Go Go.Sim Go.Proofs
set_option maxRecDepth 100000
abbrev r5 : List AR := [.t 2]
abbrev a5 : ACode :=
  (.seq
   (.reg [⟨(some 2), none, [], [], .mv (.k (.sc (.bool false)))⟩] (some [0]))
   (.seq
    (.seq
     (.reg [⟨(some 10), none, [], [], .mv (.t 0)⟩,
       ⟨(some 11), none, [], [], .lenL (.t 10)⟩,
       ⟨(some 12), none, [], [], .bin .gtr false (.t 11) (.k (.sc (.int .i64 (3000))))⟩] (some [0, 12]))
     (.cond (.t 12)
      (.keep []
       (.seq
        (.reg [⟨(some 13), none, [], [], .cal (.k (.fn 30 [])) []⟩,
          ⟨(some 2), none, [], [], .mv (.t 13)⟩] (some [2]))
        .ret))
      (.keep [0]
       .skip)))
    (.seq
     (.reg [⟨(some 15), none, [], [], .mv (.t 0)⟩,
       ⟨(some 16), none, [], [], .calG [0] (.k (.fn 31 [])) [(.t 15), (.k (.sc (.int .i64 (0))))]⟩,
       ⟨(some 14), none, [], [], .mv (.t 16)⟩,
       ⟨(some 17), none, [], [], .ext (.t 14) 0⟩,
       ⟨(some 18), none, [], [], .ext (.t 14) 1⟩,
       ⟨(some 3), none, [], [], .alc [.nl, (.sc (.int .i64 (0))), .nl, .nl, (.sc (.bool false)), (.sc (.int .i64 (0))), (.sc (.int .i64 (0)))]⟩,
       ⟨none, none, [], [], .sto 7 (.t 3) (.t 17)⟩,
       ⟨(some 4), none, [], [], .mv (.t 18)⟩] (some [0, 3, 4]))
     (.seq
      (.seq
       (.reg [⟨(some 19), none, [], [], .mv (.t 4)⟩,
         ⟨(some 20), none, [], [], .bin .neq false (.t 19) (.k (.sc (.int .i64 (0))))⟩] (some [0, 3, 20]))
       (.cond (.t 20)
        (.keep []
         (.seq
          (.reg [⟨(some 2), none, [], [], .mv (.k (.sc (.bool false)))⟩] none)
          .ret))
        (.keep [0, 3]
         .skip)))
      (.seq
       (.reg [⟨(some 5), none, [], [], .mv (.k (.sc (.int .i64 (0))))⟩] (some [0, 3, 5]))
       (.seq
        (.seq
         (.reg [⟨(some 21), none, [], [], .mv (.k (.sc (.int .i64 (0))))⟩] none)
         (.block 0
          (.loop
           (.seq
            (.reg [⟨(some 22), none, [], [], .bin .lss false (.t 21) (.k (.sc (.int .i64 (1000))))⟩] none)
            (.seq
             (.cond (.t 22)
              (.keep [0, 3, 5, 21]
               .skip)
              (.exit 0))
             (.seq
              (.block 1
               (.seq
                (.reg [⟨(some 24), none, [], [], .ld true 7 (.t 3)⟩,
                  ⟨(some 25), none, [], [], .cal (.k (.fn 32 [])) [(.t 24)]⟩,
                  ⟨(some 23), none, [], [], .mv (.t 25)⟩,
                  ⟨(some 26), none, [], [], .ext (.t 23) 0⟩,
                  ⟨(some 27), none, [], [], .ext (.t 23) 1⟩,
                  ⟨(some 6), none, [], [], .alc [.nl, (.sc (.int .i64 (0))), .nl, .nl, (.sc (.bool false)), (.sc (.int .i64 (0))), (.sc (.int .i64 (0)))]⟩,
                  ⟨none, none, [], [], .sto 7 (.t 6) (.t 26)⟩,
                  ⟨(some 7), none, [], [], .mv (.t 27)⟩] (some [0, 3, 5, 6, 7, 21]))
                (.seq
                 (.seq
                  (.reg [⟨(some 28), none, [], [], .mv (.t 7)⟩,
                    ⟨(some 29), none, [], [], .lenL (.t 28)⟩,
                    ⟨(some 8), none, [], [], .mv (.t 29)⟩] (some [0, 3, 5, 6, 7, 8, 21]))
                  (.seq
                   (.reg [⟨(some 30), none, [], [], .mv (.t 8)⟩,
                     ⟨(some 31), none, [], [], .bin .gtr false (.t 30) (.k (.sc (.int .i64 (0))))⟩] (some [0, 3, 5, 6, 7, 8, 21, 31]))
                   (.cond (.t 31)
                    (.keep [0, 3, 5, 6, 7, 8, 21]
                     (.seq
                      (.seq
                       (.reg [⟨(some 32), none, [], [], .mv (.t 7)⟩,
                         ⟨(some 33), none, [], [], .mv (.t 8)⟩,
                         ⟨(some 34), none, [], [], .bin .sub false (.t 33) (.k (.sc (.int .i64 (1))))⟩,
                         ⟨(some 35), none, [], [], .ixaS 2 (.t 32) (.t 34)⟩,
                         ⟨(some 36), none, [], [], .ld true 2 (.t 35)⟩,
                         ⟨(some 9), none, [], [], .alc [(.sc (.int .i64 (0))), .nl]⟩,
                         ⟨none, none, [], [], .sto 2 (.t 9) (.t 36)⟩] (some [0, 3, 5, 6, 9, 21]))
                       (.seq
                        (.reg [⟨(some 37), none, [], [], .mv (.t 5)⟩,
                          ⟨(some 38), none, [], [], .bin .rem false (.t 37) (.k (.sc (.int .i64 (2))))⟩,
                          ⟨(some 39), none, [], [], .bin .eql false (.t 38) (.k (.sc (.int .i64 (1))))⟩] (some [0, 3, 5, 6, 9, 21, 39]))
                        (.cond (.t 39)
                         (.keep [0, 3, 5, 6, 9, 21]
                          (.regD [⟨(some 41), none, [(.t 6)], [], .ld true 7 (.t 6)⟩,
                            ⟨(some 42), none, [(.t 6)], [0], .ld true 7 (.t 6)⟩,
                            ⟨(some 43), none, [(.k (.fn 34 [])), (.t 42)], [0], .cal (.k (.fn 34 [])) [(.t 42)]⟩,
                            ⟨(some 44), none, [(.t 9)], [0, 1, 2], .fa 0 (.t 9)⟩,
                            ⟨(some 45), none, [(.t 44)], [0, 1, 2], .ld false 1 (.t 44)⟩,
                            ⟨(some 46), none, [(.t 9)], [0, 1, 2, 3, 4], .fa 0 (.t 9)⟩,
                            ⟨(some 47), none, [(.t 46)], [0, 1, 2, 3, 4], .ld false 1 (.t 46)⟩,
                            ⟨(some 48), none, [(.t 9)], [0, 1, 2, 3, 4, 5, 6], .fa 1 (.t 9)⟩,
                            ⟨(some 49), none, [(.t 48)], [0, 1, 2, 3, 4, 5, 6], .ld false 1 (.t 48)⟩,
                            ⟨(some 50), none, [(.t 49)], [0, 1, 2, 3, 4, 5, 6], .lenL (.t 49)⟩,
                            ⟨(some 51), none, [(.t 47), (.t 50)], [0, 1, 2, 3, 4], .bin .add false (.t 47) (.t 50)⟩,
                            ⟨(some 52), none, [(.t 45), (.t 51)], [0, 1, 2], .bld [(.sc (.int .i64 (0))), (.sc (.int .i64 (0)))] [(0, 1, (.t 45)), (1, 1, (.t 51))]⟩,
                            ⟨(some 53), none, [(.t 52)], [0, 1, 2], .bsl 1 2 [(.sc (.int .i64 (0))), (.sc (.int .i64 (0)))] [(0, 2, (.t 52))]⟩,
                            ⟨(some 54), none, [(.k (.fn 33 [])), (.t 41), (.t 43), (.t 53)], [], .cal (.k (.fn 33 [])) [(.t 41), (.t 43), (.t 53)]⟩,
                            ⟨(some 40), none, [(.t 54)], [], .mv (.t 54)⟩,
                            ⟨(some 55), none, [(.t 40)], [], .ext (.t 40) 0⟩,
                            ⟨(some 56), none, [(.t 40)], [15], .ext (.t 40) 1⟩,
                            ⟨none, none, [(.t 6), (.t 55)], [16], .sto 7 (.t 6) (.t 55)⟩] (some [0, 3, 5, 6, 21])))
                         (.keep [0, 3, 5, 6, 21]
                          .skip))))
                      (.reg [⟨(some 57), none, [], [], .mv (.t 5)⟩,
                        ⟨(some 58), none, [], [], .bin .add false (.t 57) (.k (.sc (.int .i64 (1))))⟩,
                        ⟨(some 5), none, [], [], .mv (.t 58)⟩] (some [0, 3, 5, 6, 21]))))
                    (.keep [0, 3, 5, 6, 21]
                     .skip))))
                 (.reg [⟨(some 60), none, [], [], .ld true 7 (.t 6)⟩,
                   ⟨(some 61), none, [], [], .cal (.k (.fn 35 [])) [(.t 60)]⟩,
                   ⟨(some 59), none, [], [], .mv (.t 61)⟩,
                   ⟨(some 62), none, [], [], .ext (.t 59) 0⟩,
                   ⟨(some 63), none, [], [], .ext (.t 59) 1⟩,
                   ⟨none, none, [], [], .sto 7 (.t 3) (.t 62)⟩] (some [0, 3, 5, 21])))))
              (.reg [⟨(some 64), none, [], [], .bin .add false (.t 21) (.k (.sc (.int .i64 (1))))⟩,
                ⟨(some 21), none, [], [], .mv (.t 64)⟩] (some [0, 3, 5, 21]))))))))
        (.seq
         (.reg [⟨(some 65), none, [], [], .ld true 7 (.t 3)⟩,
           ⟨(some 66), none, [], [], .cal (.k (.fn 36 [])) [(.t 65)]⟩,
           ⟨(some 67), none, [], [], .mv (.t 66)⟩,
           ⟨(some 68), (some (67, true)), [], [], .ld true 7 (.t 3)⟩,
           ⟨(some 69), (some (67, true)), [], [], .cal (.k (.fn 34 [])) [(.t 68)]⟩,
           ⟨(some 70), (some (67, true)), [], [], .mv (.t 0)⟩,
           ⟨(some 71), (some (67, true)), [], [], .lenL (.t 70)⟩,
           ⟨(some 72), (some (67, true)), [], [], .bin .eql false (.t 69) (.t 71)⟩,
           ⟨(some 73), none, [], [], .pick (.t 67) (.t 72) (.k (.sc (.bool false)))⟩,
           ⟨(some 74), none, [], [], .mv (.t 73)⟩,
           ⟨(some 75), (some (74, true)), [], [], .ld true 7 (.t 3)⟩,
           ⟨(some 76), (some (74, true)), [], [], .cal (.k (.fn 37 [])) [(.t 75)]⟩,
           ⟨(some 77), (some (74, true)), [], [], .bin .eql false (.t 76) (.k (.sc (.int .i64 (0))))⟩,
           ⟨(some 78), none, [], [], .pick (.t 74) (.t 77) (.k (.sc (.bool false)))⟩,
           ⟨(some 79), none, [], [], .mv (.t 78)⟩,
           ⟨(some 80), (some (79, true)), [], [], .cal (.k (.fn 30 [])) []⟩,
           ⟨(some 81), none, [], [], .pick (.t 79) (.t 80) (.k (.sc (.bool false)))⟩,
           ⟨(some 2), none, [], [], .mv (.t 81)⟩] (some [2]))
         .ret)))))))
theorem b5 : cmpG Try.prog 5 = some (strip a5, r5, 82) := by kernel_rfl


end Go.Proofs.Ytbmdahhhgpbchaa.Cod
