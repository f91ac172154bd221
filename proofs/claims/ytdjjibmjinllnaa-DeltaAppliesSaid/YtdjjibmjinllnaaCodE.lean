import Derived.Test.YtdjjibmjinllnaaProg
import Derived.Test.YtdjjibmjinllnaaSimD
import Derived.KernelRfl
namespace Go.Proofs.Ytdjjibmjinllnaa.Cod
open Go Go.Sim Go.Proofs
set_option maxRecDepth 100000
abbrev r31 : List AR := [.t 4]
abbrev a31 : ACode :=
  (.seq
   (.reg [⟨(some 4), none, [], [], .mv (.k (.sc (.bool false)))⟩] (some [0, 1]))
   (.seq
    (.seq
     (.reg [⟨(some 6), none, [], [], .mv (.t 0)⟩,
       ⟨(some 7), none, [], [], .lenL (.t 6)⟩,
       ⟨(some 8), none, [], [], .mv (.t 1)⟩,
       ⟨(some 9), none, [], [], .lenL (.t 8)⟩,
       ⟨(some 10), none, [], [], .bin .neq false (.t 7) (.t 9)⟩] (some [0, 1, 10]))
     (.cond (.t 10)
      (.keep []
       (.seq
        (.reg [⟨(some 4), none, [], [], .mv (.k (.sc (.bool false)))⟩] none)
        .ret))
      (.keep [0, 1]
       .skip)))
    (.seq
     (.seq
      (.reg [⟨(some 11), none, [], [], .mv (.t 0)⟩,
        ⟨(some 12), none, [], [], .lenL (.t 11)⟩,
        ⟨(some 13), none, [], [], .mv (.k (.sc (.int .i64 (0))))⟩] (some [0, 1, 12, 13]))
      (.block 0
       (.loop
        (.seq
         (.reg [⟨(some 14), none, [], [], .bin .lss false (.t 13) (.t 12)⟩] none)
         (.seq
          (.cond (.t 14)
           (.keep [0, 1, 12, 13]
            .skip)
           (.exit 0))
          (.seq
           (.block 1
            (.seq
             (.reg [⟨(some 15), none, [], [], .mv (.t 13)⟩,
               ⟨(some 5), none, [], [], .mv (.t 15)⟩] (some [0, 1, 5, 12, 13]))
             (.seq
              (.regD (⟨(some 16), none, [(.t 0)], [], .mv (.t 0)⟩ ::
                ⟨(some 17), none, [(.t 5)], [0], .mv (.t 5)⟩ ::
                ⟨(some 18), none, [(.t 16), (.t 17)], [], .ixaS 3 (.t 16) (.t 17)⟩ ::
                ⟨(some 19), none, [(.t 18)], [], .fa 0 (.t 18)⟩ ::
                ⟨(some 20), none, [(.t 19)], [], .ld false 1 (.t 19)⟩ ::
                ⟨(some 21), none, [(.t 1)], [0, 1, 2, 3, 4], .mv (.t 1)⟩ ::
                ⟨(some 22), none, [(.t 5)], [0, 1, 2, 3, 4, 5], .mv (.t 5)⟩ ::
                ⟨(some 23), none, [(.t 21), (.t 22)], [0, 1, 2, 3, 4], .ixaS 3 (.t 21) (.t 22)⟩ ::
                ⟨(some 24), none, [(.t 23)], [0, 1, 2, 3, 4], .fa 0 (.t 23)⟩ ::
                ⟨(some 25), none, [(.t 24)], [0, 1, 2, 3, 4], .ld false 1 (.t 24)⟩ ::
                ⟨(some 26), none, [(.t 20), (.t 25)], [], .bin .neq false (.t 20) (.t 25)⟩ ::
                ⟨(some 27), none, [(.t 26)], [], .mv (.t 26)⟩ ::
                ⟨(some 28), (some (27, false)), [(.t 0)], [], .mv (.t 0)⟩ ::
                ⟨(some 29), (some (27, false)), [(.t 5)], [12], .mv (.t 5)⟩ ::
                ⟨(some 30), (some (27, false)), [(.t 28), (.t 29)], [], .ixaS 3 (.t 28) (.t 29)⟩ ::
                ⟨(some 31), (some (27, false)), [(.t 30)], [], .fa 1 (.t 30)⟩ ::
                ⟨(some 32), (some (27, false)), [(.t 31)], [], .ld false 1 (.t 31)⟩ ::
                ⟨(some 33), (some (27, false)), [(.t 1)], [12, 13, 14, 15, 16], .mv (.t 1)⟩ ::
                ⟨(some 34), (some (27, false)), [(.t 5)], [12, 13, 14, 15, 16, 17], .mv (.t 5)⟩ ::
                ⟨(some 35), (some (27, false)), [(.t 33), (.t 34)], [12, 13, 14, 15, 16], .ixaS 3 (.t 33) (.t 34)⟩ ::
                ⟨(some 36), (some (27, false)), [(.t 35)], [12, 13, 14, 15, 16], .fa 1 (.t 35)⟩ ::
                ⟨(some 37), (some (27, false)), [(.t 36)], [12, 13, 14, 15, 16], .ld false 1 (.t 36)⟩ ::
                ⟨(some 38), (some (27, false)), [(.t 32), (.t 37)], [], .bin .neq false (.t 32) (.t 37)⟩ ::
                ⟨(some 39), none, [(.t 27), (.k (.sc (.bool true))), (.t 38)], [], .pick (.t 27) (.k (.sc (.bool true))) (.t 38)⟩ ::
                ⟨(some 40), none, [(.t 39)], [], .mv (.t 39)⟩ ::
                ⟨(some 41), (some (40, false)), [(.t 0)], [], .mv (.t 0)⟩ ::
                ⟨(some 42), (some (40, false)), [(.t 5)], [25], .mv (.t 5)⟩ ::
                ⟨(some 43), (some (40, false)), [(.t 41), (.t 42)], [], .ixaS 3 (.t 41) (.t 42)⟩ ::
                ⟨(some 44), (some (40, false)), [(.t 43)], [], .fa 2 (.t 43)⟩ ::
                ⟨(some 45), (some (40, false)), [(.t 44)], [], .ld false 1 (.t 44)⟩ ::
                ⟨(some 46), (some (40, false)), [(.t 1)], [25, 26, 27, 28, 29], .mv (.t 1)⟩ ::
                ⟨(some 47), (some (40, false)), [(.t 5)], [25, 26, 27, 28, 29, 30], .mv (.t 5)⟩ ::
                ⟨(some 48), (some (40, false)), [(.t 46), (.t 47)], [25, 26, 27, 28, 29], .ixaS 3 (.t 46) (.t 47)⟩ ::
                ⟨(some 49), (some (40, false)), [(.t 48)], [25, 26, 27, 28, 29], .fa 2 (.t 48)⟩ ::
                ⟨(some 50), (some (40, false)), [(.t 49)], [25, 26, 27, 28, 29], .ld false 1 (.t 49)⟩ ::
                ⟨(some 51), (some (40, false)), [(.k (.fn 33 [])), (.t 45), (.t 50)], [], .cal (.k (.fn 33 [])) [(.t 45), (.t 50)]⟩ ::
                ⟨(some 52), (some (40, false)), [(.t 51)], [], .un .not (.t 51)⟩ ::
                ⟨(some 53), none, [(.t 40), (.k (.sc (.bool true))), (.t 52)], [], .pick (.t 40) (.k (.sc (.bool true))) (.t 52)⟩ :: []) (some [0, 1, 12, 13, 53]))
              (.cond (.t 53)
               (.keep []
                (.seq
                 (.reg [⟨(some 4), none, [], [], .mv (.k (.sc (.bool false)))⟩] none)
                 .ret))
               (.keep [0, 1, 12, 13]
                .skip)))))
           (.reg [⟨(some 54), none, [], [], .bin .add false (.t 13) (.k (.sc (.int .i64 (1))))⟩,
             ⟨(some 13), none, [], [], .mv (.t 54)⟩] (some [0, 1, 12, 13]))))))))
     (.seq
      (.reg [⟨(some 4), none, [], [], .mv (.k (.sc (.bool true)))⟩] (some [4]))
      .ret))))
theorem b31 : cmpG Try.prog 31 = some (strip a31, r31, 55) := by kernel_rfl

abbrev r32 : List AR := [.t 4]
abbrev a32 : ACode :=
  (.seq
   (.reg [⟨(some 4), none, [], [], .mv (.k .nl)⟩] (some [0, 1]))
   (.seq
    (.reg [⟨(some 5), none, [], [], .mv (.k .nl)⟩] none)
    (.seq
     (.seq
      (.reg [⟨(some 6), none, [], [], .mv (.k (.sc (.int .i64 (0))))⟩] none)
      (.block 0
       (.loop
        (.seq
         (.seq
          (.reg [⟨(some 12), none, [], [], .mv (.t 6)⟩,
            ⟨(some 13), none, [], [], .mv (.t 1)⟩,
            ⟨(some 14), none, [], [], .lenL (.t 13)⟩,
            ⟨(some 15), none, [], [], .bin .lss false (.t 12) (.t 14)⟩] (some [0, 1, 5, 6, 15]))
          (.cond (.t 15)
           (.keep [0, 1, 5, 6]
            .skip)
           (.exit 0)))
         (.block 1
          (.seq
           (.reg [⟨(some 7), none, [], [], .mv (.k (.sc (.int .i64 (0))))⟩,
             ⟨(some 8), none, [], [], .mv (.k (.sc (.int .i64 (0))))⟩] none)
           (.seq
            (.seq
             (.reg [⟨(some 9), none, [], [], .mv (.k (.sc (.int .i64 (0))))⟩] none)
             (.block 2
              (.loop
               (.seq
                (.seq
                 (.reg [⟨(some 16), none, [], [], .mv (.t 9)⟩,
                   ⟨(some 17), none, [], [], .mv (.t 0)⟩,
                   ⟨(some 18), none, [], [], .lenL (.t 17)⟩,
                   ⟨(some 19), none, [], [], .bin .lss false (.t 16) (.t 18)⟩] (some [0, 1, 5, 6, 7, 8, 9, 19]))
                 (.cond (.t 19)
                  (.keep [0, 1, 5, 6, 7, 8, 9]
                   .skip)
                  (.exit 2)))
                (.seq
                 (.block 3
                  (.seq
                   (.regD [⟨(some 22), none, [(.t 0)], [], .mv (.t 0)⟩,
                     ⟨(some 23), none, [(.t 9)], [0], .mv (.t 9)⟩,
                     ⟨(some 24), none, [(.t 22), (.t 23)], [], .slL 1 (some (.t 23)) none none (.t 22)⟩,
                     ⟨(some 25), none, [(.t 1)], [0, 1, 2], .mv (.t 1)⟩,
                     ⟨(some 26), none, [(.t 6)], [0, 1, 2, 3], .mv (.t 6)⟩,
                     ⟨(some 27), none, [(.t 25), (.t 26)], [0, 1, 2], .slL 1 (some (.t 26)) none none (.t 25)⟩,
                     ⟨(some 28), none, [(.k (.fn 61 [])), (.t 24), (.t 27)], [], .cal (.k (.fn 61 [])) [(.t 24), (.t 27)]⟩,
                     ⟨(some 10), none, [(.t 28)], [], .mv (.t 28)⟩] (some [0, 1, 5, 6, 7, 8, 9, 10]))
                   (.seq
                    (.reg [⟨(some 29), none, [], [], .mv (.t 10)⟩,
                      ⟨(some 30), none, [], [], .mv (.t 8)⟩,
                      ⟨(some 31), none, [], [], .bin .gtr false (.t 29) (.t 30)⟩] (some [0, 1, 5, 6, 7, 8, 9, 10, 31]))
                    (.cond (.t 31)
                     (.keep [0, 1, 5, 6, 9, 10]
                      (.reg [⟨(some 32), none, [], [], .mv (.t 9)⟩,
                        ⟨(some 33), none, [], [], .mv (.t 10)⟩,
                        ⟨(some 7), none, [], [], .mv (.t 32)⟩,
                        ⟨(some 8), none, [], [], .mv (.t 33)⟩] (some [0, 1, 5, 6, 7, 8, 9])))
                     (.keep [0, 1, 5, 6, 7, 8, 9]
                      .skip)))))
                 (.reg [⟨(some 20), none, [], [], .mv (.t 9)⟩,
                   ⟨(some 21), none, [], [], .bin .add false (.t 20) (.k (.sc (.int .i64 (1))))⟩,
                   ⟨(some 9), none, [], [], .mv (.t 21)⟩] (some [0, 1, 5, 6, 7, 8, 9])))))))
            (.seq
             (.seq
              (.reg [⟨(some 34), none, [], [], .mv (.t 8)⟩,
                ⟨(some 35), none, [], [], .bin .geq false (.t 34) (.k (.sc (.int .i64 (8))))⟩] (some [0, 1, 5, 6, 7, 8, 35]))
              (.cond (.t 35)
               (.keep [0, 1, 5, 6, 7, 8]
                (.seq
                 (.reg [⟨(some 36), none, [], [], .mv (.t 5)⟩,
                   ⟨(some 37), none, [], [], .mv (.t 7)⟩,
                   ⟨(some 38), none, [], [], .mv (.t 8)⟩,
                   ⟨(some 39), none, [], [], .bld [(.sc (.int .i64 (0))), (.sc (.int .i64 (0))), .nl] [(0, 1, (.t 37)), (1, 1, (.t 38))]⟩,
                   ⟨(some 40), none, [], [], .bsl 1 3 [(.sc (.int .i64 (0))), (.sc (.int .i64 (0))), .nl] [(0, 3, (.t 39))]⟩,
                   ⟨(some 41), none, [], [], .app 3 40 (.t 36) (.t 40)⟩,
                   ⟨(some 5), none, [], [], .mv (.t 41)⟩] (some [0, 1, 5, 6, 8]))
                 (.seq
                  (.reg [⟨(some 42), none, [], [], .mv (.t 6)⟩,
                    ⟨(some 43), none, [], [], .mv (.t 8)⟩,
                    ⟨(some 44), none, [], [], .bin .add false (.t 42) (.t 43)⟩,
                    ⟨(some 6), none, [], [], .mv (.t 44)⟩] (some [0, 1, 5, 6]))
                  (.exit 1))))
               (.keep [0, 1, 5, 6]
                .skip)))
             (.seq
              (.seq
               (.reg [⟨(some 45), none, [], [], .mv (.t 5)⟩,
                 ⟨(some 46), none, [], [], .lenL (.t 45)⟩,
                 ⟨(some 11), none, [], [], .mv (.t 46)⟩] (some [0, 1, 5, 6, 11]))
               (.seq
                (.reg [⟨(some 47), none, [], [], .mv (.t 11)⟩,
                  ⟨(some 48), none, [], [], .bin .gtr false (.t 47) (.k (.sc (.int .i64 (0))))⟩,
                  ⟨(some 49), none, [], [], .mv (.t 48)⟩,
                  ⟨(some 50), (some (49, true)), [], [], .mv (.t 5)⟩,
                  ⟨(some 51), (some (49, true)), [], [], .mv (.t 11)⟩,
                  ⟨(some 52), (some (49, true)), [], [], .bin .sub false (.t 51) (.k (.sc (.int .i64 (1))))⟩,
                  ⟨(some 53), (some (49, true)), [], [], .ixaS 3 (.t 50) (.t 52)⟩,
                  ⟨(some 54), (some (49, true)), [], [], .fa 2 (.t 53)⟩,
                  ⟨(some 55), (some (49, true)), [], [], .ld false 1 (.t 54)⟩,
                  ⟨(some 56), (some (49, true)), [], [], .lenL (.t 55)⟩,
                  ⟨(some 57), (some (49, true)), [], [], .bin .gtr false (.t 56) (.k (.sc (.int .i64 (0))))⟩,
                  ⟨(some 58), none, [], [], .pick (.t 49) (.t 57) (.k (.sc (.bool false)))⟩] (some [0, 1, 5, 6, 11, 58]))
                (.cond (.t 58)
                 (.keep [0, 1, 5, 6, 11]
                  (.regD [⟨(some 59), none, [(.t 5)], [], .mv (.t 5)⟩,
                    ⟨(some 60), none, [(.t 11)], [0], .mv (.t 11)⟩,
                    ⟨(some 61), none, [(.t 60), (.k (.sc (.int .i64 (1))))], [0], .bin .sub false (.t 60) (.k (.sc (.int .i64 (1))))⟩,
                    ⟨(some 62), none, [(.t 5)], [0, 1, 2], .mv (.t 5)⟩,
                    ⟨(some 63), none, [(.t 11)], [0, 1, 2, 3], .mv (.t 11)⟩,
                    ⟨(some 64), none, [(.t 63), (.k (.sc (.int .i64 (1))))], [0, 1, 2, 3], .bin .sub false (.t 63) (.k (.sc (.int .i64 (1))))⟩,
                    ⟨(some 65), none, [(.t 62), (.t 64)], [0, 1, 2], .ixaS 3 (.t 62) (.t 64)⟩,
                    ⟨(some 66), none, [(.t 65)], [0, 1, 2], .fa 2 (.t 65)⟩,
                    ⟨(some 67), none, [(.t 66)], [0, 1, 2], .ld false 1 (.t 66)⟩,
                    ⟨(some 68), none, [(.k .nl), (.t 67)], [0, 1, 2], .app 1 1 (.k .nl) (.t 67)⟩,
                    ⟨(some 69), none, [(.t 1)], [0, 1, 2, 3, 4, 5, 6, 7, 8, 9], .mv (.t 1)⟩,
                    ⟨(some 70), none, [(.t 6)], [0, 1, 2, 3, 4, 5, 6, 7, 8, 9, 10], .mv (.t 6)⟩,
                    ⟨(some 71), none, [(.t 69), (.t 70)], [0, 1, 2, 3, 4, 5, 6, 7, 8, 9], .ixaS 1 (.t 69) (.t 70)⟩,
                    ⟨(some 72), none, [(.t 71)], [0, 1, 2, 3, 4, 5, 6, 7, 8, 9], .ld false 1 (.t 71)⟩,
                    ⟨(some 73), none, [(.t 72)], [0, 1, 2, 3, 4, 5, 6, 7, 8, 9], .bsl 1 1 [(.sc (.int .u8 (0)))] [(0, 1, (.t 72))]⟩,
                    ⟨(some 74), none, [(.t 68), (.t 73)], [0, 1, 2], .app 1 1 (.t 68) (.t 73)⟩,
                    ⟨(some 75), none, [(.t 59), (.t 61)], [], .ixaS 3 (.t 59) (.t 61)⟩,
                    ⟨(some 76), none, [(.t 75)], [], .fa 2 (.t 75)⟩,
                    ⟨none, none, [(.t 76), (.t 74)], [], .sto 1 (.t 76) (.t 74)⟩] (some [0, 1, 5, 6])))
                 (.keep [0, 1, 5, 6]
                  (.reg [⟨(some 77), none, [], [], .mv (.t 5)⟩,
                    ⟨(some 78), none, [], [], .mv (.t 1)⟩,
                    ⟨(some 79), none, [], [], .mv (.t 6)⟩,
                    ⟨(some 80), none, [], [], .ixaS 1 (.t 78) (.t 79)⟩,
                    ⟨(some 81), none, [], [], .ld false 1 (.t 80)⟩,
                    ⟨(some 82), none, [], [], .bsl 1 1 [(.sc (.int .u8 (0)))] [(0, 1, (.t 81))]⟩,
                    ⟨(some 83), none, [], [], .bld [(.sc (.int .i64 (0))), (.sc (.int .i64 (0))), .nl] [(2, 1, (.t 82))]⟩,
                    ⟨(some 84), none, [], [], .bsl 1 3 [(.sc (.int .i64 (0))), (.sc (.int .i64 (0))), .nl] [(0, 3, (.t 83))]⟩,
                    ⟨(some 85), none, [], [], .appR 3 40 (.t 77) (.t 84)⟩,
                    ⟨(some 5), none, [], [], .mv (.t 85)⟩] (some [0, 1, 5, 6]))))))
              (.reg [⟨(some 86), none, [], [], .mv (.t 6)⟩,
                ⟨(some 87), none, [], [], .bin .add false (.t 86) (.k (.sc (.int .i64 (1))))⟩,
                ⟨(some 6), none, [], [], .mv (.t 87)⟩] (some [0, 1, 5, 6])))))))))))
     (.seq
      (.reg [⟨(some 88), none, [], [], .mv (.t 5)⟩,
        ⟨(some 4), none, [], [], .mv (.t 88)⟩] (some [4]))
      .ret))))
theorem b32 : cmpG Try.prog 32 = some (strip a32, r32, 89) := by kernel_rfl

abbrev r33 : List AR := [.t 4]
abbrev a33 : ACode :=
  (.seq
   (.reg [⟨(some 4), none, [], [], .mv (.k (.sc (.bool false)))⟩] (some [0, 1]))
   (.seq
    (.seq
     (.reg [⟨(some 6), none, [], [], .mv (.t 0)⟩,
       ⟨(some 7), none, [], [], .lenL (.t 6)⟩,
       ⟨(some 8), none, [], [], .mv (.t 1)⟩,
       ⟨(some 9), none, [], [], .lenL (.t 8)⟩,
       ⟨(some 10), none, [], [], .bin .neq false (.t 7) (.t 9)⟩] (some [0, 1, 10]))
     (.cond (.t 10)
      (.keep []
       (.seq
        (.reg [⟨(some 4), none, [], [], .mv (.k (.sc (.bool false)))⟩] none)
        .ret))
      (.keep [0, 1]
       .skip)))
    (.seq
     (.seq
      (.reg [⟨(some 5), none, [], [], .mv (.k (.sc (.int .i64 (0))))⟩] (some [0, 1, 5]))
      (.block 0
       (.loop
        (.seq
         (.seq
          (.reg [⟨(some 11), none, [], [], .mv (.t 5)⟩,
            ⟨(some 12), none, [], [], .mv (.t 0)⟩,
            ⟨(some 13), none, [], [], .lenL (.t 12)⟩,
            ⟨(some 14), none, [], [], .bin .lss false (.t 11) (.t 13)⟩] (some [0, 1, 5, 14]))
          (.cond (.t 14)
           (.keep [0, 1, 5]
            .skip)
           (.exit 0)))
         (.seq
          (.block 1
           (.seq
            (.regD [⟨(some 17), none, [(.t 0)], [], .mv (.t 0)⟩,
              ⟨(some 18), none, [(.t 5)], [0], .mv (.t 5)⟩,
              ⟨(some 19), none, [(.t 17), (.t 18)], [], .ixaS 1 (.t 17) (.t 18)⟩,
              ⟨(some 20), none, [(.t 19)], [], .ld false 1 (.t 19)⟩,
              ⟨(some 21), none, [(.t 1)], [0, 1, 2, 3], .mv (.t 1)⟩,
              ⟨(some 22), none, [(.t 5)], [0, 1, 2, 3, 4], .mv (.t 5)⟩,
              ⟨(some 23), none, [(.t 21), (.t 22)], [0, 1, 2, 3], .ixaS 1 (.t 21) (.t 22)⟩,
              ⟨(some 24), none, [(.t 23)], [0, 1, 2, 3], .ld false 1 (.t 23)⟩,
              ⟨(some 25), none, [(.t 20), (.t 24)], [], .bin .neq false (.t 20) (.t 24)⟩] (some [0, 1, 5, 25]))
            (.cond (.t 25)
             (.keep []
              (.seq
               (.reg [⟨(some 4), none, [], [], .mv (.k (.sc (.bool false)))⟩] none)
               .ret))
             (.keep [0, 1, 5]
              .skip))))
          (.reg [⟨(some 15), none, [], [], .mv (.t 5)⟩,
            ⟨(some 16), none, [], [], .bin .add false (.t 15) (.k (.sc (.int .i64 (1))))⟩,
            ⟨(some 5), none, [], [], .mv (.t 16)⟩] (some [0, 1, 5])))))))
     (.seq
      (.reg [⟨(some 4), none, [], [], .mv (.k (.sc (.bool true)))⟩] (some [4]))
      .ret))))
theorem b33 : cmpG Try.prog 33 = some (strip a33, r33, 26) := by kernel_rfl

abbrev r27 : List AR := [.t 4]
abbrev a27 : ACode :=
  (.seq
   (.reg [⟨(some 4), none, [], [], .mv (.k .nl)⟩] (some [0, 1]))
   (.seq
    (.reg [⟨(some 5), none, [], [], .mv (.k .nl)⟩] none)
    (.seq
     (.block 0
      (.loop
       (.seq
        (.seq
         (.reg [⟨(some 9), none, [], [], .mv (.t 1)⟩,
           ⟨(some 10), none, [], [], .lenL (.t 9)⟩,
           ⟨(some 11), none, [], [], .bin .gtr false (.t 10) (.k (.sc (.int .i64 (0))))⟩] (some [0, 1, 5, 11]))
         (.cond (.t 11)
          (.keep [0, 1, 5]
           .skip)
          (.exit 0)))
        (.block 1
         (.seq
          (.reg [⟨(some 12), none, [], [], .mv (.t 0)⟩,
            ⟨(some 13), none, [], [], .mv (.t 1)⟩,
            ⟨(some 14), none, [], [], .cal (.k (.fn 55 [])) [(.t 12), (.t 13)]⟩,
            ⟨(some 6), none, [], [], .alc [(.sc (.int .i64 (0))), (.sc (.int .i64 (0))), .nl]⟩,
            ⟨none, none, [], [], .sto 3 (.t 6) (.t 14)⟩] (some [0, 1, 5, 6]))
          (.seq
           (.seq
            (.reg [⟨(some 15), none, [], [], .fa 1 (.t 6)⟩,
              ⟨(some 16), none, [], [], .ld false 1 (.t 15)⟩,
              ⟨(some 17), none, [], [], .bin .geq false (.t 16) (.k (.sc (.int .i64 (8))))⟩] (some [0, 1, 5, 6, 17]))
            (.cond (.t 17)
             (.keep [0, 1, 5, 6]
              (.seq
               (.reg [⟨(some 18), none, [], [], .mv (.t 5)⟩,
                 ⟨(some 19), none, [], [], .ld true 3 (.t 6)⟩,
                 ⟨(some 20), none, [], [], .bsl 1 3 [(.sc (.int .i64 (0))), (.sc (.int .i64 (0))), .nl] [(0, 3, (.t 19))]⟩,
                 ⟨(some 21), none, [], [], .app 3 40 (.t 18) (.t 20)⟩,
                 ⟨(some 5), none, [], [], .mv (.t 21)⟩] (some [0, 1, 5, 6]))
               (.seq
                (.reg [⟨(some 22), none, [], [], .mv (.t 1)⟩,
                  ⟨(some 23), none, [], [], .fa 1 (.t 6)⟩,
                  ⟨(some 24), none, [], [], .ld false 1 (.t 23)⟩,
                  ⟨(some 25), none, [], [], .slL 1 (some (.t 24)) none none (.t 22)⟩,
                  ⟨(some 1), none, [], [], .mv (.t 25)⟩] (some [0, 1, 5]))
                (.exit 1))))
             (.keep [0, 1, 5]
              .skip)))
           (.seq
            (.seq
             (.reg [⟨(some 26), none, [], [], .mv (.t 5)⟩,
               ⟨(some 27), none, [], [], .lenL (.t 26)⟩,
               ⟨(some 7), none, [], [], .mv (.t 27)⟩] (some [0, 1, 5, 7]))
             (.seq
              (.reg [⟨(some 28), none, [], [], .mv (.t 7)⟩,
                ⟨(some 29), none, [], [], .bin .eql false (.t 28) (.k (.sc (.int .i64 (0))))⟩,
                ⟨(some 30), none, [], [], .mv (.t 29)⟩,
                ⟨(some 31), (some (30, false)), [], [], .mv (.t 5)⟩,
                ⟨(some 32), (some (30, false)), [], [], .mv (.t 7)⟩,
                ⟨(some 33), (some (30, false)), [], [], .bin .sub false (.t 32) (.k (.sc (.int .i64 (1))))⟩,
                ⟨(some 34), (some (30, false)), [], [], .ixaS 3 (.t 31) (.t 33)⟩,
                ⟨(some 35), (some (30, false)), [], [], .ld true 3 (.t 34)⟩,
                ⟨(some 36), (some (30, false)), [], [], .cal (.k (.fn 56 [])) [(.t 35)]⟩,
                ⟨(some 37), (some (30, false)), [], [], .un .not (.t 36)⟩,
                ⟨(some 38), none, [], [], .pick (.t 30) (.k (.sc (.bool true))) (.t 37)⟩] (some [0, 1, 5, 38]))
              (.cond (.t 38)
               (.keep [0, 1, 5]
                (.reg [⟨(some 39), none, [], [], .mv (.t 5)⟩,
                  ⟨(some 40), none, [], [], .bld [(.sc (.int .i64 (0))), (.sc (.int .i64 (0))), .nl] []⟩,
                  ⟨(some 41), none, [], [], .bsl 1 3 [(.sc (.int .i64 (0))), (.sc (.int .i64 (0))), .nl] [(0, 3, (.t 40))]⟩,
                  ⟨(some 42), none, [], [], .app 3 40 (.t 39) (.t 41)⟩,
                  ⟨(some 5), none, [], [], .mv (.t 42)⟩] (some [0, 1, 5])))
               (.keep [0, 1, 5]
                .skip))))
            (.seq
             (.reg [⟨(some 43), none, [], [], .mv (.t 5)⟩,
               ⟨(some 44), none, [], [], .lenL (.t 43)⟩,
               ⟨(some 45), none, [], [], .bin .sub false (.t 44) (.k (.sc (.int .i64 (1))))⟩,
               ⟨(some 8), none, [], [], .mv (.t 45)⟩] (some [0, 1, 5, 8]))
             (.seq
              (.regD [⟨(some 46), none, [(.t 5)], [], .mv (.t 5)⟩,
                ⟨(some 47), none, [(.t 8)], [0], .mv (.t 8)⟩,
                ⟨(some 48), none, [(.t 5)], [0, 1], .mv (.t 5)⟩,
                ⟨(some 49), none, [(.t 8)], [0, 1, 2], .mv (.t 8)⟩,
                ⟨(some 50), none, [(.t 48), (.t 49)], [0, 1], .ixaS 3 (.t 48) (.t 49)⟩,
                ⟨(some 51), none, [(.t 50)], [0, 1], .fa 2 (.t 50)⟩,
                ⟨(some 52), none, [(.t 51)], [0, 1], .ld false 1 (.t 51)⟩,
                ⟨(some 53), none, [(.t 1)], [0, 1, 2, 3, 4, 5, 6], .mv (.t 1)⟩,
                ⟨(some 54), none, [(.t 53), (.k (.sc (.int .i64 (0))))], [0, 1, 2, 3, 4, 5, 6], .ixaS 1 (.t 53) (.k (.sc (.int .i64 (0))))⟩,
                ⟨(some 55), none, [(.t 54)], [0, 1, 2, 3, 4, 5, 6], .ld false 1 (.t 54)⟩,
                ⟨(some 56), none, [(.t 55)], [0, 1, 2, 3, 4, 5, 6], .bsl 1 1 [(.sc (.int .u8 (0)))] [(0, 1, (.t 55))]⟩,
                ⟨(some 57), none, [(.t 52), (.t 56)], [0, 1], .app 1 1 (.t 52) (.t 56)⟩,
                ⟨(some 58), none, [(.t 46), (.t 47)], [], .ixaS 3 (.t 46) (.t 47)⟩,
                ⟨(some 59), none, [(.t 58)], [], .fa 2 (.t 58)⟩,
                ⟨none, none, [(.t 59), (.t 57)], [], .sto 1 (.t 59) (.t 57)⟩] (some [0, 1, 5]))
              (.reg [⟨(some 60), none, [], [], .mv (.t 1)⟩,
                ⟨(some 61), none, [], [], .slL 1 (some (.k (.sc (.int .i64 (1))))) none none (.t 60)⟩,
                ⟨(some 1), none, [], [], .mv (.t 61)⟩] (some [0, 1, 5])))))))))))
     (.seq
      (.reg [⟨(some 62), none, [], [], .mv (.t 5)⟩,
        ⟨(some 4), none, [], [], .mv (.t 62)⟩] (some [4]))
      .ret))))
theorem b27 : cmpG Try.prog 27 = some (strip a27, r27, 63) := by kernel_rfl

abbrev r55 : List AR := [.c 4 true 3]
abbrev a55 : ACode :=
  (.seq
   (.reg [⟨(some 4), none, [], [], .alc [(.sc (.int .i64 (0))), (.sc (.int .i64 (0))), .nl]⟩] none)
   (.scope
    (.seq
     (.reg [⟨(some 5), none, [], [], .alc [(.sc (.int .i64 (0))), (.sc (.int .i64 (0))), .nl]⟩] none)
     (.seq
      .skip
      (.seq
       (.seq
        (.reg [⟨(some 8), none, [], [], .mv (.t 0)⟩,
          ⟨(some 9), none, [], [], .lenL (.t 8)⟩,
          ⟨(some 10), none, [], [], .mv (.k (.sc (.int .i64 (0))))⟩] (some [0, 1, 4, 5, 9, 10]))
        (.block 0
         (.loop
          (.seq
           (.reg [⟨(some 11), none, [], [], .bin .lss false (.t 10) (.t 9)⟩] none)
           (.seq
            (.cond (.t 11)
             (.keep [0, 1, 4, 5, 9, 10]
              .skip)
             (.exit 0))
            (.seq
             (.block 1
              (.seq
               (.reg [⟨(some 12), none, [], [], .mv (.t 10)⟩,
                 ⟨(some 6), none, [], [], .mv (.t 12)⟩] (some [0, 1, 4, 5, 6, 9, 10]))
               (.seq
                (.seq
                 (.reg [⟨(some 13), none, [], [], .mv (.t 0)⟩,
                   ⟨(some 14), none, [], [], .mv (.t 6)⟩,
                   ⟨(some 15), none, [], [], .slL 1 (some (.t 14)) none none (.t 13)⟩,
                   ⟨(some 16), none, [], [], .mv (.t 1)⟩,
                   ⟨(some 17), none, [], [], .cal (.k (.fn 75 [])) [(.t 15), (.t 16)]⟩,
                   ⟨(some 7), none, [], [], .mv (.t 17)⟩] (some [0, 1, 4, 5, 6, 7, 9, 10]))
                 (.seq
                  (.reg [⟨(some 18), none, [], [], .mv (.t 7)⟩,
                    ⟨(some 19), none, [], [], .fa 1 (.t 5)⟩,
                    ⟨(some 20), none, [], [], .ld false 1 (.t 19)⟩,
                    ⟨(some 21), none, [], [], .bin .gtr false (.t 18) (.t 20)⟩] (some [0, 1, 4, 5, 6, 7, 9, 10, 21]))
                  (.cond (.t 21)
                   (.keep [0, 1, 4, 5, 6, 7, 9, 10]
                    (.reg [⟨(some 22), none, [], [], .mv (.t 6)⟩,
                      ⟨(some 23), none, [], [], .mv (.t 7)⟩,
                      ⟨(some 24), none, [], [], .bld [(.sc (.int .i64 (0))), (.sc (.int .i64 (0))), .nl] [(0, 1, (.t 22)), (1, 1, (.t 23))]⟩,
                      ⟨none, none, [], [], .sto 3 (.t 5) (.t 24)⟩] (some [0, 1, 4, 5, 9, 10])))
                   (.keep [0, 1, 4, 5, 9, 10]
                    .skip))))
                (.seq
                 (.reg [⟨(some 25), none, [], [], .fa 1 (.t 5)⟩,
                   ⟨(some 26), none, [], [], .ld false 1 (.t 25)⟩,
                   ⟨(some 27), none, [], [], .mv (.t 1)⟩,
                   ⟨(some 28), none, [], [], .lenL (.t 27)⟩,
                   ⟨(some 29), none, [], [], .bin .eql false (.t 26) (.t 28)⟩] (some [0, 1, 4, 5, 9, 10, 29]))
                 (.cond (.t 29)
                  (.exit 0)
                  (.keep [0, 1, 4, 5, 9, 10]
                   .skip))))))
             (.reg [⟨(some 30), none, [], [], .bin .add false (.t 10) (.k (.sc (.int .i64 (1))))⟩,
               ⟨(some 10), none, [], [], .mv (.t 30)⟩] (some [0, 1, 4, 5, 9, 10]))))))))
       (.seq
        (.reg [⟨(some 31), none, [], [], .ld true 3 (.t 5)⟩,
          ⟨none, none, [], [], .sto 3 (.t 4) (.t 31)⟩] (some [4]))
        .ret))))))
theorem b55 : cmpG Try.prog 55 = some (strip a55, r55, 32) := by kernel_rfl

abbrev r56 : List AR := [.t 2]
abbrev a56 : ACode :=
  (.seq
   (.reg [⟨(some 1), none, [], [], .box (.t 0)⟩,
     ⟨(some 2), none, [], [], .mv (.k (.sc (.bool false)))⟩] (some [1]))
   (.seq
    (.reg [⟨(some 3), none, [], [], .fa 2 (.t 1)⟩,
      ⟨(some 4), none, [], [], .ld false 1 (.t 3)⟩,
      ⟨(some 5), none, [], [], .lenL (.t 4)⟩,
      ⟨(some 6), none, [], [], .bin .gtr false (.t 5) (.k (.sc (.int .i64 (0))))⟩,
      ⟨(some 2), none, [], [], .mv (.t 6)⟩] (some [2]))
    .ret))
theorem b56 : cmpG Try.prog 56 = some (strip a56, r56, 7) := by kernel_rfl

abbrev r57 : List AR := [.t 2]
abbrev a57 : ACode :=
  (.seq
   (.reg [⟨(some 1), none, [], [], .box (.t 0)⟩,
     ⟨(some 2), none, [], [], .mv (.k (.sc (.bool false)))⟩] (some [1]))
   (.seq
    (.seq
     (.reg [⟨(some 3), none, [], [], .ld true 3 (.t 1)⟩,
       ⟨(some 4), none, [], [], .cal (.k (.fn 56 [])) [(.t 3)]⟩] (some [1, 4]))
     (.cond (.t 4)
      (.keep [1]
       (.seq
        (.reg [⟨(some 5), none, [], [], .fa 0 (.t 1)⟩,
          ⟨(some 6), none, [], [], .ld false 1 (.t 5)⟩,
          ⟨(some 7), none, [], [], .bin .eql false (.t 6) (.k (.sc (.int .i64 (0))))⟩,
          ⟨(some 8), none, [], [], .mv (.t 7)⟩,
          ⟨(some 9), (some (8, true)), [], [], .fa 1 (.t 1)⟩,
          ⟨(some 10), (some (8, true)), [], [], .ld false 1 (.t 9)⟩,
          ⟨(some 11), (some (8, true)), [], [], .bin .eql false (.t 10) (.k (.sc (.int .i64 (0))))⟩,
          ⟨(some 12), none, [], [], .pick (.t 8) (.t 11) (.k (.sc (.bool false)))⟩,
          ⟨(some 2), none, [], [], .mv (.t 12)⟩] (some [2]))
        .ret))
      (.keep [1]
       .skip)))
    (.seq
     (.reg [⟨(some 13), none, [], [], .fa 1 (.t 1)⟩,
       ⟨(some 14), none, [], [], .ld false 1 (.t 13)⟩,
       ⟨(some 15), none, [], [], .bin .gtr false (.t 14) (.k (.sc (.int .i64 (0))))⟩,
       ⟨(some 16), none, [], [], .mv (.t 15)⟩,
       ⟨(some 17), (some (16, true)), [], [], .fa 0 (.t 1)⟩,
       ⟨(some 18), (some (16, true)), [], [], .ld false 1 (.t 17)⟩,
       ⟨(some 19), (some (16, true)), [], [], .bin .geq false (.t 18) (.k (.sc (.int .i64 (0))))⟩,
       ⟨(some 20), none, [], [], .pick (.t 16) (.t 19) (.k (.sc (.bool false)))⟩,
       ⟨(some 2), none, [], [], .mv (.t 20)⟩] (some [2]))
     .ret)))
theorem b57 : cmpG Try.prog 57 = some (strip a57, r57, 21) := by kernel_rfl

abbrev r75 : List AR := [.t 4]
abbrev a75 : ACode :=
  (.seq
   (.reg [⟨(some 4), none, [], [], .mv (.k (.sc (.int .i64 (0))))⟩] (some [0, 1]))
   (.seq
    (.reg [⟨(some 7), none, [], [], .mv (.t 0)⟩,
      ⟨(some 8), none, [], [], .lenL (.t 7)⟩,
      ⟨(some 9), none, [], [], .mv (.t 1)⟩,
      ⟨(some 10), none, [], [], .lenL (.t 9)⟩,
      ⟨(some 11), none, [], [], .mn [(.t 8), (.t 10)]⟩,
      ⟨(some 5), none, [], [], .mv (.t 11)⟩] (some [0, 1, 5]))
    (.seq
     (.seq
      (.reg [⟨(some 12), none, [], [], .mv (.t 5)⟩,
        ⟨(some 13), none, [], [], .mv (.k (.sc (.int .i64 (0))))⟩] none)
      (.block 0
       (.loop
        (.seq
         (.reg [⟨(some 14), none, [], [], .bin .lss false (.t 13) (.t 12)⟩] none)
         (.seq
          (.cond (.t 14)
           (.keep [0, 1, 5, 12, 13]
            .skip)
           (.exit 0))
          (.seq
           (.block 1
            (.seq
             (.reg [⟨(some 15), none, [], [], .mv (.t 13)⟩,
               ⟨(some 6), none, [], [], .mv (.t 15)⟩] (some [0, 1, 5, 6, 12, 13]))
             (.seq
              (.regD [⟨(some 16), none, [(.t 0)], [], .mv (.t 0)⟩,
                ⟨(some 17), none, [(.t 6)], [0], .mv (.t 6)⟩,
                ⟨(some 18), none, [(.t 16), (.t 17)], [], .ixaS 1 (.t 16) (.t 17)⟩,
                ⟨(some 19), none, [(.t 18)], [], .ld false 1 (.t 18)⟩,
                ⟨(some 20), none, [(.t 1)], [0, 1, 2, 3], .mv (.t 1)⟩,
                ⟨(some 21), none, [(.t 6)], [0, 1, 2, 3, 4], .mv (.t 6)⟩,
                ⟨(some 22), none, [(.t 20), (.t 21)], [0, 1, 2, 3], .ixaS 1 (.t 20) (.t 21)⟩,
                ⟨(some 23), none, [(.t 22)], [0, 1, 2, 3], .ld false 1 (.t 22)⟩,
                ⟨(some 24), none, [(.t 19), (.t 23)], [], .bin .neq false (.t 19) (.t 23)⟩] (some [0, 1, 5, 6, 12, 13, 24]))
              (.cond (.t 24)
               (.keep [6]
                (.seq
                 (.reg [⟨(some 25), none, [], [], .mv (.t 6)⟩,
                   ⟨(some 4), none, [], [], .mv (.t 25)⟩] (some [4]))
                 .ret))
               (.keep [0, 1, 5, 12, 13]
                .skip)))))
           (.reg [⟨(some 26), none, [], [], .bin .add false (.t 13) (.k (.sc (.int .i64 (1))))⟩,
             ⟨(some 13), none, [], [], .mv (.t 26)⟩] (some [0, 1, 5, 12, 13]))))))))
     (.seq
      (.reg [⟨(some 27), none, [], [], .mv (.t 5)⟩,
        ⟨(some 4), none, [], [], .mv (.t 27)⟩] (some [4]))
      .ret))))
theorem b75 : cmpG Try.prog 75 = some (strip a75, r75, 28) := by kernel_rfl

abbrev r61 : List AR := [.t 4]
abbrev a61 : ACode :=
  (.seq
   (.reg [⟨(some 4), none, [], [], .mv (.k (.sc (.int .i64 (0))))⟩] (some [0, 1]))
   (.seq
    (.reg [⟨(some 5), none, [], [], .mv (.k (.sc (.int .i64 (0))))⟩] none)
    (.seq
     (.block 0
      (.loop
       (.seq
        (.seq
         (.regD [⟨(some 6), none, [(.t 5)], [], .mv (.t 5)⟩,
           ⟨(some 7), none, [(.t 0)], [0], .mv (.t 0)⟩,
           ⟨(some 8), none, [(.t 7)], [0], .lenL (.t 7)⟩,
           ⟨(some 9), none, [(.t 6), (.t 8)], [], .bin .lss false (.t 6) (.t 8)⟩,
           ⟨(some 10), none, [(.t 9)], [], .mv (.t 9)⟩,
           ⟨(some 11), (some (10, true)), [(.t 5)], [], .mv (.t 5)⟩,
           ⟨(some 12), (some (10, true)), [(.t 1)], [5], .mv (.t 1)⟩,
           ⟨(some 13), (some (10, true)), [(.t 12)], [5], .lenL (.t 12)⟩,
           ⟨(some 14), (some (10, true)), [(.t 11), (.t 13)], [], .bin .lss false (.t 11) (.t 13)⟩,
           ⟨(some 15), none, [(.t 10), (.t 14), (.k (.sc (.bool false)))], [], .pick (.t 10) (.t 14) (.k (.sc (.bool false)))⟩,
           ⟨(some 16), none, [(.t 15)], [], .mv (.t 15)⟩,
           ⟨(some 17), (some (16, true)), [(.t 0)], [], .mv (.t 0)⟩,
           ⟨(some 18), (some (16, true)), [(.t 5)], [11], .mv (.t 5)⟩,
           ⟨(some 19), (some (16, true)), [(.t 17), (.t 18)], [], .ixaS 1 (.t 17) (.t 18)⟩,
           ⟨(some 20), (some (16, true)), [(.t 19)], [], .ld false 1 (.t 19)⟩,
           ⟨(some 21), (some (16, true)), [(.t 1)], [11, 12, 13, 14], .mv (.t 1)⟩,
           ⟨(some 22), (some (16, true)), [(.t 5)], [11, 12, 13, 14, 15], .mv (.t 5)⟩,
           ⟨(some 23), (some (16, true)), [(.t 21), (.t 22)], [11, 12, 13, 14], .ixaS 1 (.t 21) (.t 22)⟩,
           ⟨(some 24), (some (16, true)), [(.t 23)], [11, 12, 13, 14], .ld false 1 (.t 23)⟩,
           ⟨(some 25), (some (16, true)), [(.t 20), (.t 24)], [], .bin .eql false (.t 20) (.t 24)⟩,
           ⟨(some 26), none, [(.t 16), (.t 25), (.k (.sc (.bool false)))], [], .pick (.t 16) (.t 25) (.k (.sc (.bool false)))⟩] (some [0, 1, 5, 26]))
         (.cond (.t 26)
          (.keep [0, 1, 5]
           .skip)
          (.exit 0)))
        (.block 1
         (.reg [⟨(some 27), none, [], [], .mv (.t 5)⟩,
           ⟨(some 28), none, [], [], .bin .add false (.t 27) (.k (.sc (.int .i64 (1))))⟩,
           ⟨(some 5), none, [], [], .mv (.t 28)⟩] (some [0, 1, 5]))))))
     (.seq
      (.reg [⟨(some 29), none, [], [], .mv (.t 5)⟩,
        ⟨(some 4), none, [], [], .mv (.t 29)⟩] (some [4]))
      .ret))))
theorem b61 : cmpG Try.prog 61 = some (strip a61, r61, 30) := by kernel_rfl

abbrev r28 : List AR := [.t 4, .t 5]
abbrev a28 : ACode :=
  (.seq
   (.reg [⟨(some 4), none, [], [], .mv (.k .nl)⟩,
     ⟨(some 5), none, [], [], .mv (.k (.sc (.int .i64 (0))))⟩] (some [0, 1]))
   (.seq
    (.reg [⟨(some 6), none, [], [], .mv (.k .nl)⟩] none)
    (.seq
     (.seq
      (.reg [⟨(some 10), none, [], [], .mv (.t 1)⟩,
        ⟨(some 11), none, [], [], .lenL (.t 10)⟩,
        ⟨(some 12), none, [], [], .mv (.k (.sc (.int .i64 (0))))⟩] (some [0, 6, 10, 11, 12]))
      (.block 0
       (.loop
        (.seq
         (.reg [⟨(some 13), none, [], [], .bin .lss false (.t 12) (.t 11)⟩] none)
         (.seq
          (.cond (.t 13)
           (.keep [0, 6, 10, 11, 12]
            .skip)
           (.exit 0))
          (.seq
           (.block 1
            (.seq
             (.reg [⟨(some 14), none, [], [], .ixaS 3 (.t 10) (.t 12)⟩,
               ⟨(some 15), none, [], [], .ld true 3 (.t 14)⟩,
               ⟨(some 8), none, [], [], .alc [(.sc (.int .i64 (0))), (.sc (.int .i64 (0))), .nl]⟩,
               ⟨none, none, [], [], .sto 3 (.t 8) (.t 15)⟩] (some [0, 6, 8, 10, 11, 12]))
             (.seq
              (.seq
               (.reg [⟨(some 16), none, [], [], .ld true 3 (.t 8)⟩,
                 ⟨(some 17), none, [], [], .cal (.k (.fn 57 [])) [(.t 16)]⟩,
                 ⟨(some 18), none, [], [], .un .not (.t 17)⟩,
                 ⟨(some 19), none, [], [], .mv (.t 18)⟩,
                 ⟨(some 20), (some (19, false)), [], [], .fa 0 (.t 8)⟩,
                 ⟨(some 21), (some (19, false)), [], [], .ld false 1 (.t 20)⟩,
                 ⟨(some 22), (some (19, false)), [], [], .mv (.t 0)⟩,
                 ⟨(some 23), (some (19, false)), [], [], .lenL (.t 22)⟩,
                 ⟨(some 24), (some (19, false)), [], [], .bin .gtr false (.t 21) (.t 23)⟩,
                 ⟨(some 25), none, [], [], .pick (.t 19) (.k (.sc (.bool true))) (.t 24)⟩,
                 ⟨(some 26), none, [], [], .mv (.t 25)⟩,
                 ⟨(some 27), (some (26, false)), [], [], .fa 1 (.t 8)⟩,
                 ⟨(some 28), (some (26, false)), [], [], .ld false 1 (.t 27)⟩,
                 ⟨(some 29), (some (26, false)), [], [], .mv (.t 0)⟩,
                 ⟨(some 30), (some (26, false)), [], [], .lenL (.t 29)⟩,
                 ⟨(some 31), (some (26, false)), [], [], .fa 0 (.t 8)⟩,
                 ⟨(some 32), (some (26, false)), [], [], .ld false 1 (.t 31)⟩,
                 ⟨(some 33), (some (26, false)), [], [], .bin .sub false (.t 30) (.t 32)⟩,
                 ⟨(some 34), (some (26, false)), [], [], .bin .gtr false (.t 28) (.t 33)⟩,
                 ⟨(some 35), none, [], [], .pick (.t 26) (.k (.sc (.bool true))) (.t 34)⟩] (some [0, 6, 8, 10, 11, 12, 35]))
               (.cond (.t 35)
                (.keep []
                 (.seq
                  (.reg [⟨(some 4), none, [], [], .mv (.k .nl)⟩,
                    ⟨(some 5), none, [], [], .mv (.k (.sc (.int .i64 (3))))⟩] none)
                  .ret))
                (.keep [0, 6, 8, 10, 11, 12]
                 .skip)))
              (.seq
               (.reg [⟨(some 36), none, [], [], .fa 2 (.t 8)⟩,
                 ⟨(some 37), none, [], [], .ld false 1 (.t 36)⟩,
                 ⟨(some 9), none, [], [], .mv (.t 37)⟩] (some [0, 6, 8, 9, 10, 11, 12]))
               (.seq
                (.seq
                 (.reg [⟨(some 38), none, [], [], .ld true 3 (.t 8)⟩,
                   ⟨(some 39), none, [], [], .cal (.k (.fn 56 [])) [(.t 38)]⟩,
                   ⟨(some 40), none, [], [], .un .not (.t 39)⟩] (some [0, 6, 8, 9, 10, 11, 12, 40]))
                 (.cond (.t 40)
                  (.keep [0, 6, 8, 10, 11, 12]
                   (.reg [⟨(some 41), none, [], [], .mv (.t 0)⟩,
                     ⟨(some 42), none, [], [], .fa 0 (.t 8)⟩,
                     ⟨(some 43), none, [], [], .ld false 1 (.t 42)⟩,
                     ⟨(some 44), none, [], [], .fa 0 (.t 8)⟩,
                     ⟨(some 45), none, [], [], .ld false 1 (.t 44)⟩,
                     ⟨(some 46), none, [], [], .fa 1 (.t 8)⟩,
                     ⟨(some 47), none, [], [], .ld false 1 (.t 46)⟩,
                     ⟨(some 48), none, [], [], .bin .add false (.t 45) (.t 47)⟩,
                     ⟨(some 49), none, [], [], .slL 1 (some (.t 43)) (some (.t 48)) none (.t 41)⟩,
                     ⟨(some 9), none, [], [], .mv (.t 49)⟩] (some [0, 6, 9, 10, 11, 12])))
                  (.keep [0, 6, 9, 10, 11, 12]
                   .skip)))
                (.seq
                 (.seq
                  (.reg [⟨(some 50), none, [], [], .mv (.t 6)⟩,
                    ⟨(some 51), none, [], [], .lenL (.t 50)⟩,
                    ⟨(some 52), none, [], [], .mv (.t 9)⟩,
                    ⟨(some 53), none, [], [], .lenL (.t 52)⟩,
                    ⟨(some 54), none, [], [], .bin .add false (.t 51) (.t 53)⟩,
                    ⟨(some 55), none, [], [], .bin .gtr false (.t 54) (.k (.sc (.int .i64 (1048576))))⟩] (some [0, 6, 9, 10, 11, 12, 55]))
                  (.cond (.t 55)
                   (.keep []
                    (.seq
                     (.reg [⟨(some 4), none, [], [], .mv (.k .nl)⟩,
                       ⟨(some 5), none, [], [], .mv (.k (.sc (.int .i64 (10))))⟩] none)
                     .ret))
                   (.keep [0, 6, 9, 10, 11, 12]
                    .skip)))
                 (.reg [⟨(some 56), none, [], [], .mv (.t 6)⟩,
                   ⟨(some 57), none, [], [], .mv (.t 9)⟩,
                   ⟨(some 58), none, [], [], .app 1 1 (.t 56) (.t 57)⟩,
                   ⟨(some 6), none, [], [], .mv (.t 58)⟩] (some [0, 6, 10, 11, 12]))))))))
           (.reg [⟨(some 59), none, [], [], .bin .add false (.t 12) (.k (.sc (.int .i64 (1))))⟩,
             ⟨(some 12), none, [], [], .mv (.t 59)⟩] (some [0, 6, 10, 11, 12]))))))))
     (.seq
      (.reg [⟨(some 60), none, [], [], .mv (.t 6)⟩,
        ⟨(some 4), none, [], [], .mv (.t 60)⟩,
        ⟨(some 5), none, [], [], .mv (.k (.sc (.int .i64 (0))))⟩] (some [4, 5]))
      .ret))))
theorem b28 : cmpG Try.prog 28 = some (strip a28, r28, 61) := by kernel_rfl

abbrev r34 : List AR := [.t 2]
abbrev a34 : ACode :=
  (.seq
   (.reg [⟨(some 2), none, [], [], .mv (.k (.sc (.int .i64 (0))))⟩] (some [0]))
   (.seq
    (.reg [⟨(some 3), none, [], [], .mv (.k (.sc (.int .i64 (5))))⟩] none)
    (.seq
     (.seq
      (.reg [⟨(some 6), none, [], [], .mv (.t 0)⟩,
        ⟨(some 7), none, [], [], .lenL (.t 6)⟩,
        ⟨(some 8), none, [], [], .mv (.k (.sc (.int .i64 (0))))⟩] (some [3, 6, 7, 8]))
      (.block 0
       (.loop
        (.seq
         (.reg [⟨(some 9), none, [], [], .bin .lss false (.t 8) (.t 7)⟩] none)
         (.seq
          (.cond (.t 9)
           (.keep [3, 6, 7, 8]
            .skip)
           (.exit 0))
          (.seq
           (.block 1
            (.seq
             (.reg [⟨(some 10), none, [], [], .ixaS 3 (.t 6) (.t 8)⟩,
               ⟨(some 11), none, [], [], .ld true 3 (.t 10)⟩,
               ⟨(some 5), none, [], [], .alc [(.sc (.int .i64 (0))), (.sc (.int .i64 (0))), .nl]⟩,
               ⟨none, none, [], [], .sto 3 (.t 5) (.t 11)⟩] (some [3, 5, 6, 7, 8]))
             (.seq
              (.reg [⟨(some 12), none, [], [], .ld true 3 (.t 5)⟩,
                ⟨(some 13), none, [], [], .cal (.k (.fn 56 [])) [(.t 12)]⟩] (some [3, 5, 6, 7, 8, 13]))
              (.cond (.t 13)
               (.keep [3, 5, 6, 7, 8]
                (.reg [⟨(some 14), none, [], [], .mv (.t 3)⟩,
                  ⟨(some 15), none, [], [], .fa 2 (.t 5)⟩,
                  ⟨(some 16), none, [], [], .ld false 1 (.t 15)⟩,
                  ⟨(some 17), none, [], [], .lenL (.t 16)⟩,
                  ⟨(some 18), none, [], [], .bin .add false (.k (.sc (.int .i64 (5)))) (.t 17)⟩,
                  ⟨(some 19), none, [], [], .bin .add false (.t 14) (.t 18)⟩,
                  ⟨(some 3), none, [], [], .mv (.t 19)⟩] (some [3, 6, 7, 8])))
               (.keep [3, 6, 7, 8]
                (.reg [⟨(some 20), none, [], [], .mv (.t 3)⟩,
                  ⟨(some 21), none, [], [], .bin .add false (.t 20) (.k (.sc (.int .i64 (9))))⟩,
                  ⟨(some 3), none, [], [], .mv (.t 21)⟩] (some [3, 6, 7, 8])))))))
           (.reg [⟨(some 22), none, [], [], .bin .add false (.t 8) (.k (.sc (.int .i64 (1))))⟩,
             ⟨(some 8), none, [], [], .mv (.t 22)⟩] (some [3, 6, 7, 8]))))))))
     (.seq
      (.reg [⟨(some 23), none, [], [], .mv (.t 3)⟩,
        ⟨(some 2), none, [], [], .mv (.t 23)⟩] (some [2]))
      .ret))))
theorem b34 : cmpG Try.prog 34 = some (strip a34, r34, 24) := by kernel_rfl

abbrev r58 : List AR := [.t 4]
abbrev a58 : ACode :=
  (.seq
   (.reg [⟨(some 4), none, [], [], .mv (.k .nl)⟩] (some [0, 1]))
   (.seq
    (.seq
     (.reg [⟨(some 5), none, [], [], .mv (.k (.sc (.int .i64 (3))))⟩] none)
     (.block 0
      (.loop
       (.seq
        (.seq
         (.reg [⟨(some 6), none, [], [], .mv (.t 5)⟩,
           ⟨(some 7), none, [], [], .bin .geq false (.t 6) (.k (.sc (.int .i64 (0))))⟩] (some [0, 1, 5, 7]))
         (.cond (.t 7)
          (.keep [0, 1, 5]
           .skip)
          (.exit 0)))
        (.seq
         (.block 1
          (.reg [⟨(some 10), none, [], [], .mv (.t 0)⟩,
            ⟨(some 11), none, [], [], .mv (.t 1)⟩,
            ⟨(some 12), none, [], [], .mv (.t 5)⟩,
            ⟨(some 13), none, [], [], .bin .mul false (.k (.sc (.int .i64 (8)))) (.t 12)⟩,
            ⟨(some 14), none, [], [], .bin .shr false (.t 11) (.t 13)⟩,
            ⟨(some 15), none, [], [], .cvi .u8 (.t 14)⟩,
            ⟨(some 16), none, [], [], .bsl 1 1 [(.sc (.int .u8 (0)))] [(0, 1, (.t 15))]⟩,
            ⟨(some 17), none, [], [], .app 1 1 (.t 10) (.t 16)⟩,
            ⟨(some 0), none, [], [], .mv (.t 17)⟩] (some [0, 1, 5])))
         (.reg [⟨(some 8), none, [], [], .mv (.t 5)⟩,
           ⟨(some 9), none, [], [], .bin .sub false (.t 8) (.k (.sc (.int .i64 (1))))⟩,
           ⟨(some 5), none, [], [], .mv (.t 9)⟩] (some [0, 1, 5])))))))
    (.seq
     (.reg [⟨(some 18), none, [], [], .mv (.t 0)⟩,
       ⟨(some 4), none, [], [], .mv (.t 18)⟩] (some [4]))
     .ret)))
theorem b58 : cmpG Try.prog 58 = some (strip a58, r58, 19) := by kernel_rfl

abbrev r29 : List AR := [.t 4, .t 5]
abbrev a29 : ACode :=
  (.seq
   (.reg [⟨(some 4), none, [], [], .mv (.k .nl)⟩,
     ⟨(some 5), none, [], [], .mv (.k (.sc (.int .i64 (0))))⟩] (some [0, 1]))
   (.seq
    (.reg [⟨(some 6), none, [], [], .mv (.k .nl)⟩] none)
    (.seq
     (.seq
      (.reg [⟨(some 9), none, [], [], .mv (.t 0)⟩,
        ⟨(some 10), none, [], [], .lenL (.t 9)⟩,
        ⟨(some 11), none, [], [], .mv (.k (.sc (.int .i64 (0))))⟩] (some [1, 6, 9, 10, 11]))
      (.block 0
       (.loop
        (.seq
         (.reg [⟨(some 12), none, [], [], .bin .lss false (.t 11) (.t 10)⟩] none)
         (.seq
          (.cond (.t 12)
           (.keep [1, 6, 9, 10, 11]
            .skip)
           (.exit 0))
          (.seq
           (.block 1
            (.seq
             (.reg [⟨(some 13), none, [], [], .ixaS 3 (.t 9) (.t 11)⟩,
               ⟨(some 14), none, [], [], .ld true 3 (.t 13)⟩,
               ⟨(some 8), none, [], [], .alc [(.sc (.int .i64 (0))), (.sc (.int .i64 (0))), .nl]⟩,
               ⟨none, none, [], [], .sto 3 (.t 8) (.t 14)⟩] (some [1, 6, 8, 9, 10, 11]))
             (.block 2
              (.seq
               (.reg [⟨(some 27), none, [], [], .ld true 3 (.t 8)⟩,
                 ⟨(some 28), none, [], [], .cal (.k (.fn 57 [])) [(.t 27)]⟩,
                 ⟨(some 29), none, [], [], .un .not (.t 28)⟩,
                 ⟨(some 30), none, [], [], .mv (.t 29)⟩,
                 ⟨(some 31), (some (30, false)), [], [], .fa 0 (.t 8)⟩,
                 ⟨(some 32), (some (30, false)), [], [], .ld false 1 (.t 31)⟩,
                 ⟨(some 33), (some (30, false)), [], [], .fa 1 (.t 8)⟩,
                 ⟨(some 34), (some (30, false)), [], [], .ld false 1 (.t 33)⟩,
                 ⟨(some 35), (some (30, false)), [], [], .mx [(.t 32), (.t 34)]⟩,
                 ⟨(some 36), (some (30, false)), [], [], .bin .gtr false (.t 35) (.k (.sc (.int .i64 (2147483647))))⟩,
                 ⟨(some 37), none, [], [], .pick (.t 30) (.k (.sc (.bool true))) (.t 36)⟩,
                 ⟨(some 26), none, [], [], .mv (.t 37)⟩] (some [1, 6, 8, 9, 10, 11, 26]))
               (.cond (.t 26)
                (.keep []
                 (.seq
                  (.reg [⟨(some 4), none, [], [], .mv (.k .nl)⟩,
                    ⟨(some 5), none, [], [], .mv (.k (.sc (.int .i64 (3))))⟩] none)
                  .ret))
                (.keep [1, 6, 8, 9, 10, 11]
                 (.seq
                  (.reg [⟨(some 39), none, [], [], .ld true 3 (.t 8)⟩,
                    ⟨(some 40), none, [], [], .cal (.k (.fn 56 [])) [(.t 39)]⟩,
                    ⟨(some 38), none, [], [], .mv (.t 40)⟩] (some [1, 6, 8, 9, 10, 11, 38]))
                  (.cond (.t 38)
                   (.keep [1, 6, 8, 9, 10, 11]
                    (.regD [⟨(some 41), none, [(.t 6)], [], .mv (.t 6)⟩,
                      ⟨(some 42), none, [(.k (.sc (.int .u8 (79))))], [0], .bsl 1 1 [(.sc (.int .u8 (0)))] [(0, 1, (.k (.sc (.int .u8 (79)))))]⟩,
                      ⟨(some 43), none, [(.t 41), (.t 42)], [], .app 1 1 (.t 41) (.t 42)⟩,
                      ⟨(some 44), none, [(.t 8)], [0, 1, 2], .fa 2 (.t 8)⟩,
                      ⟨(some 45), none, [(.t 44)], [0, 1, 2], .ld false 1 (.t 44)⟩,
                      ⟨(some 46), none, [(.t 45)], [0, 1, 2], .lenL (.t 45)⟩,
                      ⟨(some 47), none, [(.t 46)], [0, 1, 2], .cvi .u32 (.t 46)⟩,
                      ⟨(some 48), none, [(.k (.fn 58 [])), (.t 43), (.t 47)], [], .calG [0] (.k (.fn 58 [])) [(.t 43), (.t 47)]⟩,
                      ⟨(some 49), none, [(.t 8)], [0, 1, 2, 3, 4, 5, 6, 7], .fa 2 (.t 8)⟩,
                      ⟨(some 50), none, [(.t 49)], [0, 1, 2, 3, 4, 5, 6, 7], .ld false 1 (.t 49)⟩,
                      ⟨(some 51), none, [(.t 48), (.t 50)], [], .app 1 1 (.t 48) (.t 50)⟩,
                      ⟨(some 6), none, [(.t 51)], [], .mv (.t 51)⟩] (some [1, 6, 9, 10, 11])))
                   (.keep [1, 6, 8, 9, 10, 11]
                    (.regD [⟨(some 15), none, [(.t 6)], [], .mv (.t 6)⟩,
                      ⟨(some 16), none, [(.k (.sc (.int .u8 (67))))], [0], .bsl 1 1 [(.sc (.int .u8 (0)))] [(0, 1, (.k (.sc (.int .u8 (67)))))]⟩,
                      ⟨(some 17), none, [(.t 15), (.t 16)], [], .app 1 1 (.t 15) (.t 16)⟩,
                      ⟨(some 18), none, [(.t 8)], [0, 1, 2], .fa 0 (.t 8)⟩,
                      ⟨(some 19), none, [(.t 18)], [0, 1, 2], .ld false 1 (.t 18)⟩,
                      ⟨(some 20), none, [(.t 19)], [0, 1, 2], .cvi .u32 (.t 19)⟩,
                      ⟨(some 21), none, [(.k (.fn 58 [])), (.t 17), (.t 20)], [], .calG [0] (.k (.fn 58 [])) [(.t 17), (.t 20)]⟩,
                      ⟨(some 22), none, [(.t 8)], [0, 1, 2, 3, 4, 5, 6], .fa 1 (.t 8)⟩,
                      ⟨(some 23), none, [(.t 22)], [0, 1, 2, 3, 4, 5, 6], .ld false 1 (.t 22)⟩,
                      ⟨(some 24), none, [(.t 23)], [0, 1, 2, 3, 4, 5, 6], .cvi .u32 (.t 23)⟩,
                      ⟨(some 25), none, [(.k (.fn 58 [])), (.t 21), (.t 24)], [], .calG [0] (.k (.fn 58 [])) [(.t 21), (.t 24)]⟩,
                      ⟨(some 6), none, [(.t 25)], [], .mv (.t 25)⟩] (some [1, 6, 9, 10, 11])))))))))))
           (.reg [⟨(some 52), none, [], [], .bin .add false (.t 11) (.k (.sc (.int .i64 (1))))⟩,
             ⟨(some 11), none, [], [], .mv (.t 52)⟩] (some [1, 6, 9, 10, 11]))))))))
     (.seq
      (.reg [⟨(some 53), none, [], [], .mv (.t 6)⟩,
        ⟨(some 54), none, [], [], .bsl 1 1 [(.sc (.int .u8 (0)))] [(0, 1, (.k (.sc (.int .u8 (69)))))]⟩,
        ⟨(some 55), none, [], [], .app 1 1 (.t 53) (.t 54)⟩,
        ⟨(some 56), none, [], [], .mv (.t 1)⟩,
        ⟨(some 57), none, [], [], .cal (.k (.fn 59 [])) [(.t 56)]⟩,
        ⟨(some 58), none, [], [], .calG [0] (.k (.fn 58 [])) [(.t 55), (.t 57)]⟩,
        ⟨(some 4), none, [], [], .mv (.t 58)⟩,
        ⟨(some 5), none, [], [], .mv (.k (.sc (.int .i64 (0))))⟩] (some [4, 5]))
      .ret))))
theorem b29 : cmpG Try.prog 29 = some (strip a29, r29, 59) := by kernel_rfl

abbrev r62 : List AR := [.t 2]
abbrev a62 : ACode :=
  (.seq
   (.reg [⟨(some 1), none, [], [], .box (.t 0)⟩,
     ⟨(some 2), none, [], [], .mv (.k (.sc (.bool false)))⟩] (some [1]))
   (.seq
    (.seq
     (.reg [⟨(some 3), none, [], [], .fa 2 (.t 1)⟩,
       ⟨(some 4), none, [], [], .ld false 1 (.t 3)⟩,
       ⟨(some 5), none, [], [], .lenL (.t 4)⟩,
       ⟨(some 6), none, [], [], .bin .gtr false (.t 5) (.k (.sc (.int .i64 (0))))⟩] (some [1, 6]))
     (.cond (.t 6)
      (.keep [1]
       (.seq
        (.reg [⟨(some 7), none, [], [], .fa 0 (.t 1)⟩,
          ⟨(some 8), none, [], [], .ld false 1 (.t 7)⟩,
          ⟨(some 9), none, [], [], .bin .eql false (.t 8) (.k (.sc (.int .i64 (0))))⟩,
          ⟨(some 10), none, [], [], .mv (.t 9)⟩,
          ⟨(some 11), (some (10, true)), [], [], .fa 1 (.t 1)⟩,
          ⟨(some 12), (some (10, true)), [], [], .ld false 1 (.t 11)⟩,
          ⟨(some 13), (some (10, true)), [], [], .bin .eql false (.t 12) (.k (.sc (.int .i64 (0))))⟩,
          ⟨(some 14), none, [], [], .pick (.t 10) (.t 13) (.k (.sc (.bool false)))⟩,
          ⟨(some 2), none, [], [], .mv (.t 14)⟩] (some [2]))
        .ret))
      (.keep [1]
       .skip)))
    (.seq
     (.reg [⟨(some 15), none, [], [], .fa 1 (.t 1)⟩,
       ⟨(some 16), none, [], [], .ld false 1 (.t 15)⟩,
       ⟨(some 17), none, [], [], .bin .geq false (.t 16) (.k (.sc (.int .i64 (1))))⟩,
       ⟨(some 18), none, [], [], .mv (.t 17)⟩,
       ⟨(some 19), (some (18, true)), [], [], .fa 0 (.t 1)⟩,
       ⟨(some 20), (some (18, true)), [], [], .ld false 1 (.t 19)⟩,
       ⟨(some 21), (some (18, true)), [], [], .bin .geq false (.t 20) (.k (.sc (.int .i64 (0))))⟩,
       ⟨(some 22), none, [], [], .pick (.t 18) (.t 21) (.k (.sc (.bool false)))⟩,
       ⟨(some 2), none, [], [], .mv (.t 22)⟩] (some [2]))
     .ret)))
theorem b62 : cmpG Try.prog 62 = some (strip a62, r62, 23) := by kernel_rfl

abbrev r63 : List AR := [.t 2]
abbrev a63 : ACode :=
  (.seq
   (.reg [⟨(some 2), none, [], [], .mv (.k .nl)⟩] (some [0]))
   (.seq
    (.reg [⟨(some 3), none, [], [], .mv (.t 0)⟩,
      ⟨(some 4), none, [], [], .bin .quo false (.t 3) (.k (.sc (.int .i64 (16777216))))⟩,
      ⟨(some 5), none, [], [], .cvi .u8 (.t 4)⟩,
      ⟨(some 6), none, [], [], .mv (.t 0)⟩,
      ⟨(some 7), none, [], [], .bin .quo false (.t 6) (.k (.sc (.int .i64 (65536))))⟩,
      ⟨(some 8), none, [], [], .bin .rem false (.t 7) (.k (.sc (.int .i64 (256))))⟩,
      ⟨(some 9), none, [], [], .cvi .u8 (.t 8)⟩,
      ⟨(some 10), none, [], [], .mv (.t 0)⟩,
      ⟨(some 11), none, [], [], .bin .quo false (.t 10) (.k (.sc (.int .i64 (256))))⟩,
      ⟨(some 12), none, [], [], .bin .rem false (.t 11) (.k (.sc (.int .i64 (256))))⟩,
      ⟨(some 13), none, [], [], .cvi .u8 (.t 12)⟩,
      ⟨(some 14), none, [], [], .mv (.t 0)⟩,
      ⟨(some 15), none, [], [], .bin .rem false (.t 14) (.k (.sc (.int .i64 (256))))⟩,
      ⟨(some 16), none, [], [], .cvi .u8 (.t 15)⟩,
      ⟨(some 17), none, [], [], .bsl 4 1 [(.sc (.int .u8 (0))), (.sc (.int .u8 (0))), (.sc (.int .u8 (0))), (.sc (.int .u8 (0)))] [(0, 1, (.t 5)), (1, 1, (.t 9)), (2, 1, (.t 13)), (3, 1, (.t 16))]⟩,
      ⟨(some 2), none, [], [], .mv (.t 17)⟩] (some [2]))
    .ret))
theorem b63 : cmpG Try.prog 63 = some (strip a63, r63, 18) := by kernel_rfl


end Go.Proofs.Ytdjjibmjinllnaa.Cod
