import Derived.Test.YtdjjibmjinllnaaProg
import Derived.Test.YtdjjibmjinllnaaSimD
import Derived.KernelRfl
namespace Go.Proofs.Ytdjjibmjinllnaa.Cod
open Go Go.Sim Go.Proofs
set_option maxRecDepth 100000
abbrev r36 : List AR := [.t 2]
abbrev a36 : ACode :=
  (.seq
   (.reg [⟨(some 2), none, [], [], .mv (.k .nl)⟩] (some [0]))
   (.seq
    (.reg [⟨(some 3), none, [], [], .mv (.k .nl)⟩] none)
    (.seq
     (.seq
      (.reg [⟨(some 6), none, [], [], .mv (.t 0)⟩,
        ⟨(some 7), none, [], [], .lenL (.t 6)⟩,
        ⟨(some 8), none, [], [], .mv (.k (.sc (.int .i64 (0))))⟩] (some [3, 6, 7, 8]))
      (.block 0
       (.loop
        (.seq
         (.reg [⟨(some 9), none, [], [], .bin .lss false (.t 8) (.t 7)⟩] none)
         (.seq
          (.cond (.t 9)
           (.keep [3, 6, 7, 8]
            .skip)
           (.exit 0))
          (.seq
           (.block 1
            (.seq
             (.reg [⟨(some 10), none, [], [], .ixaS 3 (.t 6) (.t 8)⟩,
               ⟨(some 11), none, [], [], .ld true 3 (.t 10)⟩,
               ⟨(some 5), none, [], [], .alc [(.sc (.int .i64 (0))), (.sc (.int .i64 (0))), .nl]⟩,
               ⟨none, none, [], [], .sto 3 (.t 5) (.t 11)⟩] (some [3, 5, 6, 7, 8]))
             (.reg [⟨(some 12), none, [], [], .mv (.t 3)⟩,
               ⟨(some 13), none, [], [], .ld true 3 (.t 5)⟩,
               ⟨(some 14), none, [], [], .bsl 1 3 [(.sc (.int .i64 (0))), (.sc (.int .i64 (0))), .nl] [(0, 3, (.t 13))]⟩,
               ⟨(some 15), none, [], [], .app 3 40 (.t 12) (.t 14)⟩,
               ⟨(some 3), none, [], [], .mv (.t 15)⟩] (some [3, 6, 7, 8]))))
           (.reg [⟨(some 16), none, [], [], .bin .add false (.t 8) (.k (.sc (.int .i64 (1))))⟩,
             ⟨(some 8), none, [], [], .mv (.t 16)⟩] (some [3, 6, 7, 8]))))))))
     (.seq
      (.reg [⟨(some 17), none, [], [], .mv (.t 3)⟩,
        ⟨(some 2), none, [], [], .mv (.t 17)⟩] (some [2]))
      .ret))))
theorem b36 : cmpG Try.prog 36 = some (strip a36, r36, 18) := by kernel_rfl

abbrev r35 : List AR := [.t 2]
abbrev a35 : ACode :=
  (.seq
   (.reg [⟨(some 2), none, [], [], .mv (.k (.sc (.bool false)))⟩] (some [0]))
   (.seq
    (.seq
     (.reg [⟨(some 5), none, [], [], .mv (.t 0)⟩,
       ⟨(some 6), none, [], [], .mv (.t 0)⟩,
       ⟨(some 7), none, [], [], .lenL (.t 6)⟩,
       ⟨(some 8), none, [], [], .mn [(.t 7), (.k (.sc (.int .i64 (30))))]⟩,
       ⟨(some 9), none, [], [], .slL 3 none (some (.t 8)) none (.t 5)⟩,
       ⟨(some 10), none, [], [], .lenL (.t 9)⟩,
       ⟨(some 11), none, [], [], .mv (.k (.sc (.int .i64 (0))))⟩] (some [0, 9, 10, 11]))
     (.block 0
      (.loop
       (.seq
        (.reg [⟨(some 12), none, [], [], .bin .lss false (.t 11) (.t 10)⟩] none)
        (.seq
         (.cond (.t 12)
          (.keep [0, 9, 10, 11]
           .skip)
          (.exit 0))
         (.seq
          (.block 1
           (.seq
            (.reg [⟨(some 13), none, [], [], .ixaS 3 (.t 9) (.t 11)⟩,
              ⟨(some 14), none, [], [], .ld true 3 (.t 13)⟩,
              ⟨(some 4), none, [], [], .alc [(.sc (.int .i64 (0))), (.sc (.int .i64 (0))), .nl]⟩,
              ⟨none, none, [], [], .sto 3 (.t 4) (.t 14)⟩] (some [0, 4, 9, 10, 11]))
            (.seq
             (.reg [⟨(some 15), none, [], [], .fa 2 (.t 4)⟩,
               ⟨(some 16), none, [], [], .ld false 1 (.t 15)⟩,
               ⟨(some 17), none, [], [], .lenL (.t 16)⟩,
               ⟨(some 18), none, [], [], .bin .gtr false (.t 17) (.k (.sc (.int .i64 (300))))⟩] (some [0, 9, 10, 11, 18]))
             (.cond (.t 18)
              (.keep []
               (.seq
                (.reg [⟨(some 2), none, [], [], .mv (.k (.sc (.bool true)))⟩] none)
                .ret))
              (.keep [0, 9, 10, 11]
               .skip)))))
          (.reg [⟨(some 19), none, [], [], .bin .add false (.t 11) (.k (.sc (.int .i64 (1))))⟩,
            ⟨(some 11), none, [], [], .mv (.t 19)⟩] (some [0, 9, 10, 11]))))))))
    (.seq
     (.reg [⟨(some 20), none, [], [], .mv (.t 0)⟩,
       ⟨(some 21), none, [], [], .lenL (.t 20)⟩,
       ⟨(some 22), none, [], [], .bin .gtr false (.t 21) (.k (.sc (.int .i64 (30))))⟩,
       ⟨(some 2), none, [], [], .mv (.t 22)⟩] (some [2]))
     .ret)))
theorem b35 : cmpG Try.prog 35 = some (strip a35, r35, 23) := by kernel_rfl

abbrev r37 : List AR := [.t 4, .t 5]
abbrev a37 : ACode :=
  (.seq
   (.reg [⟨(some 4), none, [], [], .mv (.k .nl)⟩,
     ⟨(some 5), none, [], [], .mv (.k (.sc (.int .i64 (0))))⟩] (some [0, 1]))
   (.seq
    (.reg [⟨(some 6), none, [], [], .mv (.k .nl)⟩] none)
    (.seq
     (.seq
      (.reg [⟨(some 7), none, [], [], .mv (.k (.sc (.int .i64 (0))))⟩] none)
      (.block 0
       (.loop
        (.seq
         (.seq
          (.reg [⟨(some 9), none, [], [], .mv (.t 7)⟩,
            ⟨(some 10), none, [], [], .mv (.t 1)⟩,
            ⟨(some 11), none, [], [], .lenL (.t 10)⟩,
            ⟨(some 12), none, [], [], .bin .lss false (.t 9) (.t 11)⟩] (some [0, 1, 6, 7, 12]))
          (.cond (.t 12)
           (.keep [0, 1, 6, 7]
            .skip)
           (.exit 0)))
         (.seq
          (.block 1
           (.seq
            (.reg [⟨(some 15), none, [], [], .mv (.t 1)⟩,
              ⟨(some 16), none, [], [], .mv (.t 7)⟩,
              ⟨(some 17), none, [], [], .ixaS 3 (.t 15) (.t 16)⟩,
              ⟨(some 18), none, [], [], .ld true 3 (.t 17)⟩,
              ⟨(some 8), none, [], [], .alc [(.sc (.int .i64 (0))), (.sc (.int .i64 (0))), .nl]⟩,
              ⟨none, none, [], [], .sto 3 (.t 8) (.t 18)⟩] (some [0, 1, 6, 7, 8]))
            (.seq
             (.seq
              (.reg [⟨(some 19), none, [], [], .ld true 3 (.t 8)⟩,
                ⟨(some 20), none, [], [], .cal (.k (.fn 62 [])) [(.t 19)]⟩,
                ⟨(some 21), none, [], [], .un .not (.t 20)⟩,
                ⟨(some 22), none, [], [], .mv (.t 21)⟩,
                ⟨(some 23), (some (22, false)), [], [], .fa 0 (.t 8)⟩,
                ⟨(some 24), (some (22, false)), [], [], .ld false 1 (.t 23)⟩,
                ⟨(some 25), (some (22, false)), [], [], .mv (.t 0)⟩,
                ⟨(some 26), (some (22, false)), [], [], .lenL (.t 25)⟩,
                ⟨(some 27), (some (22, false)), [], [], .bin .gtr false (.t 24) (.t 26)⟩,
                ⟨(some 28), none, [], [], .pick (.t 22) (.k (.sc (.bool true))) (.t 27)⟩,
                ⟨(some 29), none, [], [], .mv (.t 28)⟩,
                ⟨(some 30), (some (29, false)), [], [], .fa 1 (.t 8)⟩,
                ⟨(some 31), (some (29, false)), [], [], .ld false 1 (.t 30)⟩,
                ⟨(some 32), (some (29, false)), [], [], .mv (.t 0)⟩,
                ⟨(some 33), (some (29, false)), [], [], .lenL (.t 32)⟩,
                ⟨(some 34), (some (29, false)), [], [], .fa 0 (.t 8)⟩,
                ⟨(some 35), (some (29, false)), [], [], .ld false 1 (.t 34)⟩,
                ⟨(some 36), (some (29, false)), [], [], .bin .sub false (.t 33) (.t 35)⟩,
                ⟨(some 37), (some (29, false)), [], [], .bin .gtr false (.t 31) (.t 36)⟩,
                ⟨(some 38), none, [], [], .pick (.t 29) (.k (.sc (.bool true))) (.t 37)⟩] (some [0, 1, 6, 7, 8, 38]))
              (.cond (.t 38)
               (.keep []
                (.seq
                 (.reg [⟨(some 4), none, [], [], .mv (.k .nl)⟩,
                   ⟨(some 5), none, [], [], .mv (.k (.sc (.int .i64 (3))))⟩] none)
                 .ret))
               (.keep [0, 1, 6, 7, 8]
                .skip)))
             (.seq
              (.seq
               (.reg [⟨(some 39), none, [], [], .fa 2 (.t 8)⟩,
                 ⟨(some 40), none, [], [], .ld false 1 (.t 39)⟩,
                 ⟨(some 41), none, [], [], .lenL (.t 40)⟩,
                 ⟨(some 42), none, [], [], .bin .eql false (.t 41) (.k (.sc (.int .i64 (0))))⟩] (some [0, 1, 6, 7, 8, 42]))
               (.cond (.t 42)
                (.keep [0, 1, 6, 7, 8]
                 (.reg [⟨(some 43), none, [], [], .mv (.t 0)⟩,
                   ⟨(some 44), none, [], [], .fa 0 (.t 8)⟩,
                   ⟨(some 45), none, [], [], .ld false 1 (.t 44)⟩,
                   ⟨(some 46), none, [], [], .fa 0 (.t 8)⟩,
                   ⟨(some 47), none, [], [], .ld false 1 (.t 46)⟩,
                   ⟨(some 48), none, [], [], .fa 1 (.t 8)⟩,
                   ⟨(some 49), none, [], [], .ld false 1 (.t 48)⟩,
                   ⟨(some 50), none, [], [], .bin .add false (.t 47) (.t 49)⟩,
                   ⟨(some 51), none, [], [], .slL 1 (some (.t 45)) (some (.t 50)) none (.t 43)⟩,
                   ⟨(some 52), none, [], [], .fa 2 (.t 8)⟩,
                   ⟨none, none, [], [], .sto 1 (.t 52) (.t 51)⟩] (some [0, 1, 6, 7, 8])))
                (.keep [0, 1, 6, 7, 8]
                 .skip)))
              (.seq
               (.seq
                (.reg [⟨(some 53), none, [], [], .mv (.t 6)⟩,
                  ⟨(some 54), none, [], [], .lenL (.t 53)⟩,
                  ⟨(some 55), none, [], [], .fa 2 (.t 8)⟩,
                  ⟨(some 56), none, [], [], .ld false 1 (.t 55)⟩,
                  ⟨(some 57), none, [], [], .lenL (.t 56)⟩,
                  ⟨(some 58), none, [], [], .bin .add false (.t 54) (.t 57)⟩,
                  ⟨(some 59), none, [], [], .bin .gtr false (.t 58) (.k (.sc (.int .i64 (1048576))))⟩] (some [0, 1, 6, 7, 8, 59]))
                (.cond (.t 59)
                 (.keep []
                  (.seq
                   (.reg [⟨(some 4), none, [], [], .mv (.k .nl)⟩,
                     ⟨(some 5), none, [], [], .mv (.k (.sc (.int .i64 (10))))⟩] none)
                   .ret))
                 (.keep [0, 1, 6, 7, 8]
                  .skip)))
               (.reg [⟨(some 60), none, [], [], .mv (.t 6)⟩,
                 ⟨(some 61), none, [], [], .fa 2 (.t 8)⟩,
                 ⟨(some 62), none, [], [], .ld false 1 (.t 61)⟩,
                 ⟨(some 63), none, [], [], .app 1 1 (.t 60) (.t 62)⟩,
                 ⟨(some 6), none, [], [], .mv (.t 63)⟩] (some [0, 1, 6, 7])))))))
          (.reg [⟨(some 13), none, [], [], .mv (.t 7)⟩,
            ⟨(some 14), none, [], [], .bin .add false (.t 13) (.k (.sc (.int .i64 (1))))⟩,
            ⟨(some 7), none, [], [], .mv (.t 14)⟩] (some [0, 1, 6, 7])))))))
     (.seq
      (.reg [⟨(some 64), none, [], [], .mv (.t 6)⟩,
        ⟨(some 4), none, [], [], .mv (.t 64)⟩,
        ⟨(some 5), none, [], [], .mv (.k (.sc (.int .i64 (0))))⟩] (some [4, 5]))
      .ret))))
theorem b37 : cmpG Try.prog 37 = some (strip a37, r37, 65) := by kernel_rfl

abbrev r38 : List AR := [.t 4, .t 5]
abbrev a38 : ACode :=
  (.seq
   (.reg [⟨(some 4), none, [], [], .mv (.k .nl)⟩,
     ⟨(some 5), none, [], [], .mv (.k (.sc (.int .i64 (0))))⟩] (some [0, 1]))
   (.seq
    (.reg [⟨(some 6), none, [], [], .mv (.k .nl)⟩] none)
    (.seq
     (.seq
      (.reg [⟨(some 7), none, [], [], .mv (.k (.sc (.int .i64 (0))))⟩] none)
      (.block 0
       (.loop
        (.seq
         (.seq
          (.reg [⟨(some 9), none, [], [], .mv (.t 7)⟩,
            ⟨(some 10), none, [], [], .mv (.t 0)⟩,
            ⟨(some 11), none, [], [], .lenL (.t 10)⟩,
            ⟨(some 12), none, [], [], .bin .lss false (.t 9) (.t 11)⟩] (some [0, 1, 6, 7, 12]))
          (.cond (.t 12)
           (.keep [0, 1, 6, 7]
            .skip)
           (.exit 0)))
         (.seq
          (.block 1
           (.seq
            (.reg [⟨(some 15), none, [], [], .mv (.t 0)⟩,
              ⟨(some 16), none, [], [], .mv (.t 7)⟩,
              ⟨(some 17), none, [], [], .ixaS 3 (.t 15) (.t 16)⟩,
              ⟨(some 18), none, [], [], .ld true 3 (.t 17)⟩,
              ⟨(some 8), none, [], [], .alc [(.sc (.int .i64 (0))), (.sc (.int .i64 (0))), .nl]⟩,
              ⟨none, none, [], [], .sto 3 (.t 8) (.t 18)⟩] (some [0, 1, 6, 7, 8]))
            (.seq
             (.seq
              (.reg [⟨(some 19), none, [], [], .ld true 3 (.t 8)⟩,
                ⟨(some 20), none, [], [], .cal (.k (.fn 62 [])) [(.t 19)]⟩,
                ⟨(some 21), none, [], [], .un .not (.t 20)⟩,
                ⟨(some 22), none, [], [], .mv (.t 21)⟩,
                ⟨(some 23), (some (22, false)), [], [], .fa 0 (.t 8)⟩,
                ⟨(some 24), (some (22, false)), [], [], .ld false 1 (.t 23)⟩,
                ⟨(some 25), (some (22, false)), [], [], .bin .gtr false (.t 24) (.k (.sc (.int .i64 (2147483647))))⟩,
                ⟨(some 26), none, [], [], .pick (.t 22) (.k (.sc (.bool true))) (.t 25)⟩,
                ⟨(some 27), none, [], [], .mv (.t 26)⟩,
                ⟨(some 28), (some (27, false)), [], [], .fa 1 (.t 8)⟩,
                ⟨(some 29), (some (27, false)), [], [], .ld false 1 (.t 28)⟩,
                ⟨(some 30), (some (27, false)), [], [], .bin .gtr false (.t 29) (.k (.sc (.int .i64 (2147483647))))⟩,
                ⟨(some 31), none, [], [], .pick (.t 27) (.k (.sc (.bool true))) (.t 30)⟩] (some [0, 1, 6, 7, 8, 31]))
              (.cond (.t 31)
               (.keep []
                (.seq
                 (.reg [⟨(some 4), none, [], [], .mv (.k .nl)⟩,
                   ⟨(some 5), none, [], [], .mv (.k (.sc (.int .i64 (3))))⟩] none)
                 .ret))
               (.keep [0, 1, 6, 7, 8]
                .skip)))
             (.seq
              (.reg [⟨(some 32), none, [], [], .fa 2 (.t 8)⟩,
                ⟨(some 33), none, [], [], .ld false 1 (.t 32)⟩,
                ⟨(some 34), none, [], [], .lenL (.t 33)⟩,
                ⟨(some 35), none, [], [], .bin .gtr false (.t 34) (.k (.sc (.int .i64 (0))))⟩] (some [0, 1, 6, 7, 8, 35]))
              (.cond (.t 35)
               (.keep [0, 1, 6, 7, 8]
                (.regD [⟨(some 36), none, [(.t 6)], [], .mv (.t 6)⟩,
                  ⟨(some 37), none, [(.k (.sc (.int .u8 (79))))], [0], .bsl 1 1 [(.sc (.int .u8 (0)))] [(0, 1, (.k (.sc (.int .u8 (79)))))]⟩,
                  ⟨(some 38), none, [(.t 36), (.t 37)], [], .app 1 1 (.t 36) (.t 37)⟩,
                  ⟨(some 39), none, [(.t 8)], [0, 1, 2], .fa 2 (.t 8)⟩,
                  ⟨(some 40), none, [(.t 39)], [0, 1, 2], .ld false 1 (.t 39)⟩,
                  ⟨(some 41), none, [(.t 40)], [0, 1, 2], .lenL (.t 40)⟩,
                  ⟨(some 42), none, [(.k (.fn 63 [])), (.t 41)], [], .cal (.k (.fn 63 [])) [(.t 41)]⟩,
                  ⟨(some 43), none, [(.t 38), (.t 42)], [], .app 1 1 (.t 38) (.t 42)⟩,
                  ⟨(some 44), none, [(.t 8)], [0, 1, 2, 3, 4, 5, 6, 7], .fa 2 (.t 8)⟩,
                  ⟨(some 45), none, [(.t 44)], [0, 1, 2, 3, 4, 5, 6, 7], .ld false 1 (.t 44)⟩,
                  ⟨(some 46), none, [(.t 43), (.t 45)], [], .app 1 1 (.t 43) (.t 45)⟩,
                  ⟨(some 6), none, [(.t 46)], [], .mv (.t 46)⟩] (some [0, 1, 6, 7])))
               (.keep [0, 1, 6, 7, 8]
                (.regD [⟨(some 47), none, [(.t 6)], [], .mv (.t 6)⟩,
                  ⟨(some 48), none, [(.k (.sc (.int .u8 (67))))], [0], .bsl 1 1 [(.sc (.int .u8 (0)))] [(0, 1, (.k (.sc (.int .u8 (67)))))]⟩,
                  ⟨(some 49), none, [(.t 47), (.t 48)], [], .app 1 1 (.t 47) (.t 48)⟩,
                  ⟨(some 50), none, [(.t 8)], [0, 1, 2], .fa 0 (.t 8)⟩,
                  ⟨(some 51), none, [(.t 50)], [0, 1, 2], .ld false 1 (.t 50)⟩,
                  ⟨(some 52), none, [(.k (.fn 63 [])), (.t 51)], [], .cal (.k (.fn 63 [])) [(.t 51)]⟩,
                  ⟨(some 53), none, [(.t 49), (.t 52)], [], .app 1 1 (.t 49) (.t 52)⟩,
                  ⟨(some 54), none, [(.t 8)], [0, 1, 2, 3, 4, 5, 6], .fa 1 (.t 8)⟩,
                  ⟨(some 55), none, [(.t 54)], [0, 1, 2, 3, 4, 5, 6], .ld false 1 (.t 54)⟩,
                  ⟨(some 56), none, [(.k (.fn 63 [])), (.t 55)], [], .cal (.k (.fn 63 [])) [(.t 55)]⟩,
                  ⟨(some 57), none, [(.t 53), (.t 56)], [], .app 1 1 (.t 53) (.t 56)⟩,
                  ⟨(some 6), none, [(.t 57)], [], .mv (.t 57)⟩] (some [0, 1, 6, 7]))))))))
          (.reg [⟨(some 13), none, [], [], .mv (.t 7)⟩,
            ⟨(some 14), none, [], [], .bin .add false (.t 13) (.k (.sc (.int .i64 (1))))⟩,
            ⟨(some 7), none, [], [], .mv (.t 14)⟩] (some [0, 1, 6, 7])))))))
     (.seq
      (.reg [⟨(some 58), none, [], [], .mv (.t 6)⟩,
        ⟨(some 59), none, [], [], .bsl 1 1 [(.sc (.int .u8 (0)))] [(0, 1, (.k (.sc (.int .u8 (69)))))]⟩,
        ⟨(some 60), none, [], [], .app 1 1 (.t 58) (.t 59)⟩,
        ⟨(some 61), none, [], [], .mv (.t 1)⟩,
        ⟨(some 62), none, [], [], .cal (.k (.fn 64 [])) [(.t 61)]⟩,
        ⟨(some 63), none, [], [], .cvi .i64 (.t 62)⟩,
        ⟨(some 64), none, [], [], .cal (.k (.fn 63 [])) [(.t 63)]⟩,
        ⟨(some 65), none, [], [], .app 1 1 (.t 60) (.t 64)⟩,
        ⟨(some 4), none, [], [], .mv (.t 65)⟩,
        ⟨(some 5), none, [], [], .mv (.k (.sc (.int .i64 (0))))⟩] (some [4, 5]))
      .ret))))
theorem b38 : cmpG Try.prog 38 = some (strip a38, r38, 66) := by kernel_rfl

abbrev r39 : List AR := [.t 2]
abbrev a39 : ACode :=
  (.seq
   (.reg [⟨(some 2), none, [], [], .mv (.k (.sc (.int .i64 (0))))⟩] (some [0]))
   (.seq
    (.reg [⟨(some 3), none, [], [], .mv (.k (.sc (.int .i64 (5))))⟩] none)
    (.seq
     (.seq
      (.reg [⟨(some 4), none, [], [], .mv (.k (.sc (.int .i64 (0))))⟩] none)
      (.block 0
       (.loop
        (.seq
         (.seq
          (.reg [⟨(some 5), none, [], [], .mv (.t 4)⟩,
            ⟨(some 6), none, [], [], .mv (.t 0)⟩,
            ⟨(some 7), none, [], [], .lenL (.t 6)⟩,
            ⟨(some 8), none, [], [], .bin .lss false (.t 5) (.t 7)⟩] (some [0, 3, 4, 8]))
          (.cond (.t 8)
           (.keep [0, 3, 4]
            .skip)
           (.exit 0)))
         (.seq
          (.block 1
           (.seq
            (.reg [⟨(some 11), none, [], [], .mv (.t 0)⟩,
              ⟨(some 12), none, [], [], .mv (.t 4)⟩,
              ⟨(some 13), none, [], [], .ixaS 3 (.t 11) (.t 12)⟩,
              ⟨(some 14), none, [], [], .fa 2 (.t 13)⟩,
              ⟨(some 15), none, [], [], .ld false 1 (.t 14)⟩,
              ⟨(some 16), none, [], [], .lenL (.t 15)⟩,
              ⟨(some 17), none, [], [], .bin .gtr false (.t 16) (.k (.sc (.int .i64 (0))))⟩] (some [0, 3, 4, 17]))
            (.cond (.t 17)
             (.keep [0, 3, 4]
              (.reg [⟨(some 18), none, [], [], .mv (.t 3)⟩,
                ⟨(some 19), none, [], [], .mv (.t 0)⟩,
                ⟨(some 20), none, [], [], .mv (.t 4)⟩,
                ⟨(some 21), none, [], [], .ixaS 3 (.t 19) (.t 20)⟩,
                ⟨(some 22), none, [], [], .fa 2 (.t 21)⟩,
                ⟨(some 23), none, [], [], .ld false 1 (.t 22)⟩,
                ⟨(some 24), none, [], [], .lenL (.t 23)⟩,
                ⟨(some 25), none, [], [], .bin .add false (.k (.sc (.int .i64 (5)))) (.t 24)⟩,
                ⟨(some 26), none, [], [], .bin .add false (.t 18) (.t 25)⟩,
                ⟨(some 3), none, [], [], .mv (.t 26)⟩] (some [0, 3, 4])))
             (.keep [0, 3, 4]
              (.reg [⟨(some 27), none, [], [], .mv (.t 3)⟩,
                ⟨(some 28), none, [], [], .bin .add false (.t 27) (.k (.sc (.int .i64 (9))))⟩,
                ⟨(some 3), none, [], [], .mv (.t 28)⟩] (some [0, 3, 4]))))))
          (.reg [⟨(some 9), none, [], [], .mv (.t 4)⟩,
            ⟨(some 10), none, [], [], .bin .add false (.t 9) (.k (.sc (.int .i64 (1))))⟩,
            ⟨(some 4), none, [], [], .mv (.t 10)⟩] (some [0, 3, 4])))))))
     (.seq
      (.reg [⟨(some 29), none, [], [], .mv (.t 3)⟩,
        ⟨(some 2), none, [], [], .mv (.t 29)⟩] (some [2]))
      .ret))))
theorem b39 : cmpG Try.prog 39 = some (strip a39, r39, 30) := by kernel_rfl

abbrev r64 : List AR := [.t 2]
abbrev a64 : ACode :=
  (.seq
   (.reg [⟨(some 2), none, [], [], .mv (.k (.sc (.int .u32 (0))))⟩] (some [0]))
   (.seq
    (.reg [⟨(some 3), none, [], [], .mv (.k (.sc (.int .u32 (4294967295))))⟩] none)
    (.seq
     (.seq
      (.reg [⟨(some 4), none, [], [], .mv (.k (.sc (.int .i64 (0))))⟩] none)
      (.block 0
       (.loop
        (.seq
         (.seq
          (.reg [⟨(some 5), none, [], [], .mv (.t 4)⟩,
            ⟨(some 6), none, [], [], .mv (.t 0)⟩,
            ⟨(some 7), none, [], [], .lenL (.t 6)⟩,
            ⟨(some 8), none, [], [], .bin .lss false (.t 5) (.t 7)⟩] (some [0, 3, 4, 8]))
          (.cond (.t 8)
           (.keep [0, 3, 4]
            .skip)
           (.exit 0)))
         (.seq
          (.block 1
           (.reg [⟨(some 11), none, [], [], .mv (.t 3)⟩,
             ⟨(some 12), none, [], [], .mv (.t 0)⟩,
             ⟨(some 13), none, [], [], .mv (.t 4)⟩,
             ⟨(some 14), none, [], [], .ixaS 1 (.t 12) (.t 13)⟩,
             ⟨(some 15), none, [], [], .ld false 1 (.t 14)⟩,
             ⟨(some 16), none, [], [], .cal (.k (.fn 79 [])) [(.t 11), (.t 15)]⟩,
             ⟨(some 3), none, [], [], .mv (.t 16)⟩] (some [0, 3, 4])))
          (.reg [⟨(some 9), none, [], [], .mv (.t 4)⟩,
            ⟨(some 10), none, [], [], .bin .add false (.t 9) (.k (.sc (.int .i64 (1))))⟩,
            ⟨(some 4), none, [], [], .mv (.t 10)⟩] (some [0, 3, 4])))))))
     (.seq
      (.reg [⟨(some 17), none, [], [], .mv (.t 3)⟩,
        ⟨(some 18), none, [], [], .bin .sub false (.k (.sc (.int .u32 (4294967295)))) (.t 17)⟩,
        ⟨(some 2), none, [], [], .mv (.t 18)⟩] (some [2]))
      .ret))))
theorem b64 : cmpG Try.prog 64 = some (strip a64, r64, 19) := by kernel_rfl

abbrev r79 : List AR := [.t 4]
abbrev a79 : ACode :=
  (.seq
   (.reg [⟨(some 4), none, [], [], .mv (.k (.sc (.int .u32 (0))))⟩] (some [0, 1]))
   (.seq
    (.reg [⟨(some 7), none, [], [], .mv (.t 0)⟩,
      ⟨(some 8), none, [], [], .mv (.t 1)⟩,
      ⟨(some 9), none, [], [], .cvi .u32 (.t 8)⟩,
      ⟨(some 10), none, [], [], .bin .xor false (.t 7) (.t 9)⟩,
      ⟨(some 0), none, [], [], .mv (.t 10)⟩] (some [0]))
    (.seq
     (.seq
      (.reg [⟨(some 5), none, [], [], .mv (.k (.sc (.int .i64 (0))))⟩] none)
      (.block 0
       (.loop
        (.seq
         (.seq
          (.reg [⟨(some 11), none, [], [], .mv (.t 5)⟩,
            ⟨(some 12), none, [], [], .bin .lss false (.t 11) (.k (.sc (.int .i64 (8))))⟩] (some [0, 5, 12]))
          (.cond (.t 12)
           (.keep [0, 5]
            .skip)
           (.exit 0)))
         (.seq
          (.block 1
           (.seq
            (.reg [⟨(some 15), none, [], [], .mv (.t 0)⟩,
              ⟨(some 16), none, [], [], .bin .rem false (.t 15) (.k (.sc (.int .u32 (2))))⟩,
              ⟨(some 6), none, [], [], .mv (.t 16)⟩] (some [0, 5, 6]))
            (.seq
             (.reg [⟨(some 17), none, [], [], .mv (.t 0)⟩,
               ⟨(some 18), none, [], [], .bin .quo false (.t 17) (.k (.sc (.int .u32 (2))))⟩,
               ⟨(some 0), none, [], [], .mv (.t 18)⟩] (some [0, 5, 6]))
             (.seq
              (.reg [⟨(some 19), none, [], [], .mv (.t 6)⟩,
                ⟨(some 20), none, [], [], .bin .eql false (.t 19) (.k (.sc (.int .u32 (1))))⟩] (some [0, 5, 20]))
              (.cond (.t 20)
               (.keep [0, 5]
                (.reg [⟨(some 21), none, [], [], .mv (.t 0)⟩,
                  ⟨(some 22), none, [], [], .bin .xor false (.t 21) (.k (.sc (.int .u32 (3988292384))))⟩,
                  ⟨(some 0), none, [], [], .mv (.t 22)⟩] (some [0, 5])))
               (.keep [0, 5]
                .skip))))))
          (.reg [⟨(some 13), none, [], [], .mv (.t 5)⟩,
            ⟨(some 14), none, [], [], .bin .add false (.t 13) (.k (.sc (.int .i64 (1))))⟩,
            ⟨(some 5), none, [], [], .mv (.t 14)⟩] (some [0, 5])))))))
     (.seq
      (.reg [⟨(some 23), none, [], [], .mv (.t 0)⟩,
        ⟨(some 4), none, [], [], .mv (.t 23)⟩] (some [4]))
      .ret))))
theorem b79 : cmpG Try.prog 79 = some (strip a79, r79, 24) := by kernel_rfl

abbrev r59 : List AR := [.t 2]
abbrev a59 : ACode :=
  (.seq
   (.reg [⟨(some 2), none, [], [], .mv (.k (.sc (.int .u32 (0))))⟩] (some [0]))
   (.seq
    (.reg [⟨(some 3), none, [], [], .mv (.t 0)⟩,
      ⟨(some 4), none, [], [], .bsl 1 1 [.nl] [(0, 1, (.t 3))]⟩,
      ⟨(some 5), none, [], [], .cal (.k (.fn 76 [])) [(.t 4)]⟩,
      ⟨(some 2), none, [], [], .mv (.t 5)⟩] (some [2]))
    .ret))
theorem b59 : cmpG Try.prog 59 = some (strip a59, r59, 6) := by kernel_rfl

abbrev r76 : List AR := [.t 2]
abbrev a76 : ACode :=
  (.seq
   (.reg [⟨(some 2), none, [], [], .mv (.k (.sc (.int .u32 (0))))⟩] (some [0]))
   (.seq
    (.reg [⟨(some 3), none, [], [], .mv (.k (.sc (.int .u32 (4294967295))))⟩] none)
    (.seq
     (.seq
      (.reg [⟨(some 8), none, [], [], .mv (.t 0)⟩,
        ⟨(some 9), none, [], [], .lenL (.t 8)⟩,
        ⟨(some 10), none, [], [], .mv (.k (.sc (.int .i64 (0))))⟩] (some [3, 8, 9, 10]))
      (.block 0
       (.loop
        (.seq
         (.reg [⟨(some 11), none, [], [], .bin .lss false (.t 10) (.t 9)⟩] none)
         (.seq
          (.cond (.t 11)
           (.keep [3, 8, 9, 10]
            .skip)
           (.exit 0))
          (.seq
           (.block 1
            (.seq
             (.reg [⟨(some 12), none, [], [], .ixaS 1 (.t 8) (.t 10)⟩,
               ⟨(some 13), none, [], [], .ld false 1 (.t 12)⟩,
               ⟨(some 5), none, [], [], .mv (.t 13)⟩] (some [3, 5, 8, 9, 10]))
             (.seq
              (.reg [⟨(some 14), none, [], [], .mv (.t 5)⟩,
                ⟨(some 15), none, [], [], .lenL (.t 14)⟩,
                ⟨(some 16), none, [], [], .mv (.k (.sc (.int .i64 (0))))⟩] (some [3, 8, 9, 10, 14, 15, 16]))
              (.block 2
               (.loop
                (.seq
                 (.reg [⟨(some 17), none, [], [], .bin .lss false (.t 16) (.t 15)⟩] none)
                 (.seq
                  (.cond (.t 17)
                   (.keep [3, 8, 9, 10, 14, 15, 16]
                    .skip)
                   (.exit 2))
                  (.seq
                   (.block 3
                    (.seq
                     (.reg [⟨(some 18), none, [], [], .ixaS 1 (.t 14) (.t 16)⟩,
                       ⟨(some 19), none, [], [], .ld false 1 (.t 18)⟩,
                       ⟨(some 7), none, [], [], .mv (.t 19)⟩] (some [3, 7, 8, 9, 10, 14, 15, 16]))
                     (.reg [⟨(some 20), none, [], [], .mv (.t 3)⟩,
                       ⟨(some 21), none, [], [], .mv (.t 7)⟩,
                       ⟨(some 22), none, [], [], .cal (.k (.fn 86 [])) [(.t 20), (.t 21)]⟩,
                       ⟨(some 3), none, [], [], .mv (.t 22)⟩] (some [3, 8, 9, 10, 14, 15, 16]))))
                   (.reg [⟨(some 23), none, [], [], .bin .add false (.t 16) (.k (.sc (.int .i64 (1))))⟩,
                     ⟨(some 16), none, [], [], .mv (.t 23)⟩] (some [3, 8, 9, 10, 14, 15, 16]))))))))))
           (.reg [⟨(some 24), none, [], [], .bin .add false (.t 10) (.k (.sc (.int .i64 (1))))⟩,
             ⟨(some 10), none, [], [], .mv (.t 24)⟩] (some [3, 8, 9, 10]))))))))
     (.seq
      (.reg [⟨(some 25), none, [], [], .mv (.t 3)⟩,
        ⟨(some 26), none, [], [], .un .xor (.t 25)⟩,
        ⟨(some 2), none, [], [], .mv (.t 26)⟩] (some [2]))
      .ret))))
theorem b76 : cmpG Try.prog 76 = some (strip a76, r76, 27) := by kernel_rfl

abbrev r86 : List AR := [.t 4]
abbrev a86 : ACode :=
  (.seq
   (.reg [⟨(some 4), none, [], [], .mv (.k (.sc (.int .u32 (0))))⟩] (some [0, 1]))
   (.seq
    (.reg [⟨(some 5), none, [], [], .mv (.t 0)⟩,
      ⟨(some 6), none, [], [], .mv (.t 1)⟩,
      ⟨(some 7), none, [], [], .cvi .u32 (.t 6)⟩,
      ⟨(some 8), none, [], [], .bin .xor false (.t 5) (.t 7)⟩,
      ⟨(some 0), none, [], [], .mv (.t 8)⟩] (some [0]))
    (.seq
     (.seq
      (.reg [⟨(some 9), none, [], [], .mv (.k (.sc (.int .i64 (0))))⟩] none)
      (.block 0
       (.loop
        (.seq
         (.reg [⟨(some 10), none, [], [], .bin .lss false (.t 9) (.k (.sc (.int .i64 (8))))⟩] none)
         (.seq
          (.cond (.t 10)
           (.keep [0, 9]
            .skip)
           (.exit 0))
          (.seq
           (.block 1
            (.reg [⟨(some 11), none, [], [], .mv (.t 0)⟩,
              ⟨(some 12), none, [], [], .bin .shr false (.t 11) (.k (.sc (.int .u64 (1))))⟩,
              ⟨(some 13), none, [], [], .mv (.t 0)⟩,
              ⟨(some 14), none, [], [], .bin .and false (.t 13) (.k (.sc (.int .u32 (1))))⟩,
              ⟨(some 15), none, [], [], .un .neg (.t 14)⟩,
              ⟨(some 16), none, [], [], .bin .and false (.k (.sc (.int .u32 (3988292384)))) (.t 15)⟩,
              ⟨(some 17), none, [], [], .bin .xor false (.t 12) (.t 16)⟩,
              ⟨(some 0), none, [], [], .mv (.t 17)⟩] (some [0, 9])))
           (.reg [⟨(some 18), none, [], [], .bin .add false (.t 9) (.k (.sc (.int .i64 (1))))⟩,
             ⟨(some 9), none, [], [], .mv (.t 18)⟩] (some [0, 9]))))))))
     (.seq
      (.reg [⟨(some 19), none, [], [], .mv (.t 0)⟩,
        ⟨(some 4), none, [], [], .mv (.t 19)⟩] (some [4]))
      .ret))))
theorem b86 : cmpG Try.prog 86 = some (strip a86, r86, 20) := by kernel_rfl

abbrev r60 : List AR := [.t 2, .t 3, .t 4]
abbrev a60 : ACode :=
  (.seq
   (.reg [⟨(some 2), none, [], [], .mv (.k .nl)⟩,
     ⟨(some 3), none, [], [], .mv (.k (.sc (.int .u32 (0))))⟩,
     ⟨(some 4), none, [], [], .mv (.k (.sc (.int .i64 (0))))⟩] (some [0]))
   (.seq
    (.reg [⟨(some 5), none, [], [], .mv (.k .nl)⟩] none)
    (.seq
     (.block 0
      (.loop
       (.seq
        (.seq
         (.reg [⟨(some 11), none, [], [], .mv (.t 0)⟩,
           ⟨(some 12), none, [], [], .lenL (.t 11)⟩,
           ⟨(some 13), none, [], [], .bin .gtr false (.t 12) (.k (.sc (.int .i64 (0))))⟩] (some [0, 5, 13]))
         (.cond (.t 13)
          (.keep [0, 5]
           .skip)
          (.exit 0)))
        (.block 1
         (.seq
          (.reg [⟨(some 14), none, [], [], .mv (.t 0)⟩,
            ⟨(some 15), none, [], [], .ixaS 1 (.t 14) (.k (.sc (.int .i64 (0))))⟩,
            ⟨(some 16), none, [], [], .ld false 1 (.t 15)⟩] (some [0, 5, 16]))
          (.block 2
           (.seq
            (.reg [⟨(some 18), none, [], [], .bin .eql false (.t 16) (.k (.sc (.int .u8 (69))))⟩,
              ⟨(some 17), none, [], [], .mv (.t 18)⟩] (some [0, 5, 16, 17]))
            (.cond (.t 17)
             (.keep [0, 5]
              (.seq
               (.reg [⟨(some 20), none, [], [], .mv (.t 0)⟩,
                 ⟨(some 21), none, [], [], .cal (.k (.fn 77 [])) [(.t 20)]⟩,
                 ⟨(some 19), none, [], [], .mv (.t 21)⟩,
                 ⟨(some 22), none, [], [], .ext (.t 19) 0⟩,
                 ⟨(some 23), none, [], [], .ext (.t 19) 1⟩,
                 ⟨(some 6), none, [], [], .mv (.t 22)⟩,
                 ⟨(some 7), none, [], [], .mv (.t 23)⟩] (some [5, 6, 7]))
               (.seq
                (.seq
                 (.reg [⟨(some 24), none, [], [], .mv (.t 7)⟩,
                   ⟨(some 25), none, [], [], .bin .neq false (.t 24) (.k (.sc (.int .i64 (0))))⟩] (some [5, 6, 7, 25]))
                 (.cond (.t 25)
                  (.keep [7]
                   (.seq
                    (.reg [⟨(some 26), none, [], [], .mv (.t 7)⟩,
                      ⟨(some 2), none, [], [], .mv (.k .nl)⟩,
                      ⟨(some 3), none, [], [], .mv (.k (.sc (.int .u32 (0))))⟩,
                      ⟨(some 4), none, [], [], .mv (.t 26)⟩] (some [2, 3, 4]))
                    .ret))
                  (.keep [5, 6]
                   .skip)))
                (.seq
                 (.reg [⟨(some 27), none, [], [], .mv (.t 5)⟩,
                   ⟨(some 28), none, [], [], .mv (.t 6)⟩,
                   ⟨(some 2), none, [], [], .mv (.t 27)⟩,
                   ⟨(some 3), none, [], [], .mv (.t 28)⟩,
                   ⟨(some 4), none, [], [], .mv (.k (.sc (.int .i64 (0))))⟩] (some [2, 3, 4]))
                 .ret))))
             (.keep [0, 5, 16]
              (.seq
               (.seq
                (.reg [⟨(some 30), none, [], [], .bin .eql false (.t 16) (.k (.sc (.int .u8 (67))))⟩,
                  ⟨(some 29), none, [], [], .mv (.t 30)⟩] (some [0, 5, 16, 29]))
                (.cond (.t 29)
                 (.keep [0, 5, 29]
                  .skip)
                 (.keep [0, 5, 16]
                  (.reg [⟨(some 31), none, [], [], .bin .eql false (.t 16) (.k (.sc (.int .u8 (79))))⟩,
                    ⟨(some 29), none, [], [], .mv (.t 31)⟩] (some [0, 5, 29])))))
               (.cond (.t 29)
                (.keep [0, 5]
                 (.seq
                  (.reg [⟨(some 33), none, [], [], .mv (.t 0)⟩,
                    ⟨(some 34), none, [], [], .cal (.k (.fn 78 [])) [(.t 33)]⟩,
                    ⟨(some 32), none, [], [], .mv (.t 34)⟩,
                    ⟨(some 35), none, [], [], .ext (.t 32) 0⟩,
                    ⟨(some 36), none, [], [], .ext (.t 32) 1⟩,
                    ⟨(some 37), none, [], [], .ext (.t 32) 2⟩,
                    ⟨(some 8), none, [], [], .alc [(.sc (.int .i64 (0))), (.sc (.int .i64 (0))), .nl]⟩,
                    ⟨none, none, [], [], .sto 3 (.t 8) (.t 35)⟩,
                    ⟨(some 9), none, [], [], .mv (.t 36)⟩,
                    ⟨(some 10), none, [], [], .mv (.t 37)⟩] (some [5, 8, 9, 10]))
                  (.seq
                   (.seq
                    (.reg [⟨(some 38), none, [], [], .mv (.t 10)⟩,
                      ⟨(some 39), none, [], [], .bin .neq false (.t 38) (.k (.sc (.int .i64 (0))))⟩] (some [5, 8, 9, 10, 39]))
                    (.cond (.t 39)
                     (.keep [10]
                      (.seq
                       (.reg [⟨(some 40), none, [], [], .mv (.t 10)⟩,
                         ⟨(some 2), none, [], [], .mv (.k .nl)⟩,
                         ⟨(some 3), none, [], [], .mv (.k (.sc (.int .u32 (0))))⟩,
                         ⟨(some 4), none, [], [], .mv (.t 40)⟩] (some [2, 3, 4]))
                       .ret))
                     (.keep [5, 8, 9]
                      .skip)))
                   (.seq
                    (.reg [⟨(some 41), none, [], [], .mv (.t 5)⟩,
                      ⟨(some 42), none, [], [], .ld true 3 (.t 8)⟩,
                      ⟨(some 43), none, [], [], .bsl 1 3 [(.sc (.int .i64 (0))), (.sc (.int .i64 (0))), .nl] [(0, 3, (.t 42))]⟩,
                      ⟨(some 44), none, [], [], .app 3 40 (.t 41) (.t 43)⟩,
                      ⟨(some 5), none, [], [], .mv (.t 44)⟩] (some [5, 9]))
                    (.reg [⟨(some 45), none, [], [], .mv (.t 9)⟩,
                      ⟨(some 0), none, [], [], .mv (.t 45)⟩] (some [0, 5]))))))
                (.keep []
                 (.seq
                  (.reg [⟨(some 2), none, [], [], .mv (.k .nl)⟩,
                    ⟨(some 3), none, [], [], .mv (.k (.sc (.int .u32 (0))))⟩,
                    ⟨(some 4), none, [], [], .mv (.k (.sc (.int .i64 (3))))⟩] none)
                  .ret)))))))))))))
     (.seq
      (.reg [⟨(some 2), none, [], [], .mv (.k .nl)⟩,
        ⟨(some 3), none, [], [], .mv (.k (.sc (.int .u32 (0))))⟩,
        ⟨(some 4), none, [], [], .mv (.k (.sc (.int .i64 (4))))⟩] (some [2, 3, 4]))
      .ret))))
theorem b60 : cmpG Try.prog 60 = some (strip a60, r60, 46) := by kernel_rfl

abbrev r77 : List AR := [.t 2, .t 3]
abbrev a77 : ACode :=
  (.seq
   (.reg [⟨(some 2), none, [], [], .mv (.k (.sc (.int .u32 (0))))⟩,
     ⟨(some 3), none, [], [], .mv (.k (.sc (.int .i64 (0))))⟩] (some [0]))
   (.seq
    (.reg [⟨(some 8), none, [], [], .mv (.t 0)⟩,
      ⟨(some 9), none, [], [], .slL 1 (some (.k (.sc (.int .i64 (1))))) none none (.t 8)⟩,
      ⟨(some 10), none, [], [], .cal (.k (.fn 87 [])) [(.t 9)]⟩,
      ⟨(some 7), none, [], [], .mv (.t 10)⟩,
      ⟨(some 11), none, [], [], .ext (.t 7) 0⟩,
      ⟨(some 12), none, [], [], .ext (.t 7) 1⟩,
      ⟨(some 13), none, [], [], .ext (.t 7) 2⟩,
      ⟨(some 4), none, [], [], .mv (.t 11)⟩,
      ⟨(some 5), none, [], [], .mv (.t 12)⟩,
      ⟨(some 6), none, [], [], .mv (.t 13)⟩] (some [4, 5, 6]))
    (.seq
     (.block 0
      (.seq
       (.reg [⟨(some 15), none, [], [], .mv (.t 6)⟩,
         ⟨(some 16), none, [], [], .un .not (.t 15)⟩,
         ⟨(some 14), none, [], [], .mv (.t 16)⟩] (some [4, 5, 14]))
       (.cond (.t 14)
        (.keep []
         (.seq
          (.reg [⟨(some 2), none, [], [], .mv (.k (.sc (.int .u32 (0))))⟩,
            ⟨(some 3), none, [], [], .mv (.k (.sc (.int .i64 (4))))⟩] none)
          .ret))
        (.keep [4, 5]
         (.seq
          (.reg [⟨(some 18), none, [], [], .mv (.t 5)⟩,
            ⟨(some 19), none, [], [], .lenL (.t 18)⟩,
            ⟨(some 20), none, [], [], .bin .gtr false (.t 19) (.k (.sc (.int .i64 (0))))⟩,
            ⟨(some 17), none, [], [], .mv (.t 20)⟩] (some [4, 17]))
          (.cond (.t 17)
           (.keep []
            (.seq
             (.reg [⟨(some 2), none, [], [], .mv (.k (.sc (.int .u32 (0))))⟩,
               ⟨(some 3), none, [], [], .mv (.k (.sc (.int .i64 (3))))⟩] none)
             .ret))
           (.keep [4]
            .skip)))))))
     (.seq
      (.reg [⟨(some 21), none, [], [], .mv (.t 4)⟩,
        ⟨(some 22), none, [], [], .cvi .u32 (.t 21)⟩,
        ⟨(some 2), none, [], [], .mv (.t 22)⟩,
        ⟨(some 3), none, [], [], .mv (.k (.sc (.int .i64 (0))))⟩] (some [2, 3]))
      .ret))))
theorem b77 : cmpG Try.prog 77 = some (strip a77, r77, 23) := by kernel_rfl

abbrev r78 : List AR := [.c 2 true 3, .t 3, .t 4]
abbrev a78 : ACode :=
  (.seq
   (.reg [⟨(some 2), none, [], [], .alc [(.sc (.int .i64 (0))), (.sc (.int .i64 (0))), .nl]⟩,
     ⟨(some 3), none, [], [], .mv (.k .nl)⟩,
     ⟨(some 4), none, [], [], .mv (.k (.sc (.int .i64 (0))))⟩] (some [0, 2]))
   (.seq
    (.reg [⟨(some 12), none, [], [], .mv (.t 0)⟩,
      ⟨(some 13), none, [], [], .slL 1 (some (.k (.sc (.int .i64 (1))))) none none (.t 12)⟩,
      ⟨(some 14), none, [], [], .cal (.k (.fn 87 [])) [(.t 13)]⟩,
      ⟨(some 11), none, [], [], .mv (.t 14)⟩,
      ⟨(some 15), none, [], [], .ext (.t 11) 0⟩,
      ⟨(some 16), none, [], [], .ext (.t 11) 1⟩,
      ⟨(some 17), none, [], [], .ext (.t 11) 2⟩,
      ⟨(some 5), none, [], [], .mv (.t 15)⟩,
      ⟨(some 6), none, [], [], .mv (.t 16)⟩,
      ⟨(some 7), none, [], [], .mv (.t 17)⟩] (some [0, 2, 5, 6, 7]))
    (.seq
     (.seq
      (.reg [⟨(some 18), none, [], [], .mv (.t 7)⟩,
        ⟨(some 19), none, [], [], .un .not (.t 18)⟩] (some [0, 2, 5, 6, 19]))
      (.cond (.t 19)
       (.keep [2]
        (.seq
         (.reg [⟨(some 20), none, [], [], .bld [(.sc (.int .i64 (0))), (.sc (.int .i64 (0))), .nl] []⟩,
           ⟨none, none, [], [], .sto 3 (.t 2) (.t 20)⟩,
           ⟨(some 3), none, [], [], .mv (.k .nl)⟩,
           ⟨(some 4), none, [], [], .mv (.k (.sc (.int .i64 (4))))⟩] (some [2, 3, 4]))
         .ret))
       (.keep [0, 2, 5, 6]
        .skip)))
     (.seq
      (.seq
       (.reg [⟨(some 21), none, [], [], .mv (.t 0)⟩,
         ⟨(some 22), none, [], [], .ixaS 1 (.t 21) (.k (.sc (.int .i64 (0))))⟩,
         ⟨(some 23), none, [], [], .ld false 1 (.t 22)⟩,
         ⟨(some 24), none, [], [], .bin .eql false (.t 23) (.k (.sc (.int .u8 (67))))⟩] (some [2, 5, 6, 24]))
       (.cond (.t 24)
        (.keep [2, 5, 6]
         (.seq
          (.reg [⟨(some 26), none, [], [], .mv (.t 6)⟩,
            ⟨(some 27), none, [], [], .cal (.k (.fn 87 [])) [(.t 26)]⟩,
            ⟨(some 25), none, [], [], .mv (.t 27)⟩,
            ⟨(some 28), none, [], [], .ext (.t 25) 0⟩,
            ⟨(some 29), none, [], [], .ext (.t 25) 1⟩,
            ⟨(some 30), none, [], [], .ext (.t 25) 2⟩,
            ⟨(some 8), none, [], [], .mv (.t 28)⟩,
            ⟨(some 9), none, [], [], .mv (.t 29)⟩,
            ⟨(some 10), none, [], [], .mv (.t 30)⟩] (some [2, 5, 8, 9, 10]))
          (.seq
           (.block 0
            (.seq
             (.reg [⟨(some 32), none, [], [], .mv (.t 10)⟩,
               ⟨(some 33), none, [], [], .un .not (.t 32)⟩,
               ⟨(some 31), none, [], [], .mv (.t 33)⟩] (some [2, 5, 8, 9, 31]))
             (.cond (.t 31)
              (.keep [2]
               (.seq
                (.reg [⟨(some 34), none, [], [], .bld [(.sc (.int .i64 (0))), (.sc (.int .i64 (0))), .nl] []⟩,
                  ⟨none, none, [], [], .sto 3 (.t 2) (.t 34)⟩,
                  ⟨(some 3), none, [], [], .mv (.k .nl)⟩,
                  ⟨(some 4), none, [], [], .mv (.k (.sc (.int .i64 (4))))⟩] (some [2, 3, 4]))
                .ret))
              (.keep [2, 5, 8, 9]
               (.seq
                (.reg [⟨(some 36), none, [], [], .mv (.t 5)⟩,
                  ⟨(some 37), none, [], [], .bin .gtr false (.t 36) (.k (.sc (.int .i64 (2147483647))))⟩,
                  ⟨(some 38), none, [], [], .mv (.t 37)⟩,
                  ⟨(some 39), (some (38, false)), [], [], .mv (.t 8)⟩,
                  ⟨(some 40), (some (38, false)), [], [], .bin .gtr false (.t 39) (.k (.sc (.int .i64 (2147483647))))⟩,
                  ⟨(some 41), none, [], [], .pick (.t 38) (.k (.sc (.bool true))) (.t 40)⟩,
                  ⟨(some 42), none, [], [], .mv (.t 41)⟩,
                  ⟨(some 43), (some (42, false)), [], [], .mv (.t 8)⟩,
                  ⟨(some 44), (some (42, false)), [], [], .bin .eql false (.t 43) (.k (.sc (.int .i64 (0))))⟩,
                  ⟨(some 45), none, [], [], .pick (.t 42) (.k (.sc (.bool true))) (.t 44)⟩,
                  ⟨(some 35), none, [], [], .mv (.t 45)⟩] (some [2, 5, 8, 9, 35]))
                (.cond (.t 35)
                 (.keep [2]
                  (.seq
                   (.reg [⟨(some 46), none, [], [], .bld [(.sc (.int .i64 (0))), (.sc (.int .i64 (0))), .nl] []⟩,
                     ⟨none, none, [], [], .sto 3 (.t 2) (.t 46)⟩,
                     ⟨(some 3), none, [], [], .mv (.k .nl)⟩,
                     ⟨(some 4), none, [], [], .mv (.k (.sc (.int .i64 (3))))⟩] (some [2, 3, 4]))
                   .ret))
                 (.keep [2, 5, 8, 9]
                  .skip)))))))
           (.seq
            (.reg [⟨(some 47), none, [], [], .mv (.t 5)⟩,
              ⟨(some 48), none, [], [], .mv (.t 8)⟩,
              ⟨(some 49), none, [], [], .bld [(.sc (.int .i64 (0))), (.sc (.int .i64 (0))), .nl] [(0, 1, (.t 47)), (1, 1, (.t 48))]⟩,
              ⟨(some 50), none, [], [], .mv (.t 9)⟩,
              ⟨none, none, [], [], .sto 3 (.t 2) (.t 49)⟩,
              ⟨(some 3), none, [], [], .mv (.t 50)⟩,
              ⟨(some 4), none, [], [], .mv (.k (.sc (.int .i64 (0))))⟩] (some [2, 3, 4]))
            .ret))))
        (.keep [2, 5, 6]
         .skip)))
      (.seq
       (.block 1
        (.seq
         (.reg [⟨(some 52), none, [], [], .mv (.t 5)⟩,
           ⟨(some 53), none, [], [], .bin .gtr false (.t 52) (.k (.sc (.int .i64 (2147483647))))⟩,
           ⟨(some 54), none, [], [], .mv (.t 53)⟩,
           ⟨(some 55), (some (54, false)), [], [], .mv (.t 5)⟩,
           ⟨(some 56), (some (54, false)), [], [], .bin .eql false (.t 55) (.k (.sc (.int .i64 (0))))⟩,
           ⟨(some 57), none, [], [], .pick (.t 54) (.k (.sc (.bool true))) (.t 56)⟩,
           ⟨(some 51), none, [], [], .mv (.t 57)⟩] (some [2, 5, 6, 51]))
         (.cond (.t 51)
          (.keep [2]
           (.seq
            (.reg [⟨(some 58), none, [], [], .bld [(.sc (.int .i64 (0))), (.sc (.int .i64 (0))), .nl] []⟩,
              ⟨none, none, [], [], .sto 3 (.t 2) (.t 58)⟩,
              ⟨(some 3), none, [], [], .mv (.k .nl)⟩,
              ⟨(some 4), none, [], [], .mv (.k (.sc (.int .i64 (3))))⟩] (some [2, 3, 4]))
            .ret))
          (.keep [2, 5, 6]
           (.seq
            (.reg [⟨(some 60), none, [], [], .mv (.t 6)⟩,
              ⟨(some 61), none, [], [], .lenL (.t 60)⟩,
              ⟨(some 62), none, [], [], .mv (.t 5)⟩,
              ⟨(some 63), none, [], [], .bin .lss false (.t 61) (.t 62)⟩,
              ⟨(some 59), none, [], [], .mv (.t 63)⟩] (some [2, 5, 6, 59]))
            (.cond (.t 59)
             (.keep [2]
              (.seq
               (.reg [⟨(some 64), none, [], [], .bld [(.sc (.int .i64 (0))), (.sc (.int .i64 (0))), .nl] []⟩,
                 ⟨none, none, [], [], .sto 3 (.t 2) (.t 64)⟩,
                 ⟨(some 3), none, [], [], .mv (.k .nl)⟩,
                 ⟨(some 4), none, [], [], .mv (.k (.sc (.int .i64 (4))))⟩] (some [2, 3, 4]))
               .ret))
             (.keep [2, 5, 6]
              .skip)))))))
       (.seq
        (.regD [⟨(some 65), none, [(.t 6)], [], .mv (.t 6)⟩,
          ⟨(some 66), none, [(.t 5)], [0], .mv (.t 5)⟩,
          ⟨(some 67), none, [(.t 65), (.t 66)], [], .slL 1 none (some (.t 66)) none (.t 65)⟩,
          ⟨(some 68), none, [(.k (.fn 47 [])), (.t 67)], [], .cal (.k (.fn 47 [])) [(.t 67)]⟩,
          ⟨(some 69), none, [(.t 68)], [], .bld [(.sc (.int .i64 (0))), (.sc (.int .i64 (0))), .nl] [(2, 1, (.t 68))]⟩,
          ⟨(some 70), none, [(.t 6)], [0, 1, 2, 3, 4], .mv (.t 6)⟩,
          ⟨(some 71), none, [(.t 5)], [0, 1, 2, 3, 4, 5], .mv (.t 5)⟩,
          ⟨(some 72), none, [(.t 70), (.t 71)], [0, 1, 2, 3, 4], .slL 1 (some (.t 71)) none none (.t 70)⟩,
          ⟨none, none, [(.t 2), (.t 69)], [5, 6, 7], .sto 3 (.t 2) (.t 69)⟩,
          ⟨(some 3), none, [(.t 72)], [], .mv (.t 72)⟩,
          ⟨(some 4), none, [(.k (.sc (.int .i64 (0))))], [], .mv (.k (.sc (.int .i64 (0))))⟩] (some [2, 3, 4]))
        .ret))))))
theorem b78 : cmpG Try.prog 78 = some (strip a78, r78, 73) := by kernel_rfl

abbrev r87 : List AR := [.t 2, .t 3, .t 4]
abbrev a87 : ACode :=
  (.seq
   (.reg [⟨(some 2), none, [], [], .mv (.k (.sc (.int .i64 (0))))⟩,
     ⟨(some 3), none, [], [], .mv (.k .nl)⟩,
     ⟨(some 4), none, [], [], .mv (.k (.sc (.bool false)))⟩] (some [0]))
   (.seq
    (.seq
     (.reg [⟨(some 8), none, [], [], .mv (.t 0)⟩,
       ⟨(some 9), none, [], [], .lenL (.t 8)⟩,
       ⟨(some 10), none, [], [], .bin .lss false (.t 9) (.k (.sc (.int .i64 (4))))⟩] (some [0, 10]))
     (.cond (.t 10)
      (.keep []
       (.seq
        (.reg [⟨(some 2), none, [], [], .mv (.k (.sc (.int .i64 (0))))⟩,
          ⟨(some 3), none, [], [], .mv (.k .nl)⟩,
          ⟨(some 4), none, [], [], .mv (.k (.sc (.bool false)))⟩] none)
        .ret))
      (.keep [0]
       .skip)))
    (.seq
     (.reg [⟨(some 5), none, [], [], .mv (.k (.sc (.int .i64 (0))))⟩] (some [0, 5]))
     (.seq
      (.seq
       (.reg [⟨(some 11), none, [], [], .mv (.t 0)⟩,
         ⟨(some 12), none, [], [], .slL 1 none (some (.k (.sc (.int .i64 (4))))) none (.t 11)⟩,
         ⟨(some 13), none, [], [], .lenL (.t 12)⟩,
         ⟨(some 14), none, [], [], .mv (.k (.sc (.int .i64 (0))))⟩] (some [0, 5, 12, 13, 14]))
       (.block 0
        (.loop
         (.seq
          (.reg [⟨(some 15), none, [], [], .bin .lss false (.t 14) (.t 13)⟩] none)
          (.seq
           (.cond (.t 15)
            (.keep [0, 5, 12, 13, 14]
             .skip)
            (.exit 0))
           (.seq
            (.block 1
             (.seq
              (.reg [⟨(some 16), none, [], [], .ixaS 1 (.t 12) (.t 14)⟩,
                ⟨(some 17), none, [], [], .ld false 1 (.t 16)⟩,
                ⟨(some 7), none, [], [], .mv (.t 17)⟩] (some [0, 5, 7, 12, 13, 14]))
              (.reg [⟨(some 18), none, [], [], .mv (.t 5)⟩,
                ⟨(some 19), none, [], [], .bin .shl false (.t 18) (.k (.sc (.int .u64 (8))))⟩,
                ⟨(some 20), none, [], [], .mv (.t 7)⟩,
                ⟨(some 21), none, [], [], .cvi .i64 (.t 20)⟩,
                ⟨(some 22), none, [], [], .bin .or false (.t 19) (.t 21)⟩,
                ⟨(some 5), none, [], [], .mv (.t 22)⟩] (some [0, 5, 12, 13, 14]))))
            (.reg [⟨(some 23), none, [], [], .bin .add false (.t 14) (.k (.sc (.int .i64 (1))))⟩,
              ⟨(some 14), none, [], [], .mv (.t 23)⟩] (some [0, 5, 12, 13, 14]))))))))
      (.seq
       (.regD [⟨(some 24), none, [(.t 5)], [], .mv (.t 5)⟩,
         ⟨(some 25), none, [(.t 0)], [0], .mv (.t 0)⟩,
         ⟨(some 26), none, [(.t 25), (.k (.sc (.int .i64 (4))))], [0], .slL 1 (some (.k (.sc (.int .i64 (4))))) none none (.t 25)⟩,
         ⟨(some 2), none, [(.t 24)], [1, 2], .mv (.t 24)⟩,
         ⟨(some 3), none, [(.t 26)], [], .mv (.t 26)⟩,
         ⟨(some 4), none, [(.k (.sc (.bool true)))], [], .mv (.k (.sc (.bool true)))⟩] (some [2, 3, 4]))
       .ret)))))
theorem b87 : cmpG Try.prog 87 = some (strip a87, r87, 27) := by kernel_rfl

abbrev r30 : List AR := [.t 4, .t 5]
abbrev a30 : ACode :=
  (.seq
   (.reg [⟨(some 4), none, [], [], .mv (.k .nl)⟩,
     ⟨(some 5), none, [], [], .mv (.k (.sc (.int .i64 (0))))⟩] (some [0, 1]))
   (.seq
    (.reg [⟨(some 11), none, [], [], .mv (.t 1)⟩,
      ⟨(some 12), none, [], [], .cal (.k (.fn 60 [])) [(.t 11)]⟩,
      ⟨(some 10), none, [], [], .mv (.t 12)⟩,
      ⟨(some 13), none, [], [], .ext (.t 10) 0⟩,
      ⟨(some 14), none, [], [], .ext (.t 10) 1⟩,
      ⟨(some 15), none, [], [], .ext (.t 10) 2⟩,
      ⟨(some 6), none, [], [], .mv (.t 13)⟩,
      ⟨(some 7), none, [], [], .mv (.t 14)⟩,
      ⟨(some 8), none, [], [], .mv (.t 15)⟩] (some [0, 6, 7, 8]))
    (.seq
     (.seq
      (.reg [⟨(some 16), none, [], [], .mv (.t 8)⟩,
        ⟨(some 17), none, [], [], .bin .neq false (.t 16) (.k (.sc (.int .i64 (0))))⟩] (some [0, 6, 7, 8, 17]))
      (.cond (.t 17)
       (.keep [8]
        (.seq
         (.reg [⟨(some 18), none, [], [], .mv (.t 8)⟩,
           ⟨(some 4), none, [], [], .mv (.k .nl)⟩,
           ⟨(some 5), none, [], [], .mv (.t 18)⟩] (some [4, 5]))
         .ret))
       (.keep [0, 6, 7]
        .skip)))
     (.seq
      (.reg [⟨(some 20), none, [], [], .mv (.t 0)⟩,
        ⟨(some 21), none, [], [], .mv (.t 6)⟩,
        ⟨(some 22), none, [], [], .cal (.k (.fn 28 [])) [(.t 20), (.t 21)]⟩,
        ⟨(some 19), none, [], [], .mv (.t 22)⟩,
        ⟨(some 23), none, [], [], .ext (.t 19) 0⟩,
        ⟨(some 24), none, [], [], .ext (.t 19) 1⟩,
        ⟨(some 9), none, [], [], .mv (.t 23)⟩,
        ⟨(some 8), none, [], [], .mv (.t 24)⟩] (some [7, 8, 9]))
      (.seq
       (.block 0
        (.seq
         (.reg [⟨(some 26), none, [], [], .mv (.t 8)⟩,
           ⟨(some 27), none, [], [], .bin .neq false (.t 26) (.k (.sc (.int .i64 (0))))⟩,
           ⟨(some 25), none, [], [], .mv (.t 27)⟩] (some [7, 8, 9, 25]))
         (.cond (.t 25)
          (.keep [8]
           (.seq
            (.reg [⟨(some 28), none, [], [], .mv (.t 8)⟩,
              ⟨(some 4), none, [], [], .mv (.k .nl)⟩,
              ⟨(some 5), none, [], [], .mv (.t 28)⟩] (some [4, 5]))
            .ret))
          (.keep [7, 9]
           (.seq
            (.reg [⟨(some 30), none, [], [], .mv (.t 9)⟩,
              ⟨(some 31), none, [], [], .cal (.k (.fn 59 [])) [(.t 30)]⟩,
              ⟨(some 32), none, [], [], .mv (.t 7)⟩,
              ⟨(some 33), none, [], [], .bin .neq false (.t 31) (.t 32)⟩,
              ⟨(some 29), none, [], [], .mv (.t 33)⟩] (some [9, 29]))
            (.cond (.t 29)
             (.keep []
              (.seq
               (.reg [⟨(some 4), none, [], [], .mv (.k .nl)⟩,
                 ⟨(some 5), none, [], [], .mv (.k (.sc (.int .i64 (9))))⟩] none)
               .ret))
             (.keep [9]
              .skip)))))))
       (.seq
        (.reg [⟨(some 34), none, [], [], .mv (.t 9)⟩,
          ⟨(some 4), none, [], [], .mv (.t 34)⟩,
          ⟨(some 5), none, [], [], .mv (.k (.sc (.int .i64 (0))))⟩] (some [4, 5]))
        .ret))))))
theorem b30 : cmpG Try.prog 30 = some (strip a30, r30, 35) := by kernel_rfl

abbrev r47 : List AR := [.t 2]
abbrev a47 : ACode :=
  (.seq
   (.reg [⟨(some 2), none, [], [], .mv (.k .nl)⟩] (some [0]))
   (.seq
    (.seq
     (.reg [⟨(some 3), none, [], [], .mv (.t 0)⟩,
       ⟨(some 4), none, [], [], .nil true (.t 3) (.k .nl)⟩] (some [0, 4]))
     (.cond (.t 4)
      (.keep []
       (.seq
        (.reg [⟨(some 2), none, [], [], .mv (.k .nl)⟩] none)
        .ret))
      (.keep [0]
       .skip)))
    (.seq
     (.reg [⟨(some 5), none, [], [], .bsl 0 1 [] []⟩,
       ⟨(some 6), none, [], [], .mv (.t 0)⟩,
       ⟨(some 7), none, [], [], .app 1 1 (.t 5) (.t 6)⟩,
       ⟨(some 2), none, [], [], .mv (.t 7)⟩] (some [2]))
     .ret)))
theorem b47 : cmpG Try.prog 47 = some (strip a47, r47, 8) := by kernel_rfl


end Go.Proofs.Ytdjjibmjinllnaa.Cod
