import Derived.Test.YtnfgnafphfddhaaProg
import Derived.Test.YtnfgnafphfddhaaSimD
import Derived.KernelRfl
namespace Go.Proofs.Ytnfgnafphfddhaa.Cod
open Go Go.Sim Go.Proofs
set_option maxRecDepth 100000
abbrev r35 : List AR := [.t 2]
abbrev a35 : ACode :=
  (.seq
   (.reg [⟨(some 1), none, [], [], .box (.t 0)⟩,
     ⟨(some 2), none, [], [], .mv (.k .nl)⟩] (some [1]))
   (.seq
    (.reg [⟨(some 3), none, [], [], .ld true 2 (.t 1)⟩,
      ⟨(some 4), none, [], [], .cal (.k (.fn 50 [])) [(.t 3), (.k (.sc (.int .i64 (0)))), (.k (.sc (.int .i64 (4611686018427387904)))), (.k (.sc (.bool true)))]⟩,
      ⟨(some 2), none, [], [], .mv (.t 4)⟩] (some [2]))
    .ret))
theorem b35 : cmpG Try.prog 35 = some (strip a35, r35, 5) := by kernel_rfl

abbrev r37 : List AR := [.t 2]
abbrev a37 : ACode :=
  (.seq
   (.reg [⟨(some 1), none, [], [], .box (.t 0)⟩,
     ⟨(some 2), none, [], [], .mv (.k (.sc (.int .i64 (0))))⟩] (some [1]))
   (.seq
    (.reg [⟨(some 3), none, [], [], .mv (.k (.sc (.int .i64 (0))))⟩] none)
    (.seq
     (.reg [⟨(some 6), none, [], [], .ld true 2 (.t 1)⟩,
       ⟨(some 7), none, [], [], .cal (.k (.fn 35 [])) [(.t 6)]⟩,
       ⟨(some 4), none, [], [], .mv (.t 7)⟩] (some [3, 4]))
     (.seq
      (.seq
       (.reg [⟨(some 5), none, [], [], .mv (.k (.sc (.int .i64 (0))))⟩] none)
       (.block 0
        (.loop
         (.seq
          (.seq
           (.reg [⟨(some 8), none, [], [], .mv (.t 5)⟩,
             ⟨(some 9), none, [], [], .mv (.t 4)⟩,
             ⟨(some 10), none, [], [], .lenL (.t 9)⟩,
             ⟨(some 11), none, [], [], .bin .lss false (.t 8) (.t 10)⟩] (some [3, 4, 5, 11]))
           (.cond (.t 11)
            (.keep [3, 4, 5]
             .skip)
            (.exit 0)))
          (.seq
           (.block 1
            (.regD [⟨(some 14), none, [(.t 3)], [], .mv (.t 3)⟩,
              ⟨(some 15), none, [(.t 4)], [0], .mv (.t 4)⟩,
              ⟨(some 16), none, [(.t 5)], [0, 1], .mv (.t 5)⟩,
              ⟨(some 17), none, [(.t 15), (.t 16)], [0], .ixaS 2 (.t 15) (.t 16)⟩,
              ⟨(some 18), none, [(.t 17)], [0], .fa 1 (.t 17)⟩,
              ⟨(some 19), none, [(.t 18)], [0], .ld false 1 (.t 18)⟩,
              ⟨(some 20), none, [(.t 4)], [0, 1, 2, 3, 4, 5], .mv (.t 4)⟩,
              ⟨(some 21), none, [(.t 5)], [0, 1, 2, 3, 4, 5, 6], .mv (.t 5)⟩,
              ⟨(some 22), none, [(.t 20), (.t 21)], [0, 1, 2, 3, 4, 5], .ixaS 2 (.t 20) (.t 21)⟩,
              ⟨(some 23), none, [(.t 22)], [0, 1, 2, 3, 4, 5], .fa 0 (.t 22)⟩,
              ⟨(some 24), none, [(.t 23)], [0, 1, 2, 3, 4, 5], .ld false 1 (.t 23)⟩,
              ⟨(some 25), none, [(.t 19), (.t 24)], [0], .bin .sub false (.t 19) (.t 24)⟩,
              ⟨(some 26), none, [(.t 14), (.t 25)], [], .bin .add false (.t 14) (.t 25)⟩,
              ⟨(some 3), none, [(.t 26)], [], .mv (.t 26)⟩] (some [3, 4, 5])))
           (.reg [⟨(some 12), none, [], [], .mv (.t 5)⟩,
             ⟨(some 13), none, [], [], .bin .add false (.t 12) (.k (.sc (.int .i64 (1))))⟩,
             ⟨(some 5), none, [], [], .mv (.t 13)⟩] (some [3, 4, 5])))))))
      (.seq
       (.reg [⟨(some 27), none, [], [], .mv (.t 3)⟩,
         ⟨(some 2), none, [], [], .mv (.t 27)⟩] (some [2]))
       .ret)))))
theorem b37 : cmpG Try.prog 37 = some (strip a37, r37, 28) := by kernel_rfl

abbrev r39 : List AR := [.t 4]
abbrev a39 : ACode :=
  (.seq
   (.reg [⟨(some 2), none, [], [], .box (.t 0)⟩,
     ⟨(some 4), none, [], [], .mv (.k (.sc (.bool false)))⟩] (some [1, 2]))
   (.seq
    (.seq
     (.reg [⟨(some 5), none, [], [], .mv (.k (.sc (.int .i64 (0))))⟩] none)
     (.block 0
      (.loop
       (.seq
        (.seq
         (.reg [⟨(some 6), none, [], [], .mv (.t 5)⟩,
           ⟨(some 7), none, [], [], .fa 0 (.t 2)⟩,
           ⟨(some 8), none, [], [], .ld false 1 (.t 7)⟩,
           ⟨(some 9), none, [], [], .lenL (.t 8)⟩,
           ⟨(some 10), none, [], [], .bin .lss false (.t 6) (.t 9)⟩] (some [1, 2, 5, 10]))
         (.cond (.t 10)
          (.keep [1, 2, 5]
           .skip)
          (.exit 0)))
        (.seq
         (.block 1
          (.seq
           (.reg [⟨(some 13), none, [], [], .mv (.t 1)⟩,
             ⟨(some 14), none, [], [], .fa 0 (.t 2)⟩,
             ⟨(some 15), none, [], [], .ld false 1 (.t 14)⟩,
             ⟨(some 16), none, [], [], .mv (.t 5)⟩,
             ⟨(some 17), none, [], [], .ixaS 2 (.t 15) (.t 16)⟩,
             ⟨(some 18), none, [], [], .fa 0 (.t 17)⟩,
             ⟨(some 19), none, [], [], .ld false 1 (.t 18)⟩,
             ⟨(some 20), none, [], [], .bin .geq false (.t 13) (.t 19)⟩,
             ⟨(some 21), none, [], [], .mv (.t 20)⟩,
             ⟨(some 22), (some (21, true)), [], [], .mv (.t 1)⟩,
             ⟨(some 23), (some (21, true)), [], [], .fa 0 (.t 2)⟩,
             ⟨(some 24), (some (21, true)), [], [], .ld false 1 (.t 23)⟩,
             ⟨(some 25), (some (21, true)), [], [], .mv (.t 5)⟩,
             ⟨(some 26), (some (21, true)), [], [], .ixaS 2 (.t 24) (.t 25)⟩,
             ⟨(some 27), (some (21, true)), [], [], .fa 1 (.t 26)⟩,
             ⟨(some 28), (some (21, true)), [], [], .ld false 1 (.t 27)⟩,
             ⟨(some 29), (some (21, true)), [], [], .bin .lss false (.t 22) (.t 28)⟩,
             ⟨(some 30), none, [], [], .pick (.t 21) (.t 29) (.k (.sc (.bool false)))⟩] (some [1, 2, 5, 30]))
           (.cond (.t 30)
            (.keep []
             (.seq
              (.reg [⟨(some 4), none, [], [], .mv (.k (.sc (.bool true)))⟩] none)
              .ret))
            (.keep [1, 2, 5]
             .skip))))
         (.reg [⟨(some 11), none, [], [], .mv (.t 5)⟩,
           ⟨(some 12), none, [], [], .bin .add false (.t 11) (.k (.sc (.int .i64 (1))))⟩,
           ⟨(some 5), none, [], [], .mv (.t 12)⟩] (some [1, 2, 5])))))))
    (.seq
     (.reg [⟨(some 4), none, [], [], .mv (.k (.sc (.bool false)))⟩] (some [4]))
     .ret)))
theorem b39 : cmpG Try.prog 39 = some (strip a39, r39, 31) := by kernel_rfl

abbrev r41 : List AR := [.t 4]
abbrev a41 : ACode :=
  (.seq
   (.reg [⟨(some 2), none, [], [], .box (.t 0)⟩,
     ⟨(some 4), none, [], [], .mv (.k (.sc (.int .i64 (0))))⟩] (some [1, 2]))
   (.seq
    (.reg [⟨(some 6), none, [], [], .ld true 2 (.t 2)⟩,
      ⟨(some 7), none, [], [], .mv (.t 1)⟩,
      ⟨(some 8), none, [], [], .cal (.k (.fn 50 [])) [(.t 6), (.t 7), (.k (.sc (.int .i64 (4611686018427387904)))), (.k (.sc (.bool false)))]⟩,
      ⟨(some 5), none, [], [], .mv (.t 8)⟩] (some [5]))
    (.seq
     (.seq
      (.reg [⟨(some 9), none, [], [], .mv (.t 5)⟩,
        ⟨(some 10), none, [], [], .lenL (.t 9)⟩,
        ⟨(some 11), none, [], [], .bin .eql false (.t 10) (.k (.sc (.int .i64 (0))))⟩] (some [5, 11]))
      (.cond (.t 11)
       (.keep []
        (.seq
         (.reg [⟨(some 4), none, [], [], .mv (.k (.sc (.int .i64 (4611686018427387904))))⟩] none)
         .ret))
       (.keep [5]
        .skip)))
     (.seq
      (.reg [⟨(some 12), none, [], [], .mv (.t 5)⟩,
        ⟨(some 13), none, [], [], .ixaS 2 (.t 12) (.k (.sc (.int .i64 (0))))⟩,
        ⟨(some 14), none, [], [], .fa 0 (.t 13)⟩,
        ⟨(some 15), none, [], [], .ld false 1 (.t 14)⟩,
        ⟨(some 4), none, [], [], .mv (.t 15)⟩] (some [4]))
      .ret))))
theorem b41 : cmpG Try.prog 41 = some (strip a41, r41, 16) := by kernel_rfl

abbrev r47 : List AR := [.t 6]
abbrev a47 : ACode :=
  (.seq
   (.reg [⟨(some 3), none, [], [], .box (.t 0)⟩,
     ⟨(some 6), none, [], [], .mv (.k (.sc (.bool false)))⟩] (some [1, 2, 3]))
   (.seq
    (.reg [⟨(some 7), none, [], [], .ld true 2 (.t 3)⟩,
      ⟨(some 8), none, [], [], .mv (.t 1)⟩,
      ⟨(some 9), none, [], [], .mv (.t 2)⟩,
      ⟨(some 10), none, [], [], .cal (.k (.fn 50 [])) [(.t 7), (.t 8), (.t 9), (.k (.sc (.bool false)))]⟩,
      ⟨(some 11), none, [], [], .lenL (.t 10)⟩,
      ⟨(some 12), none, [], [], .bin .eql false (.t 11) (.k (.sc (.int .i64 (0))))⟩,
      ⟨(some 6), none, [], [], .mv (.t 12)⟩] (some [6]))
    .ret))
theorem b47 : cmpG Try.prog 47 = some (strip a47, r47, 13) := by kernel_rfl

abbrev r49 : List AR := [.t 6]
abbrev a49 : ACode :=
  (.seq
   (.reg [⟨(some 3), none, [], [], .box (.t 0)⟩,
     ⟨(some 6), none, [], [], .mv (.k .nl)⟩] (some [1, 2, 3]))
   (.seq
    (.reg [⟨(some 7), none, [], [], .mv (.k .nl)⟩] none)
    (.seq
     (.reg [⟨(some 10), none, [], [], .ld true 2 (.t 3)⟩,
       ⟨(some 11), none, [], [], .cal (.k (.fn 35 [])) [(.t 10)]⟩,
       ⟨(some 8), none, [], [], .mv (.t 11)⟩] (some [1, 2, 7, 8]))
     (.seq
      (.seq
       (.reg [⟨(some 9), none, [], [], .mv (.k (.sc (.int .i64 (0))))⟩] none)
       (.block 0
        (.loop
         (.seq
          (.seq
           (.reg [⟨(some 12), none, [], [], .mv (.t 9)⟩,
             ⟨(some 13), none, [], [], .mv (.t 8)⟩,
             ⟨(some 14), none, [], [], .lenL (.t 13)⟩,
             ⟨(some 15), none, [], [], .bin .lss false (.t 12) (.t 14)⟩] (some [1, 2, 7, 8, 9, 15]))
           (.cond (.t 15)
            (.keep [1, 2, 7, 8, 9]
             .skip)
            (.exit 0)))
          (.seq
           (.block 1
            (.seq
             (.reg [⟨(some 18), none, [], [], .mv (.t 8)⟩,
               ⟨(some 19), none, [], [], .mv (.t 9)⟩,
               ⟨(some 20), none, [], [], .ixaS 2 (.t 18) (.t 19)⟩,
               ⟨(some 21), none, [], [], .fa 0 (.t 20)⟩,
               ⟨(some 22), none, [], [], .ld false 1 (.t 21)⟩,
               ⟨(some 23), none, [], [], .mv (.t 1)⟩,
               ⟨(some 24), none, [], [], .bin .gtr false (.t 22) (.t 23)⟩,
               ⟨(some 25), none, [], [], .mv (.t 24)⟩,
               ⟨(some 26), (some (25, true)), [], [], .mv (.t 7)⟩,
               ⟨(some 27), (some (25, true)), [], [], .lenL (.t 26)⟩,
               ⟨(some 28), (some (25, true)), [], [], .mv (.t 2)⟩,
               ⟨(some 29), (some (25, true)), [], [], .bin .lss false (.t 27) (.t 28)⟩,
               ⟨(some 30), none, [], [], .pick (.t 25) (.t 29) (.k (.sc (.bool false)))⟩] (some [1, 2, 7, 8, 9, 30]))
             (.cond (.t 30)
              (.keep [1, 2, 7, 8, 9]
               (.reg [⟨(some 31), none, [], [], .mv (.t 7)⟩,
                 ⟨(some 32), none, [], [], .mv (.t 8)⟩,
                 ⟨(some 33), none, [], [], .mv (.t 9)⟩,
                 ⟨(some 34), none, [], [], .ixaS 2 (.t 32) (.t 33)⟩,
                 ⟨(some 35), none, [], [], .ld true 2 (.t 34)⟩,
                 ⟨(some 36), none, [], [], .bsl 1 2 [(.sc (.int .i64 (0))), (.sc (.int .i64 (0)))] [(0, 2, (.t 35))]⟩,
                 ⟨(some 37), none, [], [], .app 2 16 (.t 31) (.t 36)⟩,
                 ⟨(some 7), none, [], [], .mv (.t 37)⟩] (some [1, 2, 7, 8, 9])))
              (.keep [1, 2, 7, 8, 9]
               .skip))))
           (.reg [⟨(some 16), none, [], [], .mv (.t 9)⟩,
             ⟨(some 17), none, [], [], .bin .add false (.t 16) (.k (.sc (.int .i64 (1))))⟩,
             ⟨(some 9), none, [], [], .mv (.t 17)⟩] (some [1, 2, 7, 8, 9])))))))
      (.seq
       (.reg [⟨(some 38), none, [], [], .mv (.t 7)⟩,
         ⟨(some 6), none, [], [], .mv (.t 38)⟩] (some [6]))
       .ret)))))
theorem b49 : cmpG Try.prog 49 = some (strip a49, r49, 39) := by kernel_rfl

abbrev r50 : List AR := [.t 8]
abbrev a50 : ACode :=
  (.seq
   (.reg [⟨(some 4), none, [], [], .box (.t 0)⟩,
     ⟨(some 8), none, [], [], .mv (.k .nl)⟩] (some [1, 2, 3, 4]))
   (.seq
    (.reg [⟨(some 13), none, [], [], .mv (.t 1)⟩,
      ⟨(some 14), none, [], [], .cal (.k (.fn 77 [])) [(.t 13)]⟩,
      ⟨(some 15), none, [], [], .mv (.t 2)⟩,
      ⟨(some 16), none, [], [], .cal (.k (.fn 77 [])) [(.t 15)]⟩,
      ⟨(some 1), none, [], [], .mv (.t 14)⟩,
      ⟨(some 2), none, [], [], .mv (.t 16)⟩] (some [1, 2, 3, 4]))
    (.seq
     (.reg [⟨(some 9), none, [], [], .mv (.k .nl)⟩] none)
     (.seq
      (.seq
       (.reg [⟨(some 17), none, [], [], .mv (.t 1)⟩,
         ⟨(some 10), none, [], [], .mv (.t 17)⟩] (some [2, 3, 4, 9, 10]))
       (.block 0
        (.loop
         (.seq
          (.seq
           (.reg [⟨(some 18), none, [], [], .mv (.t 10)⟩,
             ⟨(some 19), none, [], [], .mv (.t 2)⟩,
             ⟨(some 20), none, [], [], .bin .lss false (.t 18) (.t 19)⟩] (some [2, 3, 4, 9, 10, 20]))
           (.cond (.t 20)
            (.keep [2, 3, 4, 9, 10]
             .skip)
            (.exit 0)))
          (.block 1
           (.seq
            (.reg [⟨(some 21), none, [], [], .ld true 2 (.t 4)⟩,
              ⟨(some 22), none, [], [], .mv (.t 10)⟩,
              ⟨(some 23), none, [], [], .cal (.k (.fn 78 [])) [(.t 21), (.t 22)]⟩,
              ⟨(some 24), none, [], [], .mv (.t 2)⟩,
              ⟨(some 25), none, [], [], .mn [(.t 23), (.t 24)]⟩,
              ⟨(some 11), none, [], [], .mv (.t 25)⟩] (some [2, 3, 4, 9, 10, 11]))
            (.seq
             (.seq
              (.reg [⟨(some 26), none, [], [], .ld true 2 (.t 4)⟩,
                ⟨(some 27), none, [], [], .mv (.t 10)⟩,
                ⟨(some 28), none, [], [], .cal (.k (.fn 39 [])) [(.t 26), (.t 27)]⟩,
                ⟨(some 29), none, [], [], .mv (.t 3)⟩,
                ⟨(some 30), none, [], [], .bin .eql true (.t 28) (.t 29)⟩] (some [2, 3, 4, 9, 10, 11, 30]))
              (.cond (.t 30)
               (.keep [2, 3, 4, 9, 10, 11]
                (.seq
                 (.reg [⟨(some 31), none, [], [], .mv (.t 9)⟩,
                   ⟨(some 32), none, [], [], .lenL (.t 31)⟩,
                   ⟨(some 12), none, [], [], .mv (.t 32)⟩] (some [2, 3, 4, 9, 10, 11, 12]))
                 (.seq
                  (.reg [⟨(some 33), none, [], [], .mv (.t 12)⟩,
                    ⟨(some 34), none, [], [], .bin .gtr false (.t 33) (.k (.sc (.int .i64 (0))))⟩,
                    ⟨(some 35), none, [], [], .mv (.t 34)⟩,
                    ⟨(some 36), (some (35, true)), [], [], .mv (.t 9)⟩,
                    ⟨(some 37), (some (35, true)), [], [], .mv (.t 12)⟩,
                    ⟨(some 38), (some (35, true)), [], [], .bin .sub false (.t 37) (.k (.sc (.int .i64 (1))))⟩,
                    ⟨(some 39), (some (35, true)), [], [], .ixaS 2 (.t 36) (.t 38)⟩,
                    ⟨(some 40), (some (35, true)), [], [], .fa 1 (.t 39)⟩,
                    ⟨(some 41), (some (35, true)), [], [], .ld false 1 (.t 40)⟩,
                    ⟨(some 42), (some (35, true)), [], [], .mv (.t 10)⟩,
                    ⟨(some 43), (some (35, true)), [], [], .bin .eql false (.t 41) (.t 42)⟩,
                    ⟨(some 44), none, [], [], .pick (.t 35) (.t 43) (.k (.sc (.bool false)))⟩] (some [2, 3, 4, 9, 10, 11, 12, 44]))
                  (.cond (.t 44)
                   (.keep [2, 3, 4, 9, 11, 12]
                    (.reg [⟨(some 45), none, [], [], .mv (.t 9)⟩,
                      ⟨(some 46), none, [], [], .mv (.t 12)⟩,
                      ⟨(some 47), none, [], [], .bin .sub false (.t 46) (.k (.sc (.int .i64 (1))))⟩,
                      ⟨(some 48), none, [], [], .mv (.t 11)⟩,
                      ⟨(some 49), none, [], [], .ixaS 2 (.t 45) (.t 47)⟩,
                      ⟨(some 50), none, [], [], .fa 1 (.t 49)⟩,
                      ⟨none, none, [], [], .sto 1 (.t 50) (.t 48)⟩] (some [2, 3, 4, 9, 11])))
                   (.keep [2, 3, 4, 9, 10, 11]
                    (.reg [⟨(some 51), none, [], [], .mv (.t 9)⟩,
                      ⟨(some 52), none, [], [], .mv (.t 10)⟩,
                      ⟨(some 53), none, [], [], .mv (.t 11)⟩,
                      ⟨(some 54), none, [], [], .bld [(.sc (.int .i64 (0))), (.sc (.int .i64 (0)))] [(0, 1, (.t 52)), (1, 1, (.t 53))]⟩,
                      ⟨(some 55), none, [], [], .bsl 1 2 [(.sc (.int .i64 (0))), (.sc (.int .i64 (0)))] [(0, 2, (.t 54))]⟩,
                      ⟨(some 56), none, [], [], .app 2 16 (.t 51) (.t 55)⟩,
                      ⟨(some 9), none, [], [], .mv (.t 56)⟩] (some [2, 3, 4, 9, 11])))))))
               (.keep [2, 3, 4, 9, 11]
                .skip)))
             (.reg [⟨(some 57), none, [], [], .mv (.t 11)⟩,
               ⟨(some 10), none, [], [], .mv (.t 57)⟩] (some [2, 3, 4, 9, 10])))))))))
      (.seq
       (.reg [⟨(some 58), none, [], [], .mv (.t 9)⟩,
         ⟨(some 8), none, [], [], .mv (.t 58)⟩] (some [8]))
       .ret)))))
theorem b50 : cmpG Try.prog 50 = some (strip a50, r50, 59) := by kernel_rfl

abbrev r69 : List AR := [.c 4 true 2]
abbrev a69 : ACode :=
  (.seq
   (.reg [⟨(some 2), none, [], [], .box (.t 0)⟩,
     ⟨(some 4), none, [], [], .alc [.nl, (.sc (.int .i64 (0)))]⟩] (some [1, 2, 4]))
   (.seq
    (.reg [⟨(some 5), none, [], [], .mv (.k .nl)⟩] none)
    (.seq
     (.seq
      (.reg [⟨(some 6), none, [], [], .mv (.k (.sc (.int .i64 (0))))⟩] none)
      (.block 0
       (.loop
        (.seq
         (.seq
          (.reg [⟨(some 7), none, [], [], .mv (.t 6)⟩,
            ⟨(some 8), none, [], [], .fa 0 (.t 2)⟩,
            ⟨(some 9), none, [], [], .ld false 1 (.t 8)⟩,
            ⟨(some 10), none, [], [], .lenL (.t 9)⟩,
            ⟨(some 11), none, [], [], .bin .lss false (.t 7) (.t 10)⟩] (some [1, 2, 4, 5, 6, 11]))
          (.cond (.t 11)
           (.keep [1, 2, 4, 5, 6]
            .skip)
           (.exit 0)))
         (.seq
          (.block 1
           (.regD [⟨(some 14), none, [(.t 5)], [], .mv (.t 5)⟩,
             ⟨(some 15), none, [(.t 2)], [0], .fa 0 (.t 2)⟩,
             ⟨(some 16), none, [(.t 15)], [0], .ld false 1 (.t 15)⟩,
             ⟨(some 17), none, [(.t 6)], [0, 1, 2], .mv (.t 6)⟩,
             ⟨(some 18), none, [(.t 16), (.t 17)], [0], .ixaS 2 (.t 16) (.t 17)⟩,
             ⟨(some 19), none, [(.t 18)], [0], .fa 0 (.t 18)⟩,
             ⟨(some 20), none, [(.t 19)], [0], .ld false 1 (.t 19)⟩,
             ⟨(some 21), none, [(.t 1)], [0, 1, 2, 3, 4, 5, 6], .mv (.t 1)⟩,
             ⟨(some 22), none, [(.k (.fn 77 [])), (.t 21)], [0, 1, 2, 3, 4, 5, 6], .cal (.k (.fn 77 [])) [(.t 21)]⟩,
             ⟨(some 23), none, [(.t 20), (.t 22)], [0], .mx [(.t 20), (.t 22)]⟩,
             ⟨(some 24), none, [(.t 2)], [0, 1, 2, 3, 4, 5, 6, 7, 8, 9], .fa 0 (.t 2)⟩,
             ⟨(some 25), none, [(.t 24)], [0, 1, 2, 3, 4, 5, 6, 7, 8, 9], .ld false 1 (.t 24)⟩,
             ⟨(some 26), none, [(.t 6)], [0, 1, 2, 3, 4, 5, 6, 7, 8, 9, 10, 11], .mv (.t 6)⟩,
             ⟨(some 27), none, [(.t 25), (.t 26)], [0, 1, 2, 3, 4, 5, 6, 7, 8, 9], .ixaS 2 (.t 25) (.t 26)⟩,
             ⟨(some 28), none, [(.t 27)], [0, 1, 2, 3, 4, 5, 6, 7, 8, 9], .fa 1 (.t 27)⟩,
             ⟨(some 29), none, [(.t 28)], [0, 1, 2, 3, 4, 5, 6, 7, 8, 9], .ld false 1 (.t 28)⟩,
             ⟨(some 30), none, [(.t 23), (.t 29)], [0], .bld [(.sc (.int .i64 (0))), (.sc (.int .i64 (0)))] [(0, 1, (.t 23)), (1, 1, (.t 29))]⟩,
             ⟨(some 31), none, [(.t 30)], [0], .bsl 1 2 [(.sc (.int .i64 (0))), (.sc (.int .i64 (0)))] [(0, 2, (.t 30))]⟩,
             ⟨(some 32), none, [(.t 14), (.t 31)], [], .app 2 16 (.t 14) (.t 31)⟩,
             ⟨(some 5), none, [(.t 32)], [], .mv (.t 32)⟩] (some [1, 2, 4, 5, 6])))
          (.reg [⟨(some 12), none, [], [], .mv (.t 6)⟩,
            ⟨(some 13), none, [], [], .bin .add false (.t 12) (.k (.sc (.int .i64 (1))))⟩,
            ⟨(some 6), none, [], [], .mv (.t 13)⟩] (some [1, 2, 4, 5, 6])))))))
     (.seq
      (.reg [⟨(some 33), none, [], [], .mv (.t 5)⟩,
        ⟨(some 34), none, [], [], .bld [.nl, (.sc (.int .i64 (0)))] [(0, 1, (.t 33)), (1, 1, (.k (.sc (.int .i64 (0)))))]⟩,
        ⟨none, none, [], [], .sto 2 (.t 4) (.t 34)⟩] (some [4]))
      .ret))))
theorem b69 : cmpG Try.prog 69 = some (strip a69, r69, 35) := by kernel_rfl

abbrev r70 : List AR := [.c 6 true 2]
abbrev a70 : ACode :=
  (.seq
   (.reg [⟨(some 3), none, [], [], .box (.t 0)⟩,
     ⟨(some 6), none, [], [], .alc [.nl, (.sc (.int .i64 (0)))]⟩] (some [1, 2, 3, 6]))
   (.seq
    (.regD [⟨(some 7), none, [(.t 3)], [], .fa 0 (.t 3)⟩,
      ⟨(some 8), none, [(.t 7)], [], .ld false 1 (.t 7)⟩,
      ⟨(some 9), none, [(.k .nl), (.t 8)], [], .app 2 16 (.k .nl) (.t 8)⟩,
      ⟨(some 10), none, [(.t 1)], [0, 1, 2], .mv (.t 1)⟩,
      ⟨(some 11), none, [(.k (.fn 77 [])), (.t 10)], [], .cal (.k (.fn 77 [])) [(.t 10)]⟩,
      ⟨(some 12), none, [(.t 2)], [0, 1, 2, 3, 4], .mv (.t 2)⟩,
      ⟨(some 13), none, [(.k (.fn 77 [])), (.t 12)], [], .cal (.k (.fn 77 [])) [(.t 12)]⟩,
      ⟨(some 14), none, [(.t 11), (.t 13)], [], .bld [(.sc (.int .i64 (0))), (.sc (.int .i64 (0)))] [(0, 1, (.t 11)), (1, 1, (.t 13))]⟩,
      ⟨(some 15), none, [(.t 14)], [], .bsl 1 2 [(.sc (.int .i64 (0))), (.sc (.int .i64 (0)))] [(0, 2, (.t 14))]⟩,
      ⟨(some 16), none, [(.t 9), (.t 15)], [], .app 2 16 (.t 9) (.t 15)⟩,
      ⟨(some 17), none, [(.t 3)], [0, 1, 2, 3, 4, 5, 6, 7, 8, 9], .fa 1 (.t 3)⟩,
      ⟨(some 18), none, [(.t 17)], [0, 1, 2, 3, 4, 5, 6, 7, 8, 9], .ld false 1 (.t 17)⟩,
      ⟨(some 19), none, [(.t 16), (.t 18)], [], .bld [.nl, (.sc (.int .i64 (0)))] [(0, 1, (.t 16)), (1, 1, (.t 18))]⟩,
      ⟨none, none, [(.t 6), (.t 19)], [], .sto 2 (.t 6) (.t 19)⟩] (some [6]))
    .ret))
theorem b70 : cmpG Try.prog 70 = some (strip a70, r70, 20) := by kernel_rfl

abbrev r77 : List AR := [.t 2]
abbrev a77 : ACode :=
  (.seq
   (.reg [⟨(some 2), none, [], [], .mv (.k (.sc (.int .i64 (0))))⟩] (some [0]))
   (.seq
    (.reg [⟨(some 3), none, [], [], .mv (.t 0)⟩,
      ⟨(some 4), none, [], [], .mx [(.t 3), (.k (.sc (.int .i64 (0))))]⟩,
      ⟨(some 5), none, [], [], .mn [(.t 4), (.k (.sc (.int .i64 (4611686018427387904))))]⟩,
      ⟨(some 2), none, [], [], .mv (.t 5)⟩] (some [2]))
    .ret))
theorem b77 : cmpG Try.prog 77 = some (strip a77, r77, 6) := by kernel_rfl

abbrev r78 : List AR := [.t 4]
abbrev a78 : ACode :=
  (.seq
   (.reg [⟨(some 2), none, [], [], .box (.t 0)⟩,
     ⟨(some 4), none, [], [], .mv (.k (.sc (.int .i64 (0))))⟩] (some [1, 2]))
   (.seq
    (.reg [⟨(some 5), none, [], [], .mv (.k (.sc (.int .i64 (4611686018427387904))))⟩] none)
    (.seq
     (.seq
      (.reg [⟨(some 6), none, [], [], .mv (.k (.sc (.int .i64 (0))))⟩] none)
      (.block 0
       (.loop
        (.seq
         (.seq
          (.reg [⟨(some 7), none, [], [], .mv (.t 6)⟩,
            ⟨(some 8), none, [], [], .fa 0 (.t 2)⟩,
            ⟨(some 9), none, [], [], .ld false 1 (.t 8)⟩,
            ⟨(some 10), none, [], [], .lenL (.t 9)⟩,
            ⟨(some 11), none, [], [], .bin .lss false (.t 7) (.t 10)⟩] (some [1, 2, 5, 6, 11]))
          (.cond (.t 11)
           (.keep [1, 2, 5, 6]
            .skip)
           (.exit 0)))
         (.seq
          (.block 1
           (.seq
            (.seq
             (.reg [⟨(some 14), none, [], [], .fa 0 (.t 2)⟩,
               ⟨(some 15), none, [], [], .ld false 1 (.t 14)⟩,
               ⟨(some 16), none, [], [], .mv (.t 6)⟩,
               ⟨(some 17), none, [], [], .ixaS 2 (.t 15) (.t 16)⟩,
               ⟨(some 18), none, [], [], .fa 0 (.t 17)⟩,
               ⟨(some 19), none, [], [], .ld false 1 (.t 18)⟩,
               ⟨(some 20), none, [], [], .mv (.t 1)⟩,
               ⟨(some 21), none, [], [], .bin .gtr false (.t 19) (.t 20)⟩] (some [1, 2, 5, 6, 21]))
             (.cond (.t 21)
              (.keep [1, 2, 5, 6]
               (.reg [⟨(some 22), none, [], [], .mv (.t 5)⟩,
                 ⟨(some 23), none, [], [], .fa 0 (.t 2)⟩,
                 ⟨(some 24), none, [], [], .ld false 1 (.t 23)⟩,
                 ⟨(some 25), none, [], [], .mv (.t 6)⟩,
                 ⟨(some 26), none, [], [], .ixaS 2 (.t 24) (.t 25)⟩,
                 ⟨(some 27), none, [], [], .fa 0 (.t 26)⟩,
                 ⟨(some 28), none, [], [], .ld false 1 (.t 27)⟩,
                 ⟨(some 29), none, [], [], .mn [(.t 22), (.t 28)]⟩,
                 ⟨(some 5), none, [], [], .mv (.t 29)⟩] (some [1, 2, 5, 6])))
              (.keep [1, 2, 5, 6]
               .skip)))
            (.seq
             (.reg [⟨(some 30), none, [], [], .fa 0 (.t 2)⟩,
               ⟨(some 31), none, [], [], .ld false 1 (.t 30)⟩,
               ⟨(some 32), none, [], [], .mv (.t 6)⟩,
               ⟨(some 33), none, [], [], .ixaS 2 (.t 31) (.t 32)⟩,
               ⟨(some 34), none, [], [], .fa 1 (.t 33)⟩,
               ⟨(some 35), none, [], [], .ld false 1 (.t 34)⟩,
               ⟨(some 36), none, [], [], .mv (.t 1)⟩,
               ⟨(some 37), none, [], [], .bin .gtr false (.t 35) (.t 36)⟩] (some [1, 2, 5, 6, 37]))
             (.cond (.t 37)
              (.keep [1, 2, 5, 6]
               (.reg [⟨(some 38), none, [], [], .mv (.t 5)⟩,
                 ⟨(some 39), none, [], [], .fa 0 (.t 2)⟩,
                 ⟨(some 40), none, [], [], .ld false 1 (.t 39)⟩,
                 ⟨(some 41), none, [], [], .mv (.t 6)⟩,
                 ⟨(some 42), none, [], [], .ixaS 2 (.t 40) (.t 41)⟩,
                 ⟨(some 43), none, [], [], .fa 1 (.t 42)⟩,
                 ⟨(some 44), none, [], [], .ld false 1 (.t 43)⟩,
                 ⟨(some 45), none, [], [], .mn [(.t 38), (.t 44)]⟩,
                 ⟨(some 5), none, [], [], .mv (.t 45)⟩] (some [1, 2, 5, 6])))
              (.keep [1, 2, 5, 6]
               .skip)))))
          (.reg [⟨(some 12), none, [], [], .mv (.t 6)⟩,
            ⟨(some 13), none, [], [], .bin .add false (.t 12) (.k (.sc (.int .i64 (1))))⟩,
            ⟨(some 6), none, [], [], .mv (.t 13)⟩] (some [1, 2, 5, 6])))))))
     (.seq
      (.reg [⟨(some 46), none, [], [], .mv (.t 5)⟩,
        ⟨(some 4), none, [], [], .mv (.t 46)⟩] (some [4]))
      .ret))))
theorem b78 : cmpG Try.prog 78 = some (strip a78, r78, 47) := by kernel_rfl


end Go.Proofs.Ytnfgnafphfddhaa.Cod
