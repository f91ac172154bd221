import Derived.Test.YtnfgnafphfddhaaProg
import Derived.Test.YtnfgnafphfddhaaSimD
import Derived.KernelRfl
namespace Go.Proofs.Ytnfgnafphfddhaa.Cod
open Go Go.Sim Go.Proofs
set_option maxRecDepth 100000
abbrev r32 : List AR := [.c 2 true 1, .c 3 true 2]
abbrev a32 : ACode :=
  (.seq
   (.reg [⟨(some 2), none, [], [], .alc [.nl]⟩,
     ⟨(some 3), none, [], [], .alc [.nl, (.sc (.int .i64 (0)))]⟩] none)
   (.seq
    (.reg [⟨(some 8), none, [], [], .bld [.nl] []⟩,
      ⟨(some 9), none, [], [], .bld [.nl, (.sc (.int .i64 (0)))] []⟩,
      ⟨(some 4), none, [], [], .alc [.nl]⟩,
      ⟨(some 5), none, [], [], .alc [.nl, (.sc (.int .i64 (0)))]⟩,
      ⟨none, none, [], [], .sto 1 (.t 4) (.t 8)⟩,
      ⟨none, none, [], [], .sto 2 (.t 5) (.t 9)⟩] (some [0, 2, 3, 4, 5]))
    (.seq
     (.seq
      (.reg [⟨(some 10), none, [], [], .mv (.t 0)⟩,
        ⟨(some 11), none, [], [], .mv (.t 0)⟩,
        ⟨(some 12), none, [], [], .lenL (.t 11)⟩,
        ⟨(some 13), none, [], [], .mn [(.t 12), (.k (.sc (.int .i64 (30))))]⟩,
        ⟨(some 14), none, [], [], .slL 2 none (some (.t 13)) none (.t 10)⟩,
        ⟨(some 15), none, [], [], .lenL (.t 14)⟩,
        ⟨(some 16), none, [], [], .mv (.k (.sc (.int .i64 (0))))⟩] (some [2, 3, 4, 5, 14, 15, 16]))
      (.block 0
       (.loop
        (.seq
         (.reg [⟨(some 17), none, [], [], .bin .lss false (.t 16) (.t 15)⟩] none)
         (.seq
          (.cond (.t 17)
           (.keep [2, 3, 4, 5, 14, 15, 16]
            .skip)
           (.exit 0))
          (.seq
           (.block 1
            (.seq
             (.reg [⟨(some 18), none, [], [], .ixaS 2 (.t 14) (.t 16)⟩,
               ⟨(some 19), none, [], [], .ld true 2 (.t 18)⟩,
               ⟨(some 7), none, [], [], .alc [(.sc (.int .i64 (0))), (.sc (.int .i64 (0)))]⟩,
               ⟨none, none, [], [], .sto 2 (.t 7) (.t 19)⟩] (some [2, 3, 4, 5, 7, 14, 15, 16]))
             (.seq
              (.seq
               (.reg [⟨(some 20), none, [], [], .fa 1 (.t 7)⟩,
                 ⟨(some 21), none, [], [], .ld false 1 (.t 20)⟩,
                 ⟨(some 22), none, [], [], .bin .eql false (.t 21) (.k (.sc (.int .i64 (-7))))⟩] (some [2, 3, 4, 5, 7, 14, 15, 16, 22]))
               (.cond (.t 22)
                (.keep [2, 3, 4, 5, 7, 14, 15, 16]
                 (.seq
                  (.regD [⟨(some 23), none, [(.t 4)], [], .ld true 1 (.t 4)⟩,
                    ⟨(some 24), none, [(.t 7)], [0], .fa 0 (.t 7)⟩,
                    ⟨(some 25), none, [(.t 24)], [0], .ld false 1 (.t 24)⟩,
                    ⟨(some 26), none, [(.k (.fn 44 [])), (.t 23), (.t 25)], [], .cal (.k (.fn 44 [])) [(.t 23), (.t 25)]⟩,
                    ⟨(some 27), none, [(.t 5)], [0, 1, 2, 3], .ld true 2 (.t 5)⟩,
                    ⟨(some 28), none, [(.t 7)], [0, 1, 2, 3, 4], .fa 0 (.t 7)⟩,
                    ⟨(some 29), none, [(.t 28)], [0, 1, 2, 3, 4], .ld false 1 (.t 28)⟩,
                    ⟨(some 30), none, [(.k (.fn 69 [])), (.t 27), (.t 29)], [], .cal (.k (.fn 69 [])) [(.t 27), (.t 29)]⟩,
                    ⟨none, none, [(.t 4), (.t 26)], [], .sto 1 (.t 4) (.t 26)⟩,
                    ⟨none, none, [(.t 5), (.t 30)], [], .sto 2 (.t 5) (.t 30)⟩] (some [2, 3, 4, 5, 14, 15, 16]))
                  (.exit 1)))
                (.keep [2, 3, 4, 5, 7, 14, 15, 16]
                 .skip)))
              (.regD [⟨(some 31), none, [(.t 4)], [], .ld true 1 (.t 4)⟩,
                ⟨(some 32), none, [(.t 7)], [0], .fa 0 (.t 7)⟩,
                ⟨(some 33), none, [(.t 32)], [0], .ld false 1 (.t 32)⟩,
                ⟨(some 34), none, [(.t 7)], [0, 1, 2], .fa 1 (.t 7)⟩,
                ⟨(some 35), none, [(.t 34)], [0, 1, 2], .ld false 1 (.t 34)⟩,
                ⟨(some 36), none, [(.k (.fn 43 [])), (.t 31), (.t 33), (.t 35)], [], .cal (.k (.fn 43 [])) [(.t 31), (.t 33), (.t 35)]⟩,
                ⟨(some 37), none, [(.t 5)], [0, 1, 2, 3, 4, 5], .ld true 2 (.t 5)⟩,
                ⟨(some 38), none, [(.t 7)], [0, 1, 2, 3, 4, 5, 6], .fa 0 (.t 7)⟩,
                ⟨(some 39), none, [(.t 38)], [0, 1, 2, 3, 4, 5, 6], .ld false 1 (.t 38)⟩,
                ⟨(some 40), none, [(.t 7)], [0, 1, 2, 3, 4, 5, 6, 7, 8], .fa 1 (.t 7)⟩,
                ⟨(some 41), none, [(.t 40)], [0, 1, 2, 3, 4, 5, 6, 7, 8], .ld false 1 (.t 40)⟩,
                ⟨(some 42), none, [(.k (.fn 70 [])), (.t 37), (.t 39), (.t 41)], [], .cal (.k (.fn 70 [])) [(.t 37), (.t 39), (.t 41)]⟩,
                ⟨none, none, [(.t 4), (.t 36)], [], .sto 1 (.t 4) (.t 36)⟩,
                ⟨none, none, [(.t 5), (.t 42)], [], .sto 2 (.t 5) (.t 42)⟩] (some [2, 3, 4, 5, 14, 15, 16])))))
           (.reg [⟨(some 43), none, [], [], .bin .add false (.t 16) (.k (.sc (.int .i64 (1))))⟩,
             ⟨(some 16), none, [], [], .mv (.t 43)⟩] (some [2, 3, 4, 5, 14, 15, 16]))))))))
     (.seq
      (.regD [⟨(some 44), none, [(.t 4)], [], .ld true 1 (.t 4)⟩,
        ⟨(some 45), none, [(.t 5)], [0], .ld true 2 (.t 5)⟩,
        ⟨none, none, [(.t 2), (.t 44)], [1], .sto 1 (.t 2) (.t 44)⟩,
        ⟨none, none, [(.t 3), (.t 45)], [], .sto 2 (.t 3) (.t 45)⟩] (some [2, 3]))
      .ret))))
theorem b32 : cmpG Try.prog 32 = some (strip a32, r32, 46) := by kernel_rfl

abbrev r33 : List AR := [.t 4]
abbrev a33 : ACode :=
  (.seq
   (.reg [⟨(some 4), none, [], [], .mv (.k (.sc (.bool false)))⟩] (some [0, 1]))
   (.seq
    (.seq
     (.reg [⟨(some 6), none, [], [], .mv (.t 0)⟩,
       ⟨(some 7), none, [], [], .lenL (.t 6)⟩,
       ⟨(some 8), none, [], [], .mv (.t 1)⟩,
       ⟨(some 9), none, [], [], .lenL (.t 8)⟩,
       ⟨(some 10), none, [], [], .bin .neq false (.t 7) (.t 9)⟩] (some [0, 1, 10]))
     (.cond (.t 10)
      (.keep []
       (.seq
        (.reg [⟨(some 4), none, [], [], .mv (.k (.sc (.bool false)))⟩] none)
        .ret))
      (.keep [0, 1]
       .skip)))
    (.seq
     (.seq
      (.reg [⟨(some 11), none, [], [], .mv (.t 0)⟩,
        ⟨(some 12), none, [], [], .lenL (.t 11)⟩,
        ⟨(some 13), none, [], [], .mv (.k (.sc (.int .i64 (0))))⟩] (some [0, 1, 12, 13]))
      (.block 0
       (.loop
        (.seq
         (.reg [⟨(some 14), none, [], [], .bin .lss false (.t 13) (.t 12)⟩] none)
         (.seq
          (.cond (.t 14)
           (.keep [0, 1, 12, 13]
            .skip)
           (.exit 0))
          (.seq
           (.block 1
            (.seq
             (.reg [⟨(some 15), none, [], [], .mv (.t 13)⟩,
               ⟨(some 5), none, [], [], .mv (.t 15)⟩] (some [0, 1, 5, 12, 13]))
             (.seq
              (.regD [⟨(some 16), none, [(.t 0)], [], .mv (.t 0)⟩,
                ⟨(some 17), none, [(.t 5)], [0], .mv (.t 5)⟩,
                ⟨(some 18), none, [(.t 16), (.t 17)], [], .ixaS 2 (.t 16) (.t 17)⟩,
                ⟨(some 19), none, [(.t 18)], [], .ld true 2 (.t 18)⟩,
                ⟨(some 20), none, [(.t 1)], [0, 1, 2, 3], .mv (.t 1)⟩,
                ⟨(some 21), none, [(.t 5)], [0, 1, 2, 3, 4], .mv (.t 5)⟩,
                ⟨(some 22), none, [(.t 20), (.t 21)], [0, 1, 2, 3], .ixaS 2 (.t 20) (.t 21)⟩,
                ⟨(some 23), none, [(.t 22)], [0, 1, 2, 3], .ld true 2 (.t 22)⟩,
                ⟨(some 24), none, [(.t 19), (.t 23)], [], .aeq true 2 [.i, .i] (.t 19) (.t 23)⟩] (some [0, 1, 12, 13, 24]))
              (.cond (.t 24)
               (.keep []
                (.seq
                 (.reg [⟨(some 4), none, [], [], .mv (.k (.sc (.bool false)))⟩] none)
                 .ret))
               (.keep [0, 1, 12, 13]
                .skip)))))
           (.reg [⟨(some 25), none, [], [], .bin .add false (.t 13) (.k (.sc (.int .i64 (1))))⟩,
             ⟨(some 13), none, [], [], .mv (.t 25)⟩] (some [0, 1, 12, 13]))))))))
     (.seq
      (.reg [⟨(some 4), none, [], [], .mv (.k (.sc (.bool true)))⟩] (some [4]))
      .ret))))
theorem b33 : cmpG Try.prog 33 = some (strip a33, r33, 26) := by kernel_rfl

abbrev r42 : List AR := [.t 0]
abbrev a42 : ACode :=
  (.seq
   (.reg [⟨(some 0), none, [], [], .mv (.k (.sc (.bool false)))⟩] (some []))
   (.seq
    (.reg [⟨(some 3), none, [], [], .bld [.nl] []⟩,
      ⟨(some 4), none, [], [], .cal (.k (.fn 43 [])) [(.t 3), (.k (.sc (.int .i64 (0)))), (.k (.sc (.int .i64 (2))))]⟩,
      ⟨(some 5), none, [], [], .cal (.k (.fn 43 [])) [(.t 4), (.k (.sc (.int .i64 (2)))), (.k (.sc (.int .i64 (4))))]⟩,
      ⟨(some 6), none, [], [], .cal (.k (.fn 43 [])) [(.t 5), (.k (.sc (.int .i64 (9)))), (.k (.sc (.int .i64 (11))))]⟩,
      ⟨(some 1), none, [], [], .alc [.nl]⟩,
      ⟨none, none, [], [], .sto 1 (.t 1) (.t 6)⟩] (some [1]))
    (.seq
     (.reg [⟨(some 7), none, [], [], .ld true 1 (.t 1)⟩,
       ⟨(some 8), none, [], [], .cal (.k (.fn 34 [])) [(.t 7)]⟩,
       ⟨(some 2), none, [], [], .mv (.t 8)⟩] (some [1, 2]))
     (.seq
      (.reg (⟨(some 9), none, [], [], .mv (.t 2)⟩ ::
        ⟨(some 10), none, [], [], .lenL (.t 9)⟩ ::
        ⟨(some 11), none, [], [], .bin .eql false (.t 10) (.k (.sc (.int .i64 (2))))⟩ ::
        ⟨(some 12), none, [], [], .mv (.t 11)⟩ ::
        ⟨(some 13), (some (12, true)), [], [], .mv (.t 2)⟩ ::
        ⟨(some 14), (some (12, true)), [], [], .ixaS 2 (.t 13) (.k (.sc (.int .i64 (0))))⟩ ::
        ⟨(some 15), (some (12, true)), [], [], .ld true 2 (.t 14)⟩ ::
        ⟨(some 16), (some (12, true)), [], [], .bld [(.sc (.int .i64 (0))), (.sc (.int .i64 (0)))] [(0, 1, (.k (.sc (.int .i64 (0))))), (1, 1, (.k (.sc (.int .i64 (4)))))]⟩ ::
        ⟨(some 17), (some (12, true)), [], [], .aeq false 2 [.i, .i] (.t 15) (.t 16)⟩ ::
        ⟨(some 18), none, [], [], .pick (.t 12) (.t 17) (.k (.sc (.bool false)))⟩ ::
        ⟨(some 19), none, [], [], .mv (.t 18)⟩ ::
        ⟨(some 20), (some (19, true)), [], [], .ld true 1 (.t 1)⟩ ::
        ⟨(some 21), (some (19, true)), [], [], .cal (.k (.fn 38 [])) [(.t 20), (.k (.sc (.int .i64 (3))))]⟩ ::
        ⟨(some 22), none, [], [], .pick (.t 19) (.t 21) (.k (.sc (.bool false)))⟩ ::
        ⟨(some 23), none, [], [], .mv (.t 22)⟩ ::
        ⟨(some 24), (some (23, true)), [], [], .ld true 1 (.t 1)⟩ ::
        ⟨(some 25), (some (23, true)), [], [], .cal (.k (.fn 38 [])) [(.t 24), (.k (.sc (.int .i64 (4))))]⟩ ::
        ⟨(some 26), (some (23, true)), [], [], .un .not (.t 25)⟩ ::
        ⟨(some 27), none, [], [], .pick (.t 23) (.t 26) (.k (.sc (.bool false)))⟩ ::
        ⟨(some 28), none, [], [], .mv (.t 27)⟩ ::
        ⟨(some 29), (some (28, true)), [], [], .ld true 1 (.t 1)⟩ ::
        ⟨(some 30), (some (28, true)), [], [], .cal (.k (.fn 40 [])) [(.t 29), (.k (.sc (.int .i64 (1))))]⟩ ::
        ⟨(some 31), (some (28, true)), [], [], .bin .eql false (.t 30) (.k (.sc (.int .i64 (4))))⟩ ::
        ⟨(some 32), none, [], [], .pick (.t 28) (.t 31) (.k (.sc (.bool false)))⟩ ::
        ⟨(some 33), none, [], [], .mv (.t 32)⟩ ::
        ⟨(some 34), (some (33, true)), [], [], .ld true 1 (.t 1)⟩ ::
        ⟨(some 35), (some (33, true)), [], [], .cal (.k (.fn 36 [])) [(.t 34)]⟩ ::
        ⟨(some 36), (some (33, true)), [], [], .bin .eql false (.t 35) (.k (.sc (.int .i64 (6))))⟩ ::
        ⟨(some 37), none, [], [], .pick (.t 33) (.t 36) (.k (.sc (.bool false)))⟩ ::
        ⟨(some 38), none, [], [], .mv (.t 37)⟩ ::
        ⟨(some 39), (some (38, true)), [], [], .ld true 1 (.t 1)⟩ ::
        ⟨(some 40), (some (38, true)), [], [], .cal (.k (.fn 45 [])) [(.t 39), (.k (.sc (.int .i64 (9)))), (.k (.sc (.int .i64 (11))))]⟩ ::
        ⟨(some 41), none, [], [], .pick (.t 38) (.t 40) (.k (.sc (.bool false)))⟩ ::
        ⟨(some 42), none, [], [], .mv (.t 41)⟩ ::
        ⟨(some 43), (some (42, true)), [], [], .ld true 1 (.t 1)⟩ ::
        ⟨(some 44), (some (42, true)), [], [], .cal (.k (.fn 46 [])) [(.t 43), (.k (.sc (.int .i64 (0)))), (.k (.sc (.int .i64 (12))))]⟩ ::
        ⟨(some 45), (some (42, true)), [], [], .lenL (.t 44)⟩ ::
        ⟨(some 46), (some (42, true)), [], [], .bin .eql false (.t 45) (.k (.sc (.int .i64 (2))))⟩ ::
        ⟨(some 47), none, [], [], .pick (.t 42) (.t 46) (.k (.sc (.bool false)))⟩ ::
        ⟨(some 0), none, [], [], .mv (.t 47)⟩ :: []) (some [0]))
      .ret))))
theorem b42 : cmpG Try.prog 42 = some (strip a42, r42, 48) := by kernel_rfl


end Go.Proofs.Ytnfgnafphfddhaa.Cod
