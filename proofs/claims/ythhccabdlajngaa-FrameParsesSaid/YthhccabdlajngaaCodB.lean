import Derived.Test.YthhccabdlajngaaCodA
import Derived.Test.YthhccabdlajngaaProg
import Derived.Test.YthhccabdlajngaaSimD
import Derived.KernelRfl
namespace Go.Proofs.Ythhccabdlajngaa.Cod
open Go Go.Sim Go.Proofs
set_option maxRecDepth 100000
abbrev r3 : List AR := [.t 2]
abbrev a3 : ACode :=
  (.seq
   (.reg [⟨(some 1), none, [], [], .box (.t 0)⟩,
     ⟨(some 2), none, [], [], .mv (.k (.sc (.bool false)))⟩] (some [1]))
   (.seq
    (.seq
     (.reg [⟨(some 7), none, [], [], .ld true 56 (.t 1)⟩,
       ⟨(some 8), none, [], [], .cal (.k (.fn 7 [])) [(.t 7)]⟩] (some [1, 8]))
     (.cond (.t 8)
      (.keep []
       (.seq
        (.reg [⟨(some 9), none, [], [], .cal (.k (.fn 8 [])) []⟩,
          ⟨(some 2), none, [], [], .mv (.t 9)⟩] (some [2]))
        .ret))
      (.keep [1]
       .skip)))
    (.seq
     (.reg [⟨(some 11), none, [], [], .ld true 56 (.t 1)⟩,
       ⟨(some 12), none, [], [], .cal (.k (.fn 10 [])) [(.t 11)]⟩,
       ⟨(some 13), none, [], [], .cal (.k (.fn 9 [])) [(.t 12)]⟩,
       ⟨(some 10), none, [], [], .mv (.t 13)⟩,
       ⟨(some 14), none, [], [], .ext (.t 10) 0⟩,
       ⟨(some 15), none, [], [], .ext (.t 10) 1⟩,
       ⟨(some 3), none, [], [], .mv (.t 14)⟩,
       ⟨(some 4), none, [], [], .mv (.t 15)⟩] (some [1, 3, 4]))
     (.seq
      (.reg [⟨(some 17), none, [], [], .ld true 56 (.t 1)⟩,
        ⟨(some 18), none, [], [], .cal (.k (.fn 11 [])) [(.t 17)]⟩,
        ⟨(some 16), none, [], [], .mv (.t 18)⟩,
        ⟨(some 19), none, [], [], .ext (.t 16) 0⟩,
        ⟨(some 20), none, [], [], .ext (.t 16) 1⟩,
        ⟨(some 5), none, [], [], .mv (.t 19)⟩,
        ⟨(some 6), none, [], [], .mv (.t 20)⟩] (some [1, 3, 4, 5, 6]))
      (.seq
       (.regD (⟨(some 21), none, [(.t 3)], [], .mv (.t 3)⟩ ::
         ⟨(some 22), none, [(.t 5)], [0], .mv (.t 5)⟩ ::
         ⟨(some 23), none, [(.k (.fn 12 [])), (.t 21), (.t 22)], [], .cal (.k (.fn 12 [])) [(.t 21), (.t 22)]⟩ ::
         ⟨(some 24), none, [(.t 23)], [], .mv (.t 23)⟩ ::
         ⟨(some 25), (some (24, true)), [(.t 4)], [], .mv (.t 4)⟩ ::
         ⟨(some 26), (some (24, true)), [(.t 6)], [4], .mv (.t 6)⟩ ::
         ⟨(some 27), (some (24, true)), [(.t 25), (.t 26)], [], .bin .eql false (.t 25) (.t 26)⟩ ::
         ⟨(some 28), none, [(.t 24), (.t 27), (.k (.sc (.bool false)))], [], .pick (.t 24) (.t 27) (.k (.sc (.bool false)))⟩ ::
         ⟨(some 29), none, [(.t 28)], [], .mv (.t 28)⟩ ::
         ⟨(some 30), (some (29, true)), [(.t 1)], [], .ld true 56 (.t 1)⟩ ::
         ⟨(some 31), (some (29, true)), [(.k (.fn 10 [])), (.t 30)], [], .cal (.k (.fn 10 [])) [(.t 30)]⟩ ::
         ⟨(some 32), (some (29, true)), [(.k (.fn 14 [])), (.t 31)], [], .cal (.k (.fn 14 [])) [(.t 31)]⟩ ::
         ⟨(some 33), (some (29, true)), [(.t 1)], [9, 10, 11], .ld true 56 (.t 1)⟩ ::
         ⟨(some 34), (some (29, true)), [(.k (.fn 15 [])), (.t 33)], [], .cal (.k (.fn 15 [])) [(.t 33)]⟩ ::
         ⟨(some 35), (some (29, true)), [(.k (.fn 10 [])), (.t 34)], [], .cal (.k (.fn 10 [])) [(.t 34)]⟩ ::
         ⟨(some 36), (some (29, true)), [(.k (.fn 13 [])), (.t 32), (.t 35)], [], .cal (.k (.fn 13 [])) [(.t 32), (.t 35)]⟩ ::
         ⟨(some 37), none, [(.t 29), (.t 36), (.k (.sc (.bool false)))], [], .pick (.t 29) (.t 36) (.k (.sc (.bool false)))⟩ ::
         ⟨(some 38), none, [(.t 37)], [], .mv (.t 37)⟩ ::
         ⟨(some 39), (some (38, true)), [(.t 1)], [], .fa 19 (.t 1)⟩ ::
         ⟨(some 40), (some (38, true)), [(.t 39)], [], .ld false 1 (.t 39)⟩ ::
         ⟨(some 41), (some (38, true)), [(.t 1)], [18, 19], .ld true 56 (.t 1)⟩ ::
         ⟨(some 42), (some (38, true)), [(.k (.fn 10 [])), (.t 41)], [18, 19], .cal (.k (.fn 10 [])) [(.t 41)]⟩ ::
         ⟨(some 43), (some (38, true)), [(.t 42)], [18, 19], .fld false 1 54 (.t 42)⟩ ::
         ⟨(some 44), (some (38, true)), [(.k (.fn 16 [])), (.t 40), (.t 43)], [], .cal (.k (.fn 16 [])) [(.t 40), (.t 43)]⟩ ::
         ⟨(some 45), (some (38, true)), [(.t 1)], [18, 19, 20, 21, 22, 23], .fa 19 (.t 1)⟩ ::
         ⟨(some 46), (some (38, true)), [(.t 45)], [18, 19, 20, 21, 22, 23], .ld false 1 (.t 45)⟩ ::
         ⟨(some 47), (some (38, true)), [(.t 1)], [18, 19, 20, 21, 22, 23, 24, 25], .fa 54 (.t 1)⟩ ::
         ⟨(some 48), (some (38, true)), [(.t 47)], [18, 19, 20, 21, 22, 23, 24, 25], .ld false 1 (.t 47)⟩ ::
         ⟨(some 49), (some (38, true)), [(.k (.fn 17 [])), (.t 46), (.t 48)], [], .cal (.k (.fn 17 [])) [(.t 46), (.t 48)]⟩ ::
         ⟨(some 50), (some (38, true)), [(.t 44), (.t 49)], [], .bin .eql true (.t 44) (.t 49)⟩ ::
         ⟨(some 51), none, [(.t 38), (.t 50), (.k (.sc (.bool false)))], [], .pick (.t 38) (.t 50) (.k (.sc (.bool false)))⟩ ::
         ⟨(some 52), none, [(.t 51)], [], .mv (.t 51)⟩ ::
         ⟨(some 53), (some (52, true)), [(.k (.fn 8 []))], [], .cal (.k (.fn 8 [])) []⟩ ::
         ⟨(some 54), none, [(.t 52), (.t 53), (.k (.sc (.bool false)))], [], .pick (.t 52) (.t 53) (.k (.sc (.bool false)))⟩ ::
         ⟨(some 2), none, [(.t 54)], [], .mv (.t 54)⟩ :: []) (some [2]))
       .ret)))))
theorem b3 : cmpG Try.prog 3 = some (strip a3, r3, 55) := by kernel_rfl

abbrev r4 : List AR := [.t 4]
abbrev a4 : ACode :=
  (.seq
   (.reg [⟨(some 4), none, [], [], .mv (.k (.sc (.bool false)))⟩] (some [0, 1]))
   (.seq
    (.seq
     (.reg [⟨(some 9), none, [], [], .mv (.t 0)⟩,
       ⟨(some 10), none, [], [], .lenL (.t 9)⟩,
       ⟨(some 11), none, [], [], .bin .gtr false (.t 10) (.k (.sc (.int .i64 (1000))))⟩] (some [0, 1, 11]))
     (.cond (.t 11)
      (.keep []
       (.seq
        (.reg [⟨(some 12), none, [], [], .cal (.k (.fn 8 [])) []⟩,
          ⟨(some 4), none, [], [], .mv (.t 12)⟩] (some [4]))
        .ret))
      (.keep [0, 1]
       .skip)))
    (.seq
     (.seq
      (.reg [⟨(some 13), none, [], [], .mv (.t 1)⟩] (some [0, 13]))
      (.cond (.t 13)
       (.keep [0]
        (.reg [⟨(some 14), none, [], [], .mv (.t 0)⟩,
          ⟨(some 15), none, [], [], .cal (.k (.fn 18 [])) [(.t 14)]⟩,
          ⟨(some 0), none, [], [], .mv (.t 15)⟩] (some [0])))
       (.keep [0]
        .skip)))
     (.seq
      (.reg [⟨(some 17), none, [], [], .mv (.t 0)⟩,
        ⟨(some 18), none, [], [], .cal (.k (.fn 19 [])) [(.t 17)]⟩,
        ⟨(some 16), none, [], [], .mv (.t 18)⟩,
        ⟨(some 19), none, [], [], .ext (.t 16) 0⟩,
        ⟨(some 20), none, [], [], .ext (.t 16) 1⟩,
        ⟨(some 5), none, [], [], .alc zF0⟩,
        ⟨none, none, [], [], .sto 56 (.t 5) (.t 19)⟩,
        ⟨(some 6), none, [], [], .mv (.t 20)⟩] (some [0, 5, 6]))
      (.seq
       (.reg [⟨(some 22), none, [], [], .mv (.t 0)⟩,
         ⟨(some 23), none, [], [], .cal (.k (.fn 20 [])) [(.t 22)]⟩,
         ⟨(some 21), none, [], [], .mv (.t 23)⟩,
         ⟨(some 24), none, [], [], .ext (.t 21) 0⟩,
         ⟨(some 25), none, [], [], .ext (.t 21) 1⟩,
         ⟨(some 7), none, [], [], .alc zF0⟩,
         ⟨none, none, [], [], .sto 56 (.t 7) (.t 24)⟩,
         ⟨(some 8), none, [], [], .mv (.t 25)⟩] (some [5, 6, 7, 8]))
       (.seq
        (.regD [⟨(some 26), none, [(.t 5)], [], .ld true 56 (.t 5)⟩,
          ⟨(some 27), none, [(.t 7)], [0], .ld true 56 (.t 7)⟩,
          ⟨(some 28), none, [(.k (.fn 10 [])), (.t 27)], [0], .cal (.k (.fn 10 [])) [(.t 27)]⟩,
          ⟨(some 29), none, [(.k (.fn 13 [])), (.t 26), (.t 28)], [], .cal (.k (.fn 13 [])) [(.t 26), (.t 28)]⟩,
          ⟨(some 30), none, [(.t 29)], [], .mv (.t 29)⟩,
          ⟨(some 31), (some (30, true)), [(.t 6)], [], .mv (.t 6)⟩,
          ⟨(some 32), (some (30, true)), [(.t 8)], [5], .mv (.t 8)⟩,
          ⟨(some 33), (some (30, true)), [(.t 31), (.t 32)], [], .bin .eql false (.t 31) (.t 32)⟩,
          ⟨(some 34), none, [(.t 30), (.t 33), (.k (.sc (.bool false)))], [], .pick (.t 30) (.t 33) (.k (.sc (.bool false)))⟩,
          ⟨(some 35), none, [(.t 34)], [], .mv (.t 34)⟩,
          ⟨(some 36), (some (35, true)), [(.k (.fn 8 []))], [], .cal (.k (.fn 8 [])) []⟩,
          ⟨(some 37), none, [(.t 35), (.t 36), (.k (.sc (.bool false)))], [], .pick (.t 35) (.t 36) (.k (.sc (.bool false)))⟩,
          ⟨(some 4), none, [(.t 37)], [], .mv (.t 37)⟩] (some [4]))
        .ret))))))
theorem b4 : cmpG Try.prog 4 = some (strip a4, r4, 38) := by kernel_rfl

end Go.Proofs.Ythhccabdlajngaa.Cod
