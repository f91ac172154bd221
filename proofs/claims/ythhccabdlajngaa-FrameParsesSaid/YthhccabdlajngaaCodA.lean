import Derived.Test.YthhccabdlajngaaProg
import Derived.Test.YthhccabdlajngaaSimD
import Derived.KernelRfl
namespace Go.Proofs.Ythhccabdlajngaa.Cod
open Go Go.Sim Go.Proofs
set_option maxRecDepth 100000
def zF0 : List AV := (.sc (.int .i64 (0))) :: (.sc (.int .u8 (0))) :: (.sc (.int .u8 (0))) :: (.sc (.int .u8 (0))) :: (.sc (.int .u8 (0))) :: (.sc (.int .u8 (0))) :: (.sc (.int .u8 (0))) :: (.sc (.int .u8 (0))) :: (.sc (.int .u8 (0))) :: (.sc (.int .u8 (0))) :: (.sc (.int .u8 (0))) :: (.sc (.int .u8 (0))) :: (.sc (.int .u8 (0))) :: (.sc (.int .u8 (0))) :: (.sc (.int .u8 (0))) :: (.sc (.int .u8 (0))) :: (.sc (.int .u8 (0))) :: (.sc (.int .u32 (0))) :: (.sc (.int .u32 (0))) :: (.sc (.int .u64 (0))) :: (.sc (.int .u64 (0))) :: (.sc (.int .u8 (0))) :: (.sc (.int .u8 (0))) :: (.sc (.int .u8 (0))) :: (.sc (.int .u8 (0))) :: (.sc (.int .u8 (0))) :: (.sc (.int .u8 (0))) :: (.sc (.int .u8 (0))) :: (.sc (.int .u8 (0))) :: (.sc (.int .u8 (0))) :: (.sc (.int .u8 (0))) :: (.sc (.int .u8 (0))) :: (.sc (.int .u8 (0))) :: (.sc (.int .u8 (0))) :: (.sc (.int .u8 (0))) :: (.sc (.int .u8 (0))) :: (.sc (.int .u8 (0))) :: (.sc (.int .u8 (0))) :: (.sc (.int .u8 (0))) :: (.sc (.int .u8 (0))) :: (.sc (.int .u8 (0))) :: (.sc (.int .u8 (0))) :: (.sc (.int .u8 (0))) :: (.sc (.int .u8 (0))) :: (.sc (.int .u8 (0))) :: (.sc (.int .u8 (0))) :: (.sc (.int .u8 (0))) :: (.sc (.int .u8 (0))) :: (.sc (.int .u8 (0))) :: (.sc (.int .u8 (0))) :: (.sc (.int .u8 (0))) :: (.sc (.int .u8 (0))) :: (.sc (.int .u8 (0))) :: .nl :: .nl :: (.sc (.int .i64 (0))) :: []
abbrev r7 : List AR := [.t 2]
abbrev a7 : ACode :=
  (.seq
   (.reg [⟨(some 1), none, [], [], .box (.t 0)⟩,
     ⟨(some 2), none, [], [], .mv (.k (.sc (.bool false)))⟩] (some [1]))
   (.seq
    (.reg [⟨(some 3), none, [], [], .fa 53 (.t 1)⟩,
      ⟨(some 4), none, [], [], .ld false 1 (.t 3)⟩,
      ⟨(some 5), none, [], [], .lenL (.t 4)⟩,
      ⟨(some 6), none, [], [], .bin .gtr false (.t 5) (.k (.sc (.int .i64 (600))))⟩,
      ⟨(some 7), none, [], [], .mv (.t 6)⟩,
      ⟨(some 8), (some (7, false)), [], [], .fa 54 (.t 1)⟩,
      ⟨(some 9), (some (7, false)), [], [], .ld false 1 (.t 8)⟩,
      ⟨(some 10), (some (7, false)), [], [], .lenL (.t 9)⟩,
      ⟨(some 11), (some (7, false)), [], [], .bin .gtr false (.t 10) (.k (.sc (.int .i64 (20))))⟩,
      ⟨(some 12), none, [], [], .pick (.t 7) (.k (.sc (.bool true))) (.t 11)⟩,
      ⟨(some 2), none, [], [], .mv (.t 12)⟩] (some [2]))
    .ret))
theorem b7 : cmpG Try.prog 7 = some (strip a7, r7, 13) := by kernel_rfl

abbrev r8 : List AR := [.t 0]
abbrev a8 : ACode :=
  (.seq
   (.reg [⟨(some 0), none, [], [], .mv (.k (.sc (.bool false)))⟩] (some []))
   (.seq
    (.reg [⟨(some 6), none, [], [], .bld [(.sc (.int .u32 (0))), (.sc (.int .u32 (0)))] [(0, 1, (.k (.sc (.int .u32 (1))))), (1, 1, (.k (.sc (.int .u32 (2)))))]⟩,
      ⟨(some 7), none, [], [], .bld zF0 [(0, 1, (.k (.sc (.int .i64 (6))))), (17, 2, (.t 6)), (20, 1, (.k (.sc (.int .u64 (300)))))]⟩,
      ⟨(some 1), none, [], [], .alc zF0⟩,
      ⟨none, none, [], [], .sto 56 (.t 1) (.t 7)⟩] (some [1]))
    (.seq
     (.reg [⟨(some 9), none, [], [], .ld true 56 (.t 1)⟩,
       ⟨(some 10), none, [], [], .cal (.k (.fn 9 [])) [(.t 9)]⟩,
       ⟨(some 8), none, [], [], .mv (.t 10)⟩,
       ⟨(some 11), none, [], [], .ext (.t 8) 0⟩,
       ⟨(some 12), none, [], [], .ext (.t 8) 1⟩,
       ⟨(some 2), none, [], [], .mv (.t 11)⟩,
       ⟨(some 3), none, [], [], .mv (.t 12)⟩] (some [1, 2, 3]))
     (.seq
      (.reg [⟨(some 14), none, [], [], .mv (.t 2)⟩,
        ⟨(some 15), none, [], [], .cal (.k (.fn 19 [])) [(.t 14)]⟩,
        ⟨(some 13), none, [], [], .mv (.t 15)⟩,
        ⟨(some 16), none, [], [], .ext (.t 13) 0⟩,
        ⟨(some 17), none, [], [], .ext (.t 13) 1⟩,
        ⟨(some 4), none, [], [], .alc zF0⟩,
        ⟨none, none, [], [], .sto 56 (.t 4) (.t 16)⟩,
        ⟨(some 5), none, [], [], .mv (.t 17)⟩] (some [1, 2, 3, 4, 5]))
      (.seq
       (.reg (⟨(some 18), none, [], [], .mv (.t 2)⟩ ::
         ⟨(some 19), none, [], [], .lenL (.t 18)⟩ ::
         ⟨(some 20), none, [], [], .bin .eql false (.t 19) (.k (.sc (.int .i64 (40))))⟩ ::
         ⟨(some 21), none, [], [], .mv (.t 20)⟩ ::
         ⟨(some 22), (some (21, true)), [], [], .mv (.t 2)⟩ ::
         ⟨(some 23), (some (21, true)), [], [], .ixaS 1 (.t 22) (.k (.sc (.int .i64 (0))))⟩ ::
         ⟨(some 24), (some (21, true)), [], [], .ld false 1 (.t 23)⟩ ::
         ⟨(some 25), (some (21, true)), [], [], .bin .eql false (.t 24) (.k (.sc (.int .u8 (84))))⟩ ::
         ⟨(some 26), none, [], [], .pick (.t 21) (.t 25) (.k (.sc (.bool false)))⟩ ::
         ⟨(some 27), none, [], [], .mv (.t 26)⟩ ::
         ⟨(some 28), (some (27, true)), [], [], .mv (.t 2)⟩ ::
         ⟨(some 29), (some (27, true)), [], [], .ixaS 1 (.t 28) (.k (.sc (.int .i64 (3))))⟩ ::
         ⟨(some 30), (some (27, true)), [], [], .ld false 1 (.t 29)⟩ ::
         ⟨(some 31), (some (27, true)), [], [], .bin .eql false (.t 30) (.k (.sc (.int .u8 (3))))⟩ ::
         ⟨(some 32), none, [], [], .pick (.t 27) (.t 31) (.k (.sc (.bool false)))⟩ ::
         ⟨(some 33), none, [], [], .mv (.t 32)⟩ ::
         ⟨(some 34), (some (33, true)), [], [], .mv (.t 2)⟩ ::
         ⟨(some 35), (some (33, true)), [], [], .ixaS 1 (.t 34) (.k (.sc (.int .i64 (35))))⟩ ::
         ⟨(some 36), (some (33, true)), [], [], .ld false 1 (.t 35)⟩ ::
         ⟨(some 37), (some (33, true)), [], [], .bin .eql false (.t 36) (.k (.sc (.int .u8 (44))))⟩ ::
         ⟨(some 38), none, [], [], .pick (.t 33) (.t 37) (.k (.sc (.bool false)))⟩ ::
         ⟨(some 39), none, [], [], .mv (.t 38)⟩ ::
         ⟨(some 40), (some (39, true)), [], [], .mv (.t 3)⟩ ::
         ⟨(some 41), (some (39, true)), [], [], .bin .eql false (.t 40) (.k (.sc (.int .i64 (0))))⟩ ::
         ⟨(some 42), none, [], [], .pick (.t 39) (.t 41) (.k (.sc (.bool false)))⟩ ::
         ⟨(some 43), none, [], [], .mv (.t 42)⟩ ::
         ⟨(some 44), (some (43, true)), [], [], .ld true 56 (.t 1)⟩ ::
         ⟨(some 45), (some (43, true)), [], [], .ld true 56 (.t 4)⟩ ::
         ⟨(some 46), (some (43, true)), [], [], .cal (.k (.fn 13 [])) [(.t 44), (.t 45)]⟩ ::
         ⟨(some 47), none, [], [], .pick (.t 43) (.t 46) (.k (.sc (.bool false)))⟩ ::
         ⟨(some 48), none, [], [], .mv (.t 47)⟩ ::
         ⟨(some 49), (some (48, true)), [], [], .mv (.t 5)⟩ ::
         ⟨(some 50), (some (48, true)), [], [], .bin .eql false (.t 49) (.k (.sc (.int .i64 (0))))⟩ ::
         ⟨(some 51), none, [], [], .pick (.t 48) (.t 50) (.k (.sc (.bool false)))⟩ ::
         ⟨(some 52), none, [], [], .mv (.t 51)⟩ ::
         ⟨(some 53), (some (52, true)), [], [], .bld [(.sc (.int .u64 (0))), (.sc (.int .u64 (0)))] [(0, 1, (.k (.sc (.int .u64 (2))))), (1, 1, (.k (.sc (.int .u64 (3)))))]⟩ ::
         ⟨(some 54), (some (52, true)), [], [], .bsl 1 2 [(.sc (.int .u64 (0))), (.sc (.int .u64 (0)))] [(0, 2, (.t 53))]⟩ ::
         ⟨(some 55), (some (52, true)), [], [], .cal (.k (.fn 16 [])) [(.k (.sc (.int .u64 (1)))), (.t 54)]⟩ ::
         ⟨(some 56), none, [], [], .pick (.t 52) (.t 55) (.k (.sc (.bool false)))⟩ ::
         ⟨(some 0), none, [], [], .mv (.t 56)⟩ :: []) (some [0]))
       .ret)))))
theorem b8 : cmpG Try.prog 8 = some (strip a8, r8, 57) := by kernel_rfl

abbrev r9 : List AR := [.t 2, .t 3]
abbrev a9 : ACode :=
  (.seq
   (.reg [⟨(some 1), none, [], [], .box (.t 0)⟩,
     ⟨(some 2), none, [], [], .mv (.k .nl)⟩,
     ⟨(some 3), none, [], [], .mv (.k (.sc (.int .i64 (0))))⟩] (some [1]))
   (.seq
    (.seq
     (.reg [⟨(some 6), none, [], [], .ld true 56 (.t 1)⟩,
       ⟨(some 7), none, [], [], .cal (.k (.fn 22 [])) [(.t 6)]⟩,
       ⟨(some 4), none, [], [], .mv (.t 7)⟩] (some [1, 4]))
     (.seq
      (.reg [⟨(some 8), none, [], [], .mv (.t 4)⟩,
        ⟨(some 9), none, [], [], .bin .neq false (.t 8) (.k (.sc (.int .i64 (0))))⟩] (some [1, 4, 9]))
      (.cond (.t 9)
       (.keep [4]
        (.seq
         (.reg [⟨(some 10), none, [], [], .mv (.t 4)⟩,
           ⟨(some 2), none, [], [], .mv (.k .nl)⟩,
           ⟨(some 3), none, [], [], .mv (.t 10)⟩] (some [2, 3]))
         .ret))
       (.keep [1]
        .skip))))
    (.seq
     (.regD [⟨(some 11), none, [(.k (.sc (.int .u8 (84)))), (.k (.sc (.int .u8 (87))))], [], .bsl 2 1 [(.sc (.int .u8 (0))), (.sc (.int .u8 (0)))] [(0, 1, (.k (.sc (.int .u8 (84))))), (1, 1, (.k (.sc (.int .u8 (87)))))]⟩,
       ⟨(some 12), none, [(.t 11)], [], .cvm (.t 11)⟩,
       ⟨(some 13), none, [(.t 1)], [0, 1], .fa 0 (.t 1)⟩,
       ⟨(some 14), none, [(.t 13)], [0, 1], .ld false 1 (.t 13)⟩,
       ⟨(some 15), none, [(.t 14)], [0, 1], .cvi .u8 (.t 14)⟩,
       ⟨(some 16), none, [(.t 1)], [0, 1, 2, 3, 4], .fa 17 (.t 1)⟩,
       ⟨(some 17), none, [(.t 16)], [0, 1, 2, 3, 4], .ld true 2 (.t 16)⟩,
       ⟨(some 18), none, [(.k (.fn 23 [])), (.t 17)], [0, 1, 2, 3, 4], .cal (.k (.fn 23 [])) [(.t 17)]⟩,
       ⟨(some 19), none, [(.t 15), (.t 18)], [0, 1], .bsl 2 1 [(.sc (.int .u8 (0))), (.sc (.int .u8 (0)))] [(0, 1, (.t 15)), (1, 1, (.t 18))]⟩,
       ⟨(some 20), none, [(.t 12), (.t 19)], [], .app 1 1 (.t 12) (.t 19)⟩,
       ⟨(some 5), none, [(.t 20)], [], .mv (.t 20)⟩] (some [1, 5]))
     (.seq
      (.reg [⟨(some 21), none, [], [], .mv (.t 5)⟩,
        ⟨(some 22), none, [], [], .fa 1 (.t 1)⟩,
        ⟨(some 23), none, [], [], .slA 16 1 none none (.t 22)⟩,
        ⟨(some 24), none, [], [], .app 1 1 (.t 21) (.t 23)⟩,
        ⟨(some 5), none, [], [], .mv (.t 24)⟩] (some [1, 5]))
      (.seq
       (.regD [⟨(some 25), none, [(.t 5)], [], .mv (.t 5)⟩,
         ⟨(some 26), none, [(.t 1)], [0], .fa 17 (.t 1)⟩,
         ⟨(some 27), none, [(.t 26)], [0], .fa 0 (.t 26)⟩,
         ⟨(some 28), none, [(.t 27)], [0], .ld false 1 (.t 27)⟩,
         ⟨(some 29), none, [(.t 28)], [0], .cvi .u64 (.t 28)⟩,
         ⟨(some 30), none, [(.k (.fn 24 [])), (.t 25), (.t 29), (.k (.sc (.int .i64 (4))))], [], .calG [0] (.k (.fn 24 [])) [(.t 25), (.t 29), (.k (.sc (.int .i64 (4))))]⟩,
         ⟨(some 31), none, [(.t 1)], [0, 1, 2, 3, 4, 5], .fa 17 (.t 1)⟩,
         ⟨(some 32), none, [(.t 31)], [0, 1, 2, 3, 4, 5], .fa 1 (.t 31)⟩,
         ⟨(some 33), none, [(.t 32)], [0, 1, 2, 3, 4, 5], .ld false 1 (.t 32)⟩,
         ⟨(some 34), none, [(.t 33)], [0, 1, 2, 3, 4, 5], .cvi .u64 (.t 33)⟩,
         ⟨(some 35), none, [(.k (.fn 24 [])), (.t 30), (.t 34), (.k (.sc (.int .i64 (4))))], [], .calG [0] (.k (.fn 24 [])) [(.t 30), (.t 34), (.k (.sc (.int .i64 (4))))]⟩,
         ⟨(some 5), none, [(.t 35)], [], .mv (.t 35)⟩] (some [1, 5]))
       (.seq
        (.reg [⟨(some 36), none, [], [], .mv (.t 5)⟩,
          ⟨(some 37), none, [], [], .ld true 56 (.t 1)⟩,
          ⟨(some 38), none, [], [], .cal (.k (.fn 14 [])) [(.t 37)]⟩,
          ⟨(some 39), none, [], [], .calG [0] (.k (.fn 26 [])) [(.t 36), (.t 38)]⟩,
          ⟨(some 40), none, [], [], .cal (.k (.fn 25 [])) [(.t 39)]⟩,
          ⟨(some 2), none, [], [], .mv (.t 40)⟩,
          ⟨(some 3), none, [], [], .mv (.k (.sc (.int .i64 (0))))⟩] (some [2, 3]))
        .ret))))))
theorem b9 : cmpG Try.prog 9 = some (strip a9, r9, 41) := by kernel_rfl

abbrev r10 : List AR := [.c 2 true 56]
abbrev a10 : ACode :=
  (.seq
   (.reg [⟨(some 1), none, [], [], .box (.t 0)⟩,
     ⟨(some 2), none, [], [], .alc zF0⟩] (some [1, 2]))
   (.seq
    (.reg [⟨(some 6), none, [], [], .fa 0 (.t 1)⟩,
      ⟨(some 7), none, [], [], .ld false 1 (.t 6)⟩,
      ⟨(some 8), none, [], [], .fa 1 (.t 1)⟩,
      ⟨(some 9), none, [], [], .ld true 16 (.t 8)⟩,
      ⟨(some 10), none, [], [], .fa 17 (.t 1)⟩,
      ⟨(some 11), none, [], [], .ld true 2 (.t 10)⟩,
      ⟨(some 12), none, [], [], .fa 19 (.t 1)⟩,
      ⟨(some 13), none, [], [], .ld false 1 (.t 12)⟩,
      ⟨(some 14), none, [], [], .fa 20 (.t 1)⟩,
      ⟨(some 15), none, [], [], .ld false 1 (.t 14)⟩,
      ⟨(some 16), none, [], [], .fa 21 (.t 1)⟩,
      ⟨(some 17), none, [], [], .ld true 32 (.t 16)⟩,
      ⟨(some 18), none, [], [], .fa 53 (.t 1)⟩,
      ⟨(some 19), none, [], [], .ld false 1 (.t 18)⟩,
      ⟨(some 20), none, [], [], .fa 55 (.t 1)⟩,
      ⟨(some 21), none, [], [], .ld false 1 (.t 20)⟩,
      ⟨(some 22), none, [], [], .bld zF0 [(0, 1, (.t 7)), (1, 16, (.t 9)), (17, 2, (.t 11)), (19, 1, (.t 13)), (20, 1, (.t 15)), (21, 32, (.t 17)), (53, 1, (.t 19)), (55, 1, (.t 21))]⟩,
      ⟨(some 3), none, [], [], .alc zF0⟩,
      ⟨none, none, [], [], .sto 56 (.t 3) (.t 22)⟩] (some [1, 2, 3]))
    (.seq
     (.seq
      (.reg [⟨(some 23), none, [], [], .fa 54 (.t 1)⟩,
        ⟨(some 24), none, [], [], .ld false 1 (.t 23)⟩,
        ⟨(some 25), none, [], [], .lenL (.t 24)⟩,
        ⟨(some 26), none, [], [], .mv (.k (.sc (.int .i64 (0))))⟩] (some [2, 3, 24, 25, 26]))
      (.block 0
       (.loop
        (.seq
         (.reg [⟨(some 27), none, [], [], .bin .lss false (.t 26) (.t 25)⟩] none)
         (.seq
          (.cond (.t 27)
           (.keep [2, 3, 24, 25, 26]
            .skip)
           (.exit 0))
          (.seq
           (.block 1
            (.seq
             (.reg [⟨(some 28), none, [], [], .ixaS 2 (.t 24) (.t 26)⟩,
               ⟨(some 29), none, [], [], .ld true 2 (.t 28)⟩,
               ⟨(some 5), none, [], [], .alc [(.sc (.int .u64 (0))), (.sc (.int .u64 (0)))]⟩,
               ⟨none, none, [], [], .sto 2 (.t 5) (.t 29)⟩] (some [2, 3, 5, 24, 25, 26]))
             (.reg [⟨(some 30), none, [], [], .fa 54 (.t 3)⟩,
               ⟨(some 31), none, [], [], .ld false 1 (.t 30)⟩,
               ⟨(some 32), none, [], [], .ld true 2 (.t 5)⟩,
               ⟨(some 33), none, [], [], .bsl 1 2 [(.sc (.int .u64 (0))), (.sc (.int .u64 (0)))] [(0, 2, (.t 32))]⟩,
               ⟨(some 34), none, [], [], .app 2 16 (.t 31) (.t 33)⟩,
               ⟨(some 35), none, [], [], .fa 54 (.t 3)⟩,
               ⟨none, none, [], [], .sto 1 (.t 35) (.t 34)⟩] (some [2, 3, 24, 25, 26]))))
           (.reg [⟨(some 36), none, [], [], .bin .add false (.t 26) (.k (.sc (.int .i64 (1))))⟩,
             ⟨(some 26), none, [], [], .mv (.t 36)⟩] (some [2, 3, 24, 25, 26]))))))))
     (.seq
      (.reg [⟨(some 37), none, [], [], .ld true 56 (.t 3)⟩,
        ⟨none, none, [], [], .sto 56 (.t 2) (.t 37)⟩] (some [2]))
      .ret))))
theorem b10 : cmpG Try.prog 10 = some (strip a10, r10, 38) := by kernel_rfl

abbrev r13 : List AR := [.t 4]
abbrev a13 : ACode :=
  (.seq
   (.reg [⟨(some 2), none, [], [], .box (.t 0)⟩,
     ⟨(some 3), none, [], [], .box (.t 1)⟩,
     ⟨(some 4), none, [], [], .mv (.k (.sc (.bool false)))⟩] (some [2, 3]))
   (.seq
    (.reg (⟨(some 5), none, [], [], .fa 0 (.t 2)⟩ ::
      ⟨(some 6), none, [], [], .ld false 1 (.t 5)⟩ ::
      ⟨(some 7), none, [], [], .fa 0 (.t 3)⟩ ::
      ⟨(some 8), none, [], [], .ld false 1 (.t 7)⟩ ::
      ⟨(some 9), none, [], [], .bin .eql false (.t 6) (.t 8)⟩ ::
      ⟨(some 10), none, [], [], .mv (.t 9)⟩ ::
      ⟨(some 11), (some (10, true)), [], [], .fa 1 (.t 2)⟩ ::
      ⟨(some 12), (some (10, true)), [], [], .ld true 16 (.t 11)⟩ ::
      ⟨(some 13), (some (10, true)), [], [], .fa 1 (.t 3)⟩ ::
      ⟨(some 14), (some (10, true)), [], [], .ld true 16 (.t 13)⟩ ::
      ⟨(some 15), (some (10, true)), [], [], .aeq false 16 [.i, .i, .i, .i, .i, .i, .i, .i, .i, .i, .i, .i, .i, .i, .i, .i] (.t 12) (.t 14)⟩ ::
      ⟨(some 16), none, [], [], .pick (.t 10) (.t 15) (.k (.sc (.bool false)))⟩ ::
      ⟨(some 17), none, [], [], .mv (.t 16)⟩ ::
      ⟨(some 18), (some (17, true)), [], [], .fa 17 (.t 2)⟩ ::
      ⟨(some 19), (some (17, true)), [], [], .ld true 2 (.t 18)⟩ ::
      ⟨(some 20), (some (17, true)), [], [], .fa 17 (.t 3)⟩ ::
      ⟨(some 21), (some (17, true)), [], [], .ld true 2 (.t 20)⟩ ::
      ⟨(some 22), (some (17, true)), [], [], .aeq false 2 [.i, .i] (.t 19) (.t 21)⟩ ::
      ⟨(some 23), none, [], [], .pick (.t 17) (.t 22) (.k (.sc (.bool false)))⟩ ::
      ⟨(some 24), none, [], [], .mv (.t 23)⟩ ::
      ⟨(some 25), (some (24, true)), [], [], .fa 19 (.t 2)⟩ ::
      ⟨(some 26), (some (24, true)), [], [], .ld false 1 (.t 25)⟩ ::
      ⟨(some 27), (some (24, true)), [], [], .fa 19 (.t 3)⟩ ::
      ⟨(some 28), (some (24, true)), [], [], .ld false 1 (.t 27)⟩ ::
      ⟨(some 29), (some (24, true)), [], [], .bin .eql false (.t 26) (.t 28)⟩ ::
      ⟨(some 30), none, [], [], .pick (.t 24) (.t 29) (.k (.sc (.bool false)))⟩ ::
      ⟨(some 31), none, [], [], .mv (.t 30)⟩ ::
      ⟨(some 32), (some (31, true)), [], [], .fa 20 (.t 2)⟩ ::
      ⟨(some 33), (some (31, true)), [], [], .ld false 1 (.t 32)⟩ ::
      ⟨(some 34), (some (31, true)), [], [], .fa 20 (.t 3)⟩ ::
      ⟨(some 35), (some (31, true)), [], [], .ld false 1 (.t 34)⟩ ::
      ⟨(some 36), (some (31, true)), [], [], .bin .eql false (.t 33) (.t 35)⟩ ::
      ⟨(some 37), none, [], [], .pick (.t 31) (.t 36) (.k (.sc (.bool false)))⟩ ::
      ⟨(some 38), none, [], [], .mv (.t 37)⟩ ::
      ⟨(some 39), (some (38, true)), [], [], .fa 21 (.t 2)⟩ ::
      ⟨(some 40), (some (38, true)), [], [], .ld true 32 (.t 39)⟩ ::
      ⟨(some 41), (some (38, true)), [], [], .fa 21 (.t 3)⟩ ::
      ⟨(some 42), (some (38, true)), [], [], .ld true 32 (.t 41)⟩ ::
      ⟨(some 43), (some (38, true)), [], [], .aeq false 32 (.i :: .i :: .i :: .i :: .i :: .i :: .i :: .i :: .i :: .i :: .i :: .i :: .i :: .i :: .i :: .i :: .i :: .i :: .i :: .i :: .i :: .i :: .i :: .i :: .i :: .i :: .i :: .i :: .i :: .i :: .i :: .i :: []) (.t 40) (.t 42)⟩ ::
      ⟨(some 44), none, [], [], .pick (.t 38) (.t 43) (.k (.sc (.bool false)))⟩ ::
      ⟨(some 45), none, [], [], .mv (.t 44)⟩ ::
      ⟨(some 46), (some (45, true)), [], [], .fa 55 (.t 2)⟩ ::
      ⟨(some 47), (some (45, true)), [], [], .ld false 1 (.t 46)⟩ ::
      ⟨(some 48), (some (45, true)), [], [], .fa 55 (.t 3)⟩ ::
      ⟨(some 49), (some (45, true)), [], [], .ld false 1 (.t 48)⟩ ::
      ⟨(some 50), (some (45, true)), [], [], .bin .eql false (.t 47) (.t 49)⟩ ::
      ⟨(some 51), none, [], [], .pick (.t 45) (.t 50) (.k (.sc (.bool false)))⟩ ::
      ⟨(some 52), none, [], [], .mv (.t 51)⟩ ::
      ⟨(some 53), (some (52, true)), [], [], .fa 53 (.t 2)⟩ ::
      ⟨(some 54), (some (52, true)), [], [], .ld false 1 (.t 53)⟩ ::
      ⟨(some 55), (some (52, true)), [], [], .fa 53 (.t 3)⟩ ::
      ⟨(some 56), (some (52, true)), [], [], .ld false 1 (.t 55)⟩ ::
      ⟨(some 57), (some (52, true)), [], [], .cal (.k (.fn 30 [])) [(.t 54), (.t 56)]⟩ ::
      ⟨(some 58), none, [], [], .pick (.t 52) (.t 57) (.k (.sc (.bool false)))⟩ ::
      ⟨(some 59), none, [], [], .mv (.t 58)⟩ ::
      ⟨(some 60), (some (59, true)), [], [], .fa 54 (.t 2)⟩ ::
      ⟨(some 61), (some (59, true)), [], [], .ld false 1 (.t 60)⟩ ::
      ⟨(some 62), (some (59, true)), [], [], .fa 54 (.t 3)⟩ ::
      ⟨(some 63), (some (59, true)), [], [], .ld false 1 (.t 62)⟩ ::
      ⟨(some 64), (some (59, true)), [], [], .cal (.k (.fn 31 [])) [(.t 61), (.t 63)]⟩ ::
      ⟨(some 65), none, [], [], .pick (.t 59) (.t 64) (.k (.sc (.bool false)))⟩ ::
      ⟨(some 4), none, [], [], .mv (.t 65)⟩ :: []) (some [4]))
    .ret))
theorem b13 : cmpG Try.prog 13 = some (strip a13, r13, 66) := by kernel_rfl

abbrev r14 : List AR := [.c 2 true 56]
abbrev a14 : ACode :=
  (.seq
   (.reg [⟨(some 1), none, [], [], .box (.t 0)⟩,
     ⟨(some 2), none, [], [], .alc zF0⟩] (some [1, 2]))
   (.seq
    (.reg [⟨(some 4), none, [], [], .fa 0 (.t 1)⟩,
      ⟨(some 5), none, [], [], .ld false 1 (.t 4)⟩,
      ⟨(some 6), none, [], [], .fa 1 (.t 1)⟩,
      ⟨(some 7), none, [], [], .ld true 16 (.t 6)⟩,
      ⟨(some 8), none, [], [], .fa 17 (.t 1)⟩,
      ⟨(some 9), none, [], [], .ld true 2 (.t 8)⟩,
      ⟨(some 10), none, [], [], .bld zF0 [(0, 1, (.t 5)), (1, 16, (.t 7)), (17, 2, (.t 9))]⟩,
      ⟨(some 3), none, [], [], .alc zF0⟩,
      ⟨none, none, [], [], .sto 56 (.t 3) (.t 10)⟩] (some [1, 2, 3]))
    (.seq
     (.seq
      (.reg [⟨(some 11), none, [], [], .fa 0 (.t 1)⟩,
        ⟨(some 12), none, [], [], .ld false 1 (.t 11)⟩] (some [1, 2, 3, 12]))
      (.block 0
       (.seq
        (.seq
         (.reg [⟨(some 14), none, [], [], .bin .eql false (.t 12) (.k (.sc (.int .i64 (1))))⟩,
           ⟨(some 13), none, [], [], .mv (.t 14)⟩] (some [1, 2, 3, 12, 13]))
         (.cond (.t 13)
          .skip
          (.keep [1, 2, 3, 12]
           (.reg [⟨(some 15), none, [], [], .bin .eql false (.t 12) (.k (.sc (.int .i64 (5))))⟩,
             ⟨(some 13), none, [], [], .mv (.t 15)⟩] (some [1, 2, 3, 12, 13])))))
        (.cond (.t 13)
         (.keep [1, 2, 3]
          (.regD [⟨(some 16), none, [(.t 1)], [], .fa 20 (.t 1)⟩,
            ⟨(some 17), none, [(.t 16)], [], .ld false 1 (.t 16)⟩,
            ⟨(some 18), none, [(.t 1)], [0, 1], .fa 21 (.t 1)⟩,
            ⟨(some 19), none, [(.t 18)], [0, 1], .ld true 32 (.t 18)⟩,
            ⟨(some 20), none, [(.t 3)], [2, 3], .fa 20 (.t 3)⟩,
            ⟨none, none, [(.t 20), (.t 17)], [2, 3], .sto 1 (.t 20) (.t 17)⟩,
            ⟨(some 21), none, [(.t 3)], [], .fa 21 (.t 3)⟩,
            ⟨none, none, [(.t 21), (.t 19)], [], .sto 32 (.t 21) (.t 19)⟩] (some [2, 3])))
         (.keep [1, 2, 3, 12]
          (.seq
           (.reg [⟨(some 23), none, [], [], .bin .eql false (.t 12) (.k (.sc (.int .i64 (2))))⟩,
             ⟨(some 22), none, [], [], .mv (.t 23)⟩] (some [1, 2, 3, 12, 22]))
           (.cond (.t 22)
            (.keep [1, 2, 3]
             (.reg [⟨(some 24), none, [], [], .fa 19 (.t 1)⟩,
               ⟨(some 25), none, [], [], .ld false 1 (.t 24)⟩,
               ⟨(some 26), none, [], [], .fa 19 (.t 3)⟩,
               ⟨none, none, [], [], .sto 1 (.t 26) (.t 25)⟩] (some [2, 3])))
            (.keep [1, 2, 3, 12]
             (.seq
              (.reg [⟨(some 28), none, [], [], .bin .eql false (.t 12) (.k (.sc (.int .i64 (3))))⟩,
                ⟨(some 27), none, [], [], .mv (.t 28)⟩] (some [1, 2, 3, 12, 27]))
              (.cond (.t 27)
               (.keep [1, 2, 3]
                (.regD [⟨(some 29), none, [(.t 1)], [], .fa 19 (.t 1)⟩,
                  ⟨(some 30), none, [(.t 29)], [], .ld false 1 (.t 29)⟩,
                  ⟨(some 31), none, [(.t 1)], [0, 1], .fa 53 (.t 1)⟩,
                  ⟨(some 32), none, [(.t 31)], [0, 1], .ld false 1 (.t 31)⟩,
                  ⟨(some 33), none, [(.k (.fn 32 [])), (.t 32)], [0, 1], .cal (.k (.fn 32 [])) [(.t 32)]⟩,
                  ⟨(some 34), none, [(.t 3)], [2, 3, 4], .fa 19 (.t 3)⟩,
                  ⟨none, none, [(.t 34), (.t 30)], [], .sto 1 (.t 34) (.t 30)⟩,
                  ⟨(some 35), none, [(.t 3)], [], .fa 53 (.t 3)⟩,
                  ⟨none, none, [(.t 35), (.t 33)], [], .sto 1 (.t 35) (.t 33)⟩] (some [2, 3])))
               (.keep [1, 2, 3, 12]
                (.seq
                 (.reg [⟨(some 37), none, [], [], .bin .eql false (.t 12) (.k (.sc (.int .i64 (4))))⟩,
                   ⟨(some 36), none, [], [], .mv (.t 37)⟩] (some [1, 2, 3, 12, 36]))
                 (.cond (.t 36)
                  (.keep [1, 2, 3]
                   (.regD [⟨(some 38), none, [(.t 1)], [], .fa 19 (.t 1)⟩,
                     ⟨(some 39), none, [(.t 38)], [], .ld false 1 (.t 38)⟩,
                     ⟨(some 40), none, [(.t 1)], [0, 1], .fa 54 (.t 1)⟩,
                     ⟨(some 41), none, [(.t 40)], [0, 1], .ld false 1 (.t 40)⟩,
                     ⟨(some 42), none, [(.k (.fn 33 [])), (.t 41)], [0, 1], .cal (.k (.fn 33 [])) [(.t 41)]⟩,
                     ⟨(some 43), none, [(.t 3)], [2, 3, 4], .fa 19 (.t 3)⟩,
                     ⟨none, none, [(.t 43), (.t 39)], [], .sto 1 (.t 43) (.t 39)⟩,
                     ⟨(some 44), none, [(.t 3)], [], .fa 54 (.t 3)⟩,
                     ⟨none, none, [(.t 44), (.t 42)], [], .sto 1 (.t 44) (.t 42)⟩] (some [2, 3])))
                  (.keep [1, 2, 3, 12]
                   (.seq
                    (.reg [⟨(some 46), none, [], [], .bin .eql false (.t 12) (.k (.sc (.int .i64 (6))))⟩,
                      ⟨(some 45), none, [], [], .mv (.t 46)⟩] (some [1, 2, 3, 12, 45]))
                    (.cond (.t 45)
                     (.keep [1, 2, 3]
                      (.reg [⟨(some 47), none, [], [], .fa 20 (.t 1)⟩,
                        ⟨(some 48), none, [], [], .ld false 1 (.t 47)⟩,
                        ⟨(some 49), none, [], [], .fa 20 (.t 3)⟩,
                        ⟨none, none, [], [], .sto 1 (.t 49) (.t 48)⟩] (some [2, 3])))
                     (.keep [1, 2, 3, 12]
                      (.seq
                       (.reg [⟨(some 51), none, [], [], .bin .eql false (.t 12) (.k (.sc (.int .i64 (7))))⟩,
                         ⟨(some 50), none, [], [], .mv (.t 51)⟩] (some [1, 2, 3, 50]))
                       (.cond (.t 50)
                        (.keep [1, 2, 3]
                         (.reg [⟨(some 52), none, [], [], .fa 55 (.t 1)⟩,
                           ⟨(some 53), none, [], [], .ld false 1 (.t 52)⟩,
                           ⟨(some 54), none, [], [], .fa 55 (.t 3)⟩,
                           ⟨none, none, [], [], .sto 1 (.t 54) (.t 53)⟩] (some [2, 3])))
                        (.keep [2, 3]
                         .skip))))))))))))))))))))
     (.seq
      (.reg [⟨(some 55), none, [], [], .ld true 56 (.t 3)⟩,
        ⟨none, none, [], [], .sto 56 (.t 2) (.t 55)⟩] (some [2]))
      .ret))))
theorem b14 : cmpG Try.prog 14 = some (strip a14, r14, 56) := by kernel_rfl

abbrev r16 : List AR := [.t 4]
abbrev a16 : ACode :=
  (.seq
   (.reg [⟨(some 4), none, [], [], .mv (.k (.sc (.bool false)))⟩] (some [0, 1]))
   (.seq
    (.seq
     (.reg [⟨(some 7), none, [], [], .mv (.t 1)⟩,
       ⟨(some 8), none, [], [], .lenL (.t 7)⟩,
       ⟨(some 9), none, [], [], .mv (.k (.sc (.int .i64 (0))))⟩] (some [0, 7, 8, 9]))
     (.block 0
      (.loop
       (.seq
        (.reg [⟨(some 10), none, [], [], .bin .lss false (.t 9) (.t 8)⟩] none)
        (.seq
         (.cond (.t 10)
          (.keep [0, 7, 8, 9]
           .skip)
          (.exit 0))
         (.seq
          (.block 1
           (.seq
            (.reg [⟨(some 11), none, [], [], .ixaS 2 (.t 7) (.t 9)⟩,
              ⟨(some 12), none, [], [], .ld true 2 (.t 11)⟩,
              ⟨(some 6), none, [], [], .alc [(.sc (.int .u64 (0))), (.sc (.int .u64 (0)))]⟩,
              ⟨none, none, [], [], .sto 2 (.t 6) (.t 12)⟩] (some [0, 6, 7, 8, 9]))
            (.seq
             (.seq
              (.reg [⟨(some 13), none, [], [], .fa 0 (.t 6)⟩,
                ⟨(some 14), none, [], [], .ld false 1 (.t 13)⟩,
                ⟨(some 15), none, [], [], .mv (.t 0)⟩,
                ⟨(some 16), none, [], [], .bin .leq false (.t 14) (.t 15)⟩,
                ⟨(some 17), none, [], [], .mv (.t 16)⟩,
                ⟨(some 18), (some (17, false)), [], [], .fa 1 (.t 6)⟩,
                ⟨(some 19), (some (17, false)), [], [], .ld false 1 (.t 18)⟩,
                ⟨(some 20), (some (17, false)), [], [], .fa 0 (.t 6)⟩,
                ⟨(some 21), (some (17, false)), [], [], .ld false 1 (.t 20)⟩,
                ⟨(some 22), (some (17, false)), [], [], .bin .leq false (.t 19) (.t 21)⟩,
                ⟨(some 23), none, [], [], .pick (.t 17) (.k (.sc (.bool true))) (.t 22)⟩] (some [6, 7, 8, 9, 23]))
              (.cond (.t 23)
               (.keep []
                (.seq
                 (.reg [⟨(some 4), none, [], [], .mv (.k (.sc (.bool false)))⟩] none)
                 .ret))
               (.keep [6, 7, 8, 9]
                .skip)))
             (.reg [⟨(some 24), none, [], [], .fa 1 (.t 6)⟩,
               ⟨(some 25), none, [], [], .ld false 1 (.t 24)⟩,
               ⟨(some 0), none, [], [], .mv (.t 25)⟩] (some [0, 7, 8, 9])))))
          (.reg [⟨(some 26), none, [], [], .bin .add false (.t 9) (.k (.sc (.int .i64 (1))))⟩,
            ⟨(some 9), none, [], [], .mv (.t 26)⟩] (some [0, 7, 8, 9]))))))))
    (.seq
     (.reg [⟨(some 4), none, [], [], .mv (.k (.sc (.bool true)))⟩] (some [4]))
     .ret)))
theorem b16 : cmpG Try.prog 16 = some (strip a16, r16, 27) := by kernel_rfl

abbrev r17 : List AR := [.t 4]
abbrev a17 : ACode :=
  (.seq
   (.reg [⟨(some 4), none, [], [], .mv (.k (.sc (.bool false)))⟩] (some [0, 1]))
   (.seq
    (.seq
     (.reg [⟨(some 5), none, [], [], .mv (.k (.sc (.int .i64 (0))))⟩] none)
     (.block 0
      (.loop
       (.seq
        (.seq
         (.reg [⟨(some 6), none, [], [], .mv (.t 5)⟩,
           ⟨(some 7), none, [], [], .mv (.t 1)⟩,
           ⟨(some 8), none, [], [], .lenL (.t 7)⟩,
           ⟨(some 9), none, [], [], .bin .lss false (.t 6) (.t 8)⟩] (some [0, 1, 5, 9]))
         (.cond (.t 9)
          (.keep [0, 1, 5]
           .skip)
          (.exit 0)))
        (.seq
         (.block 1
          (.seq
           (.seq
            (.regD [⟨(some 12), none, [(.t 1)], [], .mv (.t 1)⟩,
              ⟨(some 13), none, [(.t 5)], [0], .mv (.t 5)⟩,
              ⟨(some 14), none, [(.t 12), (.t 13)], [], .ixaS 2 (.t 12) (.t 13)⟩,
              ⟨(some 15), none, [(.t 14)], [], .fa 0 (.t 14)⟩,
              ⟨(some 16), none, [(.t 15)], [], .ld false 1 (.t 15)⟩,
              ⟨(some 17), none, [(.t 0)], [0, 1, 2, 3, 4], .mv (.t 0)⟩,
              ⟨(some 18), none, [(.t 16), (.t 17)], [], .bin .leq false (.t 16) (.t 17)⟩,
              ⟨(some 19), none, [(.t 18)], [], .mv (.t 18)⟩,
              ⟨(some 20), (some (19, false)), [(.t 1)], [], .mv (.t 1)⟩,
              ⟨(some 21), (some (19, false)), [(.t 5)], [8], .mv (.t 5)⟩,
              ⟨(some 22), (some (19, false)), [(.t 20), (.t 21)], [], .ixaS 2 (.t 20) (.t 21)⟩,
              ⟨(some 23), (some (19, false)), [(.t 22)], [], .fa 1 (.t 22)⟩,
              ⟨(some 24), (some (19, false)), [(.t 23)], [], .ld false 1 (.t 23)⟩,
              ⟨(some 25), (some (19, false)), [(.t 1)], [8, 9, 10, 11, 12], .mv (.t 1)⟩,
              ⟨(some 26), (some (19, false)), [(.t 5)], [8, 9, 10, 11, 12, 13], .mv (.t 5)⟩,
              ⟨(some 27), (some (19, false)), [(.t 25), (.t 26)], [8, 9, 10, 11, 12], .ixaS 2 (.t 25) (.t 26)⟩,
              ⟨(some 28), (some (19, false)), [(.t 27)], [8, 9, 10, 11, 12], .fa 0 (.t 27)⟩,
              ⟨(some 29), (some (19, false)), [(.t 28)], [8, 9, 10, 11, 12], .ld false 1 (.t 28)⟩,
              ⟨(some 30), (some (19, false)), [(.t 24), (.t 29)], [], .bin .leq false (.t 24) (.t 29)⟩,
              ⟨(some 31), none, [(.t 19), (.k (.sc (.bool true))), (.t 30)], [], .pick (.t 19) (.k (.sc (.bool true))) (.t 30)⟩] (some [1, 5, 31]))
            (.cond (.t 31)
             (.keep []
              (.seq
               (.reg [⟨(some 4), none, [], [], .mv (.k (.sc (.bool false)))⟩] none)
               .ret))
             (.keep [1, 5]
              .skip)))
           (.reg [⟨(some 32), none, [], [], .mv (.t 1)⟩,
             ⟨(some 33), none, [], [], .mv (.t 5)⟩,
             ⟨(some 34), none, [], [], .ixaS 2 (.t 32) (.t 33)⟩,
             ⟨(some 35), none, [], [], .fa 1 (.t 34)⟩,
             ⟨(some 36), none, [], [], .ld false 1 (.t 35)⟩,
             ⟨(some 0), none, [], [], .mv (.t 36)⟩] (some [0, 1, 5]))))
         (.reg [⟨(some 10), none, [], [], .mv (.t 5)⟩,
           ⟨(some 11), none, [], [], .bin .add false (.t 10) (.k (.sc (.int .i64 (1))))⟩,
           ⟨(some 5), none, [], [], .mv (.t 11)⟩] (some [0, 1, 5])))))))
    (.seq
     (.reg [⟨(some 4), none, [], [], .mv (.k (.sc (.bool true)))⟩] (some [4]))
     .ret)))
theorem b17 : cmpG Try.prog 17 = some (strip a17, r17, 37) := by kernel_rfl

abbrev r18 : List AR := [.t 2]
abbrev a18 : ACode :=
  (.seq
   (.reg [⟨(some 2), none, [], [], .mv (.k .nl)⟩] (some [0]))
   (.seq
    (.reg [⟨(some 4), none, [], [], .mv (.t 0)⟩,
      ⟨(some 5), none, [], [], .cal (.k (.fn 34 [])) [(.t 4)]⟩,
      ⟨(some 3), none, [], [], .mv (.t 5)⟩] (some [0, 3]))
    (.seq
     (.reg [⟨(some 6), none, [], [], .mv (.t 0)⟩,
       ⟨(some 7), none, [], [], .app 1 1 (.k .nl) (.t 6)⟩,
       ⟨(some 8), none, [], [], .mv (.t 3)⟩,
       ⟨(some 9), none, [], [], .bin .rem false (.t 8) (.k (.sc (.int .u32 (256))))⟩,
       ⟨(some 10), none, [], [], .cvi .u8 (.t 9)⟩,
       ⟨(some 11), none, [], [], .mv (.t 3)⟩,
       ⟨(some 12), none, [], [], .bin .quo false (.t 11) (.k (.sc (.int .u32 (256))))⟩,
       ⟨(some 13), none, [], [], .bin .rem false (.t 12) (.k (.sc (.int .u32 (256))))⟩,
       ⟨(some 14), none, [], [], .cvi .u8 (.t 13)⟩,
       ⟨(some 15), none, [], [], .mv (.t 3)⟩,
       ⟨(some 16), none, [], [], .bin .quo false (.t 15) (.k (.sc (.int .u32 (65536))))⟩,
       ⟨(some 17), none, [], [], .bin .rem false (.t 16) (.k (.sc (.int .u32 (256))))⟩,
       ⟨(some 18), none, [], [], .cvi .u8 (.t 17)⟩,
       ⟨(some 19), none, [], [], .mv (.t 3)⟩,
       ⟨(some 20), none, [], [], .bin .quo false (.t 19) (.k (.sc (.int .u32 (16777216))))⟩,
       ⟨(some 21), none, [], [], .cvi .u8 (.t 20)⟩,
       ⟨(some 22), none, [], [], .bsl 4 1 [(.sc (.int .u8 (0))), (.sc (.int .u8 (0))), (.sc (.int .u8 (0))), (.sc (.int .u8 (0)))] [(0, 1, (.t 10)), (1, 1, (.t 14)), (2, 1, (.t 18)), (3, 1, (.t 21))]⟩,
       ⟨(some 23), none, [], [], .app 1 1 (.t 7) (.t 22)⟩,
       ⟨(some 2), none, [], [], .mv (.t 23)⟩] (some [2]))
     .ret)))
theorem b18 : cmpG Try.prog 18 = some (strip a18, r18, 24) := by kernel_rfl

abbrev r19 : List AR := [.c 2 true 56, .t 3]
abbrev a19 : ACode :=
  (.seq
   (.reg [⟨(some 2), none, [], [], .alc zF0⟩,
     ⟨(some 3), none, [], [], .mv (.k (.sc (.int .i64 (0))))⟩] (some [0, 2]))
   (.seq
    (.reg [⟨(some 10), none, [], [], .mv (.t 0)⟩,
      ⟨(some 11), none, [], [], .cal (.k (.fn 35 [])) [(.t 10)]⟩,
      ⟨(some 9), none, [], [], .mv (.t 11)⟩,
      ⟨(some 12), none, [], [], .ext (.t 9) 0⟩,
      ⟨(some 13), none, [], [], .ext (.t 9) 1⟩,
      ⟨(some 0), none, [], [], .mv (.t 12)⟩,
      ⟨(some 4), none, [], [], .mv (.t 13)⟩] (some [0, 2, 4]))
    (.seq
     (.block 0
      (.seq
       (.reg [⟨(some 15), none, [], [], .mv (.t 4)⟩,
         ⟨(some 16), none, [], [], .bin .neq false (.t 15) (.k (.sc (.int .i64 (0))))⟩,
         ⟨(some 14), none, [], [], .mv (.t 16)⟩] (some [0, 2, 4, 14]))
       (.cond (.t 14)
        (.keep [2, 4]
         (.seq
          (.reg [⟨(some 17), none, [], [], .bld zF0 []⟩,
            ⟨(some 18), none, [], [], .mv (.t 4)⟩,
            ⟨none, none, [], [], .sto 56 (.t 2) (.t 17)⟩,
            ⟨(some 3), none, [], [], .mv (.t 18)⟩] (some [2, 3]))
          .ret))
        (.keep [0, 2]
         (.seq
          (.reg [⟨(some 20), none, [], [], .mv (.t 0)⟩,
            ⟨(some 21), none, [], [], .lenL (.t 20)⟩,
            ⟨(some 22), none, [], [], .bin .lss false (.t 21) (.k (.sc (.int .i64 (28))))⟩,
            ⟨(some 19), none, [], [], .mv (.t 22)⟩] (some [0, 2, 19]))
          (.cond (.t 19)
           (.keep [2]
            (.seq
             (.reg [⟨(some 23), none, [], [], .bld zF0 []⟩,
               ⟨none, none, [], [], .sto 56 (.t 2) (.t 23)⟩,
               ⟨(some 3), none, [], [], .mv (.k (.sc (.int .i64 (4))))⟩] (some [2, 3]))
             .ret))
           (.keep [0, 2]
            (.seq
             (.reg [⟨(some 25), none, [], [], .mv (.t 0)⟩,
               ⟨(some 26), none, [], [], .bsl 2 1 [(.sc (.int .u8 (0))), (.sc (.int .u8 (0)))] [(0, 1, (.k (.sc (.int .u8 (84))))), (1, 1, (.k (.sc (.int .u8 (87)))))]⟩,
               ⟨(some 27), none, [], [], .cvm (.t 26)⟩,
               ⟨(some 28), none, [], [], .cal (.k (.fn 36 [])) [(.t 25), (.t 27)]⟩,
               ⟨(some 29), none, [], [], .un .not (.t 28)⟩,
               ⟨(some 24), none, [], [], .mv (.t 29)⟩] (some [0, 2, 24]))
             (.cond (.t 24)
              (.keep [2]
               (.seq
                (.reg [⟨(some 30), none, [], [], .bld zF0 []⟩,
                  ⟨none, none, [], [], .sto 56 (.t 2) (.t 30)⟩,
                  ⟨(some 3), none, [], [], .mv (.k (.sc (.int .i64 (3))))⟩] (some [2, 3]))
                .ret))
              (.keep [0, 2]
               .skip))))))))))
     (.seq
      (.reg [⟨(some 31), none, [], [], .mv (.t 0)⟩,
        ⟨(some 32), none, [], [], .slL 1 (some (.k (.sc (.int .i64 (2))))) none none (.t 31)⟩,
        ⟨(some 33), none, [], [], .bld [.nl, (.sc (.bool false))] [(0, 1, (.t 32))]⟩,
        ⟨(some 34), none, [], [], .box (.t 33)⟩,
        ⟨(some 5), none, [], [], .mv (.t 34)⟩] (some [2, 5]))
      (.seq
       (.reg [⟨(some 35), none, [], [], .mv (.t 5)⟩,
         ⟨(some 36), none, [], [], .calG [0] (.k (.fn 37 [])) [(.t 35), (.k (.sc (.int .i64 (1))))]⟩,
         ⟨(some 37), none, [], [], .cvi .i64 (.t 36)⟩,
         ⟨(some 38), none, [], [], .bld zF0 [(0, 1, (.t 37))]⟩,
         ⟨(some 6), none, [], [], .alc zF0⟩,
         ⟨none, none, [], [], .sto 56 (.t 6) (.t 38)⟩] (some [2, 5, 6]))
       (.seq
        (.reg [⟨(some 39), none, [], [], .mv (.t 5)⟩,
          ⟨(some 40), none, [], [], .calG [0] (.k (.fn 37 [])) [(.t 39), (.k (.sc (.int .i64 (1))))]⟩,
          ⟨(some 41), none, [], [], .cvi .u8 (.t 40)⟩,
          ⟨(some 7), none, [], [], .mv (.t 41)⟩] (some [2, 5, 6, 7]))
        (.seq
         (.reg [⟨(some 42), none, [], [], .mv (.t 5)⟩,
           ⟨(some 43), none, [], [], .calG [0] (.k (.fn 38 [])) [(.t 42), (.k (.sc (.int .i64 (16))))]⟩,
           ⟨(some 44), none, [], [], .s2p 16 (.t 43)⟩,
           ⟨(some 45), none, [], [], .ld true 16 (.t 44)⟩,
           ⟨(some 46), none, [], [], .fa 1 (.t 6)⟩,
           ⟨none, none, [], [], .sto 16 (.t 46) (.t 45)⟩] (some [2, 5, 6, 7]))
         (.seq
          (.reg [⟨(some 47), none, [], [], .mv (.t 5)⟩,
            ⟨(some 48), none, [], [], .calG [0] (.k (.fn 37 [])) [(.t 47), (.k (.sc (.int .i64 (4))))]⟩,
            ⟨(some 49), none, [], [], .cvi .u32 (.t 48)⟩,
            ⟨(some 50), none, [], [], .fa 17 (.t 6)⟩,
            ⟨(some 51), none, [], [], .fa 0 (.t 50)⟩,
            ⟨none, none, [], [], .sto 1 (.t 51) (.t 49)⟩] (some [2, 5, 6, 7]))
          (.seq
           (.reg [⟨(some 52), none, [], [], .mv (.t 5)⟩,
             ⟨(some 53), none, [], [], .calG [0] (.k (.fn 37 [])) [(.t 52), (.k (.sc (.int .i64 (4))))]⟩,
             ⟨(some 54), none, [], [], .cvi .u32 (.t 53)⟩,
             ⟨(some 55), none, [], [], .fa 17 (.t 6)⟩,
             ⟨(some 56), none, [], [], .fa 1 (.t 55)⟩,
             ⟨none, none, [], [], .sto 1 (.t 56) (.t 54)⟩] (some [2, 5, 6, 7]))
           (.seq
            (.block 1
             (.seq
              (.reg [⟨(some 58), none, [], [], .fa 0 (.t 6)⟩,
                ⟨(some 59), none, [], [], .ld false 1 (.t 58)⟩,
                ⟨(some 60), none, [], [], .bin .lss false (.t 59) (.k (.sc (.int .i64 (1))))⟩,
                ⟨(some 61), none, [], [], .mv (.t 60)⟩,
                ⟨(some 62), (some (61, false)), [], [], .fa 0 (.t 6)⟩,
                ⟨(some 63), (some (61, false)), [], [], .ld false 1 (.t 62)⟩,
                ⟨(some 64), (some (61, false)), [], [], .bin .gtr false (.t 63) (.k (.sc (.int .i64 (7))))⟩,
                ⟨(some 65), none, [], [], .pick (.t 61) (.k (.sc (.bool true))) (.t 64)⟩,
                ⟨(some 57), none, [], [], .mv (.t 65)⟩] (some [2, 5, 6, 7, 57]))
              (.cond (.t 57)
               (.keep [2]
                (.seq
                 (.reg [⟨(some 66), none, [], [], .bld zF0 []⟩,
                   ⟨none, none, [], [], .sto 56 (.t 2) (.t 66)⟩,
                   ⟨(some 3), none, [], [], .mv (.k (.sc (.int .i64 (11))))⟩] (some [2, 3]))
                 .ret))
               (.keep [2, 5, 6, 7]
                (.seq
                 (.reg [⟨(some 68), none, [], [], .mv (.t 7)⟩,
                   ⟨(some 69), none, [], [], .fa 17 (.t 6)⟩,
                   ⟨(some 70), none, [], [], .ld true 2 (.t 69)⟩,
                   ⟨(some 71), none, [], [], .cal (.k (.fn 23 [])) [(.t 70)]⟩,
                   ⟨(some 72), none, [], [], .bin .neq false (.t 68) (.t 71)⟩,
                   ⟨(some 67), none, [], [], .mv (.t 72)⟩] (some [2, 5, 6, 67]))
                 (.cond (.t 67)
                  (.keep [2]
                   (.seq
                    (.reg [⟨(some 73), none, [], [], .bld zF0 []⟩,
                      ⟨none, none, [], [], .sto 56 (.t 2) (.t 73)⟩,
                      ⟨(some 3), none, [], [], .mv (.k (.sc (.int .i64 (16))))⟩] (some [2, 3]))
                    .ret))
                  (.keep [2, 5, 6]
                   .skip)))))))
            (.seq
             (.reg [⟨(some 74), none, [], [], .mv (.t 5)⟩,
               ⟨(some 75), none, [], [], .calG [0, 1] (.k (.fn 39 [])) [(.t 74), (.t 6)]⟩] (some [2, 5, 6]))
             (.seq
              (.block 2
               (.seq
                (.reg [⟨(some 77), none, [], [], .mv (.t 5)⟩,
                  ⟨(some 78), none, [], [], .nck (.t 77)⟩,
                  ⟨(some 79), none, [], [], .fa 1 (.t 78)⟩,
                  ⟨(some 80), none, [], [], .ld false 1 (.t 79)⟩,
                  ⟨(some 76), none, [], [], .mv (.t 80)⟩] (some [2, 5, 6, 76]))
                (.cond (.t 76)
                 (.keep [2]
                  (.seq
                   (.reg [⟨(some 81), none, [], [], .bld zF0 []⟩,
                     ⟨none, none, [], [], .sto 56 (.t 2) (.t 81)⟩,
                     ⟨(some 3), none, [], [], .mv (.k (.sc (.int .i64 (4))))⟩] (some [2, 3]))
                   .ret))
                 (.keep [2, 5, 6]
                  (.seq
                   (.reg [⟨(some 83), none, [], [], .mv (.t 5)⟩,
                     ⟨(some 84), none, [], [], .nck (.t 83)⟩,
                     ⟨(some 85), none, [], [], .fa 0 (.t 84)⟩,
                     ⟨(some 86), none, [], [], .ld false 1 (.t 85)⟩,
                     ⟨(some 87), none, [], [], .lenL (.t 86)⟩,
                     ⟨(some 88), none, [], [], .bin .gtr false (.t 87) (.k (.sc (.int .i64 (0))))⟩,
                     ⟨(some 82), none, [], [], .mv (.t 88)⟩] (some [2, 6, 82]))
                   (.cond (.t 82)
                    (.keep [2]
                     (.seq
                      (.reg [⟨(some 89), none, [], [], .bld zF0 []⟩,
                        ⟨none, none, [], [], .sto 56 (.t 2) (.t 89)⟩,
                        ⟨(some 3), none, [], [], .mv (.k (.sc (.int .i64 (3))))⟩] (some [2, 3]))
                      .ret))
                    (.keep [2, 6]
                     .skip)))))))
              (.seq
               (.seq
                (.reg [⟨(some 90), none, [], [], .ld true 56 (.t 6)⟩,
                  ⟨(some 91), none, [], [], .cal (.k (.fn 22 [])) [(.t 90)]⟩,
                  ⟨(some 8), none, [], [], .mv (.t 91)⟩] (some [2, 6, 8]))
                (.seq
                 (.reg [⟨(some 92), none, [], [], .mv (.t 8)⟩,
                   ⟨(some 93), none, [], [], .bin .neq false (.t 92) (.k (.sc (.int .i64 (0))))⟩] (some [2, 6, 8, 93]))
                 (.cond (.t 93)
                  (.keep [2, 8]
                   (.seq
                    (.reg [⟨(some 94), none, [], [], .bld zF0 []⟩,
                      ⟨(some 95), none, [], [], .mv (.t 8)⟩,
                      ⟨none, none, [], [], .sto 56 (.t 2) (.t 94)⟩,
                      ⟨(some 3), none, [], [], .mv (.t 95)⟩] (some [2, 3]))
                    .ret))
                  (.keep [2, 6]
                   .skip))))
               (.seq
                (.reg [⟨(some 96), none, [], [], .ld true 56 (.t 6)⟩,
                  ⟨none, none, [], [], .sto 56 (.t 2) (.t 96)⟩,
                  ⟨(some 3), none, [], [], .mv (.k (.sc (.int .i64 (0))))⟩] (some [2, 3]))
                .ret))))))))))))))
theorem b19 : cmpG Try.prog 19 = some (strip a19, r19, 97) := by kernel_rfl

abbrev r20 : List AR := [.c 2 true 56, .t 3]
abbrev a20 : ACode :=
  (.seq
   (.reg [⟨(some 2), none, [], [], .alc zF0⟩,
     ⟨(some 3), none, [], [], .mv (.k (.sc (.int .i64 (0))))⟩] (some [0, 2]))
   (.seq
    (.reg [⟨(some 8), none, [], [], .mv (.t 0)⟩,
      ⟨(some 9), none, [], [], .cal (.k (.fn 40 [])) [(.t 8)]⟩,
      ⟨(some 7), none, [], [], .mv (.t 9)⟩,
      ⟨(some 10), none, [], [], .ext (.t 7) 0⟩,
      ⟨(some 11), none, [], [], .ext (.t 7) 1⟩,
      ⟨(some 0), none, [], [], .mv (.t 10)⟩,
      ⟨(some 4), none, [], [], .mv (.t 11)⟩] (some [0, 2, 4]))
    (.seq
     (.seq
      (.reg [⟨(some 12), none, [], [], .mv (.t 4)⟩,
        ⟨(some 13), none, [], [], .bin .neq false (.t 12) (.k (.sc (.int .i64 (0))))⟩] (some [0, 2, 4, 13]))
      (.cond (.t 13)
       (.keep [2, 4]
        (.seq
         (.reg [⟨(some 14), none, [], [], .bld zF0 []⟩,
           ⟨(some 15), none, [], [], .mv (.t 4)⟩,
           ⟨none, none, [], [], .sto 56 (.t 2) (.t 14)⟩,
           ⟨(some 3), none, [], [], .mv (.t 15)⟩] (some [2, 3]))
         .ret))
       (.keep [0, 2]
        .skip)))
     (.seq
      (.seq
       (.reg [⟨(some 16), none, [], [], .mv (.t 0)⟩,
         ⟨(some 17), none, [], [], .lenL (.t 16)⟩,
         ⟨(some 18), none, [], [], .bin .lss false (.t 17) (.k (.sc (.int .i64 (28))))⟩] (some [0, 2, 18]))
       (.cond (.t 18)
        (.keep [2]
         (.seq
          (.reg [⟨(some 19), none, [], [], .bld zF0 []⟩,
            ⟨none, none, [], [], .sto 56 (.t 2) (.t 19)⟩,
            ⟨(some 3), none, [], [], .mv (.k (.sc (.int .i64 (4))))⟩] (some [2, 3]))
          .ret))
        (.keep [0, 2]
         .skip)))
      (.seq
       (.seq
        (.reg [⟨(some 20), none, [], [], .mv (.t 0)⟩,
          ⟨(some 21), none, [], [], .ixaS 1 (.t 20) (.k (.sc (.int .i64 (0))))⟩,
          ⟨(some 22), none, [], [], .ld false 1 (.t 21)⟩,
          ⟨(some 23), none, [], [], .bin .neq false (.t 22) (.k (.sc (.int .u8 (84))))⟩,
          ⟨(some 24), none, [], [], .mv (.t 23)⟩,
          ⟨(some 25), (some (24, false)), [], [], .mv (.t 0)⟩,
          ⟨(some 26), (some (24, false)), [], [], .ixaS 1 (.t 25) (.k (.sc (.int .i64 (1))))⟩,
          ⟨(some 27), (some (24, false)), [], [], .ld false 1 (.t 26)⟩,
          ⟨(some 28), (some (24, false)), [], [], .bin .neq false (.t 27) (.k (.sc (.int .u8 (87))))⟩,
          ⟨(some 29), none, [], [], .pick (.t 24) (.k (.sc (.bool true))) (.t 28)⟩] (some [0, 2, 29]))
        (.cond (.t 29)
         (.keep [2]
          (.seq
           (.reg [⟨(some 30), none, [], [], .bld zF0 []⟩,
             ⟨none, none, [], [], .sto 56 (.t 2) (.t 30)⟩,
             ⟨(some 3), none, [], [], .mv (.k (.sc (.int .i64 (3))))⟩] (some [2, 3]))
           .ret))
         (.keep [0, 2]
          .skip)))
       (.seq
        (.regD [⟨(some 31), none, [(.t 0)], [], .mv (.t 0)⟩,
          ⟨(some 32), none, [(.t 31), (.k (.sc (.int .i64 (2))))], [], .ixaS 1 (.t 31) (.k (.sc (.int .i64 (2))))⟩,
          ⟨(some 33), none, [(.t 32)], [], .ld false 1 (.t 32)⟩,
          ⟨(some 34), none, [(.t 33)], [], .cvi .i64 (.t 33)⟩,
          ⟨(some 35), none, [(.t 0)], [0, 1, 2, 3], .mv (.t 0)⟩,
          ⟨(some 36), none, [(.t 35), (.k (.sc (.int .i64 (20)))), (.k (.sc (.int .i64 (24))))], [0, 1, 2, 3], .slL 1 (some (.k (.sc (.int .i64 (20))))) (some (.k (.sc (.int .i64 (24))))) none (.t 35)⟩,
          ⟨(some 37), none, [(.k (.fn 41 [])), (.t 36)], [0, 1, 2, 3], .cal (.k (.fn 41 [])) [(.t 36)]⟩,
          ⟨(some 38), none, [(.t 37)], [0, 1, 2, 3], .cvi .u32 (.t 37)⟩,
          ⟨(some 39), none, [(.t 0)], [0, 1, 2, 3, 4, 5, 6, 7], .mv (.t 0)⟩,
          ⟨(some 40), none, [(.t 39), (.k (.sc (.int .i64 (24)))), (.k (.sc (.int .i64 (28))))], [0, 1, 2, 3, 4, 5, 6, 7], .slL 1 (some (.k (.sc (.int .i64 (24))))) (some (.k (.sc (.int .i64 (28))))) none (.t 39)⟩,
          ⟨(some 41), none, [(.k (.fn 41 [])), (.t 40)], [0, 1, 2, 3, 7], .cal (.k (.fn 41 [])) [(.t 40)]⟩,
          ⟨(some 42), none, [(.t 41)], [0, 1, 2, 3, 7], .cvi .u32 (.t 41)⟩,
          ⟨(some 43), none, [(.t 38), (.t 42)], [0, 1, 2, 3], .bld [(.sc (.int .u32 (0))), (.sc (.int .u32 (0)))] [(0, 1, (.t 38)), (1, 1, (.t 42))]⟩,
          ⟨(some 44), none, [(.t 34), (.t 43)], [], .bld zF0 [(0, 1, (.t 34)), (17, 2, (.t 43))]⟩,
          ⟨(some 5), none, [], [0, 1, 2, 3, 4, 5, 6, 7, 8, 9, 10, 11, 12, 13], .alc zF0⟩,
          ⟨none, none, [(.t 5), (.t 44)], [], .sto 56 (.t 5) (.t 44)⟩] (some [0, 2, 5]))
        (.seq
         (.seq
          (.reg [⟨(some 45), none, [], [], .fa 0 (.t 5)⟩,
            ⟨(some 46), none, [], [], .ld false 1 (.t 45)⟩,
            ⟨(some 47), none, [], [], .bin .lss false (.t 46) (.k (.sc (.int .i64 (1))))⟩,
            ⟨(some 48), none, [], [], .mv (.t 47)⟩,
            ⟨(some 49), (some (48, false)), [], [], .fa 0 (.t 5)⟩,
            ⟨(some 50), (some (48, false)), [], [], .ld false 1 (.t 49)⟩,
            ⟨(some 51), (some (48, false)), [], [], .bin .gtr false (.t 50) (.k (.sc (.int .i64 (7))))⟩,
            ⟨(some 52), none, [], [], .pick (.t 48) (.k (.sc (.bool true))) (.t 51)⟩] (some [0, 2, 5, 52]))
          (.cond (.t 52)
           (.keep [2]
            (.seq
             (.reg [⟨(some 53), none, [], [], .bld zF0 []⟩,
               ⟨none, none, [], [], .sto 56 (.t 2) (.t 53)⟩,
               ⟨(some 3), none, [], [], .mv (.k (.sc (.int .i64 (11))))⟩] (some [2, 3]))
             .ret))
           (.keep [0, 2, 5]
            .skip)))
         (.seq
          (.seq
           (.regD [⟨(some 54), none, [(.t 0)], [], .mv (.t 0)⟩,
             ⟨(some 55), none, [(.t 54), (.k (.sc (.int .i64 (3))))], [], .ixaS 1 (.t 54) (.k (.sc (.int .i64 (3))))⟩,
             ⟨(some 56), none, [(.t 55)], [], .ld false 1 (.t 55)⟩,
             ⟨(some 57), none, [(.t 5)], [0, 1, 2], .fa 17 (.t 5)⟩,
             ⟨(some 58), none, [(.t 57)], [0, 1, 2], .ld true 2 (.t 57)⟩,
             ⟨(some 59), none, [(.k (.fn 28 [])), (.t 58)], [0, 1, 2], .cal (.k (.fn 28 [])) [(.t 58)]⟩,
             ⟨(some 60), none, [(.t 56), (.t 59)], [], .bin .neq false (.t 56) (.t 59)⟩] (some [0, 2, 5, 60]))
           (.cond (.t 60)
            (.keep [2]
             (.seq
              (.reg [⟨(some 61), none, [], [], .bld zF0 []⟩,
                ⟨none, none, [], [], .sto 56 (.t 2) (.t 61)⟩,
                ⟨(some 3), none, [], [], .mv (.k (.sc (.int .i64 (16))))⟩] (some [2, 3]))
              .ret))
            (.keep [0, 2, 5]
             .skip)))
          (.seq
           (.seq
            (.reg [⟨(some 6), none, [], [], .mv (.k (.sc (.int .i64 (0))))⟩] (some [0, 2, 5, 6]))
            (.block 0
             (.loop
              (.seq
               (.seq
                (.reg [⟨(some 62), none, [], [], .mv (.t 6)⟩,
                  ⟨(some 63), none, [], [], .bin .lss false (.t 62) (.k (.sc (.int .i64 (16))))⟩] (some [0, 2, 5, 6, 63]))
                (.cond (.t 63)
                 (.keep [0, 2, 5, 6]
                  .skip)
                 (.exit 0)))
               (.seq
                (.block 1
                 (.reg [⟨(some 66), none, [], [], .mv (.t 6)⟩,
                   ⟨(some 67), none, [], [], .mv (.t 0)⟩,
                   ⟨(some 68), none, [], [], .mv (.t 6)⟩,
                   ⟨(some 69), none, [], [], .bin .add false (.k (.sc (.int .i64 (4)))) (.t 68)⟩,
                   ⟨(some 70), none, [], [], .ixaS 1 (.t 67) (.t 69)⟩,
                   ⟨(some 71), none, [], [], .ld false 1 (.t 70)⟩,
                   ⟨(some 72), none, [], [], .fa 1 (.t 5)⟩,
                   ⟨(some 73), none, [], [], .ixaA 16 1 (.t 72) (.t 66)⟩,
                   ⟨none, none, [], [], .sto 1 (.t 73) (.t 71)⟩] (some [0, 2, 5, 6])))
                (.reg [⟨(some 64), none, [], [], .mv (.t 6)⟩,
                  ⟨(some 65), none, [], [], .bin .add false (.t 64) (.k (.sc (.int .i64 (1))))⟩,
                  ⟨(some 6), none, [], [], .mv (.t 65)⟩] (some [0, 2, 5, 6])))))))
           (.seq
            (.regD [⟨(some 75), none, [(.t 5)], [], .ld true 56 (.t 5)⟩,
              ⟨(some 76), none, [(.t 0)], [0], .mv (.t 0)⟩,
              ⟨(some 77), none, [(.t 76), (.k (.sc (.int .i64 (28))))], [0], .slL 1 (some (.k (.sc (.int .i64 (28))))) none none (.t 76)⟩,
              ⟨(some 78), none, [(.k (.fn 42 [])), (.t 75), (.t 77)], [], .calG [] (.k (.fn 42 [])) [(.t 75), (.t 77)]⟩,
              ⟨(some 74), none, [(.t 78)], [], .mv (.t 78)⟩,
              ⟨(some 79), none, [(.t 74)], [], .ext (.t 74) 0⟩,
              ⟨(some 80), none, [(.t 74)], [5], .ext (.t 74) 1⟩,
              ⟨none, none, [(.t 5), (.t 79)], [6], .sto 56 (.t 5) (.t 79)⟩,
              ⟨(some 4), none, [(.t 80)], [], .mv (.t 80)⟩] (some [2, 4, 5]))
            (.seq
             (.seq
              (.reg [⟨(some 81), none, [], [], .mv (.t 4)⟩,
                ⟨(some 82), none, [], [], .bin .neq false (.t 81) (.k (.sc (.int .i64 (0))))⟩] (some [2, 4, 5, 82]))
              (.cond (.t 82)
               (.keep [2, 4]
                (.seq
                 (.reg [⟨(some 83), none, [], [], .bld zF0 []⟩,
                   ⟨(some 84), none, [], [], .mv (.t 4)⟩,
                   ⟨none, none, [], [], .sto 56 (.t 2) (.t 83)⟩,
                   ⟨(some 3), none, [], [], .mv (.t 84)⟩] (some [2, 3]))
                 .ret))
               (.keep [2, 5]
                .skip)))
             (.seq
              (.reg [⟨(some 85), none, [], [], .ld true 56 (.t 5)⟩,
                ⟨none, none, [], [], .sto 56 (.t 2) (.t 85)⟩,
                ⟨(some 3), none, [], [], .mv (.k (.sc (.int .i64 (0))))⟩] (some [2, 3]))
              .ret))))))))))))
theorem b20 : cmpG Try.prog 20 = some (strip a20, r20, 86) := by kernel_rfl

abbrev r22 : List AR := [.t 2]
abbrev a22 : ACode :=
  (.seq
   (.reg [⟨(some 1), none, [], [], .box (.t 0)⟩,
     ⟨(some 2), none, [], [], .mv (.k (.sc (.int .i64 (0))))⟩] (some [1]))
   (.seq
    (.seq
     (.reg [⟨(some 3), none, [], [], .fa 0 (.t 1)⟩,
       ⟨(some 4), none, [], [], .ld false 1 (.t 3)⟩] (some [1, 4]))
     (.block 0
      (.seq
       (.seq
        (.reg [⟨(some 6), none, [], [], .bin .eql false (.t 4) (.k (.sc (.int .i64 (1))))⟩,
          ⟨(some 5), none, [], [], .mv (.t 6)⟩] (some [1, 4, 5]))
        (.cond (.t 5)
         .skip
         (.keep [1, 4]
          (.seq
           (.reg [⟨(some 7), none, [], [], .bin .eql false (.t 4) (.k (.sc (.int .i64 (2))))⟩,
             ⟨(some 5), none, [], [], .mv (.t 7)⟩] (some [1, 4, 5]))
           (.cond (.t 5)
            .skip
            (.keep [1, 4]
             (.seq
              (.reg [⟨(some 8), none, [], [], .bin .eql false (.t 4) (.k (.sc (.int .i64 (5))))⟩,
                ⟨(some 5), none, [], [], .mv (.t 8)⟩] (some [1, 4, 5]))
              (.cond (.t 5)
               .skip
               (.keep [1, 4]
                (.reg [⟨(some 9), none, [], [], .bin .eql false (.t 4) (.k (.sc (.int .i64 (6))))⟩,
                  ⟨(some 5), none, [], [], .mv (.t 9)⟩] (some [1, 4, 5])))))))))))
       (.cond (.t 5)
        (.keep []
         (.seq
          (.reg [⟨(some 2), none, [], [], .mv (.k (.sc (.int .i64 (0))))⟩] none)
          .ret))
        (.keep [1, 4]
         (.seq
          (.reg [⟨(some 11), none, [], [], .bin .eql false (.t 4) (.k (.sc (.int .i64 (3))))⟩,
            ⟨(some 10), none, [], [], .mv (.t 11)⟩] (some [1, 4, 10]))
          (.cond (.t 10)
           (.keep [1]
            (.seq
             (.block 1
              (.seq
               (.reg [⟨(some 13), none, [], [], .fa 53 (.t 1)⟩,
                 ⟨(some 14), none, [], [], .ld false 1 (.t 13)⟩,
                 ⟨(some 15), none, [], [], .lenL (.t 14)⟩,
                 ⟨(some 16), none, [], [], .bin .eql false (.t 15) (.k (.sc (.int .i64 (0))))⟩,
                 ⟨(some 12), none, [], [], .mv (.t 16)⟩] (some [1, 12]))
               (.cond (.t 12)
                (.keep []
                 (.seq
                  (.reg [⟨(some 2), none, [], [], .mv (.k (.sc (.int .i64 (4))))⟩] none)
                  .ret))
                (.keep [1]
                 (.seq
                  (.reg [⟨(some 18), none, [], [], .fa 53 (.t 1)⟩,
                    ⟨(some 19), none, [], [], .ld false 1 (.t 18)⟩,
                    ⟨(some 20), none, [], [], .lenL (.t 19)⟩,
                    ⟨(some 21), none, [], [], .bin .gtr false (.t 20) (.k (.sc (.int .i64 (256))))⟩,
                    ⟨(some 17), none, [], [], .mv (.t 21)⟩] (some [17]))
                  (.cond (.t 17)
                   (.keep []
                    (.seq
                     (.reg [⟨(some 2), none, [], [], .mv (.k (.sc (.int .i64 (10))))⟩] none)
                     .ret))
                   (.keep []
                    .skip)))))))
             (.seq
              (.reg [⟨(some 2), none, [], [], .mv (.k (.sc (.int .i64 (0))))⟩] none)
              .ret)))
           (.keep [1, 4]
            (.seq
             (.reg [⟨(some 23), none, [], [], .bin .eql false (.t 4) (.k (.sc (.int .i64 (4))))⟩,
               ⟨(some 22), none, [], [], .mv (.t 23)⟩] (some [1, 4, 22]))
             (.cond (.t 22)
              (.keep [1]
               (.seq
                (.block 2
                 (.seq
                  (.reg [⟨(some 25), none, [], [], .fa 54 (.t 1)⟩,
                    ⟨(some 26), none, [], [], .ld false 1 (.t 25)⟩,
                    ⟨(some 27), none, [], [], .lenL (.t 26)⟩,
                    ⟨(some 28), none, [], [], .bin .gtr false (.t 27) (.k (.sc (.int .i64 (4))))⟩,
                    ⟨(some 24), none, [], [], .mv (.t 28)⟩] (some [1, 24]))
                  (.cond (.t 24)
                   (.keep []
                    (.seq
                     (.reg [⟨(some 2), none, [], [], .mv (.k (.sc (.int .i64 (5))))⟩] none)
                     .ret))
                   (.keep [1]
                    (.seq
                     (.reg [⟨(some 30), none, [], [], .fa 19 (.t 1)⟩,
                       ⟨(some 31), none, [], [], .ld false 1 (.t 30)⟩,
                       ⟨(some 32), none, [], [], .fa 54 (.t 1)⟩,
                       ⟨(some 33), none, [], [], .ld false 1 (.t 32)⟩,
                       ⟨(some 34), none, [], [], .cal (.k (.fn 16 [])) [(.t 31), (.t 33)]⟩,
                       ⟨(some 35), none, [], [], .un .not (.t 34)⟩,
                       ⟨(some 29), none, [], [], .mv (.t 35)⟩] (some [29]))
                     (.cond (.t 29)
                      (.keep []
                       (.seq
                        (.reg [⟨(some 2), none, [], [], .mv (.k (.sc (.int .i64 (3))))⟩] none)
                        .ret))
                      (.keep []
                       .skip)))))))
                (.seq
                 (.reg [⟨(some 2), none, [], [], .mv (.k (.sc (.int .i64 (0))))⟩] none)
                 .ret)))
              (.keep [1, 4]
               (.seq
                (.reg [⟨(some 37), none, [], [], .bin .eql false (.t 4) (.k (.sc (.int .i64 (7))))⟩,
                  ⟨(some 36), none, [], [], .mv (.t 37)⟩] (some [1, 36]))
                (.cond (.t 36)
                 (.keep [1]
                  (.seq
                   (.seq
                    (.reg [⟨(some 38), none, [], [], .fa 55 (.t 1)⟩,
                      ⟨(some 39), none, [], [], .ld false 1 (.t 38)⟩,
                      ⟨(some 40), none, [], [], .bin .lss false (.t 39) (.k (.sc (.int .i64 (1))))⟩,
                      ⟨(some 41), none, [], [], .mv (.t 40)⟩,
                      ⟨(some 42), (some (41, false)), [], [], .fa 55 (.t 1)⟩,
                      ⟨(some 43), (some (41, false)), [], [], .ld false 1 (.t 42)⟩,
                      ⟨(some 44), (some (41, false)), [], [], .bin .gtr false (.t 43) (.k (.sc (.int .i64 (99))))⟩,
                      ⟨(some 45), none, [], [], .pick (.t 41) (.k (.sc (.bool true))) (.t 44)⟩] (some [45]))
                    (.cond (.t 45)
                     (.keep []
                      (.seq
                       (.reg [⟨(some 2), none, [], [], .mv (.k (.sc (.int .i64 (3))))⟩] none)
                       .ret))
                     (.keep []
                      .skip)))
                   (.seq
                    (.reg [⟨(some 2), none, [], [], .mv (.k (.sc (.int .i64 (0))))⟩] none)
                    .ret)))
                 (.keep []
                  .skip))))))))))))))
    (.seq
     (.reg [⟨(some 2), none, [], [], .mv (.k (.sc (.int .i64 (11))))⟩] none)
     .ret)))
theorem b22 : cmpG Try.prog 22 = some (strip a22, r22, 46) := by kernel_rfl

abbrev r24 : List AR := [.t 6]
abbrev a24 : ACode :=
  (.seq
   (.reg [⟨(some 6), none, [], [], .mv (.k .nl)⟩] (some [0, 1, 2]))
   (.seq
    (.seq
     (.reg [⟨(some 8), none, [], [], .mv (.t 2)⟩,
       ⟨(some 9), none, [], [], .bin .sub false (.t 8) (.k (.sc (.int .i64 (1))))⟩,
       ⟨(some 7), none, [], [], .mv (.t 9)⟩] (some [0, 1, 7]))
     (.block 0
      (.loop
       (.seq
        (.seq
         (.reg [⟨(some 10), none, [], [], .mv (.t 7)⟩,
           ⟨(some 11), none, [], [], .bin .geq false (.t 10) (.k (.sc (.int .i64 (0))))⟩] (some [0, 1, 7, 11]))
         (.cond (.t 11)
          (.keep [0, 1, 7]
           .skip)
          (.exit 0)))
        (.seq
         (.block 1
          (.reg [⟨(some 14), none, [], [], .mv (.t 0)⟩,
            ⟨(some 15), none, [], [], .mv (.t 1)⟩,
            ⟨(some 16), none, [], [], .mv (.t 7)⟩,
            ⟨(some 17), none, [], [], .bin .mul false (.k (.sc (.int .i64 (8)))) (.t 16)⟩,
            ⟨(some 18), none, [], [], .bin .shr false (.t 15) (.t 17)⟩,
            ⟨(some 19), none, [], [], .cvi .u8 (.t 18)⟩,
            ⟨(some 20), none, [], [], .bsl 1 1 [(.sc (.int .u8 (0)))] [(0, 1, (.t 19))]⟩,
            ⟨(some 21), none, [], [], .app 1 1 (.t 14) (.t 20)⟩,
            ⟨(some 0), none, [], [], .mv (.t 21)⟩] (some [0, 1, 7])))
         (.reg [⟨(some 12), none, [], [], .mv (.t 7)⟩,
           ⟨(some 13), none, [], [], .bin .sub false (.t 12) (.k (.sc (.int .i64 (1))))⟩,
           ⟨(some 7), none, [], [], .mv (.t 13)⟩] (some [0, 1, 7])))))))
    (.seq
     (.reg [⟨(some 22), none, [], [], .mv (.t 0)⟩,
       ⟨(some 6), none, [], [], .mv (.t 22)⟩] (some [6]))
     .ret)))
theorem b24 : cmpG Try.prog 24 = some (strip a24, r24, 23) := by kernel_rfl

abbrev r25 : List AR := [.t 2]
abbrev a25 : ACode :=
  (.seq
   (.reg [⟨(some 2), none, [], [], .mv (.k .nl)⟩] (some [0]))
   (.seq
    (.reg [⟨(some 3), none, [], [], .mv (.t 0)⟩,
      ⟨(some 4), none, [], [], .cal (.k (.fn 32 [])) [(.t 3)]⟩,
      ⟨(some 5), none, [], [], .mv (.t 0)⟩,
      ⟨(some 6), none, [], [], .cal (.k (.fn 46 [])) [(.t 5)]⟩,
      ⟨(some 7), none, [], [], .cal (.k (.fn 45 [])) [(.t 6)]⟩,
      ⟨(some 8), none, [], [], .app 1 1 (.t 4) (.t 7)⟩,
      ⟨(some 2), none, [], [], .mv (.t 8)⟩] (some [2]))
    .ret))
theorem b25 : cmpG Try.prog 25 = some (strip a25, r25, 9) := by kernel_rfl

abbrev r26 : List AR := [.t 4]
abbrev a26 : ACode :=
  (.seq
   (.reg [⟨(some 3), none, [], [], .box (.t 1)⟩,
     ⟨(some 4), none, [], [], .mv (.k .nl)⟩] (some [0, 3]))
   (.seq
    (.seq
     (.reg [⟨(some 7), none, [], [], .fa 0 (.t 3)⟩,
       ⟨(some 8), none, [], [], .ld false 1 (.t 7)⟩] (some [0, 3, 8]))
     (.block 0
      (.seq
       (.seq
        (.reg [⟨(some 10), none, [], [], .bin .eql false (.t 8) (.k (.sc (.int .i64 (1))))⟩,
          ⟨(some 9), none, [], [], .mv (.t 10)⟩] (some [0, 3, 8, 9]))
        (.cond (.t 9)
         .skip
         (.keep [0, 3, 8]
          (.reg [⟨(some 11), none, [], [], .bin .eql false (.t 8) (.k (.sc (.int .i64 (5))))⟩,
            ⟨(some 9), none, [], [], .mv (.t 11)⟩] (some [0, 3, 8, 9])))))
       (.cond (.t 9)
        (.keep [0, 3]
         (.seq
          (.regD [⟨(some 12), none, [(.t 0)], [], .mv (.t 0)⟩,
            ⟨(some 13), none, [(.t 3)], [0], .fa 20 (.t 3)⟩,
            ⟨(some 14), none, [(.t 13)], [0], .ld false 1 (.t 13)⟩,
            ⟨(some 15), none, [(.k (.fn 24 [])), (.t 12), (.t 14), (.k (.sc (.int .i64 (8))))], [], .calG [0] (.k (.fn 24 [])) [(.t 12), (.t 14), (.k (.sc (.int .i64 (8))))]⟩,
            ⟨(some 16), none, [(.t 3)], [0, 1, 2, 3], .fa 21 (.t 3)⟩,
            ⟨(some 17), none, [(.t 16)], [0, 1, 2, 3], .slA 32 1 none none (.t 16)⟩,
            ⟨(some 18), none, [(.t 15), (.t 17)], [], .app 1 1 (.t 15) (.t 17)⟩,
            ⟨(some 4), none, [(.t 18)], [], .mv (.t 18)⟩] (some [4]))
          .ret))
        (.keep [0, 3, 8]
         (.seq
          (.reg [⟨(some 20), none, [], [], .bin .eql false (.t 8) (.k (.sc (.int .i64 (6))))⟩,
            ⟨(some 19), none, [], [], .mv (.t 20)⟩] (some [0, 3, 8, 19]))
          (.cond (.t 19)
           (.keep [0, 3]
            (.seq
             (.reg [⟨(some 21), none, [], [], .mv (.t 0)⟩,
               ⟨(some 22), none, [], [], .fa 20 (.t 3)⟩,
               ⟨(some 23), none, [], [], .ld false 1 (.t 22)⟩,
               ⟨(some 24), none, [], [], .calG [0] (.k (.fn 24 [])) [(.t 21), (.t 23), (.k (.sc (.int .i64 (8))))]⟩,
               ⟨(some 4), none, [], [], .mv (.t 24)⟩] (some [4]))
             .ret))
           (.keep [0, 3, 8]
            (.seq
             (.reg [⟨(some 26), none, [], [], .bin .eql false (.t 8) (.k (.sc (.int .i64 (7))))⟩,
               ⟨(some 25), none, [], [], .mv (.t 26)⟩] (some [0, 3, 25]))
             (.cond (.t 25)
              (.keep [0, 3]
               (.seq
                (.reg [⟨(some 27), none, [], [], .mv (.t 0)⟩,
                  ⟨(some 28), none, [], [], .fa 55 (.t 3)⟩,
                  ⟨(some 29), none, [], [], .ld false 1 (.t 28)⟩,
                  ⟨(some 30), none, [], [], .cvi .u8 (.t 29)⟩,
                  ⟨(some 31), none, [], [], .bsl 1 1 [(.sc (.int .u8 (0)))] [(0, 1, (.t 30))]⟩,
                  ⟨(some 32), none, [], [], .app 1 1 (.t 27) (.t 31)⟩,
                  ⟨(some 4), none, [], [], .mv (.t 32)⟩] (some [4]))
                .ret))
              (.keep [0, 3]
               .skip)))))))))))
    (.seq
     (.regD [⟨(some 33), none, [(.t 0)], [], .mv (.t 0)⟩,
       ⟨(some 34), none, [(.t 3)], [0], .fa 19 (.t 3)⟩,
       ⟨(some 35), none, [(.t 34)], [0], .ld false 1 (.t 34)⟩,
       ⟨(some 36), none, [(.k (.fn 24 [])), (.t 33), (.t 35), (.k (.sc (.int .i64 (8))))], [], .calG [0] (.k (.fn 24 [])) [(.t 33), (.t 35), (.k (.sc (.int .i64 (8))))]⟩,
       ⟨(some 37), none, [(.t 3)], [0, 1, 2, 3], .fa 53 (.t 3)⟩,
       ⟨(some 38), none, [(.t 37)], [0, 1, 2, 3], .ld false 1 (.t 37)⟩,
       ⟨(some 39), none, [(.t 36), (.t 38)], [], .app 1 1 (.t 36) (.t 38)⟩,
       ⟨(some 0), none, [(.t 39)], [], .mv (.t 39)⟩] (some [0, 3]))
     (.seq
      (.seq
       (.reg [⟨(some 40), none, [], [], .fa 54 (.t 3)⟩,
         ⟨(some 41), none, [], [], .ld false 1 (.t 40)⟩,
         ⟨(some 42), none, [], [], .lenL (.t 41)⟩,
         ⟨(some 43), none, [], [], .mv (.k (.sc (.int .i64 (0))))⟩] (some [0, 41, 42, 43]))
       (.block 1
        (.loop
         (.seq
          (.reg [⟨(some 44), none, [], [], .bin .lss false (.t 43) (.t 42)⟩] none)
          (.seq
           (.cond (.t 44)
            (.keep [0, 41, 42, 43]
             .skip)
            (.exit 1))
           (.seq
            (.block 2
             (.seq
              (.reg [⟨(some 45), none, [], [], .ixaS 2 (.t 41) (.t 43)⟩,
                ⟨(some 46), none, [], [], .ld true 2 (.t 45)⟩,
                ⟨(some 6), none, [], [], .alc [(.sc (.int .u64 (0))), (.sc (.int .u64 (0)))]⟩,
                ⟨none, none, [], [], .sto 2 (.t 6) (.t 46)⟩] (some [0, 6, 41, 42, 43]))
              (.regD [⟨(some 47), none, [(.t 0)], [], .mv (.t 0)⟩,
                ⟨(some 48), none, [(.t 6)], [0], .fa 0 (.t 6)⟩,
                ⟨(some 49), none, [(.t 48)], [0], .ld false 1 (.t 48)⟩,
                ⟨(some 50), none, [(.k (.fn 24 [])), (.t 47), (.t 49), (.k (.sc (.int .i64 (8))))], [], .calG [0] (.k (.fn 24 [])) [(.t 47), (.t 49), (.k (.sc (.int .i64 (8))))]⟩,
                ⟨(some 51), none, [(.t 6)], [0, 1, 2, 3], .fa 1 (.t 6)⟩,
                ⟨(some 52), none, [(.t 51)], [0, 1, 2, 3], .ld false 1 (.t 51)⟩,
                ⟨(some 53), none, [(.k (.fn 24 [])), (.t 50), (.t 52), (.k (.sc (.int .i64 (8))))], [], .calG [0] (.k (.fn 24 [])) [(.t 50), (.t 52), (.k (.sc (.int .i64 (8))))]⟩,
                ⟨(some 0), none, [(.t 53)], [], .mv (.t 53)⟩] (some [0, 41, 42, 43]))))
            (.reg [⟨(some 54), none, [], [], .bin .add false (.t 43) (.k (.sc (.int .i64 (1))))⟩,
              ⟨(some 43), none, [], [], .mv (.t 54)⟩] (some [0, 41, 42, 43]))))))))
      (.seq
       (.reg [⟨(some 55), none, [], [], .mv (.t 0)⟩,
         ⟨(some 4), none, [], [], .mv (.t 55)⟩] (some [4]))
       .ret)))))
theorem b26 : cmpG Try.prog 26 = some (strip a26, r26, 56) := by kernel_rfl

abbrev r27 : List AR := [.t 2]
abbrev a27 : ACode :=
  (.seq
   (.reg [⟨(some 1), none, [], [], .box (.t 0)⟩,
     ⟨(some 2), none, [], [], .mv (.k (.sc (.int .i64 (0))))⟩] (some [1]))
   (.seq
    (.seq
     (.reg [⟨(some 3), none, [], [], .fa 0 (.t 1)⟩,
       ⟨(some 4), none, [], [], .ld false 1 (.t 3)⟩,
       ⟨(some 5), none, [], [], .bin .lss false (.t 4) (.k (.sc (.int .i64 (1))))⟩,
       ⟨(some 6), none, [], [], .mv (.t 5)⟩,
       ⟨(some 7), (some (6, false)), [], [], .fa 0 (.t 1)⟩,
       ⟨(some 8), (some (6, false)), [], [], .ld false 1 (.t 7)⟩,
       ⟨(some 9), (some (6, false)), [], [], .bin .gtr false (.t 8) (.k (.sc (.int .i64 (7))))⟩,
       ⟨(some 10), none, [], [], .pick (.t 6) (.k (.sc (.bool true))) (.t 9)⟩] (some [1, 10]))
     (.cond (.t 10)
      (.keep []
       (.seq
        (.reg [⟨(some 2), none, [], [], .mv (.k (.sc (.int .i64 (11))))⟩] none)
        .ret))
      (.keep [1]
       .skip)))
    (.seq
     (.seq
      (.reg [⟨(some 11), none, [], [], .fa 0 (.t 1)⟩,
        ⟨(some 12), none, [], [], .ld false 1 (.t 11)⟩,
        ⟨(some 13), none, [], [], .bin .eql false (.t 12) (.k (.sc (.int .i64 (3))))⟩,
        ⟨(some 14), none, [], [], .mv (.t 13)⟩,
        ⟨(some 15), (some (14, true)), [], [], .fa 53 (.t 1)⟩,
        ⟨(some 16), (some (14, true)), [], [], .ld false 1 (.t 15)⟩,
        ⟨(some 17), (some (14, true)), [], [], .lenL (.t 16)⟩,
        ⟨(some 18), (some (14, true)), [], [], .bin .eql false (.t 17) (.k (.sc (.int .i64 (0))))⟩,
        ⟨(some 19), none, [], [], .pick (.t 14) (.t 18) (.k (.sc (.bool false)))⟩] (some [1, 19]))
      (.cond (.t 19)
       (.keep []
        (.seq
         (.reg [⟨(some 2), none, [], [], .mv (.k (.sc (.int .i64 (4))))⟩] none)
         .ret))
       (.keep [1]
        .skip)))
     (.seq
      (.seq
       (.reg [⟨(some 20), none, [], [], .fa 0 (.t 1)⟩,
         ⟨(some 21), none, [], [], .ld false 1 (.t 20)⟩,
         ⟨(some 22), none, [], [], .bin .eql false (.t 21) (.k (.sc (.int .i64 (3))))⟩,
         ⟨(some 23), none, [], [], .mv (.t 22)⟩,
         ⟨(some 24), (some (23, true)), [], [], .fa 53 (.t 1)⟩,
         ⟨(some 25), (some (23, true)), [], [], .ld false 1 (.t 24)⟩,
         ⟨(some 26), (some (23, true)), [], [], .lenL (.t 25)⟩,
         ⟨(some 27), (some (23, true)), [], [], .bin .gtr false (.t 26) (.k (.sc (.int .i64 (256))))⟩,
         ⟨(some 28), none, [], [], .pick (.t 23) (.t 27) (.k (.sc (.bool false)))⟩] (some [1, 28]))
       (.cond (.t 28)
        (.keep []
         (.seq
          (.reg [⟨(some 2), none, [], [], .mv (.k (.sc (.int .i64 (10))))⟩] none)
          .ret))
        (.keep [1]
         .skip)))
      (.seq
       (.seq
        (.reg [⟨(some 29), none, [], [], .fa 0 (.t 1)⟩,
          ⟨(some 30), none, [], [], .ld false 1 (.t 29)⟩,
          ⟨(some 31), none, [], [], .bin .eql false (.t 30) (.k (.sc (.int .i64 (4))))⟩,
          ⟨(some 32), none, [], [], .mv (.t 31)⟩,
          ⟨(some 33), (some (32, true)), [], [], .fa 54 (.t 1)⟩,
          ⟨(some 34), (some (32, true)), [], [], .ld false 1 (.t 33)⟩,
          ⟨(some 35), (some (32, true)), [], [], .lenL (.t 34)⟩,
          ⟨(some 36), (some (32, true)), [], [], .bin .gtr false (.t 35) (.k (.sc (.int .i64 (4))))⟩,
          ⟨(some 37), none, [], [], .pick (.t 32) (.t 36) (.k (.sc (.bool false)))⟩] (some [1, 37]))
        (.cond (.t 37)
         (.keep []
          (.seq
           (.reg [⟨(some 2), none, [], [], .mv (.k (.sc (.int .i64 (5))))⟩] none)
           .ret))
         (.keep [1]
          .skip)))
       (.seq
        (.seq
         (.reg (⟨(some 38), none, [], [], .fa 0 (.t 1)⟩ ::
           ⟨(some 39), none, [], [], .ld false 1 (.t 38)⟩ ::
           ⟨(some 40), none, [], [], .bin .eql false (.t 39) (.k (.sc (.int .i64 (4))))⟩ ::
           ⟨(some 41), none, [], [], .mv (.t 40)⟩ ::
           ⟨(some 42), (some (41, true)), [], [], .fa 19 (.t 1)⟩ ::
           ⟨(some 43), (some (41, true)), [], [], .ld false 1 (.t 42)⟩ ::
           ⟨(some 44), (some (41, true)), [], [], .fa 54 (.t 1)⟩ ::
           ⟨(some 45), (some (41, true)), [], [], .ld false 1 (.t 44)⟩ ::
           ⟨(some 46), (some (41, true)), [], [], .cal (.k (.fn 17 [])) [(.t 43), (.t 45)]⟩ ::
           ⟨(some 47), (some (41, true)), [], [], .un .not (.t 46)⟩ ::
           ⟨(some 48), none, [], [], .pick (.t 41) (.t 47) (.k (.sc (.bool false)))⟩ ::
           ⟨(some 49), none, [], [], .mv (.t 48)⟩ ::
           ⟨(some 50), (some (49, false)), [], [], .fa 0 (.t 1)⟩ ::
           ⟨(some 51), (some (49, false)), [], [], .ld false 1 (.t 50)⟩ ::
           ⟨(some 52), (some (49, false)), [], [], .bin .eql false (.t 51) (.k (.sc (.int .i64 (7))))⟩ ::
           ⟨(some 53), (some (49, false)), [], [], .mv (.t 52)⟩ ::
           ⟨(some 54), (some (53, true)), [], [], .fa 55 (.t 1)⟩ ::
           ⟨(some 55), (some (53, true)), [], [], .ld false 1 (.t 54)⟩ ::
           ⟨(some 56), (some (53, true)), [], [], .bin .lss false (.t 55) (.k (.sc (.int .i64 (1))))⟩ ::
           ⟨(some 57), (some (53, true)), [], [], .mv (.t 56)⟩ ::
           ⟨(some 58), (some (57, false)), [], [], .fa 55 (.t 1)⟩ ::
           ⟨(some 59), (some (57, false)), [], [], .ld false 1 (.t 58)⟩ ::
           ⟨(some 60), (some (57, false)), [], [], .bin .gtr false (.t 59) (.k (.sc (.int .i64 (99))))⟩ ::
           ⟨(some 61), (some (53, true)), [], [], .pick (.t 57) (.k (.sc (.bool true))) (.t 60)⟩ ::
           ⟨(some 62), (some (49, false)), [], [], .pick (.t 53) (.t 61) (.k (.sc (.bool false)))⟩ ::
           ⟨(some 63), none, [], [], .pick (.t 49) (.k (.sc (.bool true))) (.t 62)⟩ :: []) (some [63]))
         (.cond (.t 63)
          (.keep []
           (.seq
            (.reg [⟨(some 2), none, [], [], .mv (.k (.sc (.int .i64 (3))))⟩] none)
            .ret))
          (.keep []
           .skip)))
        (.seq
         (.reg [⟨(some 2), none, [], [], .mv (.k (.sc (.int .i64 (0))))⟩] none)
         .ret)))))))
theorem b27 : cmpG Try.prog 27 = some (strip a27, r27, 64) := by kernel_rfl

abbrev r28 : List AR := [.t 2]
abbrev a28 : ACode :=
  (.seq
   (.reg [⟨(some 1), none, [], [], .box (.t 0)⟩,
     ⟨(some 2), none, [], [], .mv (.k (.sc (.int .u8 (0))))⟩] (some [1]))
   (.seq
    (.reg [⟨(some 3), none, [], [], .fa 0 (.t 1)⟩,
      ⟨(some 4), none, [], [], .ld false 1 (.t 3)⟩,
      ⟨(some 5), none, [], [], .bin .rem false (.t 4) (.k (.sc (.int .u32 (4))))⟩,
      ⟨(some 6), none, [], [], .fa 1 (.t 1)⟩,
      ⟨(some 7), none, [], [], .ld false 1 (.t 6)⟩,
      ⟨(some 8), none, [], [], .bin .rem false (.t 7) (.k (.sc (.int .u32 (4))))⟩,
      ⟨(some 9), none, [], [], .bin .add false (.t 5) (.t 8)⟩,
      ⟨(some 10), none, [], [], .bin .rem false (.t 9) (.k (.sc (.int .u32 (4))))⟩,
      ⟨(some 11), none, [], [], .cvi .u8 (.t 10)⟩,
      ⟨(some 2), none, [], [], .mv (.t 11)⟩] (some [2]))
    .ret))
theorem b28 : cmpG Try.prog 28 = some (strip a28, r28, 12) := by kernel_rfl

abbrev r30 : List AR := [.t 4]
abbrev a30 : ACode :=
  (.seq
   (.reg [⟨(some 4), none, [], [], .mv (.k (.sc (.bool false)))⟩] (some [0, 1]))
   (.seq
    (.reg [⟨(some 5), none, [], [], .mv (.t 0)⟩,
      ⟨(some 6), none, [], [], .cvb (.t 5)⟩,
      ⟨(some 7), none, [], [], .mv (.t 1)⟩,
      ⟨(some 8), none, [], [], .cvb (.t 7)⟩,
      ⟨(some 9), none, [], [], .bin .eql false (.t 6) (.t 8)⟩,
      ⟨(some 4), none, [], [], .mv (.t 9)⟩] (some [4]))
    .ret))
theorem b30 : cmpG Try.prog 30 = some (strip a30, r30, 10) := by kernel_rfl

abbrev r31 : List AR := [.t 4]
abbrev a31 : ACode :=
  (.seq
   (.reg [⟨(some 4), none, [], [], .mv (.k (.sc (.bool false)))⟩] (some [0, 1]))
   (.seq
    (.seq
     (.reg [⟨(some 6), none, [], [], .mv (.t 0)⟩,
       ⟨(some 7), none, [], [], .lenL (.t 6)⟩,
       ⟨(some 8), none, [], [], .mv (.t 1)⟩,
       ⟨(some 9), none, [], [], .lenL (.t 8)⟩,
       ⟨(some 10), none, [], [], .bin .neq false (.t 7) (.t 9)⟩] (some [0, 1, 10]))
     (.cond (.t 10)
      (.keep []
       (.seq
        (.reg [⟨(some 4), none, [], [], .mv (.k (.sc (.bool false)))⟩] none)
        .ret))
      (.keep [0, 1]
       .skip)))
    (.seq
     (.seq
      (.reg [⟨(some 11), none, [], [], .mv (.t 0)⟩,
        ⟨(some 12), none, [], [], .lenL (.t 11)⟩,
        ⟨(some 13), none, [], [], .mv (.k (.sc (.int .i64 (0))))⟩] (some [0, 1, 12, 13]))
      (.block 0
       (.loop
        (.seq
         (.reg [⟨(some 14), none, [], [], .bin .lss false (.t 13) (.t 12)⟩] none)
         (.seq
          (.cond (.t 14)
           (.keep [0, 1, 12, 13]
            .skip)
           (.exit 0))
          (.seq
           (.block 1
            (.seq
             (.reg [⟨(some 15), none, [], [], .mv (.t 13)⟩,
               ⟨(some 5), none, [], [], .mv (.t 15)⟩] (some [0, 1, 5, 12, 13]))
             (.seq
              (.regD [⟨(some 16), none, [(.t 0)], [], .mv (.t 0)⟩,
                ⟨(some 17), none, [(.t 5)], [0], .mv (.t 5)⟩,
                ⟨(some 18), none, [(.t 16), (.t 17)], [], .ixaS 2 (.t 16) (.t 17)⟩,
                ⟨(some 19), none, [(.t 18)], [], .ld true 2 (.t 18)⟩,
                ⟨(some 20), none, [(.t 1)], [0, 1, 2, 3], .mv (.t 1)⟩,
                ⟨(some 21), none, [(.t 5)], [0, 1, 2, 3, 4], .mv (.t 5)⟩,
                ⟨(some 22), none, [(.t 20), (.t 21)], [0, 1, 2, 3], .ixaS 2 (.t 20) (.t 21)⟩,
                ⟨(some 23), none, [(.t 22)], [0, 1, 2, 3], .ld true 2 (.t 22)⟩,
                ⟨(some 24), none, [(.t 19), (.t 23)], [], .aeq true 2 [.i, .i] (.t 19) (.t 23)⟩] (some [0, 1, 12, 13, 24]))
              (.cond (.t 24)
               (.keep []
                (.seq
                 (.reg [⟨(some 4), none, [], [], .mv (.k (.sc (.bool false)))⟩] none)
                 .ret))
               (.keep [0, 1, 12, 13]
                .skip)))))
           (.reg [⟨(some 25), none, [], [], .bin .add false (.t 13) (.k (.sc (.int .i64 (1))))⟩,
             ⟨(some 13), none, [], [], .mv (.t 25)⟩] (some [0, 1, 12, 13]))))))))
     (.seq
      (.reg [⟨(some 4), none, [], [], .mv (.k (.sc (.bool true)))⟩] (some [4]))
      .ret))))
theorem b31 : cmpG Try.prog 31 = some (strip a31, r31, 26) := by kernel_rfl

abbrev r32 : List AR := [.t 2]
abbrev a32 : ACode :=
  (.seq
   (.reg [⟨(some 2), none, [], [], .mv (.k .nl)⟩] (some [0]))
   (.seq
    (.seq
     (.reg [⟨(some 3), none, [], [], .mv (.t 0)⟩,
       ⟨(some 4), none, [], [], .nil true (.t 3) (.k .nl)⟩] (some [0, 4]))
     (.cond (.t 4)
      (.keep []
       (.seq
        (.reg [⟨(some 2), none, [], [], .mv (.k .nl)⟩] none)
        .ret))
      (.keep [0]
       .skip)))
    (.seq
     (.reg [⟨(some 5), none, [], [], .bsl 0 1 [] []⟩,
       ⟨(some 6), none, [], [], .mv (.t 0)⟩,
       ⟨(some 7), none, [], [], .app 1 1 (.t 5) (.t 6)⟩,
       ⟨(some 2), none, [], [], .mv (.t 7)⟩] (some [2]))
     .ret)))
theorem b32 : cmpG Try.prog 32 = some (strip a32, r32, 8) := by kernel_rfl

abbrev r33 : List AR := [.t 2]
abbrev a33 : ACode :=
  (.seq
   (.reg [⟨(some 2), none, [], [], .mv (.k .nl)⟩] (some [0]))
   (.seq
    (.seq
     (.reg [⟨(some 3), none, [], [], .mv (.t 0)⟩,
       ⟨(some 4), none, [], [], .nil true (.t 3) (.k .nl)⟩] (some [0, 4]))
     (.cond (.t 4)
      (.keep []
       (.seq
        (.reg [⟨(some 2), none, [], [], .mv (.k .nl)⟩] none)
        .ret))
      (.keep [0]
       .skip)))
    (.seq
     (.reg [⟨(some 5), none, [], [], .bsl 0 2 [] []⟩,
       ⟨(some 6), none, [], [], .mv (.t 0)⟩,
       ⟨(some 7), none, [], [], .app 2 16 (.t 5) (.t 6)⟩,
       ⟨(some 2), none, [], [], .mv (.t 7)⟩] (some [2]))
     .ret)))
theorem b33 : cmpG Try.prog 33 = some (strip a33, r33, 8) := by kernel_rfl

abbrev r34 : List AR := [.t 2]
abbrev a34 : ACode :=
  (.seq
   (.reg [⟨(some 2), none, [], [], .mv (.k (.sc (.int .u32 (0))))⟩] (some [0]))
   (.seq
    (.reg [⟨(some 3), none, [], [], .mv (.k (.sc (.int .u32 (4294967295))))⟩] none)
    (.seq
     (.seq
      (.reg [⟨(some 4), none, [], [], .mv (.k (.sc (.int .i64 (0))))⟩] none)
      (.block 0
       (.loop
        (.seq
         (.seq
          (.reg [⟨(some 5), none, [], [], .mv (.t 4)⟩,
            ⟨(some 6), none, [], [], .mv (.t 0)⟩,
            ⟨(some 7), none, [], [], .lenL (.t 6)⟩,
            ⟨(some 8), none, [], [], .bin .lss false (.t 5) (.t 7)⟩] (some [0, 3, 4, 8]))
          (.cond (.t 8)
           (.keep [0, 3, 4]
            .skip)
           (.exit 0)))
         (.seq
          (.block 1
           (.reg [⟨(some 11), none, [], [], .mv (.t 3)⟩,
             ⟨(some 12), none, [], [], .mv (.t 0)⟩,
             ⟨(some 13), none, [], [], .mv (.t 4)⟩,
             ⟨(some 14), none, [], [], .ixaS 1 (.t 12) (.t 13)⟩,
             ⟨(some 15), none, [], [], .ld false 1 (.t 14)⟩,
             ⟨(some 16), none, [], [], .cal (.k (.fn 47 [])) [(.t 11), (.t 15)]⟩,
             ⟨(some 3), none, [], [], .mv (.t 16)⟩] (some [0, 3, 4])))
          (.reg [⟨(some 9), none, [], [], .mv (.t 4)⟩,
            ⟨(some 10), none, [], [], .bin .add false (.t 9) (.k (.sc (.int .i64 (1))))⟩,
            ⟨(some 4), none, [], [], .mv (.t 10)⟩] (some [0, 3, 4])))))))
     (.seq
      (.reg [⟨(some 17), none, [], [], .mv (.t 3)⟩,
        ⟨(some 18), none, [], [], .bin .sub false (.k (.sc (.int .u32 (4294967295)))) (.t 17)⟩,
        ⟨(some 2), none, [], [], .mv (.t 18)⟩] (some [2]))
      .ret))))
theorem b34 : cmpG Try.prog 34 = some (strip a34, r34, 19) := by kernel_rfl

abbrev r35 : List AR := [.t 2, .t 3]
abbrev a35 : ACode :=
  (.seq
   (.reg [⟨(some 2), none, [], [], .mv (.k .nl)⟩,
     ⟨(some 3), none, [], [], .mv (.k (.sc (.int .i64 (0))))⟩] (some [0]))
   (.seq
    (.reg [⟨(some 5), none, [], [], .mv (.t 0)⟩,
      ⟨(some 6), none, [], [], .lenL (.t 5)⟩,
      ⟨(some 7), none, [], [], .bin .sub false (.t 6) (.k (.sc (.int .i64 (4))))⟩,
      ⟨(some 4), none, [], [], .mv (.t 7)⟩] (some [0, 4]))
    (.seq
     (.block 0
      (.seq
       (.reg [⟨(some 9), none, [], [], .mv (.t 4)⟩,
         ⟨(some 10), none, [], [], .bin .lss false (.t 9) (.k (.sc (.int .i64 (0))))⟩,
         ⟨(some 8), none, [], [], .mv (.t 10)⟩] (some [0, 4, 8]))
       (.cond (.t 8)
        (.keep []
         (.seq
          (.reg [⟨(some 2), none, [], [], .mv (.k .nl)⟩,
            ⟨(some 3), none, [], [], .mv (.k (.sc (.int .i64 (4))))⟩] none)
          .ret))
        (.keep [0, 4]
         (.seq
          (.regD [⟨(some 12), none, [(.t 0)], [], .mv (.t 0)⟩,
            ⟨(some 13), none, [(.t 4)], [0], .mv (.t 4)⟩,
            ⟨(some 14), none, [(.t 12), (.t 13)], [], .slL 1 none (some (.t 13)) none (.t 12)⟩,
            ⟨(some 15), none, [(.k (.fn 46 [])), (.t 14)], [], .cal (.k (.fn 46 [])) [(.t 14)]⟩,
            ⟨(some 16), none, [(.k (.fn 45 [])), (.t 15)], [], .cal (.k (.fn 45 [])) [(.t 15)]⟩,
            ⟨(some 17), none, [(.t 0)], [0, 1, 2, 3, 4], .mv (.t 0)⟩,
            ⟨(some 18), none, [(.t 4)], [0, 1, 2, 3, 4, 5], .mv (.t 4)⟩,
            ⟨(some 19), none, [(.t 17), (.t 18)], [0, 1, 2, 3, 4], .slL 1 (some (.t 18)) none none (.t 17)⟩,
            ⟨(some 20), none, [(.k (.fn 30 [])), (.t 16), (.t 19)], [], .cal (.k (.fn 30 [])) [(.t 16), (.t 19)]⟩,
            ⟨(some 21), none, [(.t 20)], [], .un .not (.t 20)⟩,
            ⟨(some 11), none, [(.t 21)], [], .mv (.t 21)⟩] (some [0, 4, 11]))
          (.cond (.t 11)
           (.keep []
            (.seq
             (.reg [⟨(some 2), none, [], [], .mv (.k .nl)⟩,
               ⟨(some 3), none, [], [], .mv (.k (.sc (.int .i64 (9))))⟩] none)
             .ret))
           (.keep [0, 4]
            .skip)))))))
     (.seq
      (.reg [⟨(some 22), none, [], [], .mv (.t 0)⟩,
        ⟨(some 23), none, [], [], .mv (.t 4)⟩,
        ⟨(some 24), none, [], [], .slL 1 none (some (.t 23)) none (.t 22)⟩,
        ⟨(some 25), none, [], [], .cal (.k (.fn 32 [])) [(.t 24)]⟩,
        ⟨(some 2), none, [], [], .mv (.t 25)⟩,
        ⟨(some 3), none, [], [], .mv (.k (.sc (.int .i64 (0))))⟩] (some [2, 3]))
      .ret))))
theorem b35 : cmpG Try.prog 35 = some (strip a35, r35, 26) := by kernel_rfl

abbrev r36 : List AR := [.t 4]
abbrev a36 : ACode :=
  (.seq
   (.reg [⟨(some 4), none, [], [], .mv (.k (.sc (.bool false)))⟩] (some [0, 1]))
   (.seq
    (.reg [⟨(some 5), none, [], [], .mv (.t 0)⟩,
      ⟨(some 6), none, [], [], .lenL (.t 5)⟩,
      ⟨(some 7), none, [], [], .mv (.t 1)⟩,
      ⟨(some 8), none, [], [], .lenL (.t 7)⟩,
      ⟨(some 9), none, [], [], .bin .geq false (.t 6) (.t 8)⟩,
      ⟨(some 10), none, [], [], .mv (.t 9)⟩,
      ⟨(some 11), (some (10, true)), [], [], .mv (.t 0)⟩,
      ⟨(some 12), (some (10, true)), [], [], .mv (.t 1)⟩,
      ⟨(some 13), (some (10, true)), [], [], .lenL (.t 12)⟩,
      ⟨(some 14), (some (10, true)), [], [], .slL 1 none (some (.t 13)) none (.t 11)⟩,
      ⟨(some 15), (some (10, true)), [], [], .mv (.t 1)⟩,
      ⟨(some 16), (some (10, true)), [], [], .cal (.k (.fn 30 [])) [(.t 14), (.t 15)]⟩,
      ⟨(some 17), none, [], [], .pick (.t 10) (.t 16) (.k (.sc (.bool false)))⟩,
      ⟨(some 4), none, [], [], .mv (.t 17)⟩] (some [4]))
    .ret))
theorem b36 : cmpG Try.prog 36 = some (strip a36, r36, 18) := by kernel_rfl

abbrev r37 : List AR := [.t 4]
abbrev a37 : ACode :=
  (.seq
   (.reg [⟨(some 4), none, [], [], .mv (.k (.sc (.int .u64 (0))))⟩] (some [0, 1]))
   (.seq
    (.reg [⟨(some 5), none, [], [], .mv (.k (.sc (.int .u64 (0))))⟩] none)
    (.seq
     (.seq
      (.reg [⟨(some 8), none, [], [], .mv (.t 0)⟩,
        ⟨(some 9), none, [], [], .mv (.t 1)⟩,
        ⟨(some 10), none, [], [], .calG [0] (.k (.fn 38 [])) [(.t 8), (.t 9)]⟩,
        ⟨(some 11), none, [], [], .lenL (.t 10)⟩,
        ⟨(some 12), none, [], [], .mv (.k (.sc (.int .i64 (0))))⟩] (some [5, 10, 11, 12]))
      (.block 0
       (.loop
        (.seq
         (.reg [⟨(some 13), none, [], [], .bin .lss false (.t 12) (.t 11)⟩] none)
         (.seq
          (.cond (.t 13)
           (.keep [5, 10, 11, 12]
            .skip)
           (.exit 0))
          (.seq
           (.block 1
            (.seq
             (.reg [⟨(some 14), none, [], [], .ixaS 1 (.t 10) (.t 12)⟩,
               ⟨(some 15), none, [], [], .ld false 1 (.t 14)⟩,
               ⟨(some 7), none, [], [], .mv (.t 15)⟩] (some [5, 7, 10, 11, 12]))
             (.reg [⟨(some 16), none, [], [], .mv (.t 5)⟩,
               ⟨(some 17), none, [], [], .bin .shl false (.t 16) (.k (.sc (.int .u64 (8))))⟩,
               ⟨(some 18), none, [], [], .mv (.t 7)⟩,
               ⟨(some 19), none, [], [], .cvi .u64 (.t 18)⟩,
               ⟨(some 20), none, [], [], .bin .or false (.t 17) (.t 19)⟩,
               ⟨(some 5), none, [], [], .mv (.t 20)⟩] (some [5, 10, 11, 12]))))
           (.reg [⟨(some 21), none, [], [], .bin .add false (.t 12) (.k (.sc (.int .i64 (1))))⟩,
             ⟨(some 12), none, [], [], .mv (.t 21)⟩] (some [5, 10, 11, 12]))))))))
     (.seq
      (.reg [⟨(some 22), none, [], [], .mv (.t 5)⟩,
        ⟨(some 4), none, [], [], .mv (.t 22)⟩] (some [4]))
      .ret))))
theorem b37 : cmpG Try.prog 37 = some (strip a37, r37, 23) := by kernel_rfl

abbrev r38 : List AR := [.t 4]
abbrev a38 : ACode :=
  (.seq
   (.reg [⟨(some 4), none, [], [], .mv (.k .nl)⟩] (some [0, 1]))
   (.seq
    (.seq
     (.reg [⟨(some 6), none, [], [], .mv (.t 0)⟩,
       ⟨(some 7), none, [], [], .nck (.t 6)⟩,
       ⟨(some 8), none, [], [], .fa 0 (.t 7)⟩,
       ⟨(some 9), none, [], [], .ld false 1 (.t 8)⟩,
       ⟨(some 10), none, [], [], .lenL (.t 9)⟩,
       ⟨(some 11), none, [], [], .mv (.t 1)⟩,
       ⟨(some 12), none, [], [], .bin .lss false (.t 10) (.t 11)⟩] (some [0, 1, 12]))
     (.cond (.t 12)
      (.keep [0, 1]
       (.seq
        (.reg [⟨(some 13), none, [], [], .mv (.t 0)⟩,
          ⟨(some 14), none, [], [], .nck (.t 13)⟩,
          ⟨(some 15), none, [], [], .fa 1 (.t 14)⟩,
          ⟨none, none, [], [], .sto 1 (.t 15) (.k (.sc (.bool true)))⟩] (some [0, 1]))
        (.seq
         (.reg [⟨(some 16), none, [], [], .mv (.t 0)⟩,
           ⟨(some 17), none, [], [], .nck (.t 16)⟩,
           ⟨(some 18), none, [], [], .fa 0 (.t 17)⟩,
           ⟨none, none, [], [], .sto 1 (.t 18) (.k .nl)⟩] (some [1]))
         (.seq
          (.reg [⟨(some 19), none, [], [], .mv (.t 1)⟩,
            ⟨(some 20), none, [], [], .mks (.sc (.int .u8 (0))) (.t 19) (.t 19)⟩,
            ⟨(some 4), none, [], [], .mv (.t 20)⟩] (some [4]))
          .ret))))
      (.keep [0, 1]
       .skip)))
    (.seq
     (.reg [⟨(some 21), none, [], [], .mv (.t 0)⟩,
       ⟨(some 22), none, [], [], .nck (.t 21)⟩,
       ⟨(some 23), none, [], [], .fa 0 (.t 22)⟩,
       ⟨(some 24), none, [], [], .ld false 1 (.t 23)⟩,
       ⟨(some 25), none, [], [], .mv (.t 1)⟩,
       ⟨(some 26), none, [], [], .slL 1 none (some (.t 25)) none (.t 24)⟩,
       ⟨(some 5), none, [], [], .mv (.t 26)⟩] (some [0, 1, 5]))
     (.seq
      (.reg [⟨(some 27), none, [], [], .mv (.t 0)⟩,
        ⟨(some 28), none, [], [], .mv (.t 0)⟩,
        ⟨(some 29), none, [], [], .nck (.t 28)⟩,
        ⟨(some 30), none, [], [], .fa 0 (.t 29)⟩,
        ⟨(some 31), none, [], [], .ld false 1 (.t 30)⟩,
        ⟨(some 32), none, [], [], .mv (.t 1)⟩,
        ⟨(some 33), none, [], [], .slL 1 (some (.t 32)) none none (.t 31)⟩,
        ⟨(some 34), none, [], [], .nck (.t 27)⟩,
        ⟨(some 35), none, [], [], .fa 0 (.t 34)⟩,
        ⟨none, none, [], [], .sto 1 (.t 35) (.t 33)⟩] (some [5]))
      (.seq
       (.reg [⟨(some 36), none, [], [], .mv (.t 5)⟩,
         ⟨(some 4), none, [], [], .mv (.t 36)⟩] (some [4]))
       .ret)))))
theorem b38 : cmpG Try.prog 38 = some (strip a38, r38, 37) := by kernel_rfl

abbrev r39 : List AR := []
abbrev a39 : ACode :=
  (.seq
   (.reg [⟨(some 6), none, [], [], .mv (.t 0)⟩,
     ⟨(some 7), none, [], [], .mkb 37 (.t 6)⟩,
     ⟨(some 4), none, [], [], .mv (.t 7)⟩] (some [0, 1, 4]))
   (.seq
    (.seq
     (.reg [⟨(some 8), none, [], [], .mv (.t 1)⟩,
       ⟨(some 9), none, [], [], .nck (.t 8)⟩,
       ⟨(some 10), none, [], [], .fa 0 (.t 9)⟩,
       ⟨(some 11), none, [], [], .ld false 1 (.t 10)⟩] (some [0, 1, 4, 11]))
     (.block 0
      (.seq
       (.seq
        (.reg [⟨(some 18), none, [], [], .bin .eql false (.t 11) (.k (.sc (.int .i64 (1))))⟩,
          ⟨(some 17), none, [], [], .mv (.t 18)⟩] (some [0, 1, 4, 11, 17]))
        (.cond (.t 17)
         .skip
         (.keep [0, 1, 4, 11]
          (.reg [⟨(some 19), none, [], [], .bin .eql false (.t 11) (.k (.sc (.int .i64 (5))))⟩,
            ⟨(some 17), none, [], [], .mv (.t 19)⟩] (some [0, 1, 4, 11, 17])))))
       (.cond (.t 17)
        (.keep [0, 1, 4]
         (.seq
          (.reg [⟨(some 20), none, [], [], .mv (.t 1)⟩,
            ⟨(some 21), none, [], [], .mv (.t 4)⟩,
            ⟨(some 22), none, [], [], .calG [0] (.t 21) [(.k (.sc (.int .i64 (8))))]⟩,
            ⟨(some 23), none, [], [], .nck (.t 20)⟩,
            ⟨(some 24), none, [], [], .fa 20 (.t 23)⟩,
            ⟨none, none, [], [], .sto 1 (.t 24) (.t 22)⟩] (some [0, 1, 4]))
          (.reg [⟨(some 25), none, [], [], .mv (.t 1)⟩,
            ⟨(some 26), none, [], [], .mv (.t 0)⟩,
            ⟨(some 27), none, [], [], .calG [0] (.k (.fn 38 [])) [(.t 26), (.k (.sc (.int .i64 (32))))]⟩,
            ⟨(some 28), none, [], [], .s2p 32 (.t 27)⟩,
            ⟨(some 29), none, [], [], .ld true 32 (.t 28)⟩,
            ⟨(some 30), none, [], [], .nck (.t 25)⟩,
            ⟨(some 31), none, [], [], .fa 21 (.t 30)⟩,
            ⟨none, none, [], [], .sto 32 (.t 31) (.t 29)⟩] (some [0, 1, 4]))))
        (.keep [0, 1, 4, 11]
         (.seq
          (.reg [⟨(some 33), none, [], [], .bin .eql false (.t 11) (.k (.sc (.int .i64 (6))))⟩,
            ⟨(some 32), none, [], [], .mv (.t 33)⟩] (some [0, 1, 4, 11, 32]))
          (.cond (.t 32)
           (.keep [0, 1, 4]
            (.reg [⟨(some 34), none, [], [], .mv (.t 1)⟩,
              ⟨(some 35), none, [], [], .mv (.t 4)⟩,
              ⟨(some 36), none, [], [], .calG [0] (.t 35) [(.k (.sc (.int .i64 (8))))]⟩,
              ⟨(some 37), none, [], [], .nck (.t 34)⟩,
              ⟨(some 38), none, [], [], .fa 20 (.t 37)⟩,
              ⟨none, none, [], [], .sto 1 (.t 38) (.t 36)⟩] (some [0, 1, 4])))
           (.keep [0, 1, 4, 11]
            (.seq
             (.reg [⟨(some 40), none, [], [], .bin .eql false (.t 11) (.k (.sc (.int .i64 (7))))⟩,
               ⟨(some 39), none, [], [], .mv (.t 40)⟩] (some [0, 1, 4, 39]))
             (.cond (.t 39)
              (.keep [0, 1, 4]
               (.reg [⟨(some 41), none, [], [], .mv (.t 1)⟩,
                 ⟨(some 42), none, [], [], .mv (.t 4)⟩,
                 ⟨(some 43), none, [], [], .calG [0] (.t 42) [(.k (.sc (.int .i64 (1))))]⟩,
                 ⟨(some 44), none, [], [], .cvi .i64 (.t 43)⟩,
                 ⟨(some 45), none, [], [], .nck (.t 41)⟩,
                 ⟨(some 46), none, [], [], .fa 55 (.t 45)⟩,
                 ⟨none, none, [], [], .sto 1 (.t 46) (.t 44)⟩] (some [0, 1, 4])))
              (.keep [0, 1, 4]
               (.reg [⟨(some 12), none, [], [], .mv (.t 1)⟩,
                 ⟨(some 13), none, [], [], .mv (.t 4)⟩,
                 ⟨(some 14), none, [], [], .calG [0] (.t 13) [(.k (.sc (.int .i64 (8))))]⟩,
                 ⟨(some 15), none, [], [], .nck (.t 12)⟩,
                 ⟨(some 16), none, [], [], .fa 19 (.t 15)⟩,
                 ⟨none, none, [], [], .sto 1 (.t 16) (.t 14)⟩] (some [0, 1, 4])))))))))))))
    (.seq
     (.reg [⟨(some 47), none, [], [], .mv (.t 1)⟩,
       ⟨(some 48), none, [], [], .nck (.t 47)⟩,
       ⟨(some 49), none, [], [], .fa 0 (.t 48)⟩,
       ⟨(some 50), none, [], [], .ld false 1 (.t 49)⟩] (some [0, 1, 4, 50]))
     (.block 1
      (.seq
       (.reg [⟨(some 52), none, [], [], .bin .eql false (.t 50) (.k (.sc (.int .i64 (3))))⟩,
         ⟨(some 51), none, [], [], .mv (.t 52)⟩] (some [0, 1, 4, 50, 51]))
       (.cond (.t 51)
        (.keep [0, 1]
         (.seq
          (.reg [⟨(some 53), none, [], [], .mv (.t 1)⟩,
            ⟨(some 54), none, [], [], .mv (.t 0)⟩,
            ⟨(some 55), none, [], [], .mv (.t 0)⟩,
            ⟨(some 56), none, [], [], .nck (.t 55)⟩,
            ⟨(some 57), none, [], [], .fa 0 (.t 56)⟩,
            ⟨(some 58), none, [], [], .ld false 1 (.t 57)⟩,
            ⟨(some 59), none, [], [], .cal (.k (.fn 32 [])) [(.t 58)]⟩,
            ⟨(some 60), none, [], [], .nck (.t 53)⟩,
            ⟨(some 61), none, [], [], .fa 53 (.t 60)⟩,
            ⟨none, none, [], [], .sto 1 (.t 61) (.t 59)⟩,
            ⟨(some 62), none, [], [], .nck (.t 54)⟩,
            ⟨(some 63), none, [], [], .fa 0 (.t 62)⟩,
            ⟨none, none, [], [], .sto 1 (.t 63) (.k .nl)⟩] (some [0, 1]))
          (.reg [⟨(some 64), none, [], [], .mv (.t 0)⟩,
            ⟨(some 65), none, [], [], .mv (.t 0)⟩,
            ⟨(some 66), none, [], [], .nck (.t 65)⟩,
            ⟨(some 67), none, [], [], .fa 1 (.t 66)⟩,
            ⟨(some 68), none, [], [], .ld false 1 (.t 67)⟩,
            ⟨(some 69), none, [], [], .mv (.t 68)⟩,
            ⟨(some 70), (some (69, false)), [], [], .mv (.t 1)⟩,
            ⟨(some 71), (some (69, false)), [], [], .nck (.t 70)⟩,
            ⟨(some 72), (some (69, false)), [], [], .fa 53 (.t 71)⟩,
            ⟨(some 73), (some (69, false)), [], [], .ld false 1 (.t 72)⟩,
            ⟨(some 74), (some (69, false)), [], [], .lenL (.t 73)⟩,
            ⟨(some 75), (some (69, false)), [], [], .bin .eql false (.t 74) (.k (.sc (.int .i64 (0))))⟩,
            ⟨(some 76), none, [], [], .pick (.t 69) (.k (.sc (.bool true))) (.t 75)⟩,
            ⟨(some 77), none, [], [], .nck (.t 64)⟩,
            ⟨(some 78), none, [], [], .fa 1 (.t 77)⟩,
            ⟨none, none, [], [], .sto 1 (.t 78) (.t 76)⟩] (some []))))
        (.keep [0, 1, 4, 50]
         (.seq
          (.reg [⟨(some 80), none, [], [], .bin .eql false (.t 50) (.k (.sc (.int .i64 (4))))⟩,
            ⟨(some 79), none, [], [], .mv (.t 80)⟩] (some [0, 1, 4, 79]))
          (.cond (.t 79)
           (.keep [0, 1, 4]
            (.block 2
             (.loop
              (.seq
               (.seq
                (.reg [⟨(some 81), none, [], [], .mv (.t 0)⟩,
                  ⟨(some 82), none, [], [], .nck (.t 81)⟩,
                  ⟨(some 83), none, [], [], .fa 0 (.t 82)⟩,
                  ⟨(some 84), none, [], [], .ld false 1 (.t 83)⟩,
                  ⟨(some 85), none, [], [], .lenL (.t 84)⟩,
                  ⟨(some 86), none, [], [], .bin .gtr false (.t 85) (.k (.sc (.int .i64 (0))))⟩] (some [0, 1, 4, 86]))
                (.cond (.t 86)
                 (.keep [0, 1, 4]
                  .skip)
                 (.exit 2)))
               (.block 3
                (.seq
                 (.reg [⟨(some 87), none, [], [], .mv (.t 4)⟩,
                   ⟨(some 88), none, [], [], .calG [0] (.t 87) [(.k (.sc (.int .i64 (8))))]⟩,
                   ⟨(some 5), none, [], [], .mv (.t 88)⟩] (some [0, 1, 4, 5]))
                 (.regD [⟨(some 89), none, [(.t 1)], [], .mv (.t 1)⟩,
                   ⟨(some 90), none, [(.t 1)], [0], .mv (.t 1)⟩,
                   ⟨(some 91), none, [(.t 90)], [0], .nck (.t 90)⟩,
                   ⟨(some 92), none, [(.t 91)], [0], .fa 54 (.t 91)⟩,
                   ⟨(some 93), none, [(.t 92)], [0], .ld false 1 (.t 92)⟩,
                   ⟨(some 94), none, [(.t 5)], [0, 1, 2, 3, 4], .mv (.t 5)⟩,
                   ⟨(some 95), none, [(.t 4)], [0, 1, 2, 3, 4, 5], .mv (.t 4)⟩,
                   ⟨(some 96), none, [(.t 95), (.k (.sc (.int .i64 (8))))], [0, 1, 2, 3, 4, 5], .calG [0] (.t 95) [(.k (.sc (.int .i64 (8))))]⟩,
                   ⟨(some 97), none, [(.t 94), (.t 96)], [0, 1, 2, 3, 4], .bld [(.sc (.int .u64 (0))), (.sc (.int .u64 (0)))] [(0, 1, (.t 94)), (1, 1, (.t 96))]⟩,
                   ⟨(some 98), none, [(.t 97)], [0, 1, 2, 3, 4], .bsl 1 2 [(.sc (.int .u64 (0))), (.sc (.int .u64 (0)))] [(0, 2, (.t 97))]⟩,
                   ⟨(some 99), none, [(.t 93), (.t 98)], [0], .app 2 16 (.t 93) (.t 98)⟩,
                   ⟨(some 100), none, [(.t 89)], [], .nck (.t 89)⟩,
                   ⟨(some 101), none, [(.t 100)], [], .fa 54 (.t 100)⟩,
                   ⟨none, none, [(.t 101), (.t 99)], [], .sto 1 (.t 101) (.t 99)⟩] (some [0, 1, 4]))))))))
           (.keep []
            .skip))))))))))
theorem b39 : cmpG Try.prog 39 = some (strip a39, r39, 102) := by kernel_rfl

abbrev r40 : List AR := [.t 2, .t 3]
abbrev a40 : ACode :=
  (.seq
   (.reg [⟨(some 2), none, [], [], .mv (.k .nl)⟩,
     ⟨(some 3), none, [], [], .mv (.k (.sc (.int .i64 (0))))⟩] (some [0]))
   (.seq
    (.seq
     (.reg [⟨(some 7), none, [], [], .mv (.t 0)⟩,
       ⟨(some 8), none, [], [], .lenL (.t 7)⟩,
       ⟨(some 9), none, [], [], .bin .lss false (.t 8) (.k (.sc (.int .i64 (4))))⟩] (some [0, 9]))
     (.cond (.t 9)
      (.keep []
       (.seq
        (.reg [⟨(some 2), none, [], [], .mv (.k .nl)⟩,
          ⟨(some 3), none, [], [], .mv (.k (.sc (.int .i64 (4))))⟩] none)
        .ret))
      (.keep [0]
       .skip)))
    (.seq
     (.reg [⟨(some 10), none, [], [], .mv (.t 0)⟩,
       ⟨(some 11), none, [], [], .lenL (.t 10)⟩,
       ⟨(some 12), none, [], [], .bin .sub false (.t 11) (.k (.sc (.int .i64 (4))))⟩,
       ⟨(some 4), none, [], [], .mv (.t 12)⟩] (some [0, 4]))
     (.seq
      (.reg [⟨(some 13), none, [], [], .mv (.t 0)⟩,
        ⟨(some 14), none, [], [], .mv (.t 4)⟩,
        ⟨(some 15), none, [], [], .slL 1 none (some (.t 14)) none (.t 13)⟩,
        ⟨(some 16), none, [], [], .cal (.k (.fn 34 [])) [(.t 15)]⟩,
        ⟨(some 5), none, [], [], .mv (.t 16)⟩] (some [0, 4, 5]))
      (.seq
       (.regD (⟨(some 17), none, [(.t 0)], [], .mv (.t 0)⟩ ::
         ⟨(some 18), none, [(.t 4)], [0], .mv (.t 4)⟩ ::
         ⟨(some 19), none, [(.t 17), (.t 18)], [], .ixaS 1 (.t 17) (.t 18)⟩ ::
         ⟨(some 20), none, [(.t 19)], [], .ld false 1 (.t 19)⟩ ::
         ⟨(some 21), none, [(.t 20)], [], .cvi .u32 (.t 20)⟩ ::
         ⟨(some 22), none, [(.t 0)], [0, 1, 2, 3, 4], .mv (.t 0)⟩ ::
         ⟨(some 23), none, [(.t 4)], [0, 1, 2, 3, 4, 5], .mv (.t 4)⟩ ::
         ⟨(some 24), none, [(.t 23), (.k (.sc (.int .i64 (1))))], [0, 1, 2, 3, 4, 5], .bin .add false (.t 23) (.k (.sc (.int .i64 (1))))⟩ ::
         ⟨(some 25), none, [(.t 22), (.t 24)], [0, 1, 2, 3, 4], .ixaS 1 (.t 22) (.t 24)⟩ ::
         ⟨(some 26), none, [(.t 25)], [0, 1, 2, 3, 4], .ld false 1 (.t 25)⟩ ::
         ⟨(some 27), none, [(.t 26)], [0, 1, 2, 3, 4], .cvi .u32 (.t 26)⟩ ::
         ⟨(some 28), none, [(.k (.sc (.int .u32 (256)))), (.t 27)], [0, 1, 2, 3, 4], .bin .mul false (.k (.sc (.int .u32 (256)))) (.t 27)⟩ ::
         ⟨(some 29), none, [(.t 21), (.t 28)], [], .bin .add false (.t 21) (.t 28)⟩ ::
         ⟨(some 30), none, [(.t 0)], [0, 1, 2, 3, 4, 5, 6, 7, 8, 9, 10, 11, 12], .mv (.t 0)⟩ ::
         ⟨(some 31), none, [(.t 4)], [0, 1, 2, 3, 4, 5, 6, 7, 8, 9, 10, 11, 12, 13], .mv (.t 4)⟩ ::
         ⟨(some 32), none, [(.t 31), (.k (.sc (.int .i64 (2))))], [0, 1, 2, 3, 4, 5, 6, 7, 8, 9, 10, 11, 12, 13], .bin .add false (.t 31) (.k (.sc (.int .i64 (2))))⟩ ::
         ⟨(some 33), none, [(.t 30), (.t 32)], [0, 1, 2, 3, 4, 5, 6, 7, 8, 9, 10, 11, 12], .ixaS 1 (.t 30) (.t 32)⟩ ::
         ⟨(some 34), none, [(.t 33)], [0, 1, 2, 3, 4, 5, 6, 7, 8, 9, 10, 11, 12], .ld false 1 (.t 33)⟩ ::
         ⟨(some 35), none, [(.t 34)], [0, 1, 2, 3, 4, 5, 6, 7, 8, 9, 10, 11, 12], .cvi .u32 (.t 34)⟩ ::
         ⟨(some 36), none, [(.k (.sc (.int .u32 (65536)))), (.t 35)], [0, 1, 2, 3, 4, 5, 6, 7, 8, 9, 10, 11, 12], .bin .mul false (.k (.sc (.int .u32 (65536)))) (.t 35)⟩ ::
         ⟨(some 37), none, [(.t 29), (.t 36)], [], .bin .add false (.t 29) (.t 36)⟩ ::
         ⟨(some 38), none, [(.t 0)], [0, 1, 2, 3, 4, 5, 6, 7, 8, 9, 10, 11, 12, 13, 14, 15, 16, 17, 18, 19, 20], .mv (.t 0)⟩ ::
         ⟨(some 39), none, [(.t 4)], [0, 1, 2, 3, 4, 5, 6, 7, 8, 9, 10, 11, 12, 13, 14, 15, 16, 17, 18, 19, 20, 21], .mv (.t 4)⟩ ::
         ⟨(some 40), none, [(.t 39), (.k (.sc (.int .i64 (3))))], [0, 1, 2, 3, 4, 5, 6, 7, 8, 9, 10, 11, 12, 13, 14, 15, 16, 17, 18, 19, 20, 21], .bin .add false (.t 39) (.k (.sc (.int .i64 (3))))⟩ ::
         ⟨(some 41), none, [(.t 38), (.t 40)], [0, 1, 2, 3, 4, 5, 6, 7, 8, 9, 10, 11, 12, 13, 14, 15, 16, 17, 18, 19, 20], .ixaS 1 (.t 38) (.t 40)⟩ ::
         ⟨(some 42), none, [(.t 41)], [0, 1, 2, 3, 4, 5, 6, 7, 8, 9, 10, 11, 12, 13, 14, 15, 16, 17, 18, 19, 20], .ld false 1 (.t 41)⟩ ::
         ⟨(some 43), none, [(.t 42)], [0, 1, 2, 3, 4, 5, 6, 7, 8, 9, 10, 11, 12, 13, 14, 15, 16, 17, 18, 19, 20], .cvi .u32 (.t 42)⟩ ::
         ⟨(some 44), none, [(.k (.sc (.int .u32 (16777216)))), (.t 43)], [0, 1, 2, 3, 4, 5, 6, 7, 8, 9, 10, 11, 12, 13, 14, 15, 16, 17, 18, 19, 20], .bin .mul false (.k (.sc (.int .u32 (16777216)))) (.t 43)⟩ ::
         ⟨(some 45), none, [(.t 37), (.t 44)], [], .bin .add false (.t 37) (.t 44)⟩ ::
         ⟨(some 6), none, [(.t 45)], [], .mv (.t 45)⟩ :: []) (some [0, 4, 5, 6]))
       (.seq
        (.seq
         (.reg [⟨(some 46), none, [], [], .mv (.t 5)⟩,
           ⟨(some 47), none, [], [], .mv (.t 6)⟩,
           ⟨(some 48), none, [], [], .bin .neq false (.t 46) (.t 47)⟩] (some [0, 4, 48]))
         (.cond (.t 48)
          (.keep []
           (.seq
            (.reg [⟨(some 2), none, [], [], .mv (.k .nl)⟩,
              ⟨(some 3), none, [], [], .mv (.k (.sc (.int .i64 (9))))⟩] none)
            .ret))
          (.keep [0, 4]
           .skip)))
        (.seq
         (.reg [⟨(some 49), none, [], [], .mv (.t 0)⟩,
           ⟨(some 50), none, [], [], .mv (.t 4)⟩,
           ⟨(some 51), none, [], [], .slL 1 none (some (.t 50)) none (.t 49)⟩,
           ⟨(some 2), none, [], [], .mv (.t 51)⟩,
           ⟨(some 3), none, [], [], .mv (.k (.sc (.int .i64 (0))))⟩] (some [2, 3]))
         .ret)))))))
theorem b40 : cmpG Try.prog 40 = some (strip a40, r40, 52) := by kernel_rfl

abbrev r41 : List AR := [.t 2]
abbrev a41 : ACode :=
  (.seq
   (.reg [⟨(some 2), none, [], [], .mv (.k (.sc (.int .u64 (0))))⟩] (some [0]))
   (.seq
    (.reg [⟨(some 3), none, [], [], .mv (.k (.sc (.int .u64 (0))))⟩] none)
    (.seq
     (.seq
      (.reg [⟨(some 4), none, [], [], .mv (.k (.sc (.int .i64 (0))))⟩] none)
      (.block 0
       (.loop
        (.seq
         (.seq
          (.reg [⟨(some 5), none, [], [], .mv (.t 4)⟩,
            ⟨(some 6), none, [], [], .mv (.t 0)⟩,
            ⟨(some 7), none, [], [], .lenL (.t 6)⟩,
            ⟨(some 8), none, [], [], .bin .lss false (.t 5) (.t 7)⟩] (some [0, 3, 4, 8]))
          (.cond (.t 8)
           (.keep [0, 3, 4]
            .skip)
           (.exit 0)))
         (.seq
          (.block 1
           (.reg [⟨(some 11), none, [], [], .mv (.t 3)⟩,
             ⟨(some 12), none, [], [], .bin .mul false (.k (.sc (.int .u64 (256)))) (.t 11)⟩,
             ⟨(some 13), none, [], [], .mv (.t 0)⟩,
             ⟨(some 14), none, [], [], .mv (.t 4)⟩,
             ⟨(some 15), none, [], [], .ixaS 1 (.t 13) (.t 14)⟩,
             ⟨(some 16), none, [], [], .ld false 1 (.t 15)⟩,
             ⟨(some 17), none, [], [], .cvi .u64 (.t 16)⟩,
             ⟨(some 18), none, [], [], .bin .add false (.t 12) (.t 17)⟩,
             ⟨(some 3), none, [], [], .mv (.t 18)⟩] (some [0, 3, 4])))
          (.reg [⟨(some 9), none, [], [], .mv (.t 4)⟩,
            ⟨(some 10), none, [], [], .bin .add false (.t 9) (.k (.sc (.int .i64 (1))))⟩,
            ⟨(some 4), none, [], [], .mv (.t 10)⟩] (some [0, 3, 4])))))))
     (.seq
      (.reg [⟨(some 19), none, [], [], .mv (.t 3)⟩,
        ⟨(some 2), none, [], [], .mv (.t 19)⟩] (some [2]))
      .ret))))
theorem b41 : cmpG Try.prog 41 = some (strip a41, r41, 20) := by kernel_rfl

abbrev r42 : List AR := [.c 4 true 56, .t 5]
abbrev a42 : ACode :=
  (.seq
   (.reg [⟨(some 2), none, [], [], .box (.t 0)⟩,
     ⟨(some 4), none, [], [], .alc zF0⟩,
     ⟨(some 5), none, [], [], .mv (.k (.sc (.int .i64 (0))))⟩] (some [1, 2, 4]))
   (.seq
    (.reg [⟨(some 9), none, [], [], .bsl 7 1 [(.sc (.int .i64 (0))), (.sc (.int .i64 (0))), (.sc (.int .i64 (0))), (.sc (.int .i64 (0))), (.sc (.int .i64 (0))), (.sc (.int .i64 (0))), (.sc (.int .i64 (0)))] [(0, 1, (.k (.sc (.int .i64 (40))))), (1, 1, (.k (.sc (.int .i64 (8))))), (2, 1, (.k (.sc (.int .i64 (9))))), (3, 1, (.k (.sc (.int .i64 (8))))), (4, 1, (.k (.sc (.int .i64 (40))))), (5, 1, (.k (.sc (.int .i64 (8))))), (6, 1, (.k (.sc (.int .i64 (1)))))]⟩,
      ⟨(some 10), none, [], [], .fa 0 (.t 2)⟩,
      ⟨(some 11), none, [], [], .ld false 1 (.t 10)⟩,
      ⟨(some 12), none, [], [], .bin .sub false (.t 11) (.k (.sc (.int .i64 (1))))⟩,
      ⟨(some 13), none, [], [], .ixaS 1 (.t 9) (.t 12)⟩,
      ⟨(some 14), none, [], [], .ld false 1 (.t 13)⟩,
      ⟨(some 6), none, [], [], .mv (.t 14)⟩] (some [1, 2, 4, 6]))
    (.seq
     (.seq
      (.reg [⟨(some 15), none, [], [], .mv (.t 1)⟩,
        ⟨(some 16), none, [], [], .lenL (.t 15)⟩,
        ⟨(some 17), none, [], [], .mv (.t 6)⟩,
        ⟨(some 18), none, [], [], .bin .lss false (.t 16) (.t 17)⟩,
        ⟨(some 19), none, [], [], .mv (.t 18)⟩,
        ⟨(some 20), (some (19, false)), [], [], .fa 0 (.t 2)⟩,
        ⟨(some 21), (some (19, false)), [], [], .ld false 1 (.t 20)⟩,
        ⟨(some 22), (some (19, false)), [], [], .bin .eql false (.t 21) (.k (.sc (.int .i64 (4))))⟩,
        ⟨(some 23), (some (19, false)), [], [], .mv (.t 22)⟩,
        ⟨(some 24), (some (23, true)), [], [], .mv (.t 1)⟩,
        ⟨(some 25), (some (23, true)), [], [], .lenL (.t 24)⟩,
        ⟨(some 26), (some (23, true)), [], [], .bin .rem false (.t 25) (.k (.sc (.int .i64 (16))))⟩,
        ⟨(some 27), (some (23, true)), [], [], .bin .neq false (.t 26) (.k (.sc (.int .i64 (8))))⟩,
        ⟨(some 28), (some (19, false)), [], [], .pick (.t 23) (.t 27) (.k (.sc (.bool false)))⟩,
        ⟨(some 29), none, [], [], .pick (.t 19) (.k (.sc (.bool true))) (.t 28)⟩] (some [1, 2, 4, 6, 29]))
      (.cond (.t 29)
       (.keep [4]
        (.seq
         (.reg [⟨(some 30), none, [], [], .bld zF0 []⟩,
           ⟨none, none, [], [], .sto 56 (.t 4) (.t 30)⟩,
           ⟨(some 5), none, [], [], .mv (.k (.sc (.int .i64 (4))))⟩] (some [4, 5]))
         .ret))
       (.keep [1, 2, 4, 6]
        .skip)))
     (.seq
      (.seq
       (.reg [⟨(some 31), none, [], [], .mv (.t 1)⟩,
         ⟨(some 32), none, [], [], .lenL (.t 31)⟩,
         ⟨(some 33), none, [], [], .mv (.t 6)⟩,
         ⟨(some 34), none, [], [], .bin .gtr false (.t 32) (.t 33)⟩,
         ⟨(some 35), none, [], [], .mv (.t 34)⟩,
         ⟨(some 36), (some (35, true)), [], [], .fa 0 (.t 2)⟩,
         ⟨(some 37), (some (35, true)), [], [], .ld false 1 (.t 36)⟩,
         ⟨(some 38), (some (35, true)), [], [], .bin .neq false (.t 37) (.k (.sc (.int .i64 (3))))⟩,
         ⟨(some 39), none, [], [], .pick (.t 35) (.t 38) (.k (.sc (.bool false)))⟩,
         ⟨(some 40), none, [], [], .mv (.t 39)⟩,
         ⟨(some 41), (some (40, true)), [], [], .fa 0 (.t 2)⟩,
         ⟨(some 42), (some (40, true)), [], [], .ld false 1 (.t 41)⟩,
         ⟨(some 43), (some (40, true)), [], [], .bin .neq false (.t 42) (.k (.sc (.int .i64 (4))))⟩,
         ⟨(some 44), none, [], [], .pick (.t 40) (.t 43) (.k (.sc (.bool false)))⟩] (some [1, 2, 4, 44]))
       (.cond (.t 44)
        (.keep [4]
         (.seq
          (.reg [⟨(some 45), none, [], [], .bld zF0 []⟩,
            ⟨none, none, [], [], .sto 56 (.t 4) (.t 45)⟩,
            ⟨(some 5), none, [], [], .mv (.k (.sc (.int .i64 (3))))⟩] (some [4, 5]))
          .ret))
        (.keep [1, 2, 4]
         .skip)))
      (.seq
       (.seq
        (.reg [⟨(some 46), none, [], [], .fa 0 (.t 2)⟩,
          ⟨(some 47), none, [], [], .ld false 1 (.t 46)⟩] (some [1, 2, 4, 47]))
        (.block 0
         (.seq
          (.seq
           (.reg [⟨(some 54), none, [], [], .bin .eql false (.t 47) (.k (.sc (.int .i64 (1))))⟩,
             ⟨(some 53), none, [], [], .mv (.t 54)⟩] (some [1, 2, 4, 47, 53]))
           (.cond (.t 53)
            .skip
            (.keep [1, 2, 4, 47]
             (.reg [⟨(some 55), none, [], [], .bin .eql false (.t 47) (.k (.sc (.int .i64 (5))))⟩,
               ⟨(some 53), none, [], [], .mv (.t 55)⟩] (some [1, 2, 4, 47, 53])))))
          (.cond (.t 53)
           (.keep [1, 2, 4]
            (.seq
             (.reg [⟨(some 56), none, [], [], .mv (.t 1)⟩,
               ⟨(some 57), none, [], [], .slL 1 none (some (.k (.sc (.int .i64 (8))))) none (.t 56)⟩,
               ⟨(some 58), none, [], [], .cal (.k (.fn 41 [])) [(.t 57)]⟩,
               ⟨(some 59), none, [], [], .fa 20 (.t 2)⟩,
               ⟨none, none, [], [], .sto 1 (.t 59) (.t 58)⟩] (some [1, 2, 4]))
             (.seq
              (.reg [⟨(some 7), none, [], [], .mv (.k (.sc (.int .i64 (0))))⟩] none)
              (.block 1
               (.loop
                (.seq
                 (.seq
                  (.reg [⟨(some 60), none, [], [], .mv (.t 7)⟩,
                    ⟨(some 61), none, [], [], .bin .lss false (.t 60) (.k (.sc (.int .i64 (32))))⟩] (some [1, 2, 4, 7, 61]))
                  (.cond (.t 61)
                   (.keep [1, 2, 4, 7]
                    .skip)
                   (.exit 1)))
                 (.seq
                  (.block 2
                   (.reg [⟨(some 64), none, [], [], .mv (.t 7)⟩,
                     ⟨(some 65), none, [], [], .mv (.t 1)⟩,
                     ⟨(some 66), none, [], [], .mv (.t 7)⟩,
                     ⟨(some 67), none, [], [], .bin .add false (.k (.sc (.int .i64 (8)))) (.t 66)⟩,
                     ⟨(some 68), none, [], [], .ixaS 1 (.t 65) (.t 67)⟩,
                     ⟨(some 69), none, [], [], .ld false 1 (.t 68)⟩,
                     ⟨(some 70), none, [], [], .fa 21 (.t 2)⟩,
                     ⟨(some 71), none, [], [], .ixaA 32 1 (.t 70) (.t 64)⟩,
                     ⟨none, none, [], [], .sto 1 (.t 71) (.t 69)⟩] (some [1, 2, 4, 7])))
                  (.reg [⟨(some 62), none, [], [], .mv (.t 7)⟩,
                    ⟨(some 63), none, [], [], .bin .add false (.t 62) (.k (.sc (.int .i64 (1))))⟩,
                    ⟨(some 7), none, [], [], .mv (.t 63)⟩] (some [1, 2, 4, 7])))))))))
           (.keep [1, 2, 4, 47]
            (.seq
             (.reg [⟨(some 73), none, [], [], .bin .eql false (.t 47) (.k (.sc (.int .i64 (2))))⟩,
               ⟨(some 72), none, [], [], .mv (.t 73)⟩] (some [1, 2, 4, 47, 72]))
             (.cond (.t 72)
              (.keep [1, 2, 4]
               (.reg [⟨(some 74), none, [], [], .mv (.t 1)⟩,
                 ⟨(some 75), none, [], [], .cal (.k (.fn 41 [])) [(.t 74)]⟩,
                 ⟨(some 76), none, [], [], .fa 19 (.t 2)⟩,
                 ⟨none, none, [], [], .sto 1 (.t 76) (.t 75)⟩] (some [2, 4])))
              (.keep [1, 2, 4, 47]
               (.seq
                (.reg [⟨(some 78), none, [], [], .bin .eql false (.t 47) (.k (.sc (.int .i64 (3))))⟩,
                  ⟨(some 77), none, [], [], .mv (.t 78)⟩] (some [1, 2, 4, 47, 77]))
                (.cond (.t 77)
                 (.keep [1, 2, 4]
                  (.regD [⟨(some 79), none, [(.t 1)], [], .mv (.t 1)⟩,
                    ⟨(some 80), none, [(.t 79), (.k (.sc (.int .i64 (8))))], [], .slL 1 none (some (.k (.sc (.int .i64 (8))))) none (.t 79)⟩,
                    ⟨(some 81), none, [(.k (.fn 41 [])), (.t 80)], [], .cal (.k (.fn 41 [])) [(.t 80)]⟩,
                    ⟨(some 82), none, [(.t 1)], [0, 1, 2], .mv (.t 1)⟩,
                    ⟨(some 83), none, [(.t 82), (.k (.sc (.int .i64 (8))))], [0, 1, 2], .slL 1 (some (.k (.sc (.int .i64 (8))))) none none (.t 82)⟩,
                    ⟨(some 84), none, [(.t 2)], [3, 4], .fa 19 (.t 2)⟩,
                    ⟨none, none, [(.t 84), (.t 81)], [3, 4], .sto 1 (.t 84) (.t 81)⟩,
                    ⟨(some 85), none, [(.t 2)], [], .fa 53 (.t 2)⟩,
                    ⟨none, none, [(.t 85), (.t 83)], [], .sto 1 (.t 85) (.t 83)⟩] (some [2, 4])))
                 (.keep [1, 2, 4, 47]
                  (.seq
                   (.reg [⟨(some 87), none, [], [], .bin .eql false (.t 47) (.k (.sc (.int .i64 (4))))⟩,
                     ⟨(some 86), none, [], [], .mv (.t 87)⟩] (some [1, 2, 4, 47, 86]))
                   (.cond (.t 86)
                    (.keep [1, 2, 4]
                     (.seq
                      (.reg [⟨(some 88), none, [], [], .mv (.t 1)⟩,
                        ⟨(some 89), none, [], [], .slL 1 none (some (.k (.sc (.int .i64 (8))))) none (.t 88)⟩,
                        ⟨(some 90), none, [], [], .cal (.k (.fn 41 [])) [(.t 89)]⟩,
                        ⟨(some 91), none, [], [], .fa 19 (.t 2)⟩,
                        ⟨none, none, [], [], .sto 1 (.t 91) (.t 90)⟩] (some [1, 2, 4]))
                      (.seq
                       (.reg [⟨(some 8), none, [], [], .mv (.k (.sc (.int .i64 (8))))⟩] none)
                       (.block 3
                        (.loop
                         (.seq
                          (.seq
                           (.reg [⟨(some 92), none, [], [], .mv (.t 8)⟩,
                             ⟨(some 93), none, [], [], .mv (.t 1)⟩,
                             ⟨(some 94), none, [], [], .lenL (.t 93)⟩,
                             ⟨(some 95), none, [], [], .bin .lss false (.t 92) (.t 94)⟩] (some [1, 2, 4, 8, 95]))
                           (.cond (.t 95)
                            (.keep [1, 2, 4, 8]
                             .skip)
                            (.exit 3)))
                          (.seq
                           (.block 4
                            (.regD [⟨(some 98), none, [(.t 2)], [], .fa 54 (.t 2)⟩,
                              ⟨(some 99), none, [(.t 98)], [], .ld false 1 (.t 98)⟩,
                              ⟨(some 100), none, [(.t 1)], [0, 1], .mv (.t 1)⟩,
                              ⟨(some 101), none, [(.t 8)], [0, 1, 2], .mv (.t 8)⟩,
                              ⟨(some 102), none, [(.t 8)], [0, 1, 2, 3], .mv (.t 8)⟩,
                              ⟨(some 103), none, [(.t 102), (.k (.sc (.int .i64 (8))))], [0, 1, 2, 3], .bin .add false (.t 102) (.k (.sc (.int .i64 (8))))⟩,
                              ⟨(some 104), none, [(.t 100), (.t 101), (.t 103)], [0, 1], .slL 1 (some (.t 101)) (some (.t 103)) none (.t 100)⟩,
                              ⟨(some 105), none, [(.k (.fn 41 [])), (.t 104)], [0, 1], .cal (.k (.fn 41 [])) [(.t 104)]⟩,
                              ⟨(some 106), none, [(.t 1)], [0, 1, 2, 3, 4, 5, 6, 7], .mv (.t 1)⟩,
                              ⟨(some 107), none, [(.t 8)], [0, 1, 2, 3, 4, 5, 6, 7, 8], .mv (.t 8)⟩,
                              ⟨(some 108), none, [(.t 107), (.k (.sc (.int .i64 (8))))], [0, 1, 2, 3, 4, 5, 6, 7, 8], .bin .add false (.t 107) (.k (.sc (.int .i64 (8))))⟩,
                              ⟨(some 109), none, [(.t 8)], [0, 1, 2, 3, 4, 5, 6, 7, 8, 9, 10], .mv (.t 8)⟩,
                              ⟨(some 110), none, [(.t 109), (.k (.sc (.int .i64 (16))))], [0, 1, 2, 3, 4, 5, 6, 7, 8, 9, 10], .bin .add false (.t 109) (.k (.sc (.int .i64 (16))))⟩,
                              ⟨(some 111), none, [(.t 106), (.t 108), (.t 110)], [0, 1, 2, 3, 4, 5, 6, 7], .slL 1 (some (.t 108)) (some (.t 110)) none (.t 106)⟩,
                              ⟨(some 112), none, [(.k (.fn 41 [])), (.t 111)], [0, 1], .cal (.k (.fn 41 [])) [(.t 111)]⟩,
                              ⟨(some 113), none, [(.t 105), (.t 112)], [0, 1], .bld [(.sc (.int .u64 (0))), (.sc (.int .u64 (0)))] [(0, 1, (.t 105)), (1, 1, (.t 112))]⟩,
                              ⟨(some 114), none, [(.t 113)], [0, 1], .bsl 1 2 [(.sc (.int .u64 (0))), (.sc (.int .u64 (0)))] [(0, 2, (.t 113))]⟩,
                              ⟨(some 115), none, [(.t 99), (.t 114)], [], .app 2 16 (.t 99) (.t 114)⟩,
                              ⟨(some 116), none, [(.t 2)], [], .fa 54 (.t 2)⟩,
                              ⟨none, none, [(.t 116), (.t 115)], [], .sto 1 (.t 116) (.t 115)⟩] (some [1, 2, 4, 8])))
                           (.reg [⟨(some 96), none, [], [], .mv (.t 8)⟩,
                             ⟨(some 97), none, [], [], .bin .add false (.t 96) (.k (.sc (.int .i64 (16))))⟩,
                             ⟨(some 8), none, [], [], .mv (.t 97)⟩] (some [1, 2, 4, 8])))))))))
                    (.keep [1, 2, 4, 47]
                     (.seq
                      (.reg [⟨(some 118), none, [], [], .bin .eql false (.t 47) (.k (.sc (.int .i64 (6))))⟩,
                        ⟨(some 117), none, [], [], .mv (.t 118)⟩] (some [1, 2, 4, 117]))
                      (.cond (.t 117)
                       (.keep [1, 2, 4]
                        (.reg [⟨(some 119), none, [], [], .mv (.t 1)⟩,
                          ⟨(some 120), none, [], [], .cal (.k (.fn 41 [])) [(.t 119)]⟩,
                          ⟨(some 121), none, [], [], .fa 20 (.t 2)⟩,
                          ⟨none, none, [], [], .sto 1 (.t 121) (.t 120)⟩] (some [2, 4])))
                       (.keep [1, 2, 4]
                        (.reg [⟨(some 48), none, [], [], .mv (.t 1)⟩,
                          ⟨(some 49), none, [], [], .ixaS 1 (.t 48) (.k (.sc (.int .i64 (0))))⟩,
                          ⟨(some 50), none, [], [], .ld false 1 (.t 49)⟩,
                          ⟨(some 51), none, [], [], .cvi .i64 (.t 50)⟩,
                          ⟨(some 52), none, [], [], .fa 55 (.t 2)⟩,
                          ⟨none, none, [], [], .sto 1 (.t 52) (.t 51)⟩] (some [2, 4])))))))))))))))))))
       (.seq
        (.regD [⟨(some 122), none, [(.t 2)], [], .ld true 56 (.t 2)⟩,
          ⟨(some 123), none, [(.t 2)], [0], .ld true 56 (.t 2)⟩,
          ⟨(some 124), none, [(.k (.fn 27 [])), (.t 123)], [0], .cal (.k (.fn 27 [])) [(.t 123)]⟩,
          ⟨none, none, [(.t 4), (.t 122)], [], .sto 56 (.t 4) (.t 122)⟩,
          ⟨(some 5), none, [(.t 124)], [], .mv (.t 124)⟩] (some [4, 5]))
        .ret))))))
theorem b42 : cmpG Try.prog 42 = some (strip a42, r42, 125) := by kernel_rfl

abbrev r45 : List AR := [.t 2]
abbrev a45 : ACode :=
  (.seq
   (.reg [⟨(some 2), none, [], [], .mv (.k .nl)⟩] (some [0]))
   (.seq
    (.reg [⟨(some 5), none, [], [], .mks (.sc (.int .u8 (0))) (.k (.sc (.int .i64 (4)))) (.k (.sc (.int .i64 (4))))⟩,
      ⟨(some 3), none, [], [], .mv (.t 5)⟩] (some [0, 3]))
    (.seq
     (.seq
      (.reg [⟨(some 6), none, [], [], .mv (.t 3)⟩,
        ⟨(some 7), none, [], [], .lenL (.t 6)⟩,
        ⟨(some 8), none, [], [], .mv (.k (.sc (.int .i64 (0))))⟩] (some [0, 3, 7, 8]))
      (.block 0
       (.loop
        (.seq
         (.reg [⟨(some 9), none, [], [], .bin .lss false (.t 8) (.t 7)⟩] none)
         (.seq
          (.cond (.t 9)
           (.keep [0, 3, 7, 8]
            .skip)
           (.exit 0))
          (.seq
           (.block 1
            (.seq
             (.reg [⟨(some 10), none, [], [], .mv (.t 8)⟩,
               ⟨(some 4), none, [], [], .mv (.t 10)⟩] (some [0, 3, 4, 7, 8]))
             (.reg [⟨(some 11), none, [], [], .mv (.t 3)⟩,
               ⟨(some 12), none, [], [], .mv (.t 4)⟩,
               ⟨(some 13), none, [], [], .mv (.t 0)⟩,
               ⟨(some 14), none, [], [], .mv (.t 4)⟩,
               ⟨(some 15), none, [], [], .bin .mul false (.k (.sc (.int .i64 (8)))) (.t 14)⟩,
               ⟨(some 16), none, [], [], .bin .shr false (.t 13) (.t 15)⟩,
               ⟨(some 17), none, [], [], .cvi .u8 (.t 16)⟩,
               ⟨(some 18), none, [], [], .ixaS 1 (.t 11) (.t 12)⟩,
               ⟨none, none, [], [], .sto 1 (.t 18) (.t 17)⟩] (some [0, 3, 7, 8]))))
           (.reg [⟨(some 19), none, [], [], .bin .add false (.t 8) (.k (.sc (.int .i64 (1))))⟩,
             ⟨(some 8), none, [], [], .mv (.t 19)⟩] (some [0, 3, 7, 8]))))))))
     (.seq
      (.reg [⟨(some 20), none, [], [], .mv (.t 3)⟩,
        ⟨(some 2), none, [], [], .mv (.t 20)⟩] (some [2]))
      .ret))))
theorem b45 : cmpG Try.prog 45 = some (strip a45, r45, 21) := by kernel_rfl

abbrev r46 : List AR := [.t 2]
abbrev a46 : ACode :=
  (.seq
   (.reg [⟨(some 2), none, [], [], .mv (.k (.sc (.int .u32 (0))))⟩] (some [0]))
   (.seq
    (.reg [⟨(some 3), none, [], [], .mv (.t 0)⟩,
      ⟨(some 4), none, [], [], .bsl 1 1 [.nl] [(0, 1, (.t 3))]⟩,
      ⟨(some 5), none, [], [], .cal (.k (.fn 49 [])) [(.t 4)]⟩,
      ⟨(some 2), none, [], [], .mv (.t 5)⟩] (some [2]))
    .ret))
theorem b46 : cmpG Try.prog 46 = some (strip a46, r46, 6) := by kernel_rfl

abbrev r47 : List AR := [.t 4]
abbrev a47 : ACode :=
  (.seq
   (.reg [⟨(some 4), none, [], [], .mv (.k (.sc (.int .u32 (0))))⟩] (some [0, 1]))
   (.seq
    (.reg [⟨(some 7), none, [], [], .mv (.t 0)⟩,
      ⟨(some 8), none, [], [], .mv (.t 1)⟩,
      ⟨(some 9), none, [], [], .cvi .u32 (.t 8)⟩,
      ⟨(some 10), none, [], [], .bin .xor false (.t 7) (.t 9)⟩,
      ⟨(some 0), none, [], [], .mv (.t 10)⟩] (some [0]))
    (.seq
     (.seq
      (.reg [⟨(some 5), none, [], [], .mv (.k (.sc (.int .i64 (0))))⟩] none)
      (.block 0
       (.loop
        (.seq
         (.seq
          (.reg [⟨(some 11), none, [], [], .mv (.t 5)⟩,
            ⟨(some 12), none, [], [], .bin .lss false (.t 11) (.k (.sc (.int .i64 (8))))⟩] (some [0, 5, 12]))
          (.cond (.t 12)
           (.keep [0, 5]
            .skip)
           (.exit 0)))
         (.seq
          (.block 1
           (.seq
            (.reg [⟨(some 15), none, [], [], .mv (.t 0)⟩,
              ⟨(some 16), none, [], [], .bin .rem false (.t 15) (.k (.sc (.int .u32 (2))))⟩,
              ⟨(some 6), none, [], [], .mv (.t 16)⟩] (some [0, 5, 6]))
            (.seq
             (.reg [⟨(some 17), none, [], [], .mv (.t 0)⟩,
               ⟨(some 18), none, [], [], .bin .quo false (.t 17) (.k (.sc (.int .u32 (2))))⟩,
               ⟨(some 0), none, [], [], .mv (.t 18)⟩] (some [0, 5, 6]))
             (.seq
              (.reg [⟨(some 19), none, [], [], .mv (.t 6)⟩,
                ⟨(some 20), none, [], [], .bin .eql false (.t 19) (.k (.sc (.int .u32 (1))))⟩] (some [0, 5, 20]))
              (.cond (.t 20)
               (.keep [0, 5]
                (.reg [⟨(some 21), none, [], [], .mv (.t 0)⟩,
                  ⟨(some 22), none, [], [], .bin .xor false (.t 21) (.k (.sc (.int .u32 (3988292384))))⟩,
                  ⟨(some 0), none, [], [], .mv (.t 22)⟩] (some [0, 5])))
               (.keep [0, 5]
                .skip))))))
          (.reg [⟨(some 13), none, [], [], .mv (.t 5)⟩,
            ⟨(some 14), none, [], [], .bin .add false (.t 13) (.k (.sc (.int .i64 (1))))⟩,
            ⟨(some 5), none, [], [], .mv (.t 14)⟩] (some [0, 5])))))))
     (.seq
      (.reg [⟨(some 23), none, [], [], .mv (.t 0)⟩,
        ⟨(some 4), none, [], [], .mv (.t 23)⟩] (some [4]))
      .ret))))
theorem b47 : cmpG Try.prog 47 = some (strip a47, r47, 24) := by kernel_rfl

abbrev r49 : List AR := [.t 2]
abbrev a49 : ACode :=
  (.seq
   (.reg [⟨(some 2), none, [], [], .mv (.k (.sc (.int .u32 (0))))⟩] (some [0]))
   (.seq
    (.reg [⟨(some 3), none, [], [], .mv (.k (.sc (.int .u32 (4294967295))))⟩] none)
    (.seq
     (.seq
      (.reg [⟨(some 8), none, [], [], .mv (.t 0)⟩,
        ⟨(some 9), none, [], [], .lenL (.t 8)⟩,
        ⟨(some 10), none, [], [], .mv (.k (.sc (.int .i64 (0))))⟩] (some [3, 8, 9, 10]))
      (.block 0
       (.loop
        (.seq
         (.reg [⟨(some 11), none, [], [], .bin .lss false (.t 10) (.t 9)⟩] none)
         (.seq
          (.cond (.t 11)
           (.keep [3, 8, 9, 10]
            .skip)
           (.exit 0))
          (.seq
           (.block 1
            (.seq
             (.reg [⟨(some 12), none, [], [], .ixaS 1 (.t 8) (.t 10)⟩,
               ⟨(some 13), none, [], [], .ld false 1 (.t 12)⟩,
               ⟨(some 5), none, [], [], .mv (.t 13)⟩] (some [3, 5, 8, 9, 10]))
             (.seq
              (.reg [⟨(some 14), none, [], [], .mv (.t 5)⟩,
                ⟨(some 15), none, [], [], .lenL (.t 14)⟩,
                ⟨(some 16), none, [], [], .mv (.k (.sc (.int .i64 (0))))⟩] (some [3, 8, 9, 10, 14, 15, 16]))
              (.block 2
               (.loop
                (.seq
                 (.reg [⟨(some 17), none, [], [], .bin .lss false (.t 16) (.t 15)⟩] none)
                 (.seq
                  (.cond (.t 17)
                   (.keep [3, 8, 9, 10, 14, 15, 16]
                    .skip)
                   (.exit 2))
                  (.seq
                   (.block 3
                    (.seq
                     (.reg [⟨(some 18), none, [], [], .ixaS 1 (.t 14) (.t 16)⟩,
                       ⟨(some 19), none, [], [], .ld false 1 (.t 18)⟩,
                       ⟨(some 7), none, [], [], .mv (.t 19)⟩] (some [3, 7, 8, 9, 10, 14, 15, 16]))
                     (.reg [⟨(some 20), none, [], [], .mv (.t 3)⟩,
                       ⟨(some 21), none, [], [], .mv (.t 7)⟩,
                       ⟨(some 22), none, [], [], .cal (.k (.fn 50 [])) [(.t 20), (.t 21)]⟩,
                       ⟨(some 3), none, [], [], .mv (.t 22)⟩] (some [3, 8, 9, 10, 14, 15, 16]))))
                   (.reg [⟨(some 23), none, [], [], .bin .add false (.t 16) (.k (.sc (.int .i64 (1))))⟩,
                     ⟨(some 16), none, [], [], .mv (.t 23)⟩] (some [3, 8, 9, 10, 14, 15, 16]))))))))))
           (.reg [⟨(some 24), none, [], [], .bin .add false (.t 10) (.k (.sc (.int .i64 (1))))⟩,
             ⟨(some 10), none, [], [], .mv (.t 24)⟩] (some [3, 8, 9, 10]))))))))
     (.seq
      (.reg [⟨(some 25), none, [], [], .mv (.t 3)⟩,
        ⟨(some 26), none, [], [], .un .xor (.t 25)⟩,
        ⟨(some 2), none, [], [], .mv (.t 26)⟩] (some [2]))
      .ret))))
theorem b49 : cmpG Try.prog 49 = some (strip a49, r49, 27) := by kernel_rfl

abbrev r50 : List AR := [.t 4]
abbrev a50 : ACode :=
  (.seq
   (.reg [⟨(some 4), none, [], [], .mv (.k (.sc (.int .u32 (0))))⟩] (some [0, 1]))
   (.seq
    (.reg [⟨(some 5), none, [], [], .mv (.t 0)⟩,
      ⟨(some 6), none, [], [], .mv (.t 1)⟩,
      ⟨(some 7), none, [], [], .cvi .u32 (.t 6)⟩,
      ⟨(some 8), none, [], [], .bin .xor false (.t 5) (.t 7)⟩,
      ⟨(some 0), none, [], [], .mv (.t 8)⟩] (some [0]))
    (.seq
     (.seq
      (.reg [⟨(some 9), none, [], [], .mv (.k (.sc (.int .i64 (0))))⟩] none)
      (.block 0
       (.loop
        (.seq
         (.reg [⟨(some 10), none, [], [], .bin .lss false (.t 9) (.k (.sc (.int .i64 (8))))⟩] none)
         (.seq
          (.cond (.t 10)
           (.keep [0, 9]
            .skip)
           (.exit 0))
          (.seq
           (.block 1
            (.reg [⟨(some 11), none, [], [], .mv (.t 0)⟩,
              ⟨(some 12), none, [], [], .bin .shr false (.t 11) (.k (.sc (.int .u64 (1))))⟩,
              ⟨(some 13), none, [], [], .mv (.t 0)⟩,
              ⟨(some 14), none, [], [], .bin .and false (.t 13) (.k (.sc (.int .u32 (1))))⟩,
              ⟨(some 15), none, [], [], .un .neg (.t 14)⟩,
              ⟨(some 16), none, [], [], .bin .and false (.k (.sc (.int .u32 (3988292384)))) (.t 15)⟩,
              ⟨(some 17), none, [], [], .bin .xor false (.t 12) (.t 16)⟩,
              ⟨(some 0), none, [], [], .mv (.t 17)⟩] (some [0, 9])))
           (.reg [⟨(some 18), none, [], [], .bin .add false (.t 9) (.k (.sc (.int .i64 (1))))⟩,
             ⟨(some 9), none, [], [], .mv (.t 18)⟩] (some [0, 9]))))))))
     (.seq
      (.reg [⟨(some 19), none, [], [], .mv (.t 0)⟩,
        ⟨(some 4), none, [], [], .mv (.t 19)⟩] (some [4]))
      .ret))))
theorem b50 : cmpG Try.prog 50 = some (strip a50, r50, 20) := by kernel_rfl


end Go.Proofs.Ythhccabdlajngaa.Cod
