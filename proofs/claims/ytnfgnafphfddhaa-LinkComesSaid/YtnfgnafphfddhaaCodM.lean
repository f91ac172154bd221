import Derived.Test.YtnfgnafphfddhaaProg
import Derived.Test.YtnfgnafphfddhaaSimD
import Derived.KernelRfl
namespace Go.Proofs.Ytnfgnafphfddhaa.Cod
open Go Go.Sim Go.Proofs
set_option maxRecDepth 100000
abbrev r14 : List AR := [.t 0]
abbrev a14 : ACode :=
  (.seq
   (.reg [⟨(some 0), none, [], [], .mv (.k (.sc (.bool false)))⟩] (some []))
   (.seq
    (.reg [⟨(some 9), none, [], [], .cal (.k (.fn 19 [])) [(.k (.sc (.int .i64 (9))))]⟩,
      ⟨(some 8), none, [], [], .mv (.t 9)⟩,
      ⟨(some 10), none, [], [], .ext (.t 8) 0⟩,
      ⟨(some 11), none, [], [], .ext (.t 8) 1⟩,
      ⟨(some 1), none, [], [], .alc [(.sc (.int .i64 (0))), .nl, (.sc (.int .i64 (0))), (.sc (.int .i64 (0)))]⟩,
      ⟨none, none, [], [], .sto 4 (.t 1) (.t 10)⟩,
      ⟨(some 2), none, [], [], .mv (.t 11)⟩] (some [1, 2]))
    (.seq
     (.reg [⟨(some 12), none, [], [], .ld true 4 (.t 1)⟩,
       ⟨(some 13), none, [], [], .bsl 4 1 [(.sc (.int .u8 (0))), (.sc (.int .u8 (0))), (.sc (.int .u8 (0))), (.sc (.int .u8 (0)))] [(0, 1, (.k (.sc (.int .u8 (97))))), (1, 1, (.k (.sc (.int .u8 (98))))), (2, 1, (.k (.sc (.int .u8 (99))))), (3, 1, (.k (.sc (.int .u8 (100)))))]⟩,
       ⟨(some 14), none, [], [], .cvm (.t 13)⟩,
       ⟨(some 15), none, [], [], .bld [(.sc (.int .i64 (0))), (.sc (.int .u16 (0))), (.sc (.int .u8 (0))), (.sc (.int .u8 (0))), (.sc (.int .u8 (0))), (.sc (.int .u8 (0)))] []⟩,
       ⟨(some 16), none, [], [], .cal (.k (.fn 20 [])) [(.t 12), (.t 14), (.t 15)]⟩,
       ⟨(some 17), none, [], [], .bsl 4 1 [(.sc (.int .u8 (0))), (.sc (.int .u8 (0))), (.sc (.int .u8 (0))), (.sc (.int .u8 (0)))] [(0, 1, (.k (.sc (.int .u8 (101))))), (1, 1, (.k (.sc (.int .u8 (102))))), (2, 1, (.k (.sc (.int .u8 (103))))), (3, 1, (.k (.sc (.int .u8 (104)))))]⟩,
       ⟨(some 18), none, [], [], .cvm (.t 17)⟩,
       ⟨(some 19), none, [], [], .bld [(.sc (.int .i64 (0))), (.sc (.int .u16 (0))), (.sc (.int .u8 (0))), (.sc (.int .u8 (0))), (.sc (.int .u8 (0))), (.sc (.int .u8 (0)))] [(0, 1, (.k (.sc (.int .i64 (3)))))]⟩,
       ⟨(some 20), none, [], [], .cal (.k (.fn 20 [])) [(.t 16), (.t 18), (.t 19)]⟩,
       ⟨none, none, [], [], .sto 4 (.t 1) (.t 20)⟩] (some [1, 2]))
     (.seq
      (.reg [⟨(some 22), none, [], [], .ld true 4 (.t 1)⟩,
        ⟨(some 23), none, [], [], .cal (.k (.fn 22 [])) [(.t 22)]⟩,
        ⟨(some 21), none, [], [], .mv (.t 23)⟩,
        ⟨(some 24), none, [], [], .ext (.t 21) 0⟩,
        ⟨(some 25), none, [], [], .ext (.t 21) 1⟩,
        ⟨(some 26), none, [], [], .ext (.t 21) 2⟩,
        ⟨(some 3), none, [], [], .alc [(.sc (.int .i64 (0))), .nl, (.sc (.int .i64 (0))), (.sc (.int .i64 (0)))]⟩,
        ⟨none, none, [], [], .sto 4 (.t 3) (.t 24)⟩,
        ⟨(some 4), none, [], [], .mv (.t 25)⟩,
        ⟨(some 5), none, [], [], .mv (.t 26)⟩] (some [1, 2, 3, 4, 5]))
      (.seq
       (.reg [⟨(some 28), none, [], [], .bsl 4 1 [(.sc (.int .u8 (0))), (.sc (.int .u8 (0))), (.sc (.int .u8 (0))), (.sc (.int .u8 (0)))] [(0, 1, (.k (.sc (.int .u8 (97))))), (1, 1, (.k (.sc (.int .u8 (98))))), (2, 1, (.k (.sc (.int .u8 (99))))), (3, 1, (.k (.sc (.int .u8 (100)))))]⟩,
         ⟨(some 29), none, [], [], .cvm (.t 28)⟩,
         ⟨(some 30), none, [], [], .bld [(.sc (.int .u8 (0))), (.sc (.int .u8 (0))), (.sc (.int .u8 (0))), (.sc (.int .u8 (0)))] [(0, 1, (.k (.sc (.int .u8 (1)))))]⟩,
         ⟨(some 31), none, [], [], .bld [(.sc (.int .i64 (0))), (.sc (.int .u16 (0))), (.sc (.int .u8 (0))), (.sc (.int .u8 (0))), (.sc (.int .u8 (0))), (.sc (.int .u8 (0)))] [(2, 4, (.t 30))]⟩,
         ⟨(some 32), none, [], [], .cal (.k (.fn 15 [])) [(.t 29), (.t 31)]⟩,
         ⟨(some 27), none, [], [], .mv (.t 32)⟩,
         ⟨(some 33), none, [], [], .ext (.t 27) 0⟩,
         ⟨(some 34), none, [], [], .ext (.t 27) 1⟩,
         ⟨(some 6), none, [], [], .mv (.t 33)⟩,
         ⟨(some 7), none, [], [], .mv (.t 34)⟩] (some [1, 2, 3, 4, 5, 6, 7]))
       (.seq
        (.reg (⟨(some 35), none, [], [], .mv (.t 2)⟩ ::
          ⟨(some 36), none, [], [], .bin .eql false (.t 35) (.k (.sc (.int .i64 (0))))⟩ ::
          ⟨(some 37), none, [], [], .mv (.t 36)⟩ ::
          ⟨(some 38), (some (37, true)), [], [], .mv (.t 4)⟩ ::
          ⟨(some 39), (some (37, true)), [], [], .cvb (.t 38)⟩ ::
          ⟨(some 40), (some (37, true)), [], [], .bin .eql false (.t 39) (.k (.sc (.string ⟨#[101, 102, 103, 104]⟩)))⟩ ::
          ⟨(some 41), none, [], [], .pick (.t 37) (.t 40) (.k (.sc (.bool false)))⟩ ::
          ⟨(some 42), none, [], [], .mv (.t 41)⟩ ::
          ⟨(some 43), (some (42, true)), [], [], .mv (.t 5)⟩ ::
          ⟨(some 44), none, [], [], .pick (.t 42) (.t 43) (.k (.sc (.bool false)))⟩ ::
          ⟨(some 45), none, [], [], .mv (.t 44)⟩ ::
          ⟨(some 46), (some (45, true)), [], [], .ld true 4 (.t 3)⟩ ::
          ⟨(some 47), (some (45, true)), [], [], .cal (.k (.fn 23 [])) [(.t 46)]⟩ ::
          ⟨(some 48), (some (45, true)), [], [], .bin .eql false (.t 47) (.k (.sc (.int .i64 (1))))⟩ ::
          ⟨(some 49), none, [], [], .pick (.t 45) (.t 48) (.k (.sc (.bool false)))⟩ ::
          ⟨(some 50), none, [], [], .mv (.t 49)⟩ ::
          ⟨(some 51), (some (50, true)), [], [], .ld true 4 (.t 1)⟩ ::
          ⟨(some 52), (some (50, true)), [], [], .cal (.k (.fn 23 [])) [(.t 51)]⟩ ::
          ⟨(some 53), (some (50, true)), [], [], .bin .eql false (.t 52) (.k (.sc (.int .i64 (2))))⟩ ::
          ⟨(some 54), none, [], [], .pick (.t 50) (.t 53) (.k (.sc (.bool false)))⟩ ::
          ⟨(some 55), none, [], [], .mv (.t 54)⟩ ::
          ⟨(some 56), (some (55, true)), [], [], .mv (.t 6)⟩ ::
          ⟨(some 57), (some (55, true)), [], [], .cvb (.t 56)⟩ ::
          ⟨(some 58), (some (55, true)), [], [], .bin .eql false (.t 57) (.k (.sc (.string ⟨#[96, 98, 99, 100]⟩)))⟩ ::
          ⟨(some 59), none, [], [], .pick (.t 55) (.t 58) (.k (.sc (.bool false)))⟩ ::
          ⟨(some 60), none, [], [], .mv (.t 59)⟩ ::
          ⟨(some 61), (some (60, true)), [], [], .mv (.t 7)⟩ ::
          ⟨(some 62), none, [], [], .pick (.t 60) (.t 61) (.k (.sc (.bool false)))⟩ ::
          ⟨(some 0), none, [], [], .mv (.t 62)⟩ :: []) (some [0]))
        .ret))))))
theorem b14 : cmpG Try.prog 14 = some (strip a14, r14, 63) := by kernel_rfl

abbrev r15 : List AR := [.t 4, .t 5]
abbrev a15 : ACode :=
  (.seq
   (.reg [⟨(some 3), none, [], [], .box (.t 1)⟩,
     ⟨(some 4), none, [], [], .mv (.k .nl)⟩,
     ⟨(some 5), none, [], [], .mv (.k (.sc (.bool false)))⟩] (some [0, 3]))
   (.seq
    (.seq
     (.reg [⟨(some 10), none, [], [], .mv (.t 0)⟩,
       ⟨(some 11), none, [], [], .lenL (.t 10)⟩,
       ⟨(some 12), none, [], [], .bin .lss false (.t 11) (.k (.sc (.int .i64 (4))))⟩] (some [0, 3, 12]))
     (.cond (.t 12)
      (.keep []
       (.seq
        (.reg [⟨(some 4), none, [], [], .mv (.k .nl)⟩,
          ⟨(some 5), none, [], [], .mv (.k (.sc (.bool false)))⟩] none)
        .ret))
      (.keep [0, 3]
       .skip)))
    (.seq
     (.reg [⟨(some 13), none, [], [], .mv (.t 0)⟩,
       ⟨(some 14), none, [], [], .cal (.k (.fn 62 [])) [(.t 13)]⟩,
       ⟨(some 6), none, [], [], .mv (.t 14)⟩] (some [0, 3, 6]))
     (.seq
      (.reg [⟨(some 15), none, [], [], .fa 1 (.t 3)⟩,
        ⟨(some 16), none, [], [], .ld false 1 (.t 15)⟩,
        ⟨(some 17), none, [], [], .cvi .i64 (.t 16)⟩,
        ⟨(some 18), none, [], [], .mv (.t 0)⟩,
        ⟨(some 19), none, [], [], .lenL (.t 18)⟩,
        ⟨(some 20), none, [], [], .bin .sub false (.t 19) (.k (.sc (.int .i64 (4))))⟩,
        ⟨(some 21), none, [], [], .bin .add false (.t 20) (.k (.sc (.int .i64 (1))))⟩,
        ⟨(some 22), none, [], [], .bin .rem false (.t 17) (.t 21)⟩,
        ⟨(some 7), none, [], [], .mv (.t 22)⟩] (some [3, 6, 7]))
      (.seq
       (.seq
        (.reg [⟨(some 23), none, [], [], .fa 2 (.t 3)⟩,
          ⟨(some 24), none, [], [], .ld true 4 (.t 23)⟩,
          ⟨(some 25), none, [], [], .mv (.k (.sc (.int .i64 (0))))⟩] (some [6, 7, 24, 25]))
        (.block 0
         (.loop
          (.seq
           (.reg [⟨(some 26), none, [], [], .bin .lss false (.t 25) (.k (.sc (.int .i64 (4))))⟩] none)
           (.seq
            (.cond (.t 26)
             (.keep [6, 7, 24, 25]
              .skip)
             (.exit 0))
            (.seq
             (.block 1
              (.seq
               (.reg [⟨(some 27), none, [], [], .mv (.t 25)⟩,
                 ⟨(some 28), none, [], [], .ixA 4 false 1 (.t 24) (.t 25)⟩,
                 ⟨(some 8), none, [], [], .mv (.t 27)⟩,
                 ⟨(some 9), none, [], [], .mv (.t 28)⟩] (some [6, 7, 8, 9, 24, 25]))
               (.reg [⟨(some 29), none, [], [], .mv (.t 6)⟩,
                 ⟨(some 30), none, [], [], .mv (.t 7)⟩,
                 ⟨(some 31), none, [], [], .mv (.t 8)⟩,
                 ⟨(some 32), none, [], [], .bin .add false (.t 30) (.t 31)⟩,
                 ⟨(some 33), none, [], [], .ixaS 1 (.t 29) (.t 32)⟩,
                 ⟨(some 34), none, [], [], .ld false 1 (.t 33)⟩,
                 ⟨(some 35), none, [], [], .mv (.t 9)⟩,
                 ⟨(some 36), none, [], [], .bin .xor false (.t 34) (.t 35)⟩,
                 ⟨(some 37), none, [], [], .ixaS 1 (.t 29) (.t 32)⟩,
                 ⟨none, none, [], [], .sto 1 (.t 37) (.t 36)⟩] (some [6, 7, 24, 25]))))
             (.reg [⟨(some 38), none, [], [], .bin .add false (.t 25) (.k (.sc (.int .i64 (1))))⟩,
               ⟨(some 25), none, [], [], .mv (.t 38)⟩] (some [6, 7, 24, 25]))))))))
       (.seq
        (.reg [⟨(some 39), none, [], [], .mv (.t 6)⟩,
          ⟨(some 4), none, [], [], .mv (.t 39)⟩,
          ⟨(some 5), none, [], [], .mv (.k (.sc (.bool true)))⟩] (some [4, 5]))
        .ret))))))
theorem b15 : cmpG Try.prog 15 = some (strip a15, r15, 40) := by kernel_rfl

abbrev r16 : List AR := [.c 2 true 6]
abbrev a16 : ACode :=
  (.seq
   (.reg [⟨(some 1), none, [], [], .box (.t 0)⟩,
     ⟨(some 2), none, [], [], .alc [(.sc (.int .i64 (0))), (.sc (.int .u16 (0))), (.sc (.int .u8 (0))), (.sc (.int .u8 (0))), (.sc (.int .u8 (0))), (.sc (.int .u8 (0)))]⟩] (some [1, 2]))
   (.seq
    (.reg [⟨(some 3), none, [], [], .fa 0 (.t 1)⟩,
      ⟨(some 4), none, [], [], .ld false 1 (.t 3)⟩,
      ⟨(some 5), none, [], [], .fa 1 (.t 1)⟩,
      ⟨(some 6), none, [], [], .ld false 1 (.t 5)⟩,
      ⟨(some 7), none, [], [], .fa 2 (.t 1)⟩,
      ⟨(some 8), none, [], [], .ld true 4 (.t 7)⟩,
      ⟨(some 9), none, [], [], .bld [(.sc (.int .i64 (0))), (.sc (.int .u16 (0))), (.sc (.int .u8 (0))), (.sc (.int .u8 (0))), (.sc (.int .u8 (0))), (.sc (.int .u8 (0)))] [(0, 1, (.t 4)), (1, 1, (.t 6)), (2, 4, (.t 8))]⟩,
      ⟨none, none, [], [], .sto 6 (.t 2) (.t 9)⟩] (some [2]))
    .ret))
theorem b16 : cmpG Try.prog 16 = some (strip a16, r16, 10) := by kernel_rfl

abbrev r18 : List AR := [.t 4]
abbrev a18 : ACode :=
  (.seq
   (.reg [⟨(some 4), none, [], [], .mv (.k (.sc (.bool false)))⟩] (some [0, 1]))
   (.seq
    (.seq
     (.reg [⟨(some 6), none, [], [], .mv (.t 0)⟩,
       ⟨(some 7), none, [], [], .lenL (.t 6)⟩,
       ⟨(some 8), none, [], [], .mv (.t 1)⟩,
       ⟨(some 9), none, [], [], .lenL (.t 8)⟩,
       ⟨(some 10), none, [], [], .bin .neq false (.t 7) (.t 9)⟩] (some [0, 1, 10]))
     (.cond (.t 10)
      (.keep []
       (.seq
        (.reg [⟨(some 4), none, [], [], .mv (.k (.sc (.bool false)))⟩] none)
        .ret))
      (.keep [0, 1]
       .skip)))
    (.seq
     (.seq
      (.reg [⟨(some 5), none, [], [], .mv (.k (.sc (.int .i64 (0))))⟩] (some [0, 1, 5]))
      (.block 0
       (.loop
        (.seq
         (.seq
          (.reg [⟨(some 11), none, [], [], .mv (.t 5)⟩,
            ⟨(some 12), none, [], [], .mv (.t 0)⟩,
            ⟨(some 13), none, [], [], .lenL (.t 12)⟩,
            ⟨(some 14), none, [], [], .bin .lss false (.t 11) (.t 13)⟩] (some [0, 1, 5, 14]))
          (.cond (.t 14)
           (.keep [0, 1, 5]
            .skip)
           (.exit 0)))
         (.seq
          (.block 1
           (.seq
            (.regD [⟨(some 17), none, [(.t 0)], [], .mv (.t 0)⟩,
              ⟨(some 18), none, [(.t 5)], [0], .mv (.t 5)⟩,
              ⟨(some 19), none, [(.t 17), (.t 18)], [], .ixaS 1 (.t 17) (.t 18)⟩,
              ⟨(some 20), none, [(.t 19)], [], .ld false 1 (.t 19)⟩,
              ⟨(some 21), none, [(.t 1)], [0, 1, 2, 3], .mv (.t 1)⟩,
              ⟨(some 22), none, [(.t 5)], [0, 1, 2, 3, 4], .mv (.t 5)⟩,
              ⟨(some 23), none, [(.t 21), (.t 22)], [0, 1, 2, 3], .ixaS 1 (.t 21) (.t 22)⟩,
              ⟨(some 24), none, [(.t 23)], [0, 1, 2, 3], .ld false 1 (.t 23)⟩,
              ⟨(some 25), none, [(.t 20), (.t 24)], [], .bin .neq false (.t 20) (.t 24)⟩] (some [0, 1, 5, 25]))
            (.cond (.t 25)
             (.keep []
              (.seq
               (.reg [⟨(some 4), none, [], [], .mv (.k (.sc (.bool false)))⟩] none)
               .ret))
             (.keep [0, 1, 5]
              .skip))))
          (.reg [⟨(some 15), none, [], [], .mv (.t 5)⟩,
            ⟨(some 16), none, [], [], .bin .add false (.t 15) (.k (.sc (.int .i64 (1))))⟩,
            ⟨(some 5), none, [], [], .mv (.t 16)⟩] (some [0, 1, 5])))))))
     (.seq
      (.reg [⟨(some 4), none, [], [], .mv (.k (.sc (.bool true)))⟩] (some [4]))
      .ret))))
theorem b18 : cmpG Try.prog 18 = some (strip a18, r18, 26) := by kernel_rfl

abbrev r19 : List AR := [.c 2 true 4, .t 3]
abbrev a19 : ACode :=
  (.seq
   (.reg [⟨(some 2), none, [], [], .alc [(.sc (.int .i64 (0))), .nl, (.sc (.int .i64 (0))), (.sc (.int .i64 (0)))]⟩,
     ⟨(some 3), none, [], [], .mv (.k (.sc (.int .i64 (0))))⟩] (some [0, 2]))
   (.seq
    (.seq
     (.reg [⟨(some 4), none, [], [], .mv (.t 0)⟩,
       ⟨(some 5), none, [], [], .bin .lss false (.t 4) (.k (.sc (.int .i64 (1))))⟩,
       ⟨(some 6), none, [], [], .mv (.t 5)⟩,
       ⟨(some 7), (some (6, false)), [], [], .mv (.t 0)⟩,
       ⟨(some 8), (some (6, false)), [], [], .bin .gtr false (.t 7) (.k (.sc (.int .i64 (1000))))⟩,
       ⟨(some 9), none, [], [], .pick (.t 6) (.k (.sc (.bool true))) (.t 8)⟩] (some [0, 2, 9]))
     (.cond (.t 9)
      (.keep [2]
       (.seq
        (.reg [⟨(some 10), none, [], [], .bld [(.sc (.int .i64 (0))), .nl, (.sc (.int .i64 (0))), (.sc (.int .i64 (0)))] []⟩,
          ⟨none, none, [], [], .sto 4 (.t 2) (.t 10)⟩,
          ⟨(some 3), none, [], [], .mv (.k (.sc (.int .i64 (1))))⟩] (some [2, 3]))
        .ret))
      (.keep [0, 2]
       .skip)))
    (.seq
     (.reg [⟨(some 11), none, [], [], .mv (.t 0)⟩,
       ⟨(some 12), none, [], [], .bld [(.sc (.int .i64 (0))), .nl, (.sc (.int .i64 (0))), (.sc (.int .i64 (0)))] [(0, 1, (.t 11))]⟩,
       ⟨none, none, [], [], .sto 4 (.t 2) (.t 12)⟩,
       ⟨(some 3), none, [], [], .mv (.k (.sc (.int .i64 (0))))⟩] (some [2, 3]))
     .ret)))
theorem b19 : cmpG Try.prog 19 = some (strip a19, r19, 13) := by kernel_rfl

abbrev r23 : List AR := [.t 2]
abbrev a23 : ACode :=
  (.seq
   (.reg [⟨(some 1), none, [], [], .box (.t 0)⟩,
     ⟨(some 2), none, [], [], .mv (.k (.sc (.int .i64 (0))))⟩] (some [1]))
   (.seq
    (.reg [⟨(some 3), none, [], [], .fa 1 (.t 1)⟩,
      ⟨(some 4), none, [], [], .ld false 1 (.t 3)⟩,
      ⟨(some 5), none, [], [], .lenL (.t 4)⟩,
      ⟨(some 2), none, [], [], .mv (.t 5)⟩] (some [2]))
    .ret))
theorem b23 : cmpG Try.prog 23 = some (strip a23, r23, 6) := by kernel_rfl


end Go.Proofs.Ytnfgnafphfddhaa.Cod
