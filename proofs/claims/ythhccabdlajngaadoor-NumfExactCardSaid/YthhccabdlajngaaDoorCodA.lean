import Derived.Test.YthhccabdlajngaaDoorProg
import Derived.Test.YthhccabdlajngaaDoorSimD
import Derived.KernelRfl
namespace Go.Proofs.YthhccabdlajngaaDoor.Cod
open Go Go.Sim Go.Proofs
set_option maxRecDepth 100000
abbrev r7 : List AR := [.t 4, .t 5]
abbrev a7 : ACode :=
  (.seq
   (.reg [⟨(some 4), none, [], [], .mv (.k .nl)⟩,
     ⟨(some 5), none, [], [], .mv (.k (.sc (.int .i64 (0))))⟩] (some [0, 1]))
   (.seq
    (.seq
     (.reg [⟨(some 8), none, [], [], .mv (.t 1)⟩,
       ⟨(some 9), none, [], [], .cal (.k (.fn 20 [])) [(.t 8)]⟩,
       ⟨(some 10), none, [], [], .un .not (.t 9)⟩] (some [0, 1, 10]))
     (.cond (.t 10)
      (.keep []
       (.seq
        (.reg [⟨(some 4), none, [], [], .mv (.k .nl)⟩,
          ⟨(some 5), none, [], [], .mv (.k (.sc (.int .i64 (1))))⟩] none)
        .ret))
      (.keep [0, 1]
       .skip)))
    (.seq
     (.seq
      (.reg [⟨(some 11), none, [], [], .mv (.t 0)⟩,
        ⟨(some 12), none, [], [], .mv (.t 1)⟩,
        ⟨(some 13), none, [], [], .cal (.k (.fn 12 [])) [(.t 11), (.t 12)]⟩,
        ⟨(some 14), none, [], [], .un .not (.t 13)⟩] (some [0, 1, 14]))
      (.cond (.t 14)
       (.keep [0, 1]
        (.seq
         (.reg [⟨(some 15), none, [], [], .mv (.t 0)⟩,
           ⟨(some 16), none, [], [], .mv (.t 1)⟩,
           ⟨(some 17), none, [], [], .cal (.k (.fn 21 [])) [(.t 15), (.t 16)]⟩,
           ⟨(some 18), none, [], [], .ext (.t 17) 0⟩,
           ⟨(some 19), none, [], [], .ext (.t 17) 1⟩,
           ⟨(some 4), none, [], [], .mv (.t 18)⟩,
           ⟨(some 5), none, [], [], .mv (.t 19)⟩] (some [4, 5]))
         .ret))
       (.keep [0, 1]
        .skip)))
     (.seq
      (.reg [⟨(some 21), none, [], [], .mv (.t 0)⟩,
        ⟨(some 22), none, [], [], .mv (.t 1)⟩,
        ⟨(some 23), none, [], [], .bin .sub false (.t 22) (.k (.sc (.int .i64 (1))))⟩,
        ⟨(some 24), none, [], [], .cal (.k (.fn 9 [])) [(.t 21), (.t 23)]⟩,
        ⟨(some 20), none, [], [], .mv (.t 24)⟩,
        ⟨(some 25), none, [], [], .ext (.t 20) 0⟩,
        ⟨(some 26), none, [], [], .ext (.t 20) 1⟩,
        ⟨(some 6), none, [], [], .mv (.t 25)⟩,
        ⟨(some 7), none, [], [], .mv (.t 26)⟩] (some [6, 7]))
      (.seq
       (.reg [⟨(some 27), none, [], [], .mv (.t 6)⟩,
         ⟨(some 28), none, [], [], .bsl 1 1 [(.sc (.int .u8 (0)))] [(0, 1, (.k (.sc (.int .u8 (0)))))]⟩,
         ⟨(some 29), none, [], [], .app 1 1 (.t 27) (.t 28)⟩,
         ⟨(some 30), none, [], [], .mv (.t 7)⟩,
         ⟨(some 4), none, [], [], .mv (.t 29)⟩,
         ⟨(some 5), none, [], [], .mv (.t 30)⟩] (some [4, 5]))
       .ret)))))
theorem b7 : cmpG Tryd.prog 7 = some (strip a7, r7, 31) := by kernel_rfl

abbrev r8 : List AR := [.t 4, .t 5]
abbrev a8 : ACode :=
  (.seq
   (.reg [⟨(some 4), none, [], [], .mv (.k .nl)⟩,
     ⟨(some 5), none, [], [], .mv (.k (.sc (.int .i64 (0))))⟩] (some [0, 1]))
   (.seq
    (.seq
     (.reg [⟨(some 11), none, [], [], .mv (.t 1)⟩,
       ⟨(some 12), none, [], [], .cal (.k (.fn 22 [])) [(.t 11)]⟩,
       ⟨(some 13), none, [], [], .un .not (.t 12)⟩] (some [0, 1, 13]))
     (.cond (.t 13)
      (.keep []
       (.seq
        (.reg [⟨(some 4), none, [], [], .mv (.k .nl)⟩,
          ⟨(some 5), none, [], [], .mv (.k (.sc (.int .i64 (1))))⟩] none)
        .ret))
      (.keep [0, 1]
       .skip)))
    (.seq
     (.seq
      (.reg [⟨(some 14), none, [], [], .mv (.t 0)⟩,
        ⟨(some 15), none, [], [], .mv (.t 1)⟩,
        ⟨(some 16), none, [], [], .cal (.k (.fn 13 [])) [(.t 14), (.t 15)]⟩] (some [0, 1, 16]))
      (.cond (.t 16)
       (.keep [0, 1]
        (.seq
         (.reg [⟨(some 18), none, [], [], .mv (.t 0)⟩,
           ⟨(some 19), none, [], [], .mv (.t 1)⟩,
           ⟨(some 20), none, [], [], .bin .sub false (.t 19) (.k (.sc (.int .i64 (1))))⟩,
           ⟨(some 21), none, [], [], .cal (.k (.fn 10 [])) [(.t 18), (.t 20)]⟩,
           ⟨(some 17), none, [], [], .mv (.t 21)⟩,
           ⟨(some 22), none, [], [], .ext (.t 17) 0⟩,
           ⟨(some 23), none, [], [], .ext (.t 17) 1⟩,
           ⟨(some 6), none, [], [], .mv (.t 22)⟩,
           ⟨(some 7), none, [], [], .mv (.t 23)⟩] (some [6]))
         (.seq
          (.reg [⟨(some 24), none, [], [], .mv (.t 6)⟩,
            ⟨(some 25), none, [], [], .bsl 1 1 [(.sc (.int .u8 (0)))] [(0, 1, (.k (.sc (.int .u8 (0)))))]⟩,
            ⟨(some 26), none, [], [], .app 1 1 (.t 24) (.t 25)⟩,
            ⟨(some 4), none, [], [], .mv (.t 26)⟩,
            ⟨(some 5), none, [], [], .mv (.k (.sc (.int .i64 (0))))⟩] (some [4, 5]))
          .ret)))
       (.keep [0, 1]
        .skip)))
     (.seq
      (.reg [⟨(some 27), none, [], [], .mv (.t 1)⟩,
        ⟨(some 28), none, [], [], .mks (.sc (.int .u8 (0))) (.t 27) (.t 27)⟩,
        ⟨(some 8), none, [], [], .mv (.t 28)⟩] (some [0, 1, 8]))
      (.seq
       (.reg [⟨(some 29), none, [], [], .mv (.t 0)⟩,
         ⟨(some 9), none, [], [], .mv (.t 29)⟩] (some [0, 1, 8, 9]))
       (.seq
        (.seq
         (.reg [⟨(some 30), none, [], [], .mv (.t 1)⟩,
           ⟨(some 31), none, [], [], .bin .sub false (.t 30) (.k (.sc (.int .i64 (1))))⟩,
           ⟨(some 10), none, [], [], .mv (.t 31)⟩] (some [0, 8, 9, 10]))
         (.block 0
          (.loop
           (.seq
            (.seq
             (.reg [⟨(some 32), none, [], [], .mv (.t 10)⟩,
               ⟨(some 33), none, [], [], .bin .gtr false (.t 32) (.k (.sc (.int .i64 (0))))⟩] (some [0, 8, 9, 10, 33]))
             (.cond (.t 33)
              (.keep [0, 8, 9, 10]
               .skip)
              (.exit 0)))
            (.seq
             (.block 1
              (.seq
               (.reg [⟨(some 36), none, [], [], .mv (.t 8)⟩,
                 ⟨(some 37), none, [], [], .mv (.t 10)⟩,
                 ⟨(some 38), none, [], [], .mv (.t 9)⟩,
                 ⟨(some 39), none, [], [], .cal (.k (.fn 23 [])) [(.t 38)]⟩,
                 ⟨(some 40), none, [], [], .ixaS 1 (.t 36) (.t 37)⟩,
                 ⟨none, none, [], [], .sto 1 (.t 40) (.t 39)⟩] (some [0, 8, 9, 10]))
               (.reg [⟨(some 41), none, [], [], .mv (.t 9)⟩,
                 ⟨(some 42), none, [], [], .cal (.k (.fn 24 [])) [(.t 41)]⟩,
                 ⟨(some 9), none, [], [], .mv (.t 42)⟩] (some [0, 8, 9, 10]))))
             (.reg [⟨(some 34), none, [], [], .mv (.t 10)⟩,
               ⟨(some 35), none, [], [], .bin .sub false (.t 34) (.k (.sc (.int .i64 (1))))⟩,
               ⟨(some 10), none, [], [], .mv (.t 35)⟩] (some [0, 8, 9, 10])))))))
        (.seq
         (.reg [⟨(some 43), none, [], [], .mv (.t 8)⟩,
           ⟨(some 44), none, [], [], .ixaS 1 (.t 43) (.k (.sc (.int .i64 (0))))⟩,
           ⟨none, none, [], [], .sto 1 (.t 44) (.k (.sc (.int .u8 (128))))⟩] (some [0, 8, 9]))
         (.seq
          (.seq
           (.reg [⟨(some 45), none, [], [], .mv (.t 0)⟩,
             ⟨(some 46), none, [], [], .bin .lss false (.t 45) (.k (.sc (.int .i64 (0))))⟩] (some [0, 8, 9, 46]))
           (.cond (.t 46)
            (.keep [0, 8, 9]
             (.reg [⟨(some 47), none, [], [], .mv (.t 8)⟩,
               ⟨(some 48), none, [], [], .ixaS 1 (.t 47) (.k (.sc (.int .i64 (0))))⟩,
               ⟨none, none, [], [], .sto 1 (.t 48) (.k (.sc (.int .u8 (255))))⟩] (some [0, 8, 9])))
            (.keep [0, 8, 9]
             .skip)))
          (.seq
           (.seq
            (.reg [⟨(some 49), none, [], [], .mv (.t 0)⟩,
              ⟨(some 50), none, [], [], .bin .geq false (.t 49) (.k (.sc (.int .i64 (0))))⟩,
              ⟨(some 51), none, [], [], .mv (.t 50)⟩,
              ⟨(some 52), (some (51, true)), [], [], .mv (.t 9)⟩,
              ⟨(some 53), (some (51, true)), [], [], .bin .neq false (.t 52) (.k (.sc (.int .i64 (0))))⟩,
              ⟨(some 54), none, [], [], .pick (.t 51) (.t 53) (.k (.sc (.bool false)))⟩,
              ⟨(some 55), none, [], [], .mv (.t 54)⟩,
              ⟨(some 56), (some (55, false)), [], [], .mv (.t 0)⟩,
              ⟨(some 57), (some (55, false)), [], [], .bin .lss false (.t 56) (.k (.sc (.int .i64 (0))))⟩,
              ⟨(some 58), (some (55, false)), [], [], .mv (.t 57)⟩,
              ⟨(some 59), (some (58, true)), [], [], .mv (.t 9)⟩,
              ⟨(some 60), (some (58, true)), [], [], .bin .neq false (.t 59) (.k (.sc (.int .i64 (-1))))⟩,
              ⟨(some 61), (some (55, false)), [], [], .pick (.t 58) (.t 60) (.k (.sc (.bool false)))⟩,
              ⟨(some 62), none, [], [], .pick (.t 55) (.k (.sc (.bool true))) (.t 61)⟩] (some [8, 62]))
            (.cond (.t 62)
             (.keep []
              (.seq
               (.reg [⟨(some 4), none, [], [], .mv (.k .nl)⟩,
                 ⟨(some 5), none, [], [], .mv (.k (.sc (.int .i64 (10))))⟩] none)
               .ret))
             (.keep [8]
              .skip)))
           (.seq
            (.reg [⟨(some 63), none, [], [], .mv (.t 8)⟩,
              ⟨(some 4), none, [], [], .mv (.t 63)⟩,
              ⟨(some 5), none, [], [], .mv (.k (.sc (.int .i64 (0))))⟩] (some [4, 5]))
            .ret))))))))))
theorem b8 : cmpG Tryd.prog 8 = some (strip a8, r8, 64) := by kernel_rfl

abbrev r9 : List AR := [.t 4, .t 5]
abbrev a9 : ACode :=
  (.seq
   (.reg [⟨(some 4), none, [], [], .mv (.k .nl)⟩,
     ⟨(some 5), none, [], [], .mv (.k (.sc (.int .i64 (0))))⟩] (some [0, 1]))
   (.seq
    (.block 0
     (.seq
      (.reg [⟨(some 9), none, [], [], .mv (.t 1)⟩,
        ⟨(some 10), none, [], [], .bin .lss false (.t 9) (.k (.sc (.int .i64 (1))))⟩,
        ⟨(some 11), none, [], [], .mv (.t 10)⟩,
        ⟨(some 12), (some (11, false)), [], [], .mv (.t 1)⟩,
        ⟨(some 13), (some (11, false)), [], [], .bin .gtr false (.t 12) (.k (.sc (.int .i64 (20))))⟩,
        ⟨(some 14), none, [], [], .pick (.t 11) (.k (.sc (.bool true))) (.t 13)⟩,
        ⟨(some 8), none, [], [], .mv (.t 14)⟩] (some [0, 1, 8]))
      (.cond (.t 8)
       (.keep []
        (.seq
         (.reg [⟨(some 4), none, [], [], .mv (.k .nl)⟩,
           ⟨(some 5), none, [], [], .mv (.k (.sc (.int .i64 (1))))⟩] none)
         .ret))
       (.keep [0, 1]
        (.seq
         (.reg [⟨(some 16), none, [], [], .mv (.t 0)⟩,
           ⟨(some 17), none, [], [], .bin .lss false (.t 16) (.k (.sc (.int .i64 (0))))⟩,
           ⟨(some 18), none, [], [], .mv (.t 17)⟩,
           ⟨(some 19), (some (18, false)), [], [], .mv (.t 0)⟩,
           ⟨(some 20), (some (18, false)), [], [], .mv (.t 1)⟩,
           ⟨(some 21), (some (18, false)), [], [], .cal (.k (.fn 14 [])) [(.t 20)]⟩,
           ⟨(some 22), (some (18, false)), [], [], .bin .gtr false (.t 19) (.t 21)⟩,
           ⟨(some 23), none, [], [], .pick (.t 18) (.k (.sc (.bool true))) (.t 22)⟩,
           ⟨(some 15), none, [], [], .mv (.t 23)⟩] (some [0, 1, 15]))
         (.cond (.t 15)
          (.keep []
           (.seq
            (.reg [⟨(some 4), none, [], [], .mv (.k .nl)⟩,
              ⟨(some 5), none, [], [], .mv (.k (.sc (.int .i64 (10))))⟩] none)
            .ret))
          (.keep [0, 1]
           .skip)))))))
    (.seq
     (.reg [⟨(some 24), none, [], [], .mv (.t 1)⟩,
       ⟨(some 25), none, [], [], .mks (.sc (.int .u8 (0))) (.t 24) (.t 24)⟩,
       ⟨(some 6), none, [], [], .mv (.t 25)⟩] (some [0, 1, 6]))
     (.seq
      (.seq
       (.reg [⟨(some 26), none, [], [], .mv (.t 6)⟩,
         ⟨(some 27), none, [], [], .lenL (.t 26)⟩,
         ⟨(some 28), none, [], [], .mv (.k (.sc (.int .i64 (0))))⟩] (some [0, 1, 6, 27, 28]))
       (.block 1
        (.loop
         (.seq
          (.reg [⟨(some 29), none, [], [], .bin .lss false (.t 28) (.t 27)⟩] none)
          (.seq
           (.cond (.t 29)
            (.keep [0, 1, 6, 27, 28]
             .skip)
            (.exit 1))
           (.seq
            (.block 2
             (.seq
              (.reg [⟨(some 30), none, [], [], .mv (.t 28)⟩,
                ⟨(some 7), none, [], [], .mv (.t 30)⟩] (some [0, 1, 6, 7, 27, 28]))
              (.reg [⟨(some 31), none, [], [], .mv (.t 6)⟩,
                ⟨(some 32), none, [], [], .mv (.t 7)⟩,
                ⟨(some 33), none, [], [], .mv (.t 0)⟩,
                ⟨(some 34), none, [], [], .mv (.t 1)⟩,
                ⟨(some 35), none, [], [], .bin .sub false (.t 34) (.k (.sc (.int .i64 (1))))⟩,
                ⟨(some 36), none, [], [], .mv (.t 7)⟩,
                ⟨(some 37), none, [], [], .bin .sub false (.t 35) (.t 36)⟩,
                ⟨(some 38), none, [], [], .bin .mul false (.k (.sc (.int .i64 (3)))) (.t 37)⟩,
                ⟨(some 39), none, [], [], .bin .shr false (.t 33) (.t 38)⟩,
                ⟨(some 40), none, [], [], .cvi .u8 (.t 39)⟩,
                ⟨(some 41), none, [], [], .bin .and false (.t 40) (.k (.sc (.int .u8 (7))))⟩,
                ⟨(some 42), none, [], [], .bin .add false (.k (.sc (.int .u8 (48)))) (.t 41)⟩,
                ⟨(some 43), none, [], [], .ixaS 1 (.t 31) (.t 32)⟩,
                ⟨none, none, [], [], .sto 1 (.t 43) (.t 42)⟩] (some [0, 1, 6, 27, 28]))))
            (.reg [⟨(some 44), none, [], [], .bin .add false (.t 28) (.k (.sc (.int .i64 (1))))⟩,
              ⟨(some 28), none, [], [], .mv (.t 44)⟩] (some [0, 1, 6, 27, 28]))))))))
      (.seq
       (.reg [⟨(some 45), none, [], [], .mv (.t 6)⟩,
         ⟨(some 4), none, [], [], .mv (.t 45)⟩,
         ⟨(some 5), none, [], [], .mv (.k (.sc (.int .i64 (0))))⟩] (some [4, 5]))
       .ret)))))
theorem b9 : cmpG Tryd.prog 9 = some (strip a9, r9, 46) := by kernel_rfl

abbrev r10 : List AR := [.t 4, .t 5]
abbrev a10 : ACode :=
  (.seq
   (.reg [⟨(some 4), none, [], [], .mv (.k .nl)⟩,
     ⟨(some 5), none, [], [], .mv (.k (.sc (.int .i64 (0))))⟩] (some [0, 1]))
   (.seq
    (.seq
     (.reg [⟨(some 8), none, [], [], .mv (.t 1)⟩,
       ⟨(some 9), none, [], [], .bin .lss false (.t 8) (.k (.sc (.int .i64 (1))))⟩,
       ⟨(some 10), none, [], [], .mv (.t 9)⟩,
       ⟨(some 11), (some (10, false)), [], [], .mv (.t 1)⟩,
       ⟨(some 12), (some (10, false)), [], [], .bin .gtr false (.t 11) (.k (.sc (.int .i64 (20))))⟩,
       ⟨(some 13), none, [], [], .pick (.t 10) (.k (.sc (.bool true))) (.t 12)⟩] (some [0, 1, 13]))
     (.cond (.t 13)
      (.keep []
       (.seq
        (.reg [⟨(some 4), none, [], [], .mv (.k .nl)⟩,
          ⟨(some 5), none, [], [], .mv (.k (.sc (.int .i64 (1))))⟩] none)
        .ret))
      (.keep [0, 1]
       .skip)))
    (.seq
     (.seq
      (.reg [⟨(some 14), none, [], [], .mv (.t 0)⟩,
        ⟨(some 15), none, [], [], .bin .lss false (.t 14) (.k (.sc (.int .i64 (0))))⟩,
        ⟨(some 16), none, [], [], .mv (.t 15)⟩,
        ⟨(some 17), (some (16, false)), [], [], .mv (.t 0)⟩,
        ⟨(some 18), (some (16, false)), [], [], .mv (.t 1)⟩,
        ⟨(some 19), (some (16, false)), [], [], .cal (.k (.fn 15 [])) [(.t 18)]⟩,
        ⟨(some 20), (some (16, false)), [], [], .bin .gtr false (.t 17) (.t 19)⟩,
        ⟨(some 21), none, [], [], .pick (.t 16) (.k (.sc (.bool true))) (.t 20)⟩] (some [0, 1, 21]))
      (.cond (.t 21)
       (.keep []
        (.seq
         (.reg [⟨(some 4), none, [], [], .mv (.k .nl)⟩,
           ⟨(some 5), none, [], [], .mv (.k (.sc (.int .i64 (10))))⟩] none)
         .ret))
       (.keep [0, 1]
        .skip)))
     (.seq
      (.reg [⟨(some 22), none, [], [], .mv (.t 1)⟩,
        ⟨(some 23), none, [], [], .mks (.sc (.int .u8 (0))) (.t 22) (.t 22)⟩,
        ⟨(some 6), none, [], [], .mv (.t 23)⟩] (some [0, 1, 6]))
      (.seq
       (.seq
        (.reg [⟨(some 24), none, [], [], .mv (.t 1)⟩,
          ⟨(some 25), none, [], [], .bin .sub false (.t 24) (.k (.sc (.int .i64 (1))))⟩,
          ⟨(some 7), none, [], [], .mv (.t 25)⟩] (some [0, 6, 7]))
        (.block 0
         (.loop
          (.seq
           (.seq
            (.reg [⟨(some 26), none, [], [], .mv (.t 7)⟩,
              ⟨(some 27), none, [], [], .bin .geq false (.t 26) (.k (.sc (.int .i64 (0))))⟩] (some [0, 6, 7, 27]))
            (.cond (.t 27)
             (.keep [0, 6, 7]
              .skip)
             (.exit 0)))
           (.seq
            (.block 1
             (.seq
              (.reg [⟨(some 30), none, [], [], .mv (.t 6)⟩,
                ⟨(some 31), none, [], [], .mv (.t 7)⟩,
                ⟨(some 32), none, [], [], .mv (.t 0)⟩,
                ⟨(some 33), none, [], [], .bin .rem false (.t 32) (.k (.sc (.int .i64 (8))))⟩,
                ⟨(some 34), none, [], [], .bin .add false (.k (.sc (.int .i64 (48)))) (.t 33)⟩,
                ⟨(some 35), none, [], [], .cvi .u8 (.t 34)⟩,
                ⟨(some 36), none, [], [], .ixaS 1 (.t 30) (.t 31)⟩,
                ⟨none, none, [], [], .sto 1 (.t 36) (.t 35)⟩] (some [0, 6, 7]))
              (.reg [⟨(some 37), none, [], [], .mv (.t 0)⟩,
                ⟨(some 38), none, [], [], .bin .quo false (.t 37) (.k (.sc (.int .i64 (8))))⟩,
                ⟨(some 0), none, [], [], .mv (.t 38)⟩] (some [0, 6, 7]))))
            (.reg [⟨(some 28), none, [], [], .mv (.t 7)⟩,
              ⟨(some 29), none, [], [], .bin .sub false (.t 28) (.k (.sc (.int .i64 (1))))⟩,
              ⟨(some 7), none, [], [], .mv (.t 29)⟩] (some [0, 6, 7])))))))
       (.seq
        (.reg [⟨(some 39), none, [], [], .mv (.t 6)⟩,
          ⟨(some 4), none, [], [], .mv (.t 39)⟩,
          ⟨(some 5), none, [], [], .mv (.k (.sc (.int .i64 (0))))⟩] (some [4, 5]))
        .ret))))))
theorem b10 : cmpG Tryd.prog 10 = some (strip a10, r10, 40) := by kernel_rfl

abbrev r11 : List AR := [.t 4]
abbrev a11 : ACode :=
  (.seq
   (.reg [⟨(some 4), none, [], [], .mv (.k (.sc (.bool false)))⟩] (some [0, 1]))
   (.seq
    (.seq
     (.reg [⟨(some 6), none, [], [], .mv (.t 0)⟩,
       ⟨(some 7), none, [], [], .lenL (.t 6)⟩,
       ⟨(some 8), none, [], [], .mv (.t 1)⟩,
       ⟨(some 9), none, [], [], .lenL (.t 8)⟩,
       ⟨(some 10), none, [], [], .bin .neq false (.t 7) (.t 9)⟩] (some [0, 1, 10]))
     (.cond (.t 10)
      (.keep []
       (.seq
        (.reg [⟨(some 4), none, [], [], .mv (.k (.sc (.bool false)))⟩] none)
        .ret))
      (.keep [0, 1]
       .skip)))
    (.seq
     (.seq
      (.reg [⟨(some 5), none, [], [], .mv (.k (.sc (.int .i64 (0))))⟩] (some [0, 1, 5]))
      (.block 0
       (.loop
        (.seq
         (.seq
          (.reg [⟨(some 11), none, [], [], .mv (.t 5)⟩,
            ⟨(some 12), none, [], [], .mv (.t 0)⟩,
            ⟨(some 13), none, [], [], .lenL (.t 12)⟩,
            ⟨(some 14), none, [], [], .bin .lss false (.t 11) (.t 13)⟩] (some [0, 1, 5, 14]))
          (.cond (.t 14)
           (.keep [0, 1, 5]
            .skip)
           (.exit 0)))
         (.seq
          (.block 1
           (.seq
            (.regD [⟨(some 17), none, [(.t 0)], [], .mv (.t 0)⟩,
              ⟨(some 18), none, [(.t 5)], [0], .mv (.t 5)⟩,
              ⟨(some 19), none, [(.t 17), (.t 18)], [], .ixaS 1 (.t 17) (.t 18)⟩,
              ⟨(some 20), none, [(.t 19)], [], .ld false 1 (.t 19)⟩,
              ⟨(some 21), none, [(.t 1)], [0, 1, 2, 3], .mv (.t 1)⟩,
              ⟨(some 22), none, [(.t 5)], [0, 1, 2, 3, 4], .mv (.t 5)⟩,
              ⟨(some 23), none, [(.t 21), (.t 22)], [0, 1, 2, 3], .ixaS 1 (.t 21) (.t 22)⟩,
              ⟨(some 24), none, [(.t 23)], [0, 1, 2, 3], .ld false 1 (.t 23)⟩,
              ⟨(some 25), none, [(.t 20), (.t 24)], [], .bin .neq false (.t 20) (.t 24)⟩] (some [0, 1, 5, 25]))
            (.cond (.t 25)
             (.keep []
              (.seq
               (.reg [⟨(some 4), none, [], [], .mv (.k (.sc (.bool false)))⟩] none)
               .ret))
             (.keep [0, 1, 5]
              .skip))))
          (.reg [⟨(some 15), none, [], [], .mv (.t 5)⟩,
            ⟨(some 16), none, [], [], .bin .add false (.t 15) (.k (.sc (.int .i64 (1))))⟩,
            ⟨(some 5), none, [], [], .mv (.t 16)⟩] (some [0, 1, 5])))))))
     (.seq
      (.reg [⟨(some 4), none, [], [], .mv (.k (.sc (.bool true)))⟩] (some [4]))
      .ret))))
theorem b11 : cmpG Tryd.prog 11 = some (strip a11, r11, 26) := by kernel_rfl

abbrev r12 : List AR := [.t 4]
abbrev a12 : ACode :=
  (.seq
   (.reg [⟨(some 4), none, [], [], .mv (.k (.sc (.bool false)))⟩] (some [0, 1]))
   (.seq
    (.reg [⟨(some 5), none, [], [], .mv (.t 1)⟩,
      ⟨(some 6), none, [], [], .cal (.k (.fn 20 [])) [(.t 5)]⟩,
      ⟨(some 7), none, [], [], .mv (.t 6)⟩,
      ⟨(some 8), (some (7, true)), [], [], .mv (.t 0)⟩,
      ⟨(some 9), (some (7, true)), [], [], .bin .geq false (.t 8) (.k (.sc (.int .i64 (0))))⟩,
      ⟨(some 10), none, [], [], .pick (.t 7) (.t 9) (.k (.sc (.bool false)))⟩,
      ⟨(some 11), none, [], [], .mv (.t 10)⟩,
      ⟨(some 12), (some (11, true)), [], [], .mv (.t 0)⟩,
      ⟨(some 13), (some (11, true)), [], [], .mv (.t 1)⟩,
      ⟨(some 14), (some (11, true)), [], [], .bin .sub false (.t 13) (.k (.sc (.int .i64 (1))))⟩,
      ⟨(some 15), (some (11, true)), [], [], .cal (.k (.fn 14 [])) [(.t 14)]⟩,
      ⟨(some 16), (some (11, true)), [], [], .bin .leq false (.t 12) (.t 15)⟩,
      ⟨(some 17), none, [], [], .pick (.t 11) (.t 16) (.k (.sc (.bool false)))⟩,
      ⟨(some 4), none, [], [], .mv (.t 17)⟩] (some [4]))
    .ret))
theorem b12 : cmpG Tryd.prog 12 = some (strip a12, r12, 18) := by kernel_rfl

abbrev r13 : List AR := [.t 4]
abbrev a13 : ACode :=
  (.seq
   (.reg [⟨(some 4), none, [], [], .mv (.k (.sc (.bool false)))⟩] (some [0, 1]))
   (.seq
    (.reg [⟨(some 5), none, [], [], .mv (.t 1)⟩,
      ⟨(some 6), none, [], [], .cal (.k (.fn 22 [])) [(.t 5)]⟩,
      ⟨(some 7), none, [], [], .mv (.t 6)⟩,
      ⟨(some 8), (some (7, true)), [], [], .mv (.t 0)⟩,
      ⟨(some 9), (some (7, true)), [], [], .bin .geq false (.t 8) (.k (.sc (.int .i64 (0))))⟩,
      ⟨(some 10), none, [], [], .pick (.t 7) (.t 9) (.k (.sc (.bool false)))⟩,
      ⟨(some 11), none, [], [], .mv (.t 10)⟩,
      ⟨(some 12), (some (11, true)), [], [], .mv (.t 0)⟩,
      ⟨(some 13), (some (11, true)), [], [], .mv (.t 1)⟩,
      ⟨(some 14), (some (11, true)), [], [], .bin .sub false (.t 13) (.k (.sc (.int .i64 (1))))⟩,
      ⟨(some 15), (some (11, true)), [], [], .cal (.k (.fn 15 [])) [(.t 14)]⟩,
      ⟨(some 16), (some (11, true)), [], [], .bin .leq false (.t 12) (.t 15)⟩,
      ⟨(some 17), none, [], [], .pick (.t 11) (.t 16) (.k (.sc (.bool false)))⟩,
      ⟨(some 4), none, [], [], .mv (.t 17)⟩] (some [4]))
    .ret))
theorem b13 : cmpG Tryd.prog 13 = some (strip a13, r13, 18) := by kernel_rfl

abbrev r14 : List AR := [.t 2]
abbrev a14 : ACode :=
  (.seq
   (.reg [⟨(some 2), none, [], [], .mv (.k (.sc (.int .i64 (0))))⟩] (some [0]))
   (.seq
    (.reg [⟨(some 3), none, [], [], .mv (.t 0)⟩,
      ⟨(some 4), none, [], [], .mx [(.t 3), (.k (.sc (.int .i64 (0))))]⟩,
      ⟨(some 5), none, [], [], .mn [(.t 4), (.k (.sc (.int .i64 (20))))]⟩,
      ⟨(some 6), none, [], [], .bin .mul false (.k (.sc (.int .i64 (3)))) (.t 5)⟩,
      ⟨(some 7), none, [], [], .bin .shl false (.k (.sc (.int .i64 (1)))) (.t 6)⟩,
      ⟨(some 8), none, [], [], .bin .sub false (.t 7) (.k (.sc (.int .i64 (1))))⟩,
      ⟨(some 2), none, [], [], .mv (.t 8)⟩] (some [2]))
    .ret))
theorem b14 : cmpG Tryd.prog 14 = some (strip a14, r14, 9) := by kernel_rfl

abbrev r15 : List AR := [.t 2]
abbrev a15 : ACode :=
  (.seq
   (.reg [⟨(some 2), none, [], [], .mv (.k (.sc (.int .i64 (0))))⟩] (some [0]))
   (.seq
    (.reg [⟨(some 3), none, [], [], .mv (.k (.sc (.int .i64 (0))))⟩] none)
    (.seq
     (.seq
      (.reg [⟨(some 4), none, [], [], .mv (.k (.sc (.int .i64 (0))))⟩] none)
      (.block 0
       (.loop
        (.seq
         (.seq
          (.reg [⟨(some 5), none, [], [], .mv (.t 4)⟩,
            ⟨(some 6), none, [], [], .mv (.t 0)⟩,
            ⟨(some 7), none, [], [], .bin .lss false (.t 5) (.t 6)⟩,
            ⟨(some 8), none, [], [], .mv (.t 7)⟩,
            ⟨(some 9), (some (8, true)), [], [], .mv (.t 4)⟩,
            ⟨(some 10), (some (8, true)), [], [], .bin .lss false (.t 9) (.k (.sc (.int .i64 (20))))⟩,
            ⟨(some 11), none, [], [], .pick (.t 8) (.t 10) (.k (.sc (.bool false)))⟩] (some [0, 3, 4, 11]))
          (.cond (.t 11)
           (.keep [0, 3, 4]
            .skip)
           (.exit 0)))
         (.seq
          (.block 1
           (.reg [⟨(some 14), none, [], [], .mv (.t 3)⟩,
             ⟨(some 15), none, [], [], .bin .mul false (.k (.sc (.int .i64 (8)))) (.t 14)⟩,
             ⟨(some 16), none, [], [], .bin .add false (.t 15) (.k (.sc (.int .i64 (7))))⟩,
             ⟨(some 3), none, [], [], .mv (.t 16)⟩] (some [0, 3, 4])))
          (.reg [⟨(some 12), none, [], [], .mv (.t 4)⟩,
            ⟨(some 13), none, [], [], .bin .add false (.t 12) (.k (.sc (.int .i64 (1))))⟩,
            ⟨(some 4), none, [], [], .mv (.t 13)⟩] (some [0, 3, 4])))))))
     (.seq
      (.reg [⟨(some 17), none, [], [], .mv (.t 3)⟩,
        ⟨(some 2), none, [], [], .mv (.t 17)⟩] (some [2]))
      .ret))))
theorem b15 : cmpG Tryd.prog 15 = some (strip a15, r15, 18) := by kernel_rfl

abbrev r16 : List AR := [.t 0]
abbrev a16 : ACode :=
  (.seq
   (.reg [⟨(some 0), none, [], [], .mv (.k (.sc (.bool false)))⟩] (some []))
   (.seq
    (.reg [⟨(some 8), none, [], [], .cal (.k (.fn 7 [])) [(.k (.sc (.int .i64 (8)))), (.k (.sc (.int .i64 (8))))]⟩,
      ⟨(some 7), none, [], [], .mv (.t 8)⟩,
      ⟨(some 9), none, [], [], .ext (.t 7) 0⟩,
      ⟨(some 10), none, [], [], .ext (.t 7) 1⟩,
      ⟨(some 1), none, [], [], .mv (.t 9)⟩,
      ⟨(some 2), none, [], [], .mv (.t 10)⟩] (some [1, 2]))
    (.seq
     (.reg [⟨(some 12), none, [], [], .mv (.t 1)⟩,
       ⟨(some 13), none, [], [], .cal (.k (.fn 17 [])) [(.t 12)]⟩,
       ⟨(some 11), none, [], [], .mv (.t 13)⟩,
       ⟨(some 14), none, [], [], .ext (.t 11) 0⟩,
       ⟨(some 15), none, [], [], .ext (.t 11) 1⟩,
       ⟨(some 3), none, [], [], .mv (.t 14)⟩,
       ⟨(some 4), none, [], [], .mv (.t 15)⟩] (some [1, 2, 3, 4]))
     (.seq
      (.reg [⟨(some 17), none, [], [], .cal (.k (.fn 7 [])) [(.k (.sc (.int .i64 (-1)))), (.k (.sc (.int .i64 (8))))]⟩,
        ⟨(some 16), none, [], [], .mv (.t 17)⟩,
        ⟨(some 18), none, [], [], .ext (.t 16) 0⟩,
        ⟨(some 19), none, [], [], .ext (.t 16) 1⟩,
        ⟨(some 5), none, [], [], .mv (.t 18)⟩,
        ⟨(some 6), none, [], [], .mv (.t 19)⟩] (some [1, 2, 3, 4, 5, 6]))
      (.seq
       (.reg (⟨(some 20), none, [], [], .mv (.t 1)⟩ ::
         ⟨(some 21), none, [], [], .cvb (.t 20)⟩ ::
         ⟨(some 22), none, [], [], .bin .eql false (.t 21) (.k (.sc (.string ⟨#[48, 48, 48, 48, 48, 49, 48, 0]⟩)))⟩ ::
         ⟨(some 23), none, [], [], .mv (.t 22)⟩ ::
         ⟨(some 24), (some (23, true)), [], [], .mv (.t 2)⟩ ::
         ⟨(some 25), (some (23, true)), [], [], .bin .eql false (.t 24) (.k (.sc (.int .i64 (0))))⟩ ::
         ⟨(some 26), none, [], [], .pick (.t 23) (.t 25) (.k (.sc (.bool false)))⟩ ::
         ⟨(some 27), none, [], [], .mv (.t 26)⟩ ::
         ⟨(some 28), (some (27, true)), [], [], .mv (.t 3)⟩ ::
         ⟨(some 29), (some (27, true)), [], [], .bin .eql false (.t 28) (.k (.sc (.int .i64 (8))))⟩ ::
         ⟨(some 30), none, [], [], .pick (.t 27) (.t 29) (.k (.sc (.bool false)))⟩ ::
         ⟨(some 31), none, [], [], .mv (.t 30)⟩ ::
         ⟨(some 32), (some (31, true)), [], [], .mv (.t 4)⟩ ::
         ⟨(some 33), (some (31, true)), [], [], .bin .eql false (.t 32) (.k (.sc (.int .i64 (0))))⟩ ::
         ⟨(some 34), none, [], [], .pick (.t 31) (.t 33) (.k (.sc (.bool false)))⟩ ::
         ⟨(some 35), none, [], [], .mv (.t 34)⟩ ::
         ⟨(some 36), (some (35, true)), [], [], .mv (.t 5)⟩ ::
         ⟨(some 37), (some (35, true)), [], [], .lenL (.t 36)⟩ ::
         ⟨(some 38), (some (35, true)), [], [], .bin .eql false (.t 37) (.k (.sc (.int .i64 (8))))⟩ ::
         ⟨(some 39), none, [], [], .pick (.t 35) (.t 38) (.k (.sc (.bool false)))⟩ ::
         ⟨(some 40), none, [], [], .mv (.t 39)⟩ ::
         ⟨(some 41), (some (40, true)), [], [], .mv (.t 5)⟩ ::
         ⟨(some 42), (some (40, true)), [], [], .ixaS 1 (.t 41) (.k (.sc (.int .i64 (0))))⟩ ::
         ⟨(some 43), (some (40, true)), [], [], .ld false 1 (.t 42)⟩ ::
         ⟨(some 44), (some (40, true)), [], [], .bin .eql false (.t 43) (.k (.sc (.int .u8 (255))))⟩ ::
         ⟨(some 45), none, [], [], .pick (.t 40) (.t 44) (.k (.sc (.bool false)))⟩ ::
         ⟨(some 46), none, [], [], .mv (.t 45)⟩ ::
         ⟨(some 47), (some (46, true)), [], [], .mv (.t 5)⟩ ::
         ⟨(some 48), (some (46, true)), [], [], .ixaS 1 (.t 47) (.k (.sc (.int .i64 (7))))⟩ ::
         ⟨(some 49), (some (46, true)), [], [], .ld false 1 (.t 48)⟩ ::
         ⟨(some 50), (some (46, true)), [], [], .bin .eql false (.t 49) (.k (.sc (.int .u8 (255))))⟩ ::
         ⟨(some 51), none, [], [], .pick (.t 46) (.t 50) (.k (.sc (.bool false)))⟩ ::
         ⟨(some 52), none, [], [], .mv (.t 51)⟩ ::
         ⟨(some 53), (some (52, true)), [], [], .mv (.t 6)⟩ ::
         ⟨(some 54), (some (52, true)), [], [], .bin .eql false (.t 53) (.k (.sc (.int .i64 (0))))⟩ ::
         ⟨(some 55), none, [], [], .pick (.t 52) (.t 54) (.k (.sc (.bool false)))⟩ ::
         ⟨(some 56), none, [], [], .mv (.t 55)⟩ ::
         ⟨(some 57), (some (56, true)), [], [], .mv (.t 5)⟩ ::
         ⟨(some 58), (some (56, true)), [], [], .cal (.k (.fn 19 [])) [(.t 57)]⟩ ::
         ⟨(some 59), none, [], [], .pick (.t 56) (.t 58) (.k (.sc (.bool false)))⟩ ::
         ⟨(some 60), none, [], [], .mv (.t 59)⟩ ::
         ⟨(some 61), (some (60, true)), [], [], .cal (.k (.fn 14 [])) [(.k (.sc (.int .i64 (2))))]⟩ ::
         ⟨(some 62), (some (60, true)), [], [], .bin .eql false (.t 61) (.k (.sc (.int .i64 (63))))⟩ ::
         ⟨(some 63), none, [], [], .pick (.t 60) (.t 62) (.k (.sc (.bool false)))⟩ ::
         ⟨(some 0), none, [], [], .mv (.t 63)⟩ :: []) (some [0]))
       .ret)))))
theorem b16 : cmpG Tryd.prog 16 = some (strip a16, r16, 64) := by kernel_rfl

abbrev r17 : List AR := [.t 2, .t 3]
abbrev a17 : ACode :=
  (.seq
   (.reg [⟨(some 2), none, [], [], .mv (.k (.sc (.int .i64 (0))))⟩,
     ⟨(some 3), none, [], [], .mv (.k (.sc (.int .i64 (0))))⟩] (some [0]))
   (.scopeJ 0
    (.seq
     (.reg [⟨(some 4), none, [], [], .mv (.k (.sc (.int .i64 (0))))⟩] none)
     (.seq
      (.reg [⟨(some 5), none, [], [], .mv (.k .nl)⟩,
        ⟨(some 6), none, [], [], .mv (.k .nl)⟩] (some [0, 4]))
      (.seq
       (.seq
        (.reg [⟨(some 9), none, [], [], .mv (.t 0)⟩,
          ⟨(some 10), none, [], [], .lenL (.t 9)⟩,
          ⟨(some 11), none, [], [], .cal (.k (.fn 20 [])) [(.t 10)]⟩,
          ⟨(some 12), none, [], [], .un .not (.t 11)⟩] (some [0, 4, 12]))
        (.cond (.t 12)
         (.keep []
          (.seq
           (.reg [⟨(some 2), none, [], [], .mv (.k (.sc (.int .i64 (0))))⟩,
             ⟨(some 3), none, [], [], .mv (.k (.sc (.int .i64 (1))))⟩] none)
           .ret))
         (.keep [0, 4]
          .skip)))
       (.seq
        (.seq
         (.reg [⟨(some 13), none, [], [], .mv (.t 0)⟩,
           ⟨(some 14), none, [], [], .ixaS 1 (.t 13) (.k (.sc (.int .i64 (0))))⟩,
           ⟨(some 15), none, [], [], .ld false 1 (.t 14)⟩,
           ⟨(some 16), none, [], [], .bin .eql false (.t 15) (.k (.sc (.int .u8 (128))))⟩,
           ⟨(some 17), none, [], [], .mv (.t 16)⟩,
           ⟨(some 18), (some (17, false)), [], [], .mv (.t 0)⟩,
           ⟨(some 19), (some (17, false)), [], [], .ixaS 1 (.t 18) (.k (.sc (.int .i64 (0))))⟩,
           ⟨(some 20), (some (17, false)), [], [], .ld false 1 (.t 19)⟩,
           ⟨(some 21), (some (17, false)), [], [], .bin .eql false (.t 20) (.k (.sc (.int .u8 (255))))⟩,
           ⟨(some 22), none, [], [], .pick (.t 17) (.k (.sc (.bool true))) (.t 21)⟩] (some [0, 4, 22]))
         (.cond (.t 22)
          (.keep [0]
           (.goto 0))
          (.keep [0, 4]
           .skip)))
        (.seq
         (.reg [⟨(some 23), none, [], [], .mv (.t 0)⟩,
           ⟨(some 24), none, [], [], .cal (.k (.fn 25 [])) [(.t 23), (.k (.sc (.string ⟨#[32]⟩)))]⟩,
           ⟨(some 6), none, [], [], .mv (.t 24)⟩] (some [4, 6]))
         (.seq
          (.reg [⟨(some 25), none, [], [], .mv (.t 6)⟩,
            ⟨(some 26), none, [], [], .cal (.k (.fn 26 [])) [(.t 25)]⟩,
            ⟨(some 5), none, [], [], .mv (.t 26)⟩] (some [4, 5, 6]))
          (.seq
           (.seq
            (.reg [⟨(some 27), none, [], [], .mv (.t 5)⟩,
              ⟨(some 28), none, [], [], .lenL (.t 27)⟩,
              ⟨(some 29), none, [], [], .bin .eql false (.t 28) (.k (.sc (.int .i64 (0))))⟩,
              ⟨(some 30), none, [], [], .mv (.t 29)⟩,
              ⟨(some 31), (some (30, false)), [], [], .mv (.t 6)⟩,
              ⟨(some 32), (some (30, false)), [], [], .mv (.t 5)⟩,
              ⟨(some 33), (some (30, false)), [], [], .lenL (.t 32)⟩,
              ⟨(some 34), (some (30, false)), [], [], .slL 1 (some (.t 33)) none none (.t 31)⟩,
              ⟨(some 35), (some (30, false)), [], [], .cal (.k (.fn 27 [])) [(.t 34), (.k (.sc (.string ⟨#[32, 0]⟩)))]⟩,
              ⟨(some 36), (some (30, false)), [], [], .lenL (.t 35)⟩,
              ⟨(some 37), (some (30, false)), [], [], .bin .gtr false (.t 36) (.k (.sc (.int .i64 (0))))⟩,
              ⟨(some 38), none, [], [], .pick (.t 30) (.k (.sc (.bool true))) (.t 37)⟩] (some [4, 5, 38]))
            (.cond (.t 38)
             (.keep []
              (.seq
               (.reg [⟨(some 2), none, [], [], .mv (.k (.sc (.int .i64 (0))))⟩,
                 ⟨(some 3), none, [], [], .mv (.k (.sc (.int .i64 (3))))⟩] none)
               .ret))
             (.keep [4, 5]
              .skip)))
           (.seq
            (.seq
             (.reg [⟨(some 39), none, [], [], .mv (.t 5)⟩,
               ⟨(some 40), none, [], [], .lenL (.t 39)⟩,
               ⟨(some 41), none, [], [], .mv (.k (.sc (.int .i64 (0))))⟩] (some [4, 39, 40, 41]))
             (.block 0
              (.loop
               (.seq
                (.reg [⟨(some 42), none, [], [], .bin .lss false (.t 41) (.t 40)⟩] none)
                (.seq
                 (.cond (.t 42)
                  (.keep [4, 39, 40, 41]
                   .skip)
                  (.exit 0))
                 (.seq
                  (.block 1
                   (.seq
                    (.reg [⟨(some 43), none, [], [], .ixaS 1 (.t 39) (.t 41)⟩,
                      ⟨(some 44), none, [], [], .ld false 1 (.t 43)⟩,
                      ⟨(some 8), none, [], [], .mv (.t 44)⟩] (some [4, 8, 39, 40, 41]))
                    (.reg [⟨(some 45), none, [], [], .mv (.t 4)⟩,
                      ⟨(some 46), none, [], [], .bin .shl false (.t 45) (.k (.sc (.int .u64 (3))))⟩,
                      ⟨(some 47), none, [], [], .mv (.t 8)⟩,
                      ⟨(some 48), none, [], [], .bin .sub false (.t 47) (.k (.sc (.int .u8 (48))))⟩,
                      ⟨(some 49), none, [], [], .cvi .i64 (.t 48)⟩,
                      ⟨(some 50), none, [], [], .bin .or false (.t 46) (.t 49)⟩,
                      ⟨(some 4), none, [], [], .mv (.t 50)⟩] (some [4, 39, 40, 41]))))
                  (.reg [⟨(some 51), none, [], [], .bin .add false (.t 41) (.k (.sc (.int .i64 (1))))⟩,
                    ⟨(some 41), none, [], [], .mv (.t 51)⟩] (some [4, 39, 40, 41]))))))))
            (.seq
             (.seq
              (.reg [⟨(some 52), none, [], [], .mv (.t 4)⟩,
                ⟨(some 2), none, [], [], .mv (.t 52)⟩,
                ⟨(some 3), none, [], [], .mv (.k (.sc (.int .i64 (0))))⟩] (some [2, 3]))
              .ret)
             (.seq
              (.lab 0)
              (.seq
               (.regD [⟨(some 53), none, [(.t 0)], [], .mv (.t 0)⟩,
                 ⟨(some 54), none, [(.t 53), (.k (.sc (.int .i64 (0))))], [], .ixaS 1 (.t 53) (.k (.sc (.int .i64 (0))))⟩,
                 ⟨(some 55), none, [(.t 54)], [], .ld false 1 (.t 54)⟩,
                 ⟨(some 56), none, [(.t 0)], [0, 1, 2], .mv (.t 0)⟩,
                 ⟨(some 57), none, [(.t 56), (.k (.sc (.int .i64 (1))))], [0, 1, 2], .slL 1 (some (.k (.sc (.int .i64 (1))))) none none (.t 56)⟩,
                 ⟨(some 58), none, [(.k (.fn 28 [])), (.t 55), (.t 57)], [], .cal (.k (.fn 28 [])) [(.t 55), (.t 57)]⟩,
                 ⟨(some 59), none, [(.t 58)], [], .ext (.t 58) 0⟩,
                 ⟨(some 60), none, [(.t 58)], [6], .ext (.t 58) 1⟩,
                 ⟨(some 2), none, [(.t 59)], [], .mv (.t 59)⟩,
                 ⟨(some 3), none, [(.t 60)], [], .mv (.t 60)⟩] (some [2, 3]))
               .ret)))))))))))
    (.seq
     .skip
     (.seq
      (.regD [⟨(some 53), none, [(.t 0)], [], .mv (.t 0)⟩,
        ⟨(some 54), none, [(.t 53), (.k (.sc (.int .i64 (0))))], [], .ixaS 1 (.t 53) (.k (.sc (.int .i64 (0))))⟩,
        ⟨(some 55), none, [(.t 54)], [], .ld false 1 (.t 54)⟩,
        ⟨(some 56), none, [(.t 0)], [0, 1, 2], .mv (.t 0)⟩,
        ⟨(some 57), none, [(.t 56), (.k (.sc (.int .i64 (1))))], [0, 1, 2], .slL 1 (some (.k (.sc (.int .i64 (1))))) none none (.t 56)⟩,
        ⟨(some 58), none, [(.k (.fn 28 [])), (.t 55), (.t 57)], [], .cal (.k (.fn 28 [])) [(.t 55), (.t 57)]⟩,
        ⟨(some 59), none, [(.t 58)], [], .ext (.t 58) 0⟩,
        ⟨(some 60), none, [(.t 58)], [6], .ext (.t 58) 1⟩,
        ⟨(some 2), none, [(.t 59)], [], .mv (.t 59)⟩,
        ⟨(some 3), none, [(.t 60)], [], .mv (.t 60)⟩] (some [2, 3]))
      .ret))))
theorem b17 : cmpG Tryd.prog 17 = some (strip a17, r17, 61) := by kernel_rfl

abbrev r18 : List AR := [.t 2, .t 3]
abbrev a18 : ACode :=
  (.seq
   (.reg [⟨(some 2), none, [], [], .mv (.k (.sc (.int .i64 (0))))⟩,
     ⟨(some 3), none, [], [], .mv (.k (.sc (.int .i64 (0))))⟩] (some [0]))
   (.seq
    (.seq
     (.reg [⟨(some 9), none, [], [], .mv (.t 0)⟩,
       ⟨(some 10), none, [], [], .lenL (.t 9)⟩,
       ⟨(some 11), none, [], [], .cal (.k (.fn 22 [])) [(.t 10)]⟩,
       ⟨(some 12), none, [], [], .un .not (.t 11)⟩] (some [0, 12]))
     (.cond (.t 12)
      (.keep []
       (.seq
        (.reg [⟨(some 2), none, [], [], .mv (.k (.sc (.int .i64 (0))))⟩,
          ⟨(some 3), none, [], [], .mv (.k (.sc (.int .i64 (1))))⟩] none)
        .ret))
      (.keep [0]
       .skip)))
    (.seq
     (.seq
      (.reg [⟨(some 13), none, [], [], .mv (.t 0)⟩,
        ⟨(some 14), none, [], [], .ixaS 1 (.t 13) (.k (.sc (.int .i64 (0))))⟩,
        ⟨(some 15), none, [], [], .ld false 1 (.t 14)⟩,
        ⟨(some 16), none, [], [], .bin .eql false (.t 15) (.k (.sc (.int .u8 (128))))⟩,
        ⟨(some 17), none, [], [], .mv (.t 16)⟩,
        ⟨(some 18), (some (17, false)), [], [], .mv (.t 0)⟩,
        ⟨(some 19), (some (17, false)), [], [], .ixaS 1 (.t 18) (.k (.sc (.int .i64 (0))))⟩,
        ⟨(some 20), (some (17, false)), [], [], .ld false 1 (.t 19)⟩,
        ⟨(some 21), (some (17, false)), [], [], .bin .eql false (.t 20) (.k (.sc (.int .u8 (255))))⟩,
        ⟨(some 22), none, [], [], .pick (.t 17) (.k (.sc (.bool true))) (.t 21)⟩] (some [0, 22]))
      (.cond (.t 22)
       (.keep [0]
        (.seq
         (.regD [⟨(some 24), none, [(.t 0)], [], .mv (.t 0)⟩,
           ⟨(some 25), none, [(.t 24), (.k (.sc (.int .i64 (1))))], [], .slL 1 (some (.k (.sc (.int .i64 (1))))) none none (.t 24)⟩,
           ⟨(some 26), none, [(.t 0)], [0, 1], .mv (.t 0)⟩,
           ⟨(some 27), none, [(.t 26), (.k (.sc (.int .i64 (0))))], [0, 1], .ixaS 1 (.t 26) (.k (.sc (.int .i64 (0))))⟩,
           ⟨(some 28), none, [(.t 27)], [0, 1], .ld false 1 (.t 27)⟩,
           ⟨(some 29), none, [(.t 28), (.k (.sc (.int .u8 (255))))], [0, 1], .bin .eql false (.t 28) (.k (.sc (.int .u8 (255))))⟩,
           ⟨(some 30), none, [(.k (.fn 29 [])), (.t 25), (.t 29)], [], .cal (.k (.fn 29 [])) [(.t 25), (.t 29)]⟩,
           ⟨(some 23), none, [(.t 30)], [], .mv (.t 30)⟩,
           ⟨(some 31), none, [(.t 23)], [], .ext (.t 23) 0⟩,
           ⟨(some 32), none, [(.t 23)], [8], .ext (.t 23) 1⟩,
           ⟨(some 4), none, [(.t 31)], [9], .mv (.t 31)⟩,
           ⟨(some 5), none, [(.t 32)], [], .mv (.t 32)⟩] (some [4, 5]))
         (.seq
          (.seq
           (.reg [⟨(some 33), none, [], [], .mv (.t 5)⟩,
             ⟨(some 34), none, [], [], .un .not (.t 33)⟩] (some [4, 34]))
           (.cond (.t 34)
            (.keep []
             (.seq
              (.reg [⟨(some 2), none, [], [], .mv (.k (.sc (.int .i64 (0))))⟩,
                ⟨(some 3), none, [], [], .mv (.k (.sc (.int .i64 (10))))⟩] none)
              .ret))
            (.keep [4]
             .skip)))
          (.seq
           (.reg [⟨(some 35), none, [], [], .mv (.t 4)⟩,
             ⟨(some 2), none, [], [], .mv (.t 35)⟩,
             ⟨(some 3), none, [], [], .mv (.k (.sc (.int .i64 (0))))⟩] (some [2, 3]))
           .ret))))
       (.keep [0]
        .skip)))
     (.seq
      (.reg [⟨(some 6), none, [], [], .mv (.k (.sc (.int .i64 (0))))⟩] (some [0, 6]))
      (.seq
       (.block 0
        (.loop
         (.seq
          (.seq
           (.reg [⟨(some 36), none, [], [], .mv (.t 6)⟩,
             ⟨(some 37), none, [], [], .mv (.t 0)⟩,
             ⟨(some 38), none, [], [], .lenL (.t 37)⟩,
             ⟨(some 39), none, [], [], .bin .lss false (.t 36) (.t 38)⟩,
             ⟨(some 40), none, [], [], .mv (.t 39)⟩,
             ⟨(some 41), (some (40, true)), [], [], .mv (.t 0)⟩,
             ⟨(some 42), (some (40, true)), [], [], .mv (.t 6)⟩,
             ⟨(some 43), (some (40, true)), [], [], .ixaS 1 (.t 41) (.t 42)⟩,
             ⟨(some 44), (some (40, true)), [], [], .ld false 1 (.t 43)⟩,
             ⟨(some 45), (some (40, true)), [], [], .bin .eql false (.t 44) (.k (.sc (.int .u8 (32))))⟩,
             ⟨(some 46), none, [], [], .pick (.t 40) (.t 45) (.k (.sc (.bool false)))⟩] (some [0, 6, 46]))
           (.cond (.t 46)
            (.keep [0, 6]
             .skip)
            (.exit 0)))
          (.block 1
           (.reg [⟨(some 47), none, [], [], .mv (.t 6)⟩,
             ⟨(some 48), none, [], [], .bin .add false (.t 47) (.k (.sc (.int .i64 (1))))⟩,
             ⟨(some 6), none, [], [], .mv (.t 48)⟩] (some [0, 6]))))))
       (.seq
        (.reg [⟨(some 7), none, [], [], .mv (.k (.sc (.int .i64 (0))))⟩,
          ⟨(some 8), none, [], [], .mv (.k (.sc (.int .i64 (0))))⟩] none)
        (.seq
         (.block 2
          (.loop
           (.seq
            (.seq
             (.reg [⟨(some 49), none, [], [], .mv (.t 6)⟩,
               ⟨(some 50), none, [], [], .mv (.t 0)⟩,
               ⟨(some 51), none, [], [], .lenL (.t 50)⟩,
               ⟨(some 52), none, [], [], .bin .lss false (.t 49) (.t 51)⟩,
               ⟨(some 53), none, [], [], .mv (.t 52)⟩,
               ⟨(some 54), (some (53, true)), [], [], .mv (.t 0)⟩,
               ⟨(some 55), (some (53, true)), [], [], .mv (.t 6)⟩,
               ⟨(some 56), (some (53, true)), [], [], .ixaS 1 (.t 54) (.t 55)⟩,
               ⟨(some 57), (some (53, true)), [], [], .ld false 1 (.t 56)⟩,
               ⟨(some 58), (some (53, true)), [], [], .bin .geq false (.t 57) (.k (.sc (.int .u8 (48))))⟩,
               ⟨(some 59), none, [], [], .pick (.t 53) (.t 58) (.k (.sc (.bool false)))⟩,
               ⟨(some 60), none, [], [], .mv (.t 59)⟩,
               ⟨(some 61), (some (60, true)), [], [], .mv (.t 0)⟩,
               ⟨(some 62), (some (60, true)), [], [], .mv (.t 6)⟩,
               ⟨(some 63), (some (60, true)), [], [], .ixaS 1 (.t 61) (.t 62)⟩,
               ⟨(some 64), (some (60, true)), [], [], .ld false 1 (.t 63)⟩,
               ⟨(some 65), (some (60, true)), [], [], .bin .leq false (.t 64) (.k (.sc (.int .u8 (55))))⟩,
               ⟨(some 66), none, [], [], .pick (.t 60) (.t 65) (.k (.sc (.bool false)))⟩] (some [0, 6, 7, 8, 66]))
             (.cond (.t 66)
              (.keep [0, 6, 7, 8]
               .skip)
              (.exit 2)))
            (.block 3
             (.seq
              (.reg [⟨(some 67), none, [], [], .mv (.t 7)⟩,
                ⟨(some 68), none, [], [], .bin .mul false (.k (.sc (.int .i64 (8)))) (.t 67)⟩,
                ⟨(some 69), none, [], [], .mv (.t 0)⟩,
                ⟨(some 70), none, [], [], .mv (.t 6)⟩,
                ⟨(some 71), none, [], [], .ixaS 1 (.t 69) (.t 70)⟩,
                ⟨(some 72), none, [], [], .ld false 1 (.t 71)⟩,
                ⟨(some 73), none, [], [], .bin .sub false (.t 72) (.k (.sc (.int .u8 (48))))⟩,
                ⟨(some 74), none, [], [], .cvi .i64 (.t 73)⟩,
                ⟨(some 75), none, [], [], .bin .add false (.t 68) (.t 74)⟩,
                ⟨(some 7), none, [], [], .mv (.t 75)⟩] (some [0, 6, 7, 8]))
              (.seq
               (.reg [⟨(some 76), none, [], [], .mv (.t 6)⟩,
                 ⟨(some 77), none, [], [], .bin .add false (.t 76) (.k (.sc (.int .i64 (1))))⟩,
                 ⟨(some 6), none, [], [], .mv (.t 77)⟩] (some [0, 6, 7, 8]))
               (.reg [⟨(some 78), none, [], [], .mv (.t 8)⟩,
                 ⟨(some 79), none, [], [], .bin .add false (.t 78) (.k (.sc (.int .i64 (1))))⟩,
                 ⟨(some 8), none, [], [], .mv (.t 79)⟩] (some [0, 6, 7, 8]))))))))
         (.seq
          (.block 4
           (.loop
            (.seq
             (.seq
              (.reg [⟨(some 80), none, [], [], .mv (.t 6)⟩,
                ⟨(some 81), none, [], [], .mv (.t 0)⟩,
                ⟨(some 82), none, [], [], .lenL (.t 81)⟩,
                ⟨(some 83), none, [], [], .bin .lss false (.t 80) (.t 82)⟩,
                ⟨(some 84), none, [], [], .mv (.t 83)⟩,
                ⟨(some 85), (some (84, true)), [], [], .mv (.t 0)⟩,
                ⟨(some 86), (some (84, true)), [], [], .mv (.t 6)⟩,
                ⟨(some 87), (some (84, true)), [], [], .ixaS 1 (.t 85) (.t 86)⟩,
                ⟨(some 88), (some (84, true)), [], [], .ld false 1 (.t 87)⟩,
                ⟨(some 89), (some (84, true)), [], [], .bin .eql false (.t 88) (.k (.sc (.int .u8 (0))))⟩,
                ⟨(some 90), (some (84, true)), [], [], .mv (.t 89)⟩,
                ⟨(some 91), (some (90, false)), [], [], .mv (.t 0)⟩,
                ⟨(some 92), (some (90, false)), [], [], .mv (.t 6)⟩,
                ⟨(some 93), (some (90, false)), [], [], .ixaS 1 (.t 91) (.t 92)⟩,
                ⟨(some 94), (some (90, false)), [], [], .ld false 1 (.t 93)⟩,
                ⟨(some 95), (some (90, false)), [], [], .bin .eql false (.t 94) (.k (.sc (.int .u8 (32))))⟩,
                ⟨(some 96), (some (84, true)), [], [], .pick (.t 90) (.k (.sc (.bool true))) (.t 95)⟩,
                ⟨(some 97), none, [], [], .pick (.t 84) (.t 96) (.k (.sc (.bool false)))⟩] (some [0, 6, 7, 8, 97]))
              (.cond (.t 97)
               (.keep [0, 6, 7, 8]
                .skip)
               (.exit 4)))
             (.block 5
              (.reg [⟨(some 98), none, [], [], .mv (.t 6)⟩,
                ⟨(some 99), none, [], [], .bin .add false (.t 98) (.k (.sc (.int .i64 (1))))⟩,
                ⟨(some 6), none, [], [], .mv (.t 99)⟩] (some [0, 6, 7, 8]))))))
          (.seq
           (.seq
            (.reg [⟨(some 100), none, [], [], .mv (.t 8)⟩,
              ⟨(some 101), none, [], [], .bin .eql false (.t 100) (.k (.sc (.int .i64 (0))))⟩,
              ⟨(some 102), none, [], [], .mv (.t 101)⟩,
              ⟨(some 103), (some (102, false)), [], [], .mv (.t 6)⟩,
              ⟨(some 104), (some (102, false)), [], [], .mv (.t 0)⟩,
              ⟨(some 105), (some (102, false)), [], [], .lenL (.t 104)⟩,
              ⟨(some 106), (some (102, false)), [], [], .bin .lss false (.t 103) (.t 105)⟩,
              ⟨(some 107), none, [], [], .pick (.t 102) (.k (.sc (.bool true))) (.t 106)⟩] (some [7, 107]))
            (.cond (.t 107)
             (.keep []
              (.seq
               (.reg [⟨(some 2), none, [], [], .mv (.k (.sc (.int .i64 (0))))⟩,
                 ⟨(some 3), none, [], [], .mv (.k (.sc (.int .i64 (3))))⟩] none)
               .ret))
             (.keep [7]
              .skip)))
           (.seq
            (.reg [⟨(some 108), none, [], [], .mv (.t 7)⟩,
              ⟨(some 2), none, [], [], .mv (.t 108)⟩,
              ⟨(some 3), none, [], [], .mv (.k (.sc (.int .i64 (0))))⟩] (some [2, 3]))
            .ret))))))))))
theorem b18 : cmpG Tryd.prog 18 = some (strip a18, r18, 109) := by kernel_rfl

abbrev r19 : List AR := [.t 2]
abbrev a19 : ACode :=
  (.seq
   (.reg [⟨(some 2), none, [], [], .mv (.k (.sc (.bool false)))⟩] (some [0]))
   (.seq
    (.reg [⟨(some 7), none, [], [], .mv (.t 0)⟩,
      ⟨(some 8), none, [], [], .cal (.k (.fn 17 [])) [(.t 7)]⟩,
      ⟨(some 6), none, [], [], .mv (.t 8)⟩,
      ⟨(some 9), none, [], [], .ext (.t 6) 0⟩,
      ⟨(some 10), none, [], [], .ext (.t 6) 1⟩,
      ⟨(some 3), none, [], [], .mv (.t 9)⟩,
      ⟨(some 4), none, [], [], .mv (.t 10)⟩] (some [0, 3, 4]))
    (.seq
     (.seq
      (.reg [⟨(some 11), none, [], [], .mv (.t 4)⟩,
        ⟨(some 12), none, [], [], .bin .neq false (.t 11) (.k (.sc (.int .i64 (0))))⟩] (some [0, 3, 12]))
      (.cond (.t 12)
       (.keep []
        (.seq
         (.reg [⟨(some 2), none, [], [], .mv (.k (.sc (.bool false)))⟩] none)
         .ret))
       (.keep [0, 3]
        .skip)))
     (.seq
      (.reg [⟨(some 14), none, [], [], .mv (.t 3)⟩,
        ⟨(some 15), none, [], [], .mv (.t 0)⟩,
        ⟨(some 16), none, [], [], .lenL (.t 15)⟩,
        ⟨(some 17), none, [], [], .cal (.k (.fn 7 [])) [(.t 14), (.t 16)]⟩,
        ⟨(some 13), none, [], [], .mv (.t 17)⟩,
        ⟨(some 18), none, [], [], .ext (.t 13) 0⟩,
        ⟨(some 19), none, [], [], .ext (.t 13) 1⟩,
        ⟨(some 5), none, [], [], .mv (.t 18)⟩,
        ⟨(some 4), none, [], [], .mv (.t 19)⟩] (some [0, 4, 5]))
      (.seq
       (.reg [⟨(some 20), none, [], [], .mv (.t 4)⟩,
         ⟨(some 21), none, [], [], .bin .eql false (.t 20) (.k (.sc (.int .i64 (0))))⟩,
         ⟨(some 22), none, [], [], .mv (.t 21)⟩,
         ⟨(some 23), (some (22, true)), [], [], .mv (.t 5)⟩,
         ⟨(some 24), (some (22, true)), [], [], .mv (.t 0)⟩,
         ⟨(some 25), (some (22, true)), [], [], .cal (.k (.fn 30 [])) [(.t 23), (.t 24)]⟩,
         ⟨(some 26), none, [], [], .pick (.t 22) (.t 25) (.k (.sc (.bool false)))⟩,
         ⟨(some 2), none, [], [], .mv (.t 26)⟩] (some [2]))
       .ret)))))
theorem b19 : cmpG Tryd.prog 19 = some (strip a19, r19, 27) := by kernel_rfl

abbrev r20 : List AR := [.t 2]
abbrev a20 : ACode :=
  (.seq
   (.reg [⟨(some 2), none, [], [], .mv (.k (.sc (.bool false)))⟩] (some [0]))
   (.seq
    (.reg [⟨(some 3), none, [], [], .mv (.t 0)⟩,
      ⟨(some 4), none, [], [], .bin .eql false (.t 3) (.k (.sc (.int .i64 (8))))⟩,
      ⟨(some 5), none, [], [], .mv (.t 4)⟩,
      ⟨(some 6), (some (5, false)), [], [], .mv (.t 0)⟩,
      ⟨(some 7), (some (5, false)), [], [], .bin .eql false (.t 6) (.k (.sc (.int .i64 (12))))⟩,
      ⟨(some 8), none, [], [], .pick (.t 5) (.k (.sc (.bool true))) (.t 7)⟩,
      ⟨(some 2), none, [], [], .mv (.t 8)⟩] (some [2]))
    .ret))
theorem b20 : cmpG Tryd.prog 20 = some (strip a20, r20, 9) := by kernel_rfl

abbrev r21 : List AR := [.t 4, .t 5]
abbrev a21 : ACode :=
  (.seq
   (.reg [⟨(some 4), none, [], [], .mv (.k .nl)⟩,
     ⟨(some 5), none, [], [], .mv (.k (.sc (.int .i64 (0))))⟩] (some [0, 1]))
   (.seq
    (.reg [⟨(some 6), none, [], [], .mv (.k (.sc (.int .u8 (128))))⟩] none)
    (.seq
     (.seq
      (.reg [⟨(some 10), none, [], [], .mv (.t 0)⟩,
        ⟨(some 11), none, [], [], .bin .lss false (.t 10) (.k (.sc (.int .i64 (0))))⟩] (some [0, 1, 6, 11]))
      (.cond (.t 11)
       (.keep [0, 1]
        (.reg [⟨(some 6), none, [], [], .mv (.k (.sc (.int .u8 (255))))⟩] none))
       (.keep [0, 1, 6]
        .skip)))
     (.seq
      (.seq
       (.reg [⟨(some 12), none, [], [], .mv (.t 1)⟩,
         ⟨(some 13), none, [], [], .bin .sub false (.t 12) (.k (.sc (.int .i64 (1))))⟩,
         ⟨(some 14), none, [], [], .bin .mul false (.k (.sc (.int .i64 (8)))) (.t 13)⟩,
         ⟨(some 7), none, [], [], .mv (.t 14)⟩] (some [0, 1, 6, 7]))
       (.seq
        (.reg [⟨(some 15), none, [], [], .mv (.t 7)⟩,
          ⟨(some 16), none, [], [], .bin .lss false (.t 15) (.k (.sc (.int .i64 (64))))⟩,
          ⟨(some 17), none, [], [], .mv (.t 16)⟩,
          ⟨(some 18), (some (17, true)), [], [], .mv (.t 0)⟩,
          ⟨(some 19), (some (17, true)), [], [], .mv (.t 7)⟩,
          ⟨(some 20), (some (17, true)), [], [], .bin .shr false (.t 18) (.t 19)⟩,
          ⟨(some 21), (some (17, true)), [], [], .mv (.t 0)⟩,
          ⟨(some 22), (some (17, true)), [], [], .bin .shr false (.t 21) (.k (.sc (.int .u64 (63))))⟩,
          ⟨(some 23), (some (17, true)), [], [], .bin .neq false (.t 20) (.t 22)⟩,
          ⟨(some 24), none, [], [], .pick (.t 17) (.t 23) (.k (.sc (.bool false)))⟩] (some [0, 1, 6, 24]))
        (.cond (.t 24)
         (.keep []
          (.seq
           (.reg [⟨(some 4), none, [], [], .mv (.k .nl)⟩,
             ⟨(some 5), none, [], [], .mv (.k (.sc (.int .i64 (10))))⟩] none)
           .ret))
         (.keep [0, 1, 6]
          .skip))))
      (.seq
       (.reg [⟨(some 25), none, [], [], .mv (.t 6)⟩,
         ⟨(some 26), none, [], [], .bsl 1 1 [(.sc (.int .u8 (0)))] [(0, 1, (.t 25))]⟩,
         ⟨(some 8), none, [], [], .mv (.t 26)⟩] (some [0, 1, 8]))
       (.seq
        (.seq
         (.reg [⟨(some 27), none, [], [], .mv (.t 1)⟩,
           ⟨(some 28), none, [], [], .bin .sub false (.t 27) (.k (.sc (.int .i64 (2))))⟩,
           ⟨(some 9), none, [], [], .mv (.t 28)⟩] (some [0, 8, 9]))
         (.block 0
          (.loop
           (.seq
            (.seq
             (.reg [⟨(some 29), none, [], [], .mv (.t 9)⟩,
               ⟨(some 30), none, [], [], .bin .geq false (.t 29) (.k (.sc (.int .i64 (0))))⟩] (some [0, 8, 9, 30]))
             (.cond (.t 30)
              (.keep [0, 8, 9]
               .skip)
              (.exit 0)))
            (.seq
             (.block 1
              (.reg [⟨(some 33), none, [], [], .mv (.t 8)⟩,
                ⟨(some 34), none, [], [], .mv (.t 0)⟩,
                ⟨(some 35), none, [], [], .mv (.t 9)⟩,
                ⟨(some 36), none, [], [], .bin .mul false (.k (.sc (.int .i64 (8)))) (.t 35)⟩,
                ⟨(some 37), none, [], [], .mn [(.t 36), (.k (.sc (.int .i64 (63))))]⟩,
                ⟨(some 38), none, [], [], .bin .shr false (.t 34) (.t 37)⟩,
                ⟨(some 39), none, [], [], .cvi .u8 (.t 38)⟩,
                ⟨(some 40), none, [], [], .bsl 1 1 [(.sc (.int .u8 (0)))] [(0, 1, (.t 39))]⟩,
                ⟨(some 41), none, [], [], .app 1 1 (.t 33) (.t 40)⟩,
                ⟨(some 8), none, [], [], .mv (.t 41)⟩] (some [0, 8, 9])))
             (.reg [⟨(some 31), none, [], [], .mv (.t 9)⟩,
               ⟨(some 32), none, [], [], .bin .sub false (.t 31) (.k (.sc (.int .i64 (1))))⟩,
               ⟨(some 9), none, [], [], .mv (.t 32)⟩] (some [0, 8, 9])))))))
        (.seq
         (.reg [⟨(some 42), none, [], [], .mv (.t 8)⟩,
           ⟨(some 4), none, [], [], .mv (.t 42)⟩,
           ⟨(some 5), none, [], [], .mv (.k (.sc (.int .i64 (0))))⟩] (some [4, 5]))
         .ret)))))))
theorem b21 : cmpG Tryd.prog 21 = some (strip a21, r21, 43) := by kernel_rfl

abbrev r22 : List AR := [.t 2]
abbrev a22 : ACode :=
  (.seq
   (.reg [⟨(some 2), none, [], [], .mv (.k (.sc (.bool false)))⟩] (some [0]))
   (.seq
    (.reg [⟨(some 3), none, [], [], .mv (.t 0)⟩,
      ⟨(some 4), none, [], [], .bin .eql false (.t 3) (.k (.sc (.int .i64 (8))))⟩,
      ⟨(some 5), none, [], [], .mv (.t 4)⟩,
      ⟨(some 6), (some (5, false)), [], [], .mv (.t 0)⟩,
      ⟨(some 7), (some (5, false)), [], [], .bin .eql false (.t 6) (.k (.sc (.int .i64 (12))))⟩,
      ⟨(some 8), none, [], [], .pick (.t 5) (.k (.sc (.bool true))) (.t 7)⟩,
      ⟨(some 2), none, [], [], .mv (.t 8)⟩] (some [2]))
    .ret))
theorem b22 : cmpG Tryd.prog 22 = some (strip a22, r22, 9) := by kernel_rfl

abbrev r23 : List AR := [.t 2]
abbrev a23 : ACode :=
  (.seq
   (.reg [⟨(some 2), none, [], [], .mv (.k (.sc (.int .u8 (0))))⟩] (some [0]))
   (.seq
    (.reg [⟨(some 3), none, [], [], .mv (.t 0)⟩,
      ⟨(some 4), none, [], [], .bin .rem false (.t 3) (.k (.sc (.int .i64 (256))))⟩,
      ⟨(some 5), none, [], [], .bin .add false (.t 4) (.k (.sc (.int .i64 (256))))⟩,
      ⟨(some 6), none, [], [], .bin .rem false (.t 5) (.k (.sc (.int .i64 (256))))⟩,
      ⟨(some 7), none, [], [], .cvi .u8 (.t 6)⟩,
      ⟨(some 2), none, [], [], .mv (.t 7)⟩] (some [2]))
    .ret))
theorem b23 : cmpG Tryd.prog 23 = some (strip a23, r23, 8) := by kernel_rfl

abbrev r24 : List AR := [.t 2]
abbrev a24 : ACode :=
  (.seq
   (.reg [⟨(some 2), none, [], [], .mv (.k (.sc (.int .i64 (0))))⟩] (some [0]))
   (.seq
    (.reg [⟨(some 4), none, [], [], .mv (.t 0)⟩,
      ⟨(some 5), none, [], [], .bin .quo false (.t 4) (.k (.sc (.int .i64 (256))))⟩,
      ⟨(some 3), none, [], [], .mv (.t 5)⟩] (some [0, 3]))
    (.seq
     (.seq
      (.reg [⟨(some 6), none, [], [], .mv (.t 0)⟩,
        ⟨(some 7), none, [], [], .bin .rem false (.t 6) (.k (.sc (.int .i64 (256))))⟩,
        ⟨(some 8), none, [], [], .bin .lss false (.t 7) (.k (.sc (.int .i64 (0))))⟩] (some [3, 8]))
      (.cond (.t 8)
       (.keep [3]
        (.reg [⟨(some 9), none, [], [], .mv (.t 3)⟩,
          ⟨(some 10), none, [], [], .bin .sub false (.t 9) (.k (.sc (.int .i64 (1))))⟩,
          ⟨(some 3), none, [], [], .mv (.t 10)⟩] (some [3])))
       (.keep [3]
        .skip)))
     (.seq
      (.reg [⟨(some 11), none, [], [], .mv (.t 3)⟩,
        ⟨(some 2), none, [], [], .mv (.t 11)⟩] (some [2]))
      .ret))))
theorem b24 : cmpG Tryd.prog 24 = some (strip a24, r24, 12) := by kernel_rfl

abbrev r25 : List AR := [.t 4]
abbrev a25 : ACode :=
  (.seq
   (.reg [⟨(some 4), none, [], [], .mv (.k .nl)⟩] (some [0, 1]))
   (.seq
    (.seq
     (.reg [⟨(some 7), none, [], [], .mv (.t 0)⟩,
       ⟨(some 8), none, [], [], .lenL (.t 7)⟩,
       ⟨(some 9), none, [], [], .bin .eql false (.t 8) (.k (.sc (.int .i64 (0))))⟩] (some [0, 1, 9]))
     (.cond (.t 9)
      (.keep []
       (.seq
        (.reg [⟨(some 4), none, [], [], .mv (.k .nl)⟩] none)
        .ret))
      (.keep [0, 1]
       .skip)))
    (.seq
     (.seq
      (.reg [⟨(some 10), none, [], [], .mv (.t 1)⟩,
        ⟨(some 11), none, [], [], .bin .eql false (.t 10) (.k (.sc (.string ⟨#[]⟩)))⟩] (some [0, 1, 11]))
      (.cond (.t 11)
       (.keep [0]
        (.seq
         (.reg [⟨(some 12), none, [], [], .mv (.t 0)⟩,
           ⟨(some 4), none, [], [], .mv (.t 12)⟩] (some [4]))
         .ret))
       (.keep [0, 1]
        .skip)))
     (.seq
      (.seq
       (.reg [⟨(some 13), none, [], [], .mv (.t 1)⟩,
         ⟨(some 14), none, [], [], .lenS (.t 13)⟩,
         ⟨(some 15), none, [], [], .bin .eql false (.t 14) (.k (.sc (.int .i64 (1))))⟩,
         ⟨(some 16), none, [], [], .mv (.t 15)⟩,
         ⟨(some 17), (some (16, true)), [], [], .mv (.t 1)⟩,
         ⟨(some 18), (some (16, true)), [], [], .ixS (.t 17) (.k (.sc (.int .i64 (0))))⟩,
         ⟨(some 19), (some (16, true)), [], [], .bin .lss false (.t 18) (.k (.sc (.int .u8 (128))))⟩,
         ⟨(some 20), none, [], [], .pick (.t 16) (.t 19) (.k (.sc (.bool false)))⟩] (some [0, 1, 20]))
       (.cond (.t 20)
        (.keep [0, 1]
         (.seq
          (.reg [⟨(some 21), none, [], [], .mv (.t 0)⟩,
            ⟨(some 22), none, [], [], .mv (.t 1)⟩,
            ⟨(some 23), none, [], [], .ixS (.t 22) (.k (.sc (.int .i64 (0))))⟩,
            ⟨(some 24), none, [], [], .cal (.k (.fn 31 [])) [(.t 21), (.t 23)]⟩,
            ⟨(some 4), none, [], [], .mv (.t 24)⟩] (some [4]))
          .ret))
        (.keep [0, 1]
         .skip)))
      (.seq
       (.seq
        (.reg [⟨(some 26), none, [], [], .mv (.t 1)⟩,
          ⟨(some 27), none, [], [], .cal (.k (.fn 32 [])) [(.t 26)]⟩,
          ⟨(some 25), none, [], [], .mv (.t 27)⟩,
          ⟨(some 28), none, [], [], .ext (.t 25) 0⟩,
          ⟨(some 29), none, [], [], .ext (.t 25) 1⟩,
          ⟨(some 5), none, [], [], .alc (List.replicate 256 (.sc (.bool false)))⟩,
          ⟨none, none, [], [], .sto 256 (.t 5) (.t 28)⟩,
          ⟨(some 6), none, [], [], .mv (.t 29)⟩] (some [0, 1, 5, 6]))
        (.seq
         (.reg [⟨(some 30), none, [], [], .mv (.t 6)⟩] (some [0, 1, 5, 30]))
         (.cond (.t 30)
          (.keep [0, 5]
           (.seq
            (.reg [⟨(some 31), none, [], [], .mv (.t 0)⟩,
              ⟨(some 32), none, [], [], .cal (.k (.fn 33 [])) [(.t 31), (.t 5)]⟩,
              ⟨(some 4), none, [], [], .mv (.t 32)⟩] (some [4]))
            .ret))
          (.keep [0, 1]
           .skip))))
       (.seq
        (.reg [⟨(some 33), none, [], [], .mv (.t 0)⟩,
          ⟨(some 34), none, [], [], .mv (.t 1)⟩,
          ⟨(some 35), none, [], [], .cal (.k (.fn 34 [])) [(.t 33), (.t 34)]⟩,
          ⟨(some 4), none, [], [], .mv (.t 35)⟩] (some [4]))
        .ret))))))
theorem b25 : cmpG Tryd.prog 25 = some (strip a25, r25, 36) := by kernel_rfl

abbrev r26 : List AR := [.t 2]
abbrev a26 : ACode :=
  (.seq
   (.reg [⟨(some 2), none, [], [], .mv (.k .nl)⟩] (some [0]))
   (.seq
    (.reg [⟨(some 3), none, [], [], .mv (.k (.sc (.int .i64 (0))))⟩] none)
    (.seq
     (.block 0
      (.loop
       (.seq
        (.seq
         (.reg [⟨(some 4), none, [], [], .mv (.t 3)⟩,
           ⟨(some 5), none, [], [], .mv (.t 0)⟩,
           ⟨(some 6), none, [], [], .lenL (.t 5)⟩,
           ⟨(some 7), none, [], [], .bin .lss false (.t 4) (.t 6)⟩,
           ⟨(some 8), none, [], [], .mv (.t 7)⟩,
           ⟨(some 9), (some (8, true)), [], [], .mv (.t 0)⟩,
           ⟨(some 10), (some (8, true)), [], [], .mv (.t 3)⟩,
           ⟨(some 11), (some (8, true)), [], [], .ixaS 1 (.t 9) (.t 10)⟩,
           ⟨(some 12), (some (8, true)), [], [], .ld false 1 (.t 11)⟩,
           ⟨(some 13), (some (8, true)), [], [], .bin .geq false (.t 12) (.k (.sc (.int .u8 (48))))⟩,
           ⟨(some 14), none, [], [], .pick (.t 8) (.t 13) (.k (.sc (.bool false)))⟩,
           ⟨(some 15), none, [], [], .mv (.t 14)⟩,
           ⟨(some 16), (some (15, true)), [], [], .mv (.t 0)⟩,
           ⟨(some 17), (some (15, true)), [], [], .mv (.t 3)⟩,
           ⟨(some 18), (some (15, true)), [], [], .ixaS 1 (.t 16) (.t 17)⟩,
           ⟨(some 19), (some (15, true)), [], [], .ld false 1 (.t 18)⟩,
           ⟨(some 20), (some (15, true)), [], [], .bin .leq false (.t 19) (.k (.sc (.int .u8 (55))))⟩,
           ⟨(some 21), none, [], [], .pick (.t 15) (.t 20) (.k (.sc (.bool false)))⟩] (some [0, 3, 21]))
         (.cond (.t 21)
          (.keep [0, 3]
           .skip)
          (.exit 0)))
        (.block 1
         (.reg [⟨(some 22), none, [], [], .mv (.t 3)⟩,
           ⟨(some 23), none, [], [], .bin .add false (.t 22) (.k (.sc (.int .i64 (1))))⟩,
           ⟨(some 3), none, [], [], .mv (.t 23)⟩] (some [0, 3]))))))
     (.seq
      (.reg [⟨(some 24), none, [], [], .mv (.t 0)⟩,
        ⟨(some 25), none, [], [], .mv (.t 3)⟩,
        ⟨(some 26), none, [], [], .slL 1 none (some (.t 25)) none (.t 24)⟩,
        ⟨(some 2), none, [], [], .mv (.t 26)⟩] (some [2]))
      .ret))))
theorem b26 : cmpG Tryd.prog 26 = some (strip a26, r26, 27) := by kernel_rfl

abbrev r27 : List AR := [.t 4]
abbrev a27 : ACode :=
  (.seq
   (.reg [⟨(some 4), none, [], [], .mv (.k .nl)⟩] (some [0, 1]))
   (.seq
    (.seq
     (.reg [⟨(some 7), none, [], [], .mv (.t 0)⟩,
       ⟨(some 8), none, [], [], .lenL (.t 7)⟩,
       ⟨(some 9), none, [], [], .bin .eql false (.t 8) (.k (.sc (.int .i64 (0))))⟩] (some [0, 1, 9]))
     (.cond (.t 9)
      (.keep []
       (.seq
        (.reg [⟨(some 4), none, [], [], .mv (.k .nl)⟩] none)
        .ret))
      (.keep [0, 1]
       .skip)))
    (.seq
     (.seq
      (.reg [⟨(some 10), none, [], [], .mv (.t 1)⟩,
        ⟨(some 11), none, [], [], .bin .eql false (.t 10) (.k (.sc (.string ⟨#[]⟩)))⟩] (some [0, 1, 11]))
      (.cond (.t 11)
       (.keep [0]
        (.seq
         (.reg [⟨(some 12), none, [], [], .mv (.t 0)⟩,
           ⟨(some 4), none, [], [], .mv (.t 12)⟩] (some [4]))
         .ret))
       (.keep [0, 1]
        .skip)))
     (.seq
      (.seq
       (.reg [⟨(some 13), none, [], [], .mv (.t 1)⟩,
         ⟨(some 14), none, [], [], .lenS (.t 13)⟩,
         ⟨(some 15), none, [], [], .bin .eql false (.t 14) (.k (.sc (.int .i64 (1))))⟩,
         ⟨(some 16), none, [], [], .mv (.t 15)⟩,
         ⟨(some 17), (some (16, true)), [], [], .mv (.t 1)⟩,
         ⟨(some 18), (some (16, true)), [], [], .ixS (.t 17) (.k (.sc (.int .i64 (0))))⟩,
         ⟨(some 19), (some (16, true)), [], [], .bin .lss false (.t 18) (.k (.sc (.int .u8 (128))))⟩,
         ⟨(some 20), none, [], [], .pick (.t 16) (.t 19) (.k (.sc (.bool false)))⟩] (some [0, 1, 20]))
       (.cond (.t 20)
        (.keep [0, 1]
         (.seq
          (.regD [⟨(some 21), none, [(.t 0)], [], .mv (.t 0)⟩,
            ⟨(some 22), none, [(.t 1)], [0], .mv (.t 1)⟩,
            ⟨(some 23), none, [(.t 22), (.k (.sc (.int .i64 (0))))], [0], .ixS (.t 22) (.k (.sc (.int .i64 (0))))⟩,
            ⟨(some 24), none, [(.k (.fn 35 [])), (.t 21), (.t 23)], [], .cal (.k (.fn 35 [])) [(.t 21), (.t 23)]⟩,
            ⟨(some 25), none, [(.t 1)], [0, 1, 2, 3], .mv (.t 1)⟩,
            ⟨(some 26), none, [(.t 25), (.k (.sc (.int .i64 (0))))], [0, 1, 2, 3], .ixS (.t 25) (.k (.sc (.int .i64 (0))))⟩,
            ⟨(some 27), none, [(.k (.fn 31 [])), (.t 24), (.t 26)], [], .cal (.k (.fn 31 [])) [(.t 24), (.t 26)]⟩,
            ⟨(some 4), none, [(.t 27)], [], .mv (.t 27)⟩] (some [4]))
          .ret))
        (.keep [0, 1]
         .skip)))
      (.seq
       (.seq
        (.reg [⟨(some 29), none, [], [], .mv (.t 1)⟩,
          ⟨(some 30), none, [], [], .cal (.k (.fn 32 [])) [(.t 29)]⟩,
          ⟨(some 28), none, [], [], .mv (.t 30)⟩,
          ⟨(some 31), none, [], [], .ext (.t 28) 0⟩,
          ⟨(some 32), none, [], [], .ext (.t 28) 1⟩,
          ⟨(some 5), none, [], [], .alc (List.replicate 256 (.sc (.bool false)))⟩,
          ⟨none, none, [], [], .sto 256 (.t 5) (.t 31)⟩,
          ⟨(some 6), none, [], [], .mv (.t 32)⟩] (some [0, 1, 5, 6]))
        (.seq
         (.reg [⟨(some 33), none, [], [], .mv (.t 6)⟩] (some [0, 1, 5, 33]))
         (.cond (.t 33)
          (.keep [0, 5]
           (.seq
            (.reg [⟨(some 34), none, [], [], .mv (.t 0)⟩,
              ⟨(some 35), none, [], [], .cal (.k (.fn 36 [])) [(.t 34), (.t 5)]⟩,
              ⟨(some 36), none, [], [], .cal (.k (.fn 33 [])) [(.t 35), (.t 5)]⟩,
              ⟨(some 4), none, [], [], .mv (.t 36)⟩] (some [4]))
            .ret))
          (.keep [0, 1]
           .skip))))
       (.seq
        (.reg [⟨(some 37), none, [], [], .mv (.t 0)⟩,
          ⟨(some 38), none, [], [], .mv (.t 1)⟩,
          ⟨(some 39), none, [], [], .cal (.k (.fn 37 [])) [(.t 37), (.t 38)]⟩,
          ⟨(some 40), none, [], [], .mv (.t 1)⟩,
          ⟨(some 41), none, [], [], .cal (.k (.fn 34 [])) [(.t 39), (.t 40)]⟩,
          ⟨(some 4), none, [], [], .mv (.t 41)⟩] (some [4]))
        .ret))))))
theorem b27 : cmpG Tryd.prog 27 = some (strip a27, r27, 42) := by kernel_rfl

abbrev r28 : List AR := [.t 4, .t 5]
abbrev a28 : ACode :=
  (.seq
   (.reg [⟨(some 4), none, [], [], .mv (.k (.sc (.int .i64 (0))))⟩,
     ⟨(some 5), none, [], [], .mv (.k (.sc (.int .i64 (0))))⟩] (some [0, 1]))
   (.seq
    (.reg [⟨(some 6), none, [], [], .mv (.k (.sc (.int .u8 (0))))⟩] none)
    (.seq
     (.seq
      (.reg [⟨(some 11), none, [], [], .mv (.t 0)⟩,
        ⟨(some 12), none, [], [], .bin .eql false (.t 11) (.k (.sc (.int .u8 (255))))⟩] (some [1, 6, 12]))
      (.cond (.t 12)
       (.keep [1]
        (.reg [⟨(some 6), none, [], [], .mv (.k (.sc (.int .u8 (255))))⟩] none))
       (.keep [1, 6]
        .skip)))
     (.seq
      (.reg [⟨(some 13), none, [], [], .mv (.t 6)⟩,
        ⟨(some 14), none, [], [], .cvi .i8 (.t 13)⟩,
        ⟨(some 15), none, [], [], .cvi .i64 (.t 14)⟩,
        ⟨(some 7), none, [], [], .mv (.t 15)⟩] (some [1, 6, 7]))
      (.seq
       (.seq
        (.reg [⟨(some 16), none, [], [], .mv (.t 1)⟩,
          ⟨(some 17), none, [], [], .lenL (.t 16)⟩,
          ⟨(some 18), none, [], [], .mv (.k (.sc (.int .i64 (0))))⟩] none)
        (.block 0
         (.loop
          (.seq
           (.reg [⟨(some 19), none, [], [], .bin .lss false (.t 18) (.t 17)⟩] none)
           (.seq
            (.cond (.t 19)
             (.keep [1, 6, 7, 16, 17, 18]
              .skip)
             (.exit 0))
            (.seq
             (.block 1
              (.seq
               (.reg [⟨(some 20), none, [], [], .mv (.t 18)⟩,
                 ⟨(some 21), none, [], [], .ixaS 1 (.t 16) (.t 18)⟩,
                 ⟨(some 22), none, [], [], .ld false 1 (.t 21)⟩,
                 ⟨(some 8), none, [], [], .mv (.t 20)⟩,
                 ⟨(some 9), none, [], [], .mv (.t 22)⟩] (some [1, 6, 7, 8, 9, 16, 17, 18]))
               (.seq
                (.reg [⟨(some 23), none, [], [], .mv (.t 1)⟩,
                  ⟨(some 24), none, [], [], .lenL (.t 23)⟩,
                  ⟨(some 25), none, [], [], .mv (.t 8)⟩,
                  ⟨(some 26), none, [], [], .bin .sub false (.t 24) (.t 25)⟩,
                  ⟨(some 10), none, [], [], .mv (.t 26)⟩] (some [1, 6, 7, 9, 10, 16, 17, 18]))
                (.seq
                 (.seq
                  (.reg [⟨(some 27), none, [], [], .mv (.t 10)⟩,
                    ⟨(some 28), none, [], [], .bin .gtr false (.t 27) (.k (.sc (.int .i64 (8))))⟩,
                    ⟨(some 29), none, [], [], .mv (.t 28)⟩,
                    ⟨(some 30), (some (29, true)), [], [], .mv (.t 9)⟩,
                    ⟨(some 31), (some (29, true)), [], [], .mv (.t 6)⟩,
                    ⟨(some 32), (some (29, true)), [], [], .bin .neq false (.t 30) (.t 31)⟩,
                    ⟨(some 33), none, [], [], .pick (.t 29) (.t 32) (.k (.sc (.bool false)))⟩,
                    ⟨(some 34), none, [], [], .mv (.t 33)⟩,
                    ⟨(some 35), (some (34, false)), [], [], .mv (.t 10)⟩,
                    ⟨(some 36), (some (34, false)), [], [], .bin .eql false (.t 35) (.k (.sc (.int .i64 (8))))⟩,
                    ⟨(some 37), (some (34, false)), [], [], .mv (.t 36)⟩,
                    ⟨(some 38), (some (37, true)), [], [], .mv (.t 9)⟩,
                    ⟨(some 39), (some (37, true)), [], [], .mv (.t 6)⟩,
                    ⟨(some 40), (some (37, true)), [], [], .bin .xor false (.t 38) (.t 39)⟩,
                    ⟨(some 41), (some (37, true)), [], [], .bin .and false (.t 40) (.k (.sc (.int .u8 (128))))⟩,
                    ⟨(some 42), (some (37, true)), [], [], .bin .neq false (.t 41) (.k (.sc (.int .u8 (0))))⟩,
                    ⟨(some 43), (some (34, false)), [], [], .pick (.t 37) (.t 42) (.k (.sc (.bool false)))⟩,
                    ⟨(some 44), none, [], [], .pick (.t 34) (.k (.sc (.bool true))) (.t 43)⟩] (some [1, 6, 7, 9, 16, 17, 18, 44]))
                  (.cond (.t 44)
                   (.keep []
                    (.seq
                     (.reg [⟨(some 4), none, [], [], .mv (.k (.sc (.int .i64 (0))))⟩,
                       ⟨(some 5), none, [], [], .mv (.k (.sc (.int .i64 (10))))⟩] none)
                     .ret))
                   (.keep [1, 6, 7, 9, 16, 17, 18]
                    .skip)))
                 (.reg [⟨(some 45), none, [], [], .mv (.t 7)⟩,
                   ⟨(some 46), none, [], [], .bin .shl false (.t 45) (.k (.sc (.int .u64 (8))))⟩,
                   ⟨(some 47), none, [], [], .mv (.t 9)⟩,
                   ⟨(some 48), none, [], [], .cvi .i64 (.t 47)⟩,
                   ⟨(some 49), none, [], [], .bin .or false (.t 46) (.t 48)⟩,
                   ⟨(some 7), none, [], [], .mv (.t 49)⟩] (some [1, 6, 7, 16, 17, 18]))))))
             (.reg [⟨(some 50), none, [], [], .bin .add false (.t 18) (.k (.sc (.int .i64 (1))))⟩,
               ⟨(some 18), none, [], [], .mv (.t 50)⟩] (some [1, 6, 7, 16, 17, 18]))))))))
       (.seq
        (.reg [⟨(some 51), none, [], [], .mv (.t 7)⟩,
          ⟨(some 4), none, [], [], .mv (.t 51)⟩,
          ⟨(some 5), none, [], [], .mv (.k (.sc (.int .i64 (0))))⟩] (some [4, 5]))
        .ret))))))
theorem b28 : cmpG Tryd.prog 28 = some (strip a28, r28, 52) := by kernel_rfl

abbrev r29 : List AR := [.t 4, .t 5]
abbrev a29 : ACode :=
  (.seq
   (.reg [⟨(some 4), none, [], [], .mv (.k (.sc (.int .i64 (0))))⟩,
     ⟨(some 5), none, [], [], .mv (.k (.sc (.bool false)))⟩] (some [0, 1]))
   (.seq
    (.block 0
     (.loop
      (.seq
       (.seq
        (.reg [⟨(some 8), none, [], [], .mv (.t 0)⟩,
          ⟨(some 9), none, [], [], .lenL (.t 8)⟩,
          ⟨(some 10), none, [], [], .bin .gtr false (.t 9) (.k (.sc (.int .i64 (8))))⟩] (some [0, 1, 10]))
        (.cond (.t 10)
         (.keep [0, 1]
          .skip)
         (.exit 0)))
       (.block 1
        (.seq
         (.seq
          (.reg [⟨(some 11), none, [], [], .mv (.t 1)⟩,
            ⟨(some 12), none, [], [], .mv (.t 11)⟩,
            ⟨(some 13), (some (12, true)), [], [], .mv (.t 0)⟩,
            ⟨(some 14), (some (12, true)), [], [], .ixaS 1 (.t 13) (.k (.sc (.int .i64 (0))))⟩,
            ⟨(some 15), (some (12, true)), [], [], .ld false 1 (.t 14)⟩,
            ⟨(some 16), (some (12, true)), [], [], .bin .neq false (.t 15) (.k (.sc (.int .u8 (255))))⟩,
            ⟨(some 17), none, [], [], .pick (.t 12) (.t 16) (.k (.sc (.bool false)))⟩,
            ⟨(some 18), none, [], [], .mv (.t 17)⟩,
            ⟨(some 19), (some (18, false)), [], [], .mv (.t 1)⟩,
            ⟨(some 20), (some (18, false)), [], [], .un .not (.t 19)⟩,
            ⟨(some 21), (some (18, false)), [], [], .mv (.t 20)⟩,
            ⟨(some 22), (some (21, true)), [], [], .mv (.t 0)⟩,
            ⟨(some 23), (some (21, true)), [], [], .ixaS 1 (.t 22) (.k (.sc (.int .i64 (0))))⟩,
            ⟨(some 24), (some (21, true)), [], [], .ld false 1 (.t 23)⟩,
            ⟨(some 25), (some (21, true)), [], [], .bin .neq false (.t 24) (.k (.sc (.int .u8 (0))))⟩,
            ⟨(some 26), (some (18, false)), [], [], .pick (.t 21) (.t 25) (.k (.sc (.bool false)))⟩,
            ⟨(some 27), none, [], [], .pick (.t 18) (.k (.sc (.bool true))) (.t 26)⟩] (some [0, 1, 27]))
          (.cond (.t 27)
           (.keep []
            (.seq
             (.reg [⟨(some 4), none, [], [], .mv (.k (.sc (.int .i64 (0))))⟩,
               ⟨(some 5), none, [], [], .mv (.k (.sc (.bool false)))⟩] none)
             .ret))
           (.keep [0, 1]
            .skip)))
         (.reg [⟨(some 28), none, [], [], .mv (.t 0)⟩,
           ⟨(some 29), none, [], [], .slL 1 (some (.k (.sc (.int .i64 (1))))) none none (.t 28)⟩,
           ⟨(some 0), none, [], [], .mv (.t 29)⟩] (some [0, 1])))))))
    (.seq
     (.seq
      (.reg [⟨(some 30), none, [], [], .mv (.t 0)⟩,
        ⟨(some 31), none, [], [], .lenL (.t 30)⟩,
        ⟨(some 32), none, [], [], .bin .eql false (.t 31) (.k (.sc (.int .i64 (8))))⟩,
        ⟨(some 33), none, [], [], .mv (.t 32)⟩,
        ⟨(some 34), (some (33, true)), [], [], .mv (.t 1)⟩,
        ⟨(some 35), (some (33, true)), [], [], .mv (.t 0)⟩,
        ⟨(some 36), (some (33, true)), [], [], .ixaS 1 (.t 35) (.k (.sc (.int .i64 (0))))⟩,
        ⟨(some 37), (some (33, true)), [], [], .ld false 1 (.t 36)⟩,
        ⟨(some 38), (some (33, true)), [], [], .bin .geq false (.t 37) (.k (.sc (.int .u8 (128))))⟩,
        ⟨(some 39), (some (33, true)), [], [], .bin .neq true (.t 34) (.t 38)⟩,
        ⟨(some 40), none, [], [], .pick (.t 33) (.t 39) (.k (.sc (.bool false)))⟩] (some [0, 1, 40]))
      (.cond (.t 40)
       (.keep []
        (.seq
         (.reg [⟨(some 4), none, [], [], .mv (.k (.sc (.int .i64 (0))))⟩,
           ⟨(some 5), none, [], [], .mv (.k (.sc (.bool false)))⟩] none)
         .ret))
       (.keep [0, 1]
        .skip)))
     (.seq
      (.reg [⟨(some 6), none, [], [], .mv (.k (.sc (.int .i64 (0))))⟩] (some [0, 1, 6]))
      (.seq
       (.seq
        (.reg [⟨(some 41), none, [], [], .mv (.t 1)⟩] (some [0, 6, 41]))
        (.cond (.t 41)
         (.keep [0]
          (.reg [⟨(some 6), none, [], [], .mv (.k (.sc (.int .i64 (-1))))⟩] none))
         (.keep [0, 6]
          .skip)))
       (.seq
        (.seq
         (.reg [⟨(some 7), none, [], [], .mv (.k (.sc (.int .i64 (0))))⟩] none)
         (.block 2
          (.loop
           (.seq
            (.seq
             (.reg [⟨(some 42), none, [], [], .mv (.t 7)⟩,
               ⟨(some 43), none, [], [], .mv (.t 0)⟩,
               ⟨(some 44), none, [], [], .lenL (.t 43)⟩,
               ⟨(some 45), none, [], [], .bin .lss false (.t 42) (.t 44)⟩] (some [0, 6, 7, 45]))
             (.cond (.t 45)
              (.keep [0, 6, 7]
               .skip)
              (.exit 2)))
            (.seq
             (.block 3
              (.reg [⟨(some 48), none, [], [], .mv (.t 6)⟩,
                ⟨(some 49), none, [], [], .bin .mul false (.t 48) (.k (.sc (.int .i64 (256))))⟩,
                ⟨(some 50), none, [], [], .mv (.t 0)⟩,
                ⟨(some 51), none, [], [], .mv (.t 7)⟩,
                ⟨(some 52), none, [], [], .ixaS 1 (.t 50) (.t 51)⟩,
                ⟨(some 53), none, [], [], .ld false 1 (.t 52)⟩,
                ⟨(some 54), none, [], [], .cvi .i64 (.t 53)⟩,
                ⟨(some 55), none, [], [], .bin .add false (.t 49) (.t 54)⟩,
                ⟨(some 6), none, [], [], .mv (.t 55)⟩] (some [0, 6, 7])))
             (.reg [⟨(some 46), none, [], [], .mv (.t 7)⟩,
               ⟨(some 47), none, [], [], .bin .add false (.t 46) (.k (.sc (.int .i64 (1))))⟩,
               ⟨(some 7), none, [], [], .mv (.t 47)⟩] (some [0, 6, 7])))))))
        (.seq
         (.reg [⟨(some 56), none, [], [], .mv (.t 6)⟩,
           ⟨(some 4), none, [], [], .mv (.t 56)⟩,
           ⟨(some 5), none, [], [], .mv (.k (.sc (.bool true)))⟩] (some [4, 5]))
         .ret)))))))
theorem b29 : cmpG Tryd.prog 29 = some (strip a29, r29, 57) := by kernel_rfl

abbrev r30 : List AR := [.t 4]
abbrev a30 : ACode :=
  (.seq
   (.reg [⟨(some 4), none, [], [], .mv (.k (.sc (.bool false)))⟩] (some [0, 1]))
   (.seq
    (.reg [⟨(some 5), none, [], [], .mv (.t 0)⟩,
      ⟨(some 6), none, [], [], .cvb (.t 5)⟩,
      ⟨(some 7), none, [], [], .mv (.t 1)⟩,
      ⟨(some 8), none, [], [], .cvb (.t 7)⟩,
      ⟨(some 9), none, [], [], .bin .eql false (.t 6) (.t 8)⟩,
      ⟨(some 4), none, [], [], .mv (.t 9)⟩] (some [4]))
    .ret))
theorem b30 : cmpG Tryd.prog 30 = some (strip a30, r30, 10) := by kernel_rfl

abbrev r31 : List AR := [.t 4]
abbrev a31 : ACode :=
  (.seq
   (.reg [⟨(some 4), none, [], [], .mv (.k .nl)⟩] (some [0, 1]))
   (.seq
    (.block 0
     (.loop
      (.seq
       (.seq
        (.reg [⟨(some 5), none, [], [], .mv (.t 0)⟩,
          ⟨(some 6), none, [], [], .lenL (.t 5)⟩,
          ⟨(some 7), none, [], [], .bin .gtr false (.t 6) (.k (.sc (.int .i64 (0))))⟩,
          ⟨(some 8), none, [], [], .mv (.t 7)⟩,
          ⟨(some 9), (some (8, true)), [], [], .mv (.t 0)⟩,
          ⟨(some 10), (some (8, true)), [], [], .ixaS 1 (.t 9) (.k (.sc (.int .i64 (0))))⟩,
          ⟨(some 11), (some (8, true)), [], [], .ld false 1 (.t 10)⟩,
          ⟨(some 12), (some (8, true)), [], [], .mv (.t 1)⟩,
          ⟨(some 13), (some (8, true)), [], [], .bin .eql false (.t 11) (.t 12)⟩,
          ⟨(some 14), none, [], [], .pick (.t 8) (.t 13) (.k (.sc (.bool false)))⟩] (some [0, 1, 14]))
        (.cond (.t 14)
         (.keep [0, 1]
          .skip)
         (.exit 0)))
       (.block 1
        (.reg [⟨(some 15), none, [], [], .mv (.t 0)⟩,
          ⟨(some 16), none, [], [], .slL 1 (some (.k (.sc (.int .i64 (1))))) none none (.t 15)⟩,
          ⟨(some 0), none, [], [], .mv (.t 16)⟩] (some [0, 1]))))))
    (.seq
     (.seq
      (.reg [⟨(some 17), none, [], [], .mv (.t 0)⟩,
        ⟨(some 18), none, [], [], .lenL (.t 17)⟩,
        ⟨(some 19), none, [], [], .bin .eql false (.t 18) (.k (.sc (.int .i64 (0))))⟩] (some [0, 19]))
      (.cond (.t 19)
       (.keep []
        (.seq
         (.reg [⟨(some 4), none, [], [], .mv (.k .nl)⟩] none)
         .ret))
       (.keep [0]
        .skip)))
     (.seq
      (.reg [⟨(some 20), none, [], [], .mv (.t 0)⟩,
        ⟨(some 4), none, [], [], .mv (.t 20)⟩] (some [4]))
      .ret))))
theorem b31 : cmpG Tryd.prog 31 = some (strip a31, r31, 21) := by kernel_rfl

abbrev r32 : List AR := [.c 2 true 256, .t 3]
abbrev a32 : ACode :=
  (.seq
   (.reg [⟨(some 2), none, [], [], .alc (List.replicate 256 (.sc (.bool false)))⟩,
     ⟨(some 3), none, [], [], .mv (.k (.sc (.bool false)))⟩] (some [0, 2]))
   (.seq
    (.seq
     (.reg [⟨(some 4), none, [], [], .mv (.k (.sc (.int .i64 (0))))⟩] none)
     (.block 0
      (.loop
       (.seq
        (.seq
         (.reg [⟨(some 6), none, [], [], .mv (.t 4)⟩,
           ⟨(some 7), none, [], [], .mv (.t 0)⟩,
           ⟨(some 8), none, [], [], .lenS (.t 7)⟩,
           ⟨(some 9), none, [], [], .bin .lss false (.t 6) (.t 8)⟩] (some [0, 2, 4, 9]))
         (.cond (.t 9)
          (.keep [0, 2, 4]
           .skip)
          (.exit 0)))
        (.seq
         (.block 1
          (.seq
           (.reg [⟨(some 12), none, [], [], .mv (.t 0)⟩,
             ⟨(some 13), none, [], [], .mv (.t 4)⟩,
             ⟨(some 14), none, [], [], .ixS (.t 12) (.t 13)⟩,
             ⟨(some 5), none, [], [], .mv (.t 14)⟩] (some [0, 2, 4, 5]))
           (.seq
            (.seq
             (.reg [⟨(some 15), none, [], [], .mv (.t 5)⟩,
               ⟨(some 16), none, [], [], .bin .geq false (.t 15) (.k (.sc (.int .u8 (128))))⟩] (some [0, 2, 4, 5, 16]))
             (.cond (.t 16)
              (.keep [2]
               (.seq
                (.reg [⟨(some 17), none, [], [], .ld true 256 (.t 2)⟩,
                  ⟨none, none, [], [], .sto 256 (.t 2) (.t 17)⟩,
                  ⟨(some 3), none, [], [], .mv (.k (.sc (.bool false)))⟩] (some [2, 3]))
                .ret))
              (.keep [0, 2, 4, 5]
               .skip)))
            (.reg [⟨(some 18), none, [], [], .mv (.t 5)⟩,
              ⟨(some 19), none, [], [], .ixaA 256 1 (.t 2) (.t 18)⟩,
              ⟨none, none, [], [], .sto 1 (.t 19) (.k (.sc (.bool true)))⟩] (some [0, 2, 4])))))
         (.reg [⟨(some 10), none, [], [], .mv (.t 4)⟩,
           ⟨(some 11), none, [], [], .bin .add false (.t 10) (.k (.sc (.int .i64 (1))))⟩,
           ⟨(some 4), none, [], [], .mv (.t 11)⟩] (some [0, 2, 4])))))))
    (.seq
     (.reg [⟨(some 20), none, [], [], .ld true 256 (.t 2)⟩,
       ⟨none, none, [], [], .sto 256 (.t 2) (.t 20)⟩,
       ⟨(some 3), none, [], [], .mv (.k (.sc (.bool true)))⟩] (some [2, 3]))
     .ret)))
theorem b32 : cmpG Tryd.prog 32 = some (strip a32, r32, 21) := by kernel_rfl

abbrev r33 : List AR := [.t 4]
abbrev a33 : ACode :=
  (.seq
   (.reg [⟨(some 4), none, [], [], .mv (.k .nl)⟩] (some [0, 1]))
   (.seq
    (.block 0
     (.loop
      (.seq
       (.seq
        (.reg [⟨(some 5), none, [], [], .mv (.t 0)⟩,
          ⟨(some 6), none, [], [], .lenL (.t 5)⟩,
          ⟨(some 7), none, [], [], .bin .gtr false (.t 6) (.k (.sc (.int .i64 (0))))⟩] (some [0, 1, 7]))
        (.cond (.t 7)
         (.keep [0, 1]
          .skip)
         (.exit 0)))
       (.block 1
        (.seq
         (.seq
          (.reg [⟨(some 8), none, [], [], .mv (.t 1)⟩,
            ⟨(some 9), none, [], [], .mv (.t 0)⟩,
            ⟨(some 10), none, [], [], .ixaS 1 (.t 9) (.k (.sc (.int .i64 (0))))⟩,
            ⟨(some 11), none, [], [], .ld false 1 (.t 10)⟩,
            ⟨(some 12), none, [], [], .cal (.k (.fn 38 [])) [(.t 8), (.t 11)]⟩,
            ⟨(some 13), none, [], [], .un .not (.t 12)⟩] (some [0, 1, 13]))
          (.cond (.t 13)
           (.exit 0)
           (.keep [0, 1]
            .skip)))
         (.reg [⟨(some 14), none, [], [], .mv (.t 0)⟩,
           ⟨(some 15), none, [], [], .slL 1 (some (.k (.sc (.int .i64 (1))))) none none (.t 14)⟩,
           ⟨(some 0), none, [], [], .mv (.t 15)⟩] (some [0, 1])))))))
    (.seq
     (.seq
      (.reg [⟨(some 16), none, [], [], .mv (.t 0)⟩,
        ⟨(some 17), none, [], [], .lenL (.t 16)⟩,
        ⟨(some 18), none, [], [], .bin .eql false (.t 17) (.k (.sc (.int .i64 (0))))⟩] (some [0, 18]))
      (.cond (.t 18)
       (.keep []
        (.seq
         (.reg [⟨(some 4), none, [], [], .mv (.k .nl)⟩] none)
         .ret))
       (.keep [0]
        .skip)))
     (.seq
      (.reg [⟨(some 19), none, [], [], .mv (.t 0)⟩,
        ⟨(some 4), none, [], [], .mv (.t 19)⟩] (some [4]))
      .ret))))
theorem b33 : cmpG Tryd.prog 33 = some (strip a33, r33, 20) := by kernel_rfl

abbrev r36 : List AR := [.t 4]
abbrev a36 : ACode :=
  (.seq
   (.reg [⟨(some 4), none, [], [], .mv (.k .nl)⟩] (some [0, 1]))
   (.seq
    (.block 0
     (.loop
      (.seq
       (.seq
        (.reg [⟨(some 5), none, [], [], .mv (.t 0)⟩,
          ⟨(some 6), none, [], [], .lenL (.t 5)⟩,
          ⟨(some 7), none, [], [], .bin .gtr false (.t 6) (.k (.sc (.int .i64 (0))))⟩] (some [0, 1, 7]))
        (.cond (.t 7)
         (.keep [0, 1]
          .skip)
         (.exit 0)))
       (.block 1
        (.seq
         (.seq
          (.reg [⟨(some 8), none, [], [], .mv (.t 1)⟩,
            ⟨(some 9), none, [], [], .mv (.t 0)⟩,
            ⟨(some 10), none, [], [], .mv (.t 0)⟩,
            ⟨(some 11), none, [], [], .lenL (.t 10)⟩,
            ⟨(some 12), none, [], [], .bin .sub false (.t 11) (.k (.sc (.int .i64 (1))))⟩,
            ⟨(some 13), none, [], [], .ixaS 1 (.t 9) (.t 12)⟩,
            ⟨(some 14), none, [], [], .ld false 1 (.t 13)⟩,
            ⟨(some 15), none, [], [], .cal (.k (.fn 38 [])) [(.t 8), (.t 14)]⟩,
            ⟨(some 16), none, [], [], .un .not (.t 15)⟩] (some [0, 1, 16]))
          (.cond (.t 16)
           (.exit 0)
           (.keep [0, 1]
            .skip)))
         (.reg [⟨(some 17), none, [], [], .mv (.t 0)⟩,
           ⟨(some 18), none, [], [], .mv (.t 0)⟩,
           ⟨(some 19), none, [], [], .lenL (.t 18)⟩,
           ⟨(some 20), none, [], [], .bin .sub false (.t 19) (.k (.sc (.int .i64 (1))))⟩,
           ⟨(some 21), none, [], [], .slL 1 none (some (.t 20)) none (.t 17)⟩,
           ⟨(some 0), none, [], [], .mv (.t 21)⟩] (some [0, 1])))))))
    (.seq
     (.reg [⟨(some 22), none, [], [], .mv (.t 0)⟩,
       ⟨(some 4), none, [], [], .mv (.t 22)⟩] (some [4]))
     .ret)))
theorem b36 : cmpG Tryd.prog 36 = some (strip a36, r36, 23) := by kernel_rfl

abbrev r38 : List AR := [.t 4]
abbrev a38 : ACode :=
  (.seq
   (.reg [⟨(some 4), none, [], [], .mv (.k (.sc (.bool false)))⟩] (some [0, 1]))
   (.seq
    (.reg [⟨(some 5), none, [], [], .mv (.t 0)⟩,
      ⟨(some 6), none, [], [], .mv (.t 1)⟩,
      ⟨(some 7), none, [], [], .nck (.t 5)⟩,
      ⟨(some 8), none, [], [], .ixaA 256 1 (.t 7) (.t 6)⟩,
      ⟨(some 9), none, [], [], .ld false 1 (.t 8)⟩,
      ⟨(some 4), none, [], [], .mv (.t 9)⟩] (some [4]))
    .ret))
theorem b38 : cmpG Tryd.prog 38 = some (strip a38, r38, 10) := by kernel_rfl

abbrev r3 : List AR := [.t 6]
abbrev a3 : ACode :=
  (.seq
   (.reg [⟨(some 6), none, [], [], .mv (.k (.sc (.bool false)))⟩] (some [0, 1, 2]))
   (.seq
    (.reg [⟨(some 16), none, [], [], .mv (.t 0)⟩,
      ⟨(some 17), none, [], [], .mv (.t 1)⟩,
      ⟨(some 18), none, [], [], .cal (.k (.fn 7 [])) [(.t 16), (.t 17)]⟩,
      ⟨(some 15), none, [], [], .mv (.t 18)⟩,
      ⟨(some 19), none, [], [], .ext (.t 15) 0⟩,
      ⟨(some 20), none, [], [], .ext (.t 15) 1⟩,
      ⟨(some 7), none, [], [], .mv (.t 19)⟩,
      ⟨(some 8), none, [], [], .mv (.t 20)⟩] (some [0, 1, 2, 7, 8]))
    (.seq
     (.reg [⟨(some 22), none, [], [], .mv (.t 0)⟩,
       ⟨(some 23), none, [], [], .mv (.t 1)⟩,
       ⟨(some 24), none, [], [], .cal (.k (.fn 8 [])) [(.t 22), (.t 23)]⟩,
       ⟨(some 21), none, [], [], .mv (.t 24)⟩,
       ⟨(some 25), none, [], [], .ext (.t 21) 0⟩,
       ⟨(some 26), none, [], [], .ext (.t 21) 1⟩,
       ⟨(some 9), none, [], [], .mv (.t 25)⟩,
       ⟨(some 10), none, [], [], .mv (.t 26)⟩] (some [0, 1, 2, 7, 8, 9, 10]))
     (.seq
      (.reg [⟨(some 28), none, [], [], .mv (.t 0)⟩,
        ⟨(some 29), none, [], [], .mv (.t 2)⟩,
        ⟨(some 30), none, [], [], .cal (.k (.fn 9 [])) [(.t 28), (.t 29)]⟩,
        ⟨(some 27), none, [], [], .mv (.t 30)⟩,
        ⟨(some 31), none, [], [], .ext (.t 27) 0⟩,
        ⟨(some 32), none, [], [], .ext (.t 27) 1⟩,
        ⟨(some 11), none, [], [], .mv (.t 31)⟩,
        ⟨(some 12), none, [], [], .mv (.t 32)⟩] (some [0, 1, 2, 7, 8, 9, 10, 11, 12]))
      (.seq
       (.reg [⟨(some 34), none, [], [], .mv (.t 0)⟩,
         ⟨(some 35), none, [], [], .mv (.t 2)⟩,
         ⟨(some 36), none, [], [], .cal (.k (.fn 10 [])) [(.t 34), (.t 35)]⟩,
         ⟨(some 33), none, [], [], .mv (.t 36)⟩,
         ⟨(some 37), none, [], [], .ext (.t 33) 0⟩,
         ⟨(some 38), none, [], [], .ext (.t 33) 1⟩,
         ⟨(some 13), none, [], [], .mv (.t 37)⟩,
         ⟨(some 14), none, [], [], .mv (.t 38)⟩] (some [0, 1, 2, 7, 8, 9, 10, 11, 12, 13, 14]))
       (.seq
        (.reg (⟨(some 39), none, [], [], .mv (.t 7)⟩ ::
          ⟨(some 40), none, [], [], .mv (.t 9)⟩ ::
          ⟨(some 41), none, [], [], .cal (.k (.fn 11 [])) [(.t 39), (.t 40)]⟩ ::
          ⟨(some 42), none, [], [], .mv (.t 41)⟩ ::
          ⟨(some 43), (some (42, true)), [], [], .mv (.t 8)⟩ ::
          ⟨(some 44), (some (42, true)), [], [], .mv (.t 10)⟩ ::
          ⟨(some 45), (some (42, true)), [], [], .bin .eql false (.t 43) (.t 44)⟩ ::
          ⟨(some 46), none, [], [], .pick (.t 42) (.t 45) (.k (.sc (.bool false)))⟩ ::
          ⟨(some 47), none, [], [], .mv (.t 46)⟩ ::
          ⟨(some 48), (some (47, true)), [], [], .mv (.t 11)⟩ ::
          ⟨(some 49), (some (47, true)), [], [], .mv (.t 13)⟩ ::
          ⟨(some 50), (some (47, true)), [], [], .cal (.k (.fn 11 [])) [(.t 48), (.t 49)]⟩ ::
          ⟨(some 51), none, [], [], .pick (.t 47) (.t 50) (.k (.sc (.bool false)))⟩ ::
          ⟨(some 52), none, [], [], .mv (.t 51)⟩ ::
          ⟨(some 53), (some (52, true)), [], [], .mv (.t 12)⟩ ::
          ⟨(some 54), (some (52, true)), [], [], .mv (.t 14)⟩ ::
          ⟨(some 55), (some (52, true)), [], [], .bin .eql false (.t 53) (.t 54)⟩ ::
          ⟨(some 56), none, [], [], .pick (.t 52) (.t 55) (.k (.sc (.bool false)))⟩ ::
          ⟨(some 57), none, [], [], .mv (.t 56)⟩ ::
          ⟨(some 58), (some (57, true)), [], [], .mv (.t 0)⟩ ::
          ⟨(some 59), (some (57, true)), [], [], .mv (.t 1)⟩ ::
          ⟨(some 60), (some (57, true)), [], [], .cal (.k (.fn 12 [])) [(.t 58), (.t 59)]⟩ ::
          ⟨(some 61), (some (57, true)), [], [], .mv (.t 0)⟩ ::
          ⟨(some 62), (some (57, true)), [], [], .mv (.t 1)⟩ ::
          ⟨(some 63), (some (57, true)), [], [], .cal (.k (.fn 13 [])) [(.t 61), (.t 62)]⟩ ::
          ⟨(some 64), (some (57, true)), [], [], .bin .eql true (.t 60) (.t 63)⟩ ::
          ⟨(some 65), none, [], [], .pick (.t 57) (.t 64) (.k (.sc (.bool false)))⟩ ::
          ⟨(some 66), none, [], [], .mv (.t 65)⟩ ::
          ⟨(some 67), (some (66, true)), [], [], .mv (.t 2)⟩ ::
          ⟨(some 68), (some (66, true)), [], [], .cal (.k (.fn 14 [])) [(.t 67)]⟩ ::
          ⟨(some 69), (some (66, true)), [], [], .mv (.t 2)⟩ ::
          ⟨(some 70), (some (66, true)), [], [], .cal (.k (.fn 15 [])) [(.t 69)]⟩ ::
          ⟨(some 71), (some (66, true)), [], [], .bin .eql false (.t 68) (.t 70)⟩ ::
          ⟨(some 72), none, [], [], .pick (.t 66) (.t 71) (.k (.sc (.bool false)))⟩ ::
          ⟨(some 73), none, [], [], .mv (.t 72)⟩ ::
          ⟨(some 74), (some (73, true)), [], [], .cal (.k (.fn 16 [])) []⟩ ::
          ⟨(some 75), none, [], [], .pick (.t 73) (.t 74) (.k (.sc (.bool false)))⟩ ::
          ⟨(some 6), none, [], [], .mv (.t 75)⟩ :: []) (some [6]))
        .ret))))))
theorem b3 : cmpG Tryd.prog 3 = some (strip a3, r3, 76) := by kernel_rfl

abbrev r6 : List AR := [.t 2]
abbrev a6 : ACode :=
  (.seq
   (.reg [⟨(some 2), none, [], [], .mv (.k (.sc (.bool false)))⟩] (some [0]))
   (.seq
    (.seq
     (.reg [⟨(some 7), none, [], [], .mv (.t 0)⟩,
       ⟨(some 8), none, [], [], .lenL (.t 7)⟩,
       ⟨(some 9), none, [], [], .bin .gtr false (.t 8) (.k (.sc (.int .i64 (100))))⟩] (some [0, 9]))
     (.cond (.t 9)
      (.keep []
       (.seq
        (.reg [⟨(some 10), none, [], [], .cal (.k (.fn 16 [])) []⟩,
          ⟨(some 2), none, [], [], .mv (.t 10)⟩] (some [2]))
        .ret))
      (.keep [0]
       .skip)))
    (.seq
     (.reg [⟨(some 12), none, [], [], .mv (.t 0)⟩,
       ⟨(some 13), none, [], [], .cal (.k (.fn 18 [])) [(.t 12)]⟩,
       ⟨(some 11), none, [], [], .mv (.t 13)⟩,
       ⟨(some 14), none, [], [], .ext (.t 11) 0⟩,
       ⟨(some 15), none, [], [], .ext (.t 11) 1⟩,
       ⟨(some 3), none, [], [], .mv (.t 14)⟩,
       ⟨(some 4), none, [], [], .mv (.t 15)⟩] (some [0, 3, 4]))
     (.seq
      (.reg [⟨(some 17), none, [], [], .mv (.t 3)⟩,
        ⟨(some 18), none, [], [], .mv (.t 0)⟩,
        ⟨(some 19), none, [], [], .lenL (.t 18)⟩,
        ⟨(some 20), none, [], [], .cal (.k (.fn 8 [])) [(.t 17), (.t 19)]⟩,
        ⟨(some 16), none, [], [], .mv (.t 20)⟩,
        ⟨(some 21), none, [], [], .ext (.t 16) 0⟩,
        ⟨(some 22), none, [], [], .ext (.t 16) 1⟩,
        ⟨(some 5), none, [], [], .mv (.t 21)⟩,
        ⟨(some 6), none, [], [], .mv (.t 22)⟩] (some [0, 4, 5, 6]))
      (.seq
       (.reg [⟨(some 23), none, [], [], .mv (.t 0)⟩,
         ⟨(some 24), none, [], [], .cal (.k (.fn 19 [])) [(.t 23)]⟩,
         ⟨(some 25), none, [], [], .mv (.t 4)⟩,
         ⟨(some 26), none, [], [], .bin .eql false (.t 25) (.k (.sc (.int .i64 (0))))⟩,
         ⟨(some 27), none, [], [], .mv (.t 26)⟩,
         ⟨(some 28), (some (27, true)), [], [], .mv (.t 6)⟩,
         ⟨(some 29), (some (27, true)), [], [], .bin .eql false (.t 28) (.k (.sc (.int .i64 (0))))⟩,
         ⟨(some 30), none, [], [], .pick (.t 27) (.t 29) (.k (.sc (.bool false)))⟩,
         ⟨(some 31), none, [], [], .mv (.t 30)⟩,
         ⟨(some 32), (some (31, true)), [], [], .mv (.t 0)⟩,
         ⟨(some 33), (some (31, true)), [], [], .mv (.t 5)⟩,
         ⟨(some 34), (some (31, true)), [], [], .cal (.k (.fn 11 [])) [(.t 32), (.t 33)]⟩,
         ⟨(some 35), none, [], [], .pick (.t 31) (.t 34) (.k (.sc (.bool false)))⟩,
         ⟨(some 36), none, [], [], .bin .eql true (.t 24) (.t 35)⟩,
         ⟨(some 37), none, [], [], .mv (.t 36)⟩,
         ⟨(some 38), (some (37, true)), [], [], .cal (.k (.fn 16 [])) []⟩,
         ⟨(some 39), none, [], [], .pick (.t 37) (.t 38) (.k (.sc (.bool false)))⟩,
         ⟨(some 2), none, [], [], .mv (.t 39)⟩] (some [2]))
       .ret)))))
theorem b6 : cmpG Tryd.prog 6 = some (strip a6, r6, 40) := by kernel_rfl


end Go.Proofs.YthhccabdlajngaaDoor.Cod
