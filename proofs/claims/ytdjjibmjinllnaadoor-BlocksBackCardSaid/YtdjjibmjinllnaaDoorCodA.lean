import Derived.Test.YtdjjibmjinllnaaDoorProg
import Derived.Test.YtdjjibmjinllnaaDoorSimD
import Derived.KernelRfl
namespace Go.Proofs.YtdjjibmjinllnaaDoor.Cod
open Go Go.Sim Go.Proofs
set_option maxRecDepth 100000
abbrev r4 : List AR := [.t 4]
abbrev a4 : ACode :=
  (.seq
   (.reg [⟨(some 4), none, [], [], .mv (.k (.sc (.bool false)))⟩] (some [0, 1]))
   (.seq
    (.seq
     (.reg [⟨(some 12), none, [], [], .mv (.t 0)⟩,
       ⟨(some 13), none, [], [], .lenL (.t 12)⟩,
       ⟨(some 14), none, [], [], .bin .gtr false (.t 13) (.k (.sc (.int .i64 (2000))))⟩,
       ⟨(some 15), none, [], [], .mv (.t 14)⟩,
       ⟨(some 16), (some (15, false)), [], [], .mv (.t 1)⟩,
       ⟨(some 17), (some (15, false)), [], [], .lenL (.t 16)⟩,
       ⟨(some 18), (some (15, false)), [], [], .bin .gtr false (.t 17) (.k (.sc (.int .i64 (1000))))⟩,
       ⟨(some 19), none, [], [], .pick (.t 15) (.k (.sc (.bool true))) (.t 18)⟩] (some [0, 1, 19]))
     (.cond (.t 19)
      (.keep []
       (.seq
        (.reg [⟨(some 20), none, [], [], .cal (.k (.fn 5 [])) []⟩,
          ⟨(some 4), none, [], [], .mv (.t 20)⟩] (some [4]))
        .ret))
      (.keep [0, 1]
       .skip)))
    (.seq
     (.reg [⟨(some 21), none, [], [], .mv (.t 0)⟩,
       ⟨(some 22), none, [], [], .cal (.k (.fn 9 [])) [(.t 21)]⟩,
       ⟨(some 5), none, [], [], .mv (.t 22)⟩] (some [0, 1, 5]))
     (.seq
      (.reg [⟨(some 23), none, [], [], .mv (.t 0)⟩,
        ⟨(some 24), none, [], [], .lenL (.t 23)⟩,
        ⟨(some 6), none, [], [], .mv (.t 24)⟩] (some [0, 1, 5, 6]))
      (.seq
       (.reg [⟨(some 26), none, [], [], .mv (.t 5)⟩,
         ⟨(some 27), none, [], [], .app 1 1 (.k .nl) (.t 26)⟩,
         ⟨(some 28), none, [], [], .mv (.t 1)⟩,
         ⟨(some 29), none, [], [], .app 1 1 (.t 27) (.t 28)⟩,
         ⟨(some 30), none, [], [], .mv (.t 6)⟩,
         ⟨(some 31), none, [], [], .cal (.k (.fn 10 [])) [(.t 29), (.t 30)]⟩,
         ⟨(some 25), none, [], [], .mv (.t 31)⟩,
         ⟨(some 32), none, [], [], .ext (.t 25) 0⟩,
         ⟨(some 33), none, [], [], .ext (.t 25) 1⟩,
         ⟨(some 7), none, [], [], .mv (.t 32)⟩,
         ⟨(some 8), none, [], [], .mv (.t 33)⟩] (some [0, 5, 6, 7, 8]))
       (.seq
        (.reg [⟨(some 34), none, [], [], .cal (.k (.fn 11 [])) []⟩,
          ⟨(some 9), none, [], [], .mv (.t 34)⟩] (some [0, 5, 6, 7, 8, 9]))
        (.seq
         (.seq
          (.reg [⟨(some 35), none, [], [], .mv (.t 9)⟩,
            ⟨(some 36), none, [], [], .lenL (.t 35)⟩,
            ⟨(some 37), none, [], [], .mv (.k (.sc (.int .i64 (0))))⟩] none)
          (.block 0
           (.loop
            (.seq
             (.reg [⟨(some 38), none, [], [], .bin .lss false (.t 37) (.t 36)⟩] none)
             (.seq
              (.cond (.t 38)
               (.keep [0, 5, 6, 7, 8, 9, 35, 36, 37]
                .skip)
               (.exit 0))
              (.seq
               (.block 1
                (.seq
                 (.reg [⟨(some 39), none, [], [], .ixaS 1 (.t 35) (.t 37)⟩,
                   ⟨(some 40), none, [], [], .ld false 1 (.t 39)⟩,
                   ⟨(some 11), none, [], [], .mv (.t 40)⟩] (some [0, 5, 6, 7, 8, 9, 11, 35, 36, 37]))
                 (.seq
                  (.reg [⟨(some 41), none, [], [], .mv (.t 11)⟩,
                    ⟨(some 42), none, [], [], .bin .neq false (.t 41) (.k (.sc (.int .u8 (0))))⟩] (some [0, 5, 6, 7, 8, 9, 35, 36, 37, 42]))
                  (.cond (.t 42)
                   (.keep []
                    (.seq
                     (.reg [⟨(some 4), none, [], [], .mv (.k (.sc (.bool false)))⟩] none)
                     .ret))
                   (.keep [0, 5, 6, 7, 8, 9, 35, 36, 37]
                    .skip)))))
               (.reg [⟨(some 43), none, [], [], .bin .add false (.t 37) (.k (.sc (.int .i64 (1))))⟩,
                 ⟨(some 37), none, [], [], .mv (.t 43)⟩] (some [0, 5, 6, 7, 8, 9, 35, 36, 37]))))))))
         (.seq
          (.reg (⟨(some 44), none, [], [], .mv (.t 7)⟩ ::
            ⟨(some 45), none, [], [], .mv (.t 0)⟩ ::
            ⟨(some 46), none, [], [], .cal (.k (.fn 12 [])) [(.t 44), (.t 45)]⟩ ::
            ⟨(some 47), none, [], [], .mv (.t 46)⟩ ::
            ⟨(some 48), (some (47, true)), [], [], .mv (.t 8)⟩ ::
            ⟨(some 49), (some (47, true)), [], [], .bin .eql false (.t 48) (.k (.sc (.int .i64 (0))))⟩ ::
            ⟨(some 50), none, [], [], .pick (.t 47) (.t 49) (.k (.sc (.bool false)))⟩ ::
            ⟨(some 51), none, [], [], .mv (.t 50)⟩ ::
            ⟨(some 52), (some (51, true)), [], [], .mv (.t 5)⟩ ::
            ⟨(some 53), (some (51, true)), [], [], .mv (.t 6)⟩ ::
            ⟨(some 54), (some (51, true)), [], [], .cal (.k (.fn 13 [])) [(.t 52), (.t 53)]⟩ ::
            ⟨(some 55), none, [], [], .pick (.t 51) (.t 54) (.k (.sc (.bool false)))⟩ ::
            ⟨(some 56), none, [], [], .mv (.t 55)⟩ ::
            ⟨(some 57), (some (56, true)), [], [], .mv (.t 5)⟩ ::
            ⟨(some 58), (some (56, true)), [], [], .lenL (.t 57)⟩ ::
            ⟨(some 59), (some (56, true)), [], [], .mv (.t 6)⟩ ::
            ⟨(some 60), (some (56, true)), [], [], .cal (.k (.fn 7 [])) [(.t 59)]⟩ ::
            ⟨(some 61), (some (56, true)), [], [], .bin .mul false (.k (.sc (.int .i64 (512)))) (.t 60)⟩ ::
            ⟨(some 62), (some (56, true)), [], [], .bin .eql false (.t 58) (.t 61)⟩ ::
            ⟨(some 63), none, [], [], .pick (.t 56) (.t 62) (.k (.sc (.bool false)))⟩ ::
            ⟨(some 64), none, [], [], .mv (.t 63)⟩ ::
            ⟨(some 65), (some (64, true)), [], [], .mv (.t 5)⟩ ::
            ⟨(some 66), (some (64, true)), [], [], .lenL (.t 65)⟩ ::
            ⟨(some 67), (some (64, true)), [], [], .mv (.t 0)⟩ ::
            ⟨(some 68), (some (64, true)), [], [], .lenL (.t 67)⟩ ::
            ⟨(some 69), (some (64, true)), [], [], .mv (.t 6)⟩ ::
            ⟨(some 70), (some (64, true)), [], [], .cal (.k (.fn 8 [])) [(.t 69)]⟩ ::
            ⟨(some 71), (some (64, true)), [], [], .bin .add false (.t 68) (.t 70)⟩ ::
            ⟨(some 72), (some (64, true)), [], [], .bin .eql false (.t 66) (.t 71)⟩ ::
            ⟨(some 73), none, [], [], .pick (.t 64) (.t 72) (.k (.sc (.bool false)))⟩ ::
            ⟨(some 74), none, [], [], .mv (.t 73)⟩ ::
            ⟨(some 75), (some (74, true)), [], [], .mv (.t 9)⟩ ::
            ⟨(some 76), (some (74, true)), [], [], .lenL (.t 75)⟩ ::
            ⟨(some 77), (some (74, true)), [], [], .bin .eql false (.t 76) (.k (.sc (.int .i64 (1024))))⟩ ::
            ⟨(some 78), none, [], [], .pick (.t 74) (.t 77) (.k (.sc (.bool false)))⟩ ::
            ⟨(some 79), none, [], [], .mv (.t 78)⟩ ::
            ⟨(some 80), (some (79, true)), [], [], .cal (.k (.fn 5 [])) []⟩ ::
            ⟨(some 81), none, [], [], .pick (.t 79) (.t 80) (.k (.sc (.bool false)))⟩ ::
            ⟨(some 4), none, [], [], .mv (.t 81)⟩ :: []) (some [4]))
          .ret))))))))
theorem b4 : cmpG Tryd.prog 4 = some (strip a4, r4, 82) := by kernel_rfl

abbrev r5 : List AR := [.t 0]
abbrev a5 : ACode :=
  (.seq
   (.reg [⟨(some 0), none, [], [], .mv (.k (.sc (.bool false)))⟩] (some []))
   (.seq
    (.reg [⟨(some 4), none, [], [], .bsl 1 1 [(.sc (.int .u8 (0)))] [(0, 1, (.k (.sc (.int .u8 (97)))))]⟩,
      ⟨(some 5), none, [], [], .cvm (.t 4)⟩,
      ⟨(some 6), none, [], [], .cal (.k (.fn 9 [])) [(.t 5)]⟩,
      ⟨(some 1), none, [], [], .mv (.t 6)⟩] (some [1]))
    (.seq
     (.reg [⟨(some 8), none, [], [], .mv (.t 1)⟩,
       ⟨(some 9), none, [], [], .cal (.k (.fn 10 [])) [(.t 8), (.k (.sc (.int .i64 (1))))]⟩,
       ⟨(some 7), none, [], [], .mv (.t 9)⟩,
       ⟨(some 10), none, [], [], .ext (.t 7) 0⟩,
       ⟨(some 11), none, [], [], .ext (.t 7) 1⟩,
       ⟨(some 2), none, [], [], .mv (.t 10)⟩,
       ⟨(some 3), none, [], [], .mv (.t 11)⟩] (some [1, 2, 3]))
     (.seq
      (.reg (⟨(some 12), none, [], [], .mv (.t 1)⟩ ::
        ⟨(some 13), none, [], [], .lenL (.t 12)⟩ ::
        ⟨(some 14), none, [], [], .bin .eql false (.t 13) (.k (.sc (.int .i64 (512))))⟩ ::
        ⟨(some 15), none, [], [], .mv (.t 14)⟩ ::
        ⟨(some 16), (some (15, true)), [], [], .mv (.t 2)⟩ ::
        ⟨(some 17), (some (15, true)), [], [], .cvb (.t 16)⟩ ::
        ⟨(some 18), (some (15, true)), [], [], .bin .eql false (.t 17) (.k (.sc (.string ⟨#[97]⟩)))⟩ ::
        ⟨(some 19), none, [], [], .pick (.t 15) (.t 18) (.k (.sc (.bool false)))⟩ ::
        ⟨(some 20), none, [], [], .mv (.t 19)⟩ ::
        ⟨(some 21), (some (20, true)), [], [], .mv (.t 3)⟩ ::
        ⟨(some 22), (some (20, true)), [], [], .bin .eql false (.t 21) (.k (.sc (.int .i64 (0))))⟩ ::
        ⟨(some 23), none, [], [], .pick (.t 20) (.t 22) (.k (.sc (.bool false)))⟩ ::
        ⟨(some 24), none, [], [], .mv (.t 23)⟩ ::
        ⟨(some 25), (some (24, true)), [], [], .cal (.k (.fn 7 [])) [(.k (.sc (.int .i64 (513))))]⟩ ::
        ⟨(some 26), (some (24, true)), [], [], .bin .eql false (.t 25) (.k (.sc (.int .i64 (2))))⟩ ::
        ⟨(some 27), none, [], [], .pick (.t 24) (.t 26) (.k (.sc (.bool false)))⟩ ::
        ⟨(some 28), none, [], [], .mv (.t 27)⟩ ::
        ⟨(some 29), (some (28, true)), [], [], .cal (.k (.fn 11 [])) []⟩ ::
        ⟨(some 30), (some (28, true)), [], [], .lenL (.t 29)⟩ ::
        ⟨(some 31), (some (28, true)), [], [], .bin .eql false (.t 30) (.k (.sc (.int .i64 (1024))))⟩ ::
        ⟨(some 32), none, [], [], .pick (.t 28) (.t 31) (.k (.sc (.bool false)))⟩ ::
        ⟨(some 33), none, [], [], .mv (.t 32)⟩ ::
        ⟨(some 34), (some (33, true)), [], [], .mv (.t 1)⟩ ::
        ⟨(some 35), (some (33, true)), [], [], .cal (.k (.fn 13 [])) [(.t 34), (.k (.sc (.int .i64 (1))))]⟩ ::
        ⟨(some 36), none, [], [], .pick (.t 33) (.t 35) (.k (.sc (.bool false)))⟩ ::
        ⟨(some 37), none, [], [], .mv (.t 36)⟩ ::
        ⟨(some 38), (some (37, true)), [], [], .cal (.k (.fn 8 [])) [(.k (.sc (.int .i64 (1))))]⟩ ::
        ⟨(some 39), (some (37, true)), [], [], .bin .eql false (.t 38) (.k (.sc (.int .i64 (511))))⟩ ::
        ⟨(some 40), none, [], [], .pick (.t 37) (.t 39) (.k (.sc (.bool false)))⟩ ::
        ⟨(some 0), none, [], [], .mv (.t 40)⟩ :: []) (some [0]))
      .ret))))
theorem b5 : cmpG Tryd.prog 5 = some (strip a5, r5, 41) := by kernel_rfl

abbrev r7 : List AR := [.t 2]
abbrev a7 : ACode :=
  (.seq
   (.reg [⟨(some 2), none, [], [], .mv (.k (.sc (.int .i64 (0))))⟩] (some [0]))
   (.seq
    (.seq
     (.reg [⟨(some 3), none, [], [], .mv (.t 0)⟩,
       ⟨(some 4), none, [], [], .bin .lss false (.t 3) (.k (.sc (.int .i64 (1))))⟩] (some [0, 4]))
     (.cond (.t 4)
      (.keep []
       (.seq
        (.reg [⟨(some 2), none, [], [], .mv (.k (.sc (.int .i64 (0))))⟩] none)
        .ret))
      (.keep [0]
       .skip)))
    (.seq
     (.reg [⟨(some 5), none, [], [], .mv (.t 0)⟩,
       ⟨(some 6), none, [], [], .bin .sub false (.t 5) (.k (.sc (.int .i64 (1))))⟩,
       ⟨(some 7), none, [], [], .bin .quo false (.t 6) (.k (.sc (.int .i64 (512))))⟩,
       ⟨(some 8), none, [], [], .bin .add false (.t 7) (.k (.sc (.int .i64 (1))))⟩,
       ⟨(some 2), none, [], [], .mv (.t 8)⟩] (some [2]))
     .ret)))
theorem b7 : cmpG Tryd.prog 7 = some (strip a7, r7, 9) := by kernel_rfl

abbrev r8 : List AR := [.t 2]
abbrev a8 : ACode :=
  (.seq
   (.reg [⟨(some 2), none, [], [], .mv (.k (.sc (.int .i64 (0))))⟩] (some [0]))
   (.seq
    (.seq
     (.reg [⟨(some 3), none, [], [], .mv (.t 0)⟩,
       ⟨(some 4), none, [], [], .bin .lss false (.t 3) (.k (.sc (.int .i64 (1))))⟩] (some [0, 4]))
     (.cond (.t 4)
      (.keep []
       (.seq
        (.reg [⟨(some 2), none, [], [], .mv (.k (.sc (.int .i64 (0))))⟩] none)
        .ret))
      (.keep [0]
       .skip)))
    (.seq
     (.reg [⟨(some 5), none, [], [], .mv (.t 0)⟩,
       ⟨(some 6), none, [], [], .bin .rem false (.t 5) (.k (.sc (.int .i64 (512))))⟩,
       ⟨(some 7), none, [], [], .bin .sub false (.k (.sc (.int .i64 (512)))) (.t 6)⟩,
       ⟨(some 8), none, [], [], .bin .rem false (.t 7) (.k (.sc (.int .i64 (512))))⟩,
       ⟨(some 2), none, [], [], .mv (.t 8)⟩] (some [2]))
     .ret)))
theorem b8 : cmpG Tryd.prog 8 = some (strip a8, r8, 9) := by kernel_rfl

abbrev r9 : List AR := [.t 2]
abbrev a9 : ACode :=
  (.seq
   (.reg [⟨(some 2), none, [], [], .mv (.k .nl)⟩] (some [0]))
   (.seq
    (.reg [⟨(some 3), none, [], [], .mv (.t 0)⟩,
      ⟨(some 4), none, [], [], .cal (.k (.fn 14 [])) [(.t 3)]⟩,
      ⟨(some 5), none, [], [], .mv (.t 0)⟩,
      ⟨(some 6), none, [], [], .lenL (.t 5)⟩,
      ⟨(some 7), none, [], [], .cal (.k (.fn 8 [])) [(.t 6)]⟩,
      ⟨(some 8), none, [], [], .apz (.sc (.int .u8 (0))) 1 (.t 4) (.t 7)⟩,
      ⟨(some 2), none, [], [], .mv (.t 8)⟩] (some [2]))
    .ret))
theorem b9 : cmpG Tryd.prog 9 = some (strip a9, r9, 9) := by kernel_rfl

abbrev r10 : List AR := [.t 4, .t 5]
abbrev a10 : ACode :=
  (.seq
   (.reg [⟨(some 4), none, [], [], .mv (.k .nl)⟩,
     ⟨(some 5), none, [], [], .mv (.k (.sc (.int .i64 (0))))⟩] (some [0, 1]))
   (.seq
    (.block 0
     (.seq
      (.reg [⟨(some 7), none, [], [], .mv (.t 1)⟩,
        ⟨(some 8), none, [], [], .bin .lss false (.t 7) (.k (.sc (.int .i64 (0))))⟩,
        ⟨(some 6), none, [], [], .mv (.t 8)⟩] (some [0, 1, 6]))
      (.cond (.t 6)
       (.keep []
        (.seq
         (.reg [⟨(some 4), none, [], [], .mv (.k .nl)⟩,
           ⟨(some 5), none, [], [], .mv (.k (.sc (.int .i64 (1))))⟩] none)
         .ret))
       (.keep [0, 1]
        (.seq
         (.reg [⟨(some 10), none, [], [], .mv (.t 0)⟩,
           ⟨(some 11), none, [], [], .mv (.t 1)⟩,
           ⟨(some 12), none, [], [], .cal (.k (.fn 15 [])) [(.t 10), (.t 11)]⟩,
           ⟨(some 13), none, [], [], .un .not (.t 12)⟩,
           ⟨(some 9), none, [], [], .mv (.t 13)⟩] (some [0, 1, 9]))
         (.cond (.t 9)
          (.keep []
           (.seq
            (.reg [⟨(some 4), none, [], [], .mv (.k .nl)⟩,
              ⟨(some 5), none, [], [], .mv (.k (.sc (.int .i64 (4))))⟩] none)
            .ret))
          (.keep [0, 1]
           .skip)))))))
    (.seq
     (.reg [⟨(some 14), none, [], [], .mv (.t 0)⟩,
       ⟨(some 15), none, [], [], .mv (.t 1)⟩,
       ⟨(some 16), none, [], [], .slL 1 none (some (.t 15)) none (.t 14)⟩,
       ⟨(some 17), none, [], [], .cal (.k (.fn 14 [])) [(.t 16)]⟩,
       ⟨(some 4), none, [], [], .mv (.t 17)⟩,
       ⟨(some 5), none, [], [], .mv (.k (.sc (.int .i64 (0))))⟩] (some [4, 5]))
     .ret)))
theorem b10 : cmpG Tryd.prog 10 = some (strip a10, r10, 18) := by kernel_rfl

abbrev r11 : List AR := [.t 0]
abbrev a11 : ACode :=
  (.seq
   (.reg [⟨(some 0), none, [], [], .mv (.k .nl)⟩] (some []))
   (.seq
    (.reg [⟨(some 1), none, [], [], .mks (.sc (.int .u8 (0))) (.k (.sc (.int .i64 (1024)))) (.k (.sc (.int .i64 (1024))))⟩,
      ⟨(some 0), none, [], [], .mv (.t 1)⟩] (some [0]))
    .ret))
theorem b11 : cmpG Tryd.prog 11 = some (strip a11, r11, 2) := by kernel_rfl

abbrev r12 : List AR := [.t 4]
abbrev a12 : ACode :=
  (.seq
   (.reg [⟨(some 4), none, [], [], .mv (.k (.sc (.bool false)))⟩] (some [0, 1]))
   (.seq
    (.seq
     (.reg [⟨(some 6), none, [], [], .mv (.t 0)⟩,
       ⟨(some 7), none, [], [], .lenL (.t 6)⟩,
       ⟨(some 8), none, [], [], .mv (.t 1)⟩,
       ⟨(some 9), none, [], [], .lenL (.t 8)⟩,
       ⟨(some 10), none, [], [], .bin .neq false (.t 7) (.t 9)⟩] (some [0, 1, 10]))
     (.cond (.t 10)
      (.keep []
       (.seq
        (.reg [⟨(some 4), none, [], [], .mv (.k (.sc (.bool false)))⟩] none)
        .ret))
      (.keep [0, 1]
       .skip)))
    (.seq
     (.seq
      (.reg [⟨(some 5), none, [], [], .mv (.k (.sc (.int .i64 (0))))⟩] (some [0, 1, 5]))
      (.block 0
       (.loop
        (.seq
         (.seq
          (.reg [⟨(some 11), none, [], [], .mv (.t 5)⟩,
            ⟨(some 12), none, [], [], .mv (.t 0)⟩,
            ⟨(some 13), none, [], [], .lenL (.t 12)⟩,
            ⟨(some 14), none, [], [], .bin .lss false (.t 11) (.t 13)⟩] (some [0, 1, 5, 14]))
          (.cond (.t 14)
           (.keep [0, 1, 5]
            .skip)
           (.exit 0)))
         (.seq
          (.block 1
           (.seq
            (.regD [⟨(some 17), none, [(.t 0)], [], .mv (.t 0)⟩,
              ⟨(some 18), none, [(.t 5)], [0], .mv (.t 5)⟩,
              ⟨(some 19), none, [(.t 17), (.t 18)], [], .ixaS 1 (.t 17) (.t 18)⟩,
              ⟨(some 20), none, [(.t 19)], [], .ld false 1 (.t 19)⟩,
              ⟨(some 21), none, [(.t 1)], [0, 1, 2, 3], .mv (.t 1)⟩,
              ⟨(some 22), none, [(.t 5)], [0, 1, 2, 3, 4], .mv (.t 5)⟩,
              ⟨(some 23), none, [(.t 21), (.t 22)], [0, 1, 2, 3], .ixaS 1 (.t 21) (.t 22)⟩,
              ⟨(some 24), none, [(.t 23)], [0, 1, 2, 3], .ld false 1 (.t 23)⟩,
              ⟨(some 25), none, [(.t 20), (.t 24)], [], .bin .neq false (.t 20) (.t 24)⟩] (some [0, 1, 5, 25]))
            (.cond (.t 25)
             (.keep []
              (.seq
               (.reg [⟨(some 4), none, [], [], .mv (.k (.sc (.bool false)))⟩] none)
               .ret))
             (.keep [0, 1, 5]
              .skip))))
          (.reg [⟨(some 15), none, [], [], .mv (.t 5)⟩,
            ⟨(some 16), none, [], [], .bin .add false (.t 15) (.k (.sc (.int .i64 (1))))⟩,
            ⟨(some 5), none, [], [], .mv (.t 16)⟩] (some [0, 1, 5])))))))
     (.seq
      (.reg [⟨(some 4), none, [], [], .mv (.k (.sc (.bool true)))⟩] (some [4]))
      .ret))))
theorem b12 : cmpG Tryd.prog 12 = some (strip a12, r12, 26) := by kernel_rfl

abbrev r13 : List AR := [.t 4]
abbrev a13 : ACode :=
  (.seq
   (.reg [⟨(some 4), none, [], [], .mv (.k (.sc (.bool false)))⟩] (some [0, 1]))
   (.seq
    (.seq
     (.reg [⟨(some 6), none, [], [], .mv (.t 1)⟩,
       ⟨(some 7), none, [], [], .bin .lss false (.t 6) (.k (.sc (.int .i64 (0))))⟩,
       ⟨(some 8), none, [], [], .mv (.t 7)⟩,
       ⟨(some 9), (some (8, false)), [], [], .mv (.t 0)⟩,
       ⟨(some 10), (some (8, false)), [], [], .mv (.t 1)⟩,
       ⟨(some 11), (some (8, false)), [], [], .cal (.k (.fn 15 [])) [(.t 9), (.t 10)]⟩,
       ⟨(some 12), (some (8, false)), [], [], .un .not (.t 11)⟩,
       ⟨(some 13), none, [], [], .pick (.t 8) (.k (.sc (.bool true))) (.t 12)⟩] (some [0, 1, 13]))
     (.cond (.t 13)
      (.keep []
       (.seq
        (.reg [⟨(some 4), none, [], [], .mv (.k (.sc (.bool false)))⟩] none)
        .ret))
      (.keep [0, 1]
       .skip)))
    (.seq
     (.reg [⟨(some 14), none, [], [], .mv (.t 0)⟩,
       ⟨(some 15), none, [], [], .mv (.t 1)⟩,
       ⟨(some 16), none, [], [], .mv (.t 1)⟩,
       ⟨(some 17), none, [], [], .mv (.t 1)⟩,
       ⟨(some 18), none, [], [], .cal (.k (.fn 8 [])) [(.t 17)]⟩,
       ⟨(some 19), none, [], [], .bin .add false (.t 16) (.t 18)⟩,
       ⟨(some 20), none, [], [], .slL 1 (some (.t 15)) (some (.t 19)) none (.t 14)⟩,
       ⟨(some 5), none, [], [], .mv (.t 20)⟩] (some [5]))
     (.seq
      (.reg [⟨(some 21), none, [], [], .mv (.t 5)⟩,
        ⟨(some 22), none, [], [], .cal (.k (.fn 16 [])) [(.t 21), (.k (.sc (.string ⟨#[0]⟩)))]⟩,
        ⟨(some 23), none, [], [], .lenL (.t 22)⟩,
        ⟨(some 24), none, [], [], .bin .eql false (.t 23) (.k (.sc (.int .i64 (0))))⟩,
        ⟨(some 4), none, [], [], .mv (.t 24)⟩] (some [4]))
      .ret))))
theorem b13 : cmpG Tryd.prog 13 = some (strip a13, r13, 25) := by kernel_rfl

abbrev r14 : List AR := [.t 2]
abbrev a14 : ACode :=
  (.seq
   (.reg [⟨(some 2), none, [], [], .mv (.k .nl)⟩] (some [0]))
   (.seq
    (.seq
     (.reg [⟨(some 3), none, [], [], .mv (.t 0)⟩,
       ⟨(some 4), none, [], [], .nil true (.t 3) (.k .nl)⟩] (some [0, 4]))
     (.cond (.t 4)
      (.keep []
       (.seq
        (.reg [⟨(some 2), none, [], [], .mv (.k .nl)⟩] none)
        .ret))
      (.keep [0]
       .skip)))
    (.seq
     (.reg [⟨(some 5), none, [], [], .bsl 0 1 [] []⟩,
       ⟨(some 6), none, [], [], .mv (.t 0)⟩,
       ⟨(some 7), none, [], [], .app 1 1 (.t 5) (.t 6)⟩,
       ⟨(some 2), none, [], [], .mv (.t 7)⟩] (some [2]))
     .ret)))
theorem b14 : cmpG Tryd.prog 14 = some (strip a14, r14, 8) := by kernel_rfl

abbrev r15 : List AR := [.t 4]
abbrev a15 : ACode :=
  (.seq
   (.reg [⟨(some 4), none, [], [], .mv (.k (.sc (.bool false)))⟩] (some [0, 1]))
   (.seq
    (.reg [⟨(some 5), none, [], [], .mv (.t 1)⟩,
      ⟨(some 6), none, [], [], .cal (.k (.fn 7 [])) [(.t 5)]⟩,
      ⟨(some 7), none, [], [], .mv (.t 0)⟩,
      ⟨(some 8), none, [], [], .lenL (.t 7)⟩,
      ⟨(some 9), none, [], [], .bin .quo false (.t 8) (.k (.sc (.int .i64 (512))))⟩,
      ⟨(some 10), none, [], [], .bin .leq false (.t 6) (.t 9)⟩,
      ⟨(some 4), none, [], [], .mv (.t 10)⟩] (some [4]))
    .ret))
theorem b15 : cmpG Tryd.prog 15 = some (strip a15, r15, 11) := by kernel_rfl

abbrev r16 : List AR := [.t 4]
abbrev a16 : ACode :=
  (.seq
   (.reg [⟨(some 4), none, [], [], .mv (.k .nl)⟩] (some [0, 1]))
   (.seq
    (.seq
     (.reg [⟨(some 7), none, [], [], .mv (.t 0)⟩,
       ⟨(some 8), none, [], [], .lenL (.t 7)⟩,
       ⟨(some 9), none, [], [], .bin .eql false (.t 8) (.k (.sc (.int .i64 (0))))⟩] (some [0, 1, 9]))
     (.cond (.t 9)
      (.keep []
       (.seq
        (.reg [⟨(some 4), none, [], [], .mv (.k .nl)⟩] none)
        .ret))
      (.keep [0, 1]
       .skip)))
    (.seq
     (.seq
      (.reg [⟨(some 10), none, [], [], .mv (.t 1)⟩,
        ⟨(some 11), none, [], [], .bin .eql false (.t 10) (.k (.sc (.string ⟨#[]⟩)))⟩] (some [0, 1, 11]))
      (.cond (.t 11)
       (.keep [0]
        (.seq
         (.reg [⟨(some 12), none, [], [], .mv (.t 0)⟩,
           ⟨(some 4), none, [], [], .mv (.t 12)⟩] (some [4]))
         .ret))
       (.keep [0, 1]
        .skip)))
     (.seq
      (.seq
       (.reg [⟨(some 13), none, [], [], .mv (.t 1)⟩,
         ⟨(some 14), none, [], [], .lenS (.t 13)⟩,
         ⟨(some 15), none, [], [], .bin .eql false (.t 14) (.k (.sc (.int .i64 (1))))⟩,
         ⟨(some 16), none, [], [], .mv (.t 15)⟩,
         ⟨(some 17), (some (16, true)), [], [], .mv (.t 1)⟩,
         ⟨(some 18), (some (16, true)), [], [], .ixS (.t 17) (.k (.sc (.int .i64 (0))))⟩,
         ⟨(some 19), (some (16, true)), [], [], .bin .lss false (.t 18) (.k (.sc (.int .u8 (128))))⟩,
         ⟨(some 20), none, [], [], .pick (.t 16) (.t 19) (.k (.sc (.bool false)))⟩] (some [0, 1, 20]))
       (.cond (.t 20)
        (.keep [0, 1]
         (.seq
          (.regD [⟨(some 21), none, [(.t 0)], [], .mv (.t 0)⟩,
            ⟨(some 22), none, [(.t 1)], [0], .mv (.t 1)⟩,
            ⟨(some 23), none, [(.t 22), (.k (.sc (.int .i64 (0))))], [0], .ixS (.t 22) (.k (.sc (.int .i64 (0))))⟩,
            ⟨(some 24), none, [(.k (.fn 18 [])), (.t 21), (.t 23)], [], .cal (.k (.fn 18 [])) [(.t 21), (.t 23)]⟩,
            ⟨(some 25), none, [(.t 1)], [0, 1, 2, 3], .mv (.t 1)⟩,
            ⟨(some 26), none, [(.t 25), (.k (.sc (.int .i64 (0))))], [0, 1, 2, 3], .ixS (.t 25) (.k (.sc (.int .i64 (0))))⟩,
            ⟨(some 27), none, [(.k (.fn 17 [])), (.t 24), (.t 26)], [], .cal (.k (.fn 17 [])) [(.t 24), (.t 26)]⟩,
            ⟨(some 4), none, [(.t 27)], [], .mv (.t 27)⟩] (some [4]))
          .ret))
        (.keep [0, 1]
         .skip)))
      (.seq
       (.seq
        (.reg [⟨(some 29), none, [], [], .mv (.t 1)⟩,
          ⟨(some 30), none, [], [], .cal (.k (.fn 19 [])) [(.t 29)]⟩,
          ⟨(some 28), none, [], [], .mv (.t 30)⟩,
          ⟨(some 31), none, [], [], .ext (.t 28) 0⟩,
          ⟨(some 32), none, [], [], .ext (.t 28) 1⟩,
          ⟨(some 5), none, [], [], .alc (List.replicate 256 (.sc (.bool false)))⟩,
          ⟨none, none, [], [], .sto 256 (.t 5) (.t 31)⟩,
          ⟨(some 6), none, [], [], .mv (.t 32)⟩] (some [0, 1, 5, 6]))
        (.seq
         (.reg [⟨(some 33), none, [], [], .mv (.t 6)⟩] (some [0, 1, 5, 33]))
         (.cond (.t 33)
          (.keep [0, 5]
           (.seq
            (.reg [⟨(some 34), none, [], [], .mv (.t 0)⟩,
              ⟨(some 35), none, [], [], .cal (.k (.fn 21 [])) [(.t 34), (.t 5)]⟩,
              ⟨(some 36), none, [], [], .cal (.k (.fn 20 [])) [(.t 35), (.t 5)]⟩,
              ⟨(some 4), none, [], [], .mv (.t 36)⟩] (some [4]))
            .ret))
          (.keep [0, 1]
           .skip))))
       (.seq
        (.reg [⟨(some 37), none, [], [], .mv (.t 0)⟩,
          ⟨(some 38), none, [], [], .mv (.t 1)⟩,
          ⟨(some 39), none, [], [], .cal (.k (.fn 23 [])) [(.t 37), (.t 38)]⟩,
          ⟨(some 40), none, [], [], .mv (.t 1)⟩,
          ⟨(some 41), none, [], [], .cal (.k (.fn 22 [])) [(.t 39), (.t 40)]⟩,
          ⟨(some 4), none, [], [], .mv (.t 41)⟩] (some [4]))
        .ret))))))
theorem b16 : cmpG Tryd.prog 16 = some (strip a16, r16, 42) := by kernel_rfl

abbrev r17 : List AR := [.t 4]
abbrev a17 : ACode :=
  (.seq
   (.reg [⟨(some 4), none, [], [], .mv (.k .nl)⟩] (some [0, 1]))
   (.seq
    (.block 0
     (.loop
      (.seq
       (.seq
        (.reg [⟨(some 5), none, [], [], .mv (.t 0)⟩,
          ⟨(some 6), none, [], [], .lenL (.t 5)⟩,
          ⟨(some 7), none, [], [], .bin .gtr false (.t 6) (.k (.sc (.int .i64 (0))))⟩,
          ⟨(some 8), none, [], [], .mv (.t 7)⟩,
          ⟨(some 9), (some (8, true)), [], [], .mv (.t 0)⟩,
          ⟨(some 10), (some (8, true)), [], [], .ixaS 1 (.t 9) (.k (.sc (.int .i64 (0))))⟩,
          ⟨(some 11), (some (8, true)), [], [], .ld false 1 (.t 10)⟩,
          ⟨(some 12), (some (8, true)), [], [], .mv (.t 1)⟩,
          ⟨(some 13), (some (8, true)), [], [], .bin .eql false (.t 11) (.t 12)⟩,
          ⟨(some 14), none, [], [], .pick (.t 8) (.t 13) (.k (.sc (.bool false)))⟩] (some [0, 1, 14]))
        (.cond (.t 14)
         (.keep [0, 1]
          .skip)
         (.exit 0)))
       (.block 1
        (.reg [⟨(some 15), none, [], [], .mv (.t 0)⟩,
          ⟨(some 16), none, [], [], .slL 1 (some (.k (.sc (.int .i64 (1))))) none none (.t 15)⟩,
          ⟨(some 0), none, [], [], .mv (.t 16)⟩] (some [0, 1]))))))
    (.seq
     (.seq
      (.reg [⟨(some 17), none, [], [], .mv (.t 0)⟩,
        ⟨(some 18), none, [], [], .lenL (.t 17)⟩,
        ⟨(some 19), none, [], [], .bin .eql false (.t 18) (.k (.sc (.int .i64 (0))))⟩] (some [0, 19]))
      (.cond (.t 19)
       (.keep []
        (.seq
         (.reg [⟨(some 4), none, [], [], .mv (.k .nl)⟩] none)
         .ret))
       (.keep [0]
        .skip)))
     (.seq
      (.reg [⟨(some 20), none, [], [], .mv (.t 0)⟩,
        ⟨(some 4), none, [], [], .mv (.t 20)⟩] (some [4]))
      .ret))))
theorem b17 : cmpG Tryd.prog 17 = some (strip a17, r17, 21) := by kernel_rfl

abbrev r18 : List AR := [.t 4]
abbrev a18 : ACode :=
  (.seq
   (.reg [⟨(some 4), none, [], [], .mv (.k .nl)⟩] (some [0, 1]))
   (.seq
    (.block 0
     (.loop
      (.seq
       (.seq
        (.reg [⟨(some 5), none, [], [], .mv (.t 0)⟩,
          ⟨(some 6), none, [], [], .lenL (.t 5)⟩,
          ⟨(some 7), none, [], [], .bin .gtr false (.t 6) (.k (.sc (.int .i64 (0))))⟩,
          ⟨(some 8), none, [], [], .mv (.t 7)⟩,
          ⟨(some 9), (some (8, true)), [], [], .mv (.t 0)⟩,
          ⟨(some 10), (some (8, true)), [], [], .mv (.t 0)⟩,
          ⟨(some 11), (some (8, true)), [], [], .lenL (.t 10)⟩,
          ⟨(some 12), (some (8, true)), [], [], .bin .sub false (.t 11) (.k (.sc (.int .i64 (1))))⟩,
          ⟨(some 13), (some (8, true)), [], [], .ixaS 1 (.t 9) (.t 12)⟩,
          ⟨(some 14), (some (8, true)), [], [], .ld false 1 (.t 13)⟩,
          ⟨(some 15), (some (8, true)), [], [], .mv (.t 1)⟩,
          ⟨(some 16), (some (8, true)), [], [], .bin .eql false (.t 14) (.t 15)⟩,
          ⟨(some 17), none, [], [], .pick (.t 8) (.t 16) (.k (.sc (.bool false)))⟩] (some [0, 1, 17]))
        (.cond (.t 17)
         (.keep [0, 1]
          .skip)
         (.exit 0)))
       (.block 1
        (.reg [⟨(some 18), none, [], [], .mv (.t 0)⟩,
          ⟨(some 19), none, [], [], .mv (.t 0)⟩,
          ⟨(some 20), none, [], [], .lenL (.t 19)⟩,
          ⟨(some 21), none, [], [], .bin .sub false (.t 20) (.k (.sc (.int .i64 (1))))⟩,
          ⟨(some 22), none, [], [], .slL 1 none (some (.t 21)) none (.t 18)⟩,
          ⟨(some 0), none, [], [], .mv (.t 22)⟩] (some [0, 1]))))))
    (.seq
     (.reg [⟨(some 23), none, [], [], .mv (.t 0)⟩,
       ⟨(some 4), none, [], [], .mv (.t 23)⟩] (some [4]))
     .ret)))
theorem b18 : cmpG Tryd.prog 18 = some (strip a18, r18, 24) := by kernel_rfl


end Go.Proofs.YtdjjibmjinllnaaDoor.Cod
