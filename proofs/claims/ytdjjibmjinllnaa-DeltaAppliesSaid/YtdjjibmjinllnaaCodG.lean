import Derived.Test.YtdjjibmjinllnaaProg
import Derived.Test.YtdjjibmjinllnaaSimD
import Derived.KernelRfl
namespace Go.Proofs.Ytdjjibmjinllnaa.Cod
open Go Go.Sim Go.Proofs
set_option maxRecDepth 100000
abbrev r8 : List AR := [.t 4]
abbrev a8 : ACode :=
  (.seq
   (.reg [⟨(some 4), none, [], [], .mv (.k (.sc (.bool false)))⟩] (some [0, 1]))
   (.seq
    (.seq
     (.reg [⟨(some 12), none, [], [], .mv (.t 0)⟩,
       ⟨(some 13), none, [], [], .lenL (.t 12)⟩,
       ⟨(some 14), none, [], [], .bin .gtr false (.t 13) (.k (.sc (.int .i64 (200))))⟩,
       ⟨(some 15), none, [], [], .mv (.t 14)⟩,
       ⟨(some 16), (some (15, false)), [], [], .mv (.t 1)⟩,
       ⟨(some 17), (some (15, false)), [], [], .lenL (.t 16)⟩,
       ⟨(some 18), (some (15, false)), [], [], .bin .gtr false (.t 17) (.k (.sc (.int .i64 (200))))⟩,
       ⟨(some 19), none, [], [], .pick (.t 15) (.k (.sc (.bool true))) (.t 18)⟩] (some [0, 1, 19]))
     (.cond (.t 19)
      (.keep []
       (.seq
        (.reg [⟨(some 20), none, [], [], .cal (.k (.fn 26 [])) []⟩,
          ⟨(some 4), none, [], [], .mv (.t 20)⟩] (some [4]))
        .ret))
      (.keep [0, 1]
       .skip)))
    (.seq
     (.reg [⟨(some 21), none, [], [], .mv (.t 0)⟩,
       ⟨(some 22), none, [], [], .mv (.t 1)⟩,
       ⟨(some 23), none, [], [], .cal (.k (.fn 27 [])) [(.t 21), (.t 22)]⟩,
       ⟨(some 5), none, [], [], .mv (.t 23)⟩] (some [0, 1, 5]))
     (.seq
      (.reg [⟨(some 25), none, [], [], .mv (.t 0)⟩,
        ⟨(some 26), none, [], [], .mv (.t 5)⟩,
        ⟨(some 27), none, [], [], .cal (.k (.fn 28 [])) [(.t 25), (.t 26)]⟩,
        ⟨(some 24), none, [], [], .mv (.t 27)⟩,
        ⟨(some 28), none, [], [], .ext (.t 24) 0⟩,
        ⟨(some 29), none, [], [], .ext (.t 24) 1⟩,
        ⟨(some 6), none, [], [], .mv (.t 28)⟩,
        ⟨(some 7), none, [], [], .mv (.t 29)⟩] (some [0, 1, 5, 6, 7]))
      (.seq
       (.reg [⟨(some 31), none, [], [], .mv (.t 5)⟩,
         ⟨(some 32), none, [], [], .mv (.t 1)⟩,
         ⟨(some 33), none, [], [], .cal (.k (.fn 29 [])) [(.t 31), (.t 32)]⟩,
         ⟨(some 30), none, [], [], .mv (.t 33)⟩,
         ⟨(some 34), none, [], [], .ext (.t 30) 0⟩,
         ⟨(some 35), none, [], [], .ext (.t 30) 1⟩,
         ⟨(some 8), none, [], [], .mv (.t 34)⟩,
         ⟨(some 9), none, [], [], .mv (.t 35)⟩] (some [0, 1, 5, 6, 7, 8, 9]))
       (.seq
        (.reg [⟨(some 37), none, [], [], .mv (.t 0)⟩,
          ⟨(some 38), none, [], [], .mv (.t 8)⟩,
          ⟨(some 39), none, [], [], .cal (.k (.fn 30 [])) [(.t 37), (.t 38)]⟩,
          ⟨(some 36), none, [], [], .mv (.t 39)⟩,
          ⟨(some 40), none, [], [], .ext (.t 36) 0⟩,
          ⟨(some 41), none, [], [], .ext (.t 36) 1⟩,
          ⟨(some 10), none, [], [], .mv (.t 40)⟩,
          ⟨(some 11), none, [], [], .mv (.t 41)⟩] (some [0, 1, 5, 6, 7, 8, 9, 10, 11]))
        (.seq
         (.reg (⟨(some 42), none, [], [], .mv (.t 5)⟩ ::
           ⟨(some 43), none, [], [], .mv (.t 0)⟩ ::
           ⟨(some 44), none, [], [], .mv (.t 1)⟩ ::
           ⟨(some 45), none, [], [], .cal (.k (.fn 32 [])) [(.t 43), (.t 44)]⟩ ::
           ⟨(some 46), none, [], [], .cal (.k (.fn 31 [])) [(.t 42), (.t 45)]⟩ ::
           ⟨(some 47), none, [], [], .mv (.t 46)⟩ ::
           ⟨(some 48), (some (47, true)), [], [], .mv (.t 6)⟩ ::
           ⟨(some 49), (some (47, true)), [], [], .mv (.t 1)⟩ ::
           ⟨(some 50), (some (47, true)), [], [], .cal (.k (.fn 33 [])) [(.t 48), (.t 49)]⟩ ::
           ⟨(some 51), none, [], [], .pick (.t 47) (.t 50) (.k (.sc (.bool false)))⟩ ::
           ⟨(some 52), none, [], [], .mv (.t 51)⟩ ::
           ⟨(some 53), (some (52, true)), [], [], .mv (.t 7)⟩ ::
           ⟨(some 54), (some (52, true)), [], [], .bin .eql false (.t 53) (.k (.sc (.int .i64 (0))))⟩ ::
           ⟨(some 55), none, [], [], .pick (.t 52) (.t 54) (.k (.sc (.bool false)))⟩ ::
           ⟨(some 56), none, [], [], .mv (.t 55)⟩ ::
           ⟨(some 57), (some (56, true)), [], [], .mv (.t 9)⟩ ::
           ⟨(some 58), (some (56, true)), [], [], .bin .eql false (.t 57) (.k (.sc (.int .i64 (0))))⟩ ::
           ⟨(some 59), none, [], [], .pick (.t 56) (.t 58) (.k (.sc (.bool false)))⟩ ::
           ⟨(some 60), none, [], [], .mv (.t 59)⟩ ::
           ⟨(some 61), (some (60, true)), [], [], .mv (.t 8)⟩ ::
           ⟨(some 62), (some (60, true)), [], [], .lenL (.t 61)⟩ ::
           ⟨(some 63), (some (60, true)), [], [], .mv (.t 5)⟩ ::
           ⟨(some 64), (some (60, true)), [], [], .cal (.k (.fn 34 [])) [(.t 63)]⟩ ::
           ⟨(some 65), (some (60, true)), [], [], .bin .eql false (.t 62) (.t 64)⟩ ::
           ⟨(some 66), none, [], [], .pick (.t 60) (.t 65) (.k (.sc (.bool false)))⟩ ::
           ⟨(some 67), none, [], [], .mv (.t 66)⟩ ::
           ⟨(some 68), (some (67, true)), [], [], .mv (.t 10)⟩ ::
           ⟨(some 69), (some (67, true)), [], [], .mv (.t 1)⟩ ::
           ⟨(some 70), (some (67, true)), [], [], .cal (.k (.fn 33 [])) [(.t 68), (.t 69)]⟩ ::
           ⟨(some 71), none, [], [], .pick (.t 67) (.t 70) (.k (.sc (.bool false)))⟩ ::
           ⟨(some 72), none, [], [], .mv (.t 71)⟩ ::
           ⟨(some 73), (some (72, true)), [], [], .mv (.t 11)⟩ ::
           ⟨(some 74), (some (72, true)), [], [], .bin .eql false (.t 73) (.k (.sc (.int .i64 (0))))⟩ ::
           ⟨(some 75), none, [], [], .pick (.t 72) (.t 74) (.k (.sc (.bool false)))⟩ ::
           ⟨(some 76), none, [], [], .mv (.t 75)⟩ ::
           ⟨(some 77), (some (76, true)), [], [], .cal (.k (.fn 26 [])) []⟩ ::
           ⟨(some 78), none, [], [], .pick (.t 76) (.t 77) (.k (.sc (.bool false)))⟩ ::
           ⟨(some 4), none, [], [], .mv (.t 78)⟩ :: []) (some [4]))
         .ret)))))))
theorem b8 : cmpG Try.prog 8 = some (strip a8, r8, 79) := by kernel_rfl

abbrev r9 : List AR := [.t 4]
abbrev a9 : ACode :=
  (.seq
   (.reg [⟨(some 4), none, [], [], .mv (.k (.sc (.bool false)))⟩] (some [0, 1]))
   (.seq
    (.seq
     (.reg [⟨(some 13), none, [], [], .mv (.t 0)⟩,
       ⟨(some 14), none, [], [], .lenL (.t 13)⟩,
       ⟨(some 15), none, [], [], .bin .gtr false (.t 14) (.k (.sc (.int .i64 (300))))⟩,
       ⟨(some 16), none, [], [], .mv (.t 15)⟩,
       ⟨(some 17), (some (16, false)), [], [], .mv (.t 1)⟩,
       ⟨(some 18), (some (16, false)), [], [], .cal (.k (.fn 35 [])) [(.t 17)]⟩,
       ⟨(some 19), none, [], [], .pick (.t 16) (.k (.sc (.bool true))) (.t 18)⟩] (some [0, 1, 19]))
     (.cond (.t 19)
      (.keep []
       (.seq
        (.reg [⟨(some 20), none, [], [], .cal (.k (.fn 26 [])) []⟩,
          ⟨(some 4), none, [], [], .mv (.t 20)⟩] (some [4]))
        .ret))
      (.keep [0, 1]
       .skip)))
    (.seq
     (.reg [⟨(some 22), none, [], [], .mv (.t 0)⟩,
       ⟨(some 23), none, [], [], .mv (.t 1)⟩,
       ⟨(some 24), none, [], [], .cal (.k (.fn 36 [])) [(.t 23)]⟩,
       ⟨(some 25), none, [], [], .cal (.k (.fn 28 [])) [(.t 22), (.t 24)]⟩,
       ⟨(some 21), none, [], [], .mv (.t 25)⟩,
       ⟨(some 26), none, [], [], .ext (.t 21) 0⟩,
       ⟨(some 27), none, [], [], .ext (.t 21) 1⟩,
       ⟨(some 5), none, [], [], .mv (.t 26)⟩,
       ⟨(some 6), none, [], [], .mv (.t 27)⟩] (some [0, 1, 5, 6]))
     (.seq
      (.reg [⟨(some 29), none, [], [], .mv (.t 0)⟩,
        ⟨(some 30), none, [], [], .mv (.t 1)⟩,
        ⟨(some 31), none, [], [], .cal (.k (.fn 37 [])) [(.t 29), (.t 30)]⟩,
        ⟨(some 28), none, [], [], .mv (.t 31)⟩,
        ⟨(some 32), none, [], [], .ext (.t 28) 0⟩,
        ⟨(some 33), none, [], [], .ext (.t 28) 1⟩,
        ⟨(some 7), none, [], [], .mv (.t 32)⟩,
        ⟨(some 8), none, [], [], .mv (.t 33)⟩] (some [0, 1, 5, 6, 7, 8]))
      (.seq
       (.reg [⟨(some 35), none, [], [], .mv (.t 1)⟩,
         ⟨(some 36), none, [], [], .cal (.k (.fn 36 [])) [(.t 35)]⟩,
         ⟨(some 37), none, [], [], .mv (.t 0)⟩,
         ⟨(some 38), none, [], [], .cal (.k (.fn 29 [])) [(.t 36), (.t 37)]⟩,
         ⟨(some 34), none, [], [], .mv (.t 38)⟩,
         ⟨(some 39), none, [], [], .ext (.t 34) 0⟩,
         ⟨(some 40), none, [], [], .ext (.t 34) 1⟩,
         ⟨(some 9), none, [], [], .mv (.t 39)⟩,
         ⟨(some 10), none, [], [], .mv (.t 40)⟩] (some [0, 1, 5, 6, 7, 8, 9, 10]))
       (.seq
        (.reg [⟨(some 42), none, [], [], .mv (.t 1)⟩,
          ⟨(some 43), none, [], [], .mv (.t 0)⟩,
          ⟨(some 44), none, [], [], .cal (.k (.fn 38 [])) [(.t 42), (.t 43)]⟩,
          ⟨(some 41), none, [], [], .mv (.t 44)⟩,
          ⟨(some 45), none, [], [], .ext (.t 41) 0⟩,
          ⟨(some 46), none, [], [], .ext (.t 41) 1⟩,
          ⟨(some 11), none, [], [], .mv (.t 45)⟩,
          ⟨(some 12), none, [], [], .mv (.t 46)⟩] (some [1, 5, 6, 7, 8, 9, 10, 11, 12]))
        (.seq
         (.reg (⟨(some 47), none, [], [], .mv (.t 5)⟩ ::
           ⟨(some 48), none, [], [], .mv (.t 7)⟩ ::
           ⟨(some 49), none, [], [], .cal (.k (.fn 33 [])) [(.t 47), (.t 48)]⟩ ::
           ⟨(some 50), none, [], [], .mv (.t 49)⟩ ::
           ⟨(some 51), (some (50, true)), [], [], .mv (.t 6)⟩ ::
           ⟨(some 52), (some (50, true)), [], [], .mv (.t 8)⟩ ::
           ⟨(some 53), (some (50, true)), [], [], .bin .eql false (.t 51) (.t 52)⟩ ::
           ⟨(some 54), none, [], [], .pick (.t 50) (.t 53) (.k (.sc (.bool false)))⟩ ::
           ⟨(some 55), none, [], [], .mv (.t 54)⟩ ::
           ⟨(some 56), (some (55, true)), [], [], .mv (.t 9)⟩ ::
           ⟨(some 57), (some (55, true)), [], [], .mv (.t 11)⟩ ::
           ⟨(some 58), (some (55, true)), [], [], .cal (.k (.fn 33 [])) [(.t 56), (.t 57)]⟩ ::
           ⟨(some 59), none, [], [], .pick (.t 55) (.t 58) (.k (.sc (.bool false)))⟩ ::
           ⟨(some 60), none, [], [], .mv (.t 59)⟩ ::
           ⟨(some 61), (some (60, true)), [], [], .mv (.t 10)⟩ ::
           ⟨(some 62), (some (60, true)), [], [], .mv (.t 12)⟩ ::
           ⟨(some 63), (some (60, true)), [], [], .bin .eql false (.t 61) (.t 62)⟩ ::
           ⟨(some 64), none, [], [], .pick (.t 60) (.t 63) (.k (.sc (.bool false)))⟩ ::
           ⟨(some 65), none, [], [], .mv (.t 64)⟩ ::
           ⟨(some 66), (some (65, true)), [], [], .mv (.t 1)⟩ ::
           ⟨(some 67), (some (65, true)), [], [], .cal (.k (.fn 36 [])) [(.t 66)]⟩ ::
           ⟨(some 68), (some (65, true)), [], [], .cal (.k (.fn 34 [])) [(.t 67)]⟩ ::
           ⟨(some 69), (some (65, true)), [], [], .mv (.t 1)⟩ ::
           ⟨(some 70), (some (65, true)), [], [], .cal (.k (.fn 39 [])) [(.t 69)]⟩ ::
           ⟨(some 71), (some (65, true)), [], [], .bin .eql false (.t 68) (.t 70)⟩ ::
           ⟨(some 72), none, [], [], .pick (.t 65) (.t 71) (.k (.sc (.bool false)))⟩ ::
           ⟨(some 73), none, [], [], .mv (.t 72)⟩ ::
           ⟨(some 74), (some (73, true)), [], [], .cal (.k (.fn 26 [])) []⟩ ::
           ⟨(some 75), none, [], [], .pick (.t 73) (.t 74) (.k (.sc (.bool false)))⟩ ::
           ⟨(some 4), none, [], [], .mv (.t 75)⟩ :: []) (some [4]))
         .ret)))))))
theorem b9 : cmpG Try.prog 9 = some (strip a9, r9, 76) := by kernel_rfl

abbrev r10 : List AR := [.t 6]
abbrev a10 : ACode :=
  (.seq
   (.reg [⟨(some 6), none, [], [], .mv (.k (.sc (.bool false)))⟩] (some [0, 1, 2]))
   (.seq
    (.seq
     (.reg [⟨(some 11), none, [], [], .mv (.t 0)⟩,
       ⟨(some 12), none, [], [], .lenL (.t 11)⟩,
       ⟨(some 13), none, [], [], .bin .gtr false (.t 12) (.k (.sc (.int .i64 (250))))⟩,
       ⟨(some 14), none, [], [], .mv (.t 13)⟩,
       ⟨(some 15), (some (14, false)), [], [], .mv (.t 0)⟩,
       ⟨(some 16), (some (14, false)), [], [], .lenL (.t 15)⟩,
       ⟨(some 17), (some (14, false)), [], [], .bin .lss false (.t 16) (.k (.sc (.int .i64 (8))))⟩,
       ⟨(some 18), none, [], [], .pick (.t 14) (.k (.sc (.bool true))) (.t 17)⟩] (some [0, 1, 2, 18]))
     (.cond (.t 18)
      (.keep []
       (.seq
        (.reg [⟨(some 19), none, [], [], .cal (.k (.fn 26 [])) []⟩,
          ⟨(some 6), none, [], [], .mv (.t 19)⟩] (some [6]))
        .ret))
      (.keep [0, 1, 2]
       .skip)))
    (.seq
     (.reg [⟨(some 20), none, [], [], .mv (.t 0)⟩,
       ⟨(some 21), none, [], [], .mv (.t 0)⟩,
       ⟨(some 22), none, [], [], .cal (.k (.fn 27 [])) [(.t 20), (.t 21)]⟩,
       ⟨(some 7), none, [], [], .mv (.t 22)⟩] (some [0, 1, 2, 7]))
     (.seq
      (.reg [⟨(some 23), none, [], [], .mv (.t 1)⟩,
        ⟨(some 24), none, [], [], .cvi .i64 (.t 23)⟩,
        ⟨(some 25), none, [], [], .mv (.t 0)⟩,
        ⟨(some 26), none, [], [], .lenL (.t 25)⟩,
        ⟨(some 27), none, [], [], .bin .sub false (.t 26) (.k (.sc (.int .i64 (7))))⟩,
        ⟨(some 28), none, [], [], .bin .rem false (.t 24) (.t 27)⟩,
        ⟨(some 8), none, [], [], .mv (.t 28)⟩] (some [0, 2, 7, 8]))
      (.seq
       (.reg [⟨(some 29), none, [], [], .mv (.t 2)⟩,
         ⟨(some 30), none, [], [], .cvi .i64 (.t 29)⟩,
         ⟨(some 31), none, [], [], .mv (.t 0)⟩,
         ⟨(some 32), none, [], [], .lenL (.t 31)⟩,
         ⟨(some 33), none, [], [], .mv (.t 8)⟩,
         ⟨(some 34), none, [], [], .bin .sub false (.t 32) (.t 33)⟩,
         ⟨(some 35), none, [], [], .bin .sub false (.t 34) (.k (.sc (.int .i64 (7))))⟩,
         ⟨(some 36), none, [], [], .bin .rem false (.t 30) (.t 35)⟩,
         ⟨(some 37), none, [], [], .bin .add false (.k (.sc (.int .i64 (8)))) (.t 36)⟩,
         ⟨(some 9), none, [], [], .mv (.t 37)⟩] (some [0, 7, 8, 9]))
       (.seq
        (.reg [⟨(some 38), none, [], [], .mv (.t 0)⟩,
          ⟨(some 39), none, [], [], .mv (.t 0)⟩,
          ⟨(some 40), none, [], [], .mv (.t 8)⟩,
          ⟨(some 41), none, [], [], .mv (.t 8)⟩,
          ⟨(some 42), none, [], [], .mv (.t 9)⟩,
          ⟨(some 43), none, [], [], .bin .add false (.t 41) (.t 42)⟩,
          ⟨(some 44), none, [], [], .slL 1 (some (.t 40)) (some (.t 43)) none (.t 39)⟩,
          ⟨(some 45), none, [], [], .cal (.k (.fn 27 [])) [(.t 38), (.t 44)]⟩,
          ⟨(some 10), none, [], [], .mv (.t 45)⟩] (some [0, 7, 8, 9, 10]))
        (.seq
         (.reg (⟨(some 46), none, [], [], .mv (.t 7)⟩ ::
           ⟨(some 47), none, [], [], .lenL (.t 46)⟩ ::
           ⟨(some 48), none, [], [], .bin .eql false (.t 47) (.k (.sc (.int .i64 (1))))⟩ ::
           ⟨(some 49), none, [], [], .mv (.t 48)⟩ ::
           ⟨(some 50), (some (49, true)), [], [], .mv (.t 7)⟩ ::
           ⟨(some 51), (some (49, true)), [], [], .ixaS 3 (.t 50) (.k (.sc (.int .i64 (0))))⟩ ::
           ⟨(some 52), (some (49, true)), [], [], .fa 0 (.t 51)⟩ ::
           ⟨(some 53), (some (49, true)), [], [], .ld false 1 (.t 52)⟩ ::
           ⟨(some 54), (some (49, true)), [], [], .bin .eql false (.t 53) (.k (.sc (.int .i64 (0))))⟩ ::
           ⟨(some 55), none, [], [], .pick (.t 49) (.t 54) (.k (.sc (.bool false)))⟩ ::
           ⟨(some 56), none, [], [], .mv (.t 55)⟩ ::
           ⟨(some 57), (some (56, true)), [], [], .mv (.t 7)⟩ ::
           ⟨(some 58), (some (56, true)), [], [], .ixaS 3 (.t 57) (.k (.sc (.int .i64 (0))))⟩ ::
           ⟨(some 59), (some (56, true)), [], [], .fa 1 (.t 58)⟩ ::
           ⟨(some 60), (some (56, true)), [], [], .ld false 1 (.t 59)⟩ ::
           ⟨(some 61), (some (56, true)), [], [], .mv (.t 0)⟩ ::
           ⟨(some 62), (some (56, true)), [], [], .lenL (.t 61)⟩ ::
           ⟨(some 63), (some (56, true)), [], [], .bin .eql false (.t 60) (.t 62)⟩ ::
           ⟨(some 64), none, [], [], .pick (.t 56) (.t 63) (.k (.sc (.bool false)))⟩ ::
           ⟨(some 65), none, [], [], .mv (.t 64)⟩ ::
           ⟨(some 66), (some (65, true)), [], [], .mv (.t 10)⟩ ::
           ⟨(some 67), (some (65, true)), [], [], .lenL (.t 66)⟩ ::
           ⟨(some 68), (some (65, true)), [], [], .bin .eql false (.t 67) (.k (.sc (.int .i64 (1))))⟩ ::
           ⟨(some 69), none, [], [], .pick (.t 65) (.t 68) (.k (.sc (.bool false)))⟩ ::
           ⟨(some 70), none, [], [], .mv (.t 69)⟩ ::
           ⟨(some 71), (some (70, true)), [], [], .mv (.t 10)⟩ ::
           ⟨(some 72), (some (70, true)), [], [], .ixaS 3 (.t 71) (.k (.sc (.int .i64 (0))))⟩ ::
           ⟨(some 73), (some (70, true)), [], [], .fa 1 (.t 72)⟩ ::
           ⟨(some 74), (some (70, true)), [], [], .ld false 1 (.t 73)⟩ ::
           ⟨(some 75), (some (70, true)), [], [], .mv (.t 9)⟩ ::
           ⟨(some 76), (some (70, true)), [], [], .bin .eql false (.t 74) (.t 75)⟩ ::
           ⟨(some 77), none, [], [], .pick (.t 70) (.t 76) (.k (.sc (.bool false)))⟩ ::
           ⟨(some 78), none, [], [], .mv (.t 77)⟩ ::
           ⟨(some 79), (some (78, true)), [], [], .mv (.t 10)⟩ ::
           ⟨(some 80), (some (78, true)), [], [], .ixaS 3 (.t 79) (.k (.sc (.int .i64 (0))))⟩ ::
           ⟨(some 81), (some (78, true)), [], [], .fa 0 (.t 80)⟩ ::
           ⟨(some 82), (some (78, true)), [], [], .ld false 1 (.t 81)⟩ ::
           ⟨(some 83), (some (78, true)), [], [], .mv (.t 8)⟩ ::
           ⟨(some 84), (some (78, true)), [], [], .bin .leq false (.t 82) (.t 83)⟩ ::
           ⟨(some 85), none, [], [], .pick (.t 78) (.t 84) (.k (.sc (.bool false)))⟩ ::
           ⟨(some 86), none, [], [], .mv (.t 85)⟩ ::
           ⟨(some 87), (some (86, true)), [], [], .mv (.t 10)⟩ ::
           ⟨(some 88), (some (86, true)), [], [], .cal (.k (.fn 34 [])) [(.t 87)]⟩ ::
           ⟨(some 89), (some (86, true)), [], [], .bin .eql false (.t 88) (.k (.sc (.int .i64 (14))))⟩ ::
           ⟨(some 90), none, [], [], .pick (.t 86) (.t 89) (.k (.sc (.bool false)))⟩ ::
           ⟨(some 91), none, [], [], .mv (.t 90)⟩ ::
           ⟨(some 92), (some (91, true)), [], [], .cal (.k (.fn 26 [])) []⟩ ::
           ⟨(some 93), none, [], [], .pick (.t 91) (.t 92) (.k (.sc (.bool false)))⟩ ::
           ⟨(some 6), none, [], [], .mv (.t 93)⟩ :: []) (some [6]))
         .ret)))))))
theorem b10 : cmpG Try.prog 10 = some (strip a10, r10, 94) := by kernel_rfl

abbrev r26 : List AR := [.t 0]
abbrev a26 : ACode :=
  (.seq
   (.reg [⟨(some 0), none, [], [], .mv (.k (.sc (.bool false)))⟩] (some []))
   (.seq
    (.reg [⟨(some 6), none, [], [], .bsl 8 1 [(.sc (.int .u8 (0))), (.sc (.int .u8 (0))), (.sc (.int .u8 (0))), (.sc (.int .u8 (0))), (.sc (.int .u8 (0))), (.sc (.int .u8 (0))), (.sc (.int .u8 (0))), (.sc (.int .u8 (0)))] [(0, 1, (.k (.sc (.int .u8 (97))))), (1, 1, (.k (.sc (.int .u8 (98))))), (2, 1, (.k (.sc (.int .u8 (99))))), (3, 1, (.k (.sc (.int .u8 (100))))), (4, 1, (.k (.sc (.int .u8 (101))))), (5, 1, (.k (.sc (.int .u8 (102))))), (6, 1, (.k (.sc (.int .u8 (103))))), (7, 1, (.k (.sc (.int .u8 (104)))))]⟩,
      ⟨(some 7), none, [], [], .cvm (.t 6)⟩,
      ⟨(some 8), none, [], [], .bsl 9 1 [(.sc (.int .u8 (0))), (.sc (.int .u8 (0))), (.sc (.int .u8 (0))), (.sc (.int .u8 (0))), (.sc (.int .u8 (0))), (.sc (.int .u8 (0))), (.sc (.int .u8 (0))), (.sc (.int .u8 (0))), (.sc (.int .u8 (0)))] [(0, 1, (.k (.sc (.int .u8 (120))))), (1, 1, (.k (.sc (.int .u8 (97))))), (2, 1, (.k (.sc (.int .u8 (98))))), (3, 1, (.k (.sc (.int .u8 (99))))), (4, 1, (.k (.sc (.int .u8 (100))))), (5, 1, (.k (.sc (.int .u8 (101))))), (6, 1, (.k (.sc (.int .u8 (102))))), (7, 1, (.k (.sc (.int .u8 (103))))), (8, 1, (.k (.sc (.int .u8 (104)))))]⟩,
      ⟨(some 9), none, [], [], .cvm (.t 8)⟩,
      ⟨(some 10), none, [], [], .cal (.k (.fn 27 [])) [(.t 7), (.t 9)]⟩,
      ⟨(some 1), none, [], [], .mv (.t 10)⟩] (some [1]))
    (.seq
     (.reg [⟨(some 12), none, [], [], .mv (.t 1)⟩,
       ⟨(some 13), none, [], [], .bsl 9 1 [(.sc (.int .u8 (0))), (.sc (.int .u8 (0))), (.sc (.int .u8 (0))), (.sc (.int .u8 (0))), (.sc (.int .u8 (0))), (.sc (.int .u8 (0))), (.sc (.int .u8 (0))), (.sc (.int .u8 (0))), (.sc (.int .u8 (0)))] [(0, 1, (.k (.sc (.int .u8 (120))))), (1, 1, (.k (.sc (.int .u8 (97))))), (2, 1, (.k (.sc (.int .u8 (98))))), (3, 1, (.k (.sc (.int .u8 (99))))), (4, 1, (.k (.sc (.int .u8 (100))))), (5, 1, (.k (.sc (.int .u8 (101))))), (6, 1, (.k (.sc (.int .u8 (102))))), (7, 1, (.k (.sc (.int .u8 (103))))), (8, 1, (.k (.sc (.int .u8 (104)))))]⟩,
       ⟨(some 14), none, [], [], .cvm (.t 13)⟩,
       ⟨(some 15), none, [], [], .cal (.k (.fn 29 [])) [(.t 12), (.t 14)]⟩,
       ⟨(some 11), none, [], [], .mv (.t 15)⟩,
       ⟨(some 16), none, [], [], .ext (.t 11) 0⟩,
       ⟨(some 17), none, [], [], .ext (.t 11) 1⟩,
       ⟨(some 2), none, [], [], .mv (.t 16)⟩,
       ⟨(some 3), none, [], [], .mv (.t 17)⟩] (some [1, 2, 3]))
     (.seq
      (.reg [⟨(some 19), none, [], [], .bsl 8 1 [(.sc (.int .u8 (0))), (.sc (.int .u8 (0))), (.sc (.int .u8 (0))), (.sc (.int .u8 (0))), (.sc (.int .u8 (0))), (.sc (.int .u8 (0))), (.sc (.int .u8 (0))), (.sc (.int .u8 (0)))] [(0, 1, (.k (.sc (.int .u8 (97))))), (1, 1, (.k (.sc (.int .u8 (98))))), (2, 1, (.k (.sc (.int .u8 (99))))), (3, 1, (.k (.sc (.int .u8 (100))))), (4, 1, (.k (.sc (.int .u8 (101))))), (5, 1, (.k (.sc (.int .u8 (102))))), (6, 1, (.k (.sc (.int .u8 (103))))), (7, 1, (.k (.sc (.int .u8 (104)))))]⟩,
        ⟨(some 20), none, [], [], .cvm (.t 19)⟩,
        ⟨(some 21), none, [], [], .mv (.t 2)⟩,
        ⟨(some 22), none, [], [], .cal (.k (.fn 30 [])) [(.t 20), (.t 21)]⟩,
        ⟨(some 18), none, [], [], .mv (.t 22)⟩,
        ⟨(some 23), none, [], [], .ext (.t 18) 0⟩,
        ⟨(some 24), none, [], [], .ext (.t 18) 1⟩,
        ⟨(some 4), none, [], [], .mv (.t 23)⟩,
        ⟨(some 5), none, [], [], .mv (.t 24)⟩] (some [1, 2, 3, 4, 5]))
      (.seq
       (.reg (⟨(some 25), none, [], [], .mv (.t 1)⟩ ::
         ⟨(some 26), none, [], [], .lenL (.t 25)⟩ ::
         ⟨(some 27), none, [], [], .bin .eql false (.t 26) (.k (.sc (.int .i64 (2))))⟩ ::
         ⟨(some 28), none, [], [], .mv (.t 27)⟩ ::
         ⟨(some 29), (some (28, true)), [], [], .mv (.t 1)⟩ ::
         ⟨(some 30), (some (28, true)), [], [], .ixaS 3 (.t 29) (.k (.sc (.int .i64 (0))))⟩ ::
         ⟨(some 31), (some (28, true)), [], [], .fa 2 (.t 30)⟩ ::
         ⟨(some 32), (some (28, true)), [], [], .ld false 1 (.t 31)⟩ ::
         ⟨(some 33), (some (28, true)), [], [], .cvb (.t 32)⟩ ::
         ⟨(some 34), (some (28, true)), [], [], .bin .eql false (.t 33) (.k (.sc (.string ⟨#[120]⟩)))⟩ ::
         ⟨(some 35), none, [], [], .pick (.t 28) (.t 34) (.k (.sc (.bool false)))⟩ ::
         ⟨(some 36), none, [], [], .mv (.t 35)⟩ ::
         ⟨(some 37), (some (36, true)), [], [], .mv (.t 1)⟩ ::
         ⟨(some 38), (some (36, true)), [], [], .ixaS 3 (.t 37) (.k (.sc (.int .i64 (1))))⟩ ::
         ⟨(some 39), (some (36, true)), [], [], .fa 1 (.t 38)⟩ ::
         ⟨(some 40), (some (36, true)), [], [], .ld false 1 (.t 39)⟩ ::
         ⟨(some 41), (some (36, true)), [], [], .bin .eql false (.t 40) (.k (.sc (.int .i64 (8))))⟩ ::
         ⟨(some 42), none, [], [], .pick (.t 36) (.t 41) (.k (.sc (.bool false)))⟩ ::
         ⟨(some 43), none, [], [], .mv (.t 42)⟩ ::
         ⟨(some 44), (some (43, true)), [], [], .mv (.t 2)⟩ ::
         ⟨(some 45), (some (43, true)), [], [], .lenL (.t 44)⟩ ::
         ⟨(some 46), (some (43, true)), [], [], .bin .eql false (.t 45) (.k (.sc (.int .i64 (20))))⟩ ::
         ⟨(some 47), none, [], [], .pick (.t 43) (.t 46) (.k (.sc (.bool false)))⟩ ::
         ⟨(some 48), none, [], [], .mv (.t 47)⟩ ::
         ⟨(some 49), (some (48, true)), [], [], .mv (.t 1)⟩ ::
         ⟨(some 50), (some (48, true)), [], [], .cal (.k (.fn 34 [])) [(.t 49)]⟩ ::
         ⟨(some 51), (some (48, true)), [], [], .bin .eql false (.t 50) (.k (.sc (.int .i64 (20))))⟩ ::
         ⟨(some 52), none, [], [], .pick (.t 48) (.t 51) (.k (.sc (.bool false)))⟩ ::
         ⟨(some 53), none, [], [], .mv (.t 52)⟩ ::
         ⟨(some 54), (some (53, true)), [], [], .mv (.t 3)⟩ ::
         ⟨(some 55), (some (53, true)), [], [], .bin .eql false (.t 54) (.k (.sc (.int .i64 (0))))⟩ ::
         ⟨(some 56), none, [], [], .pick (.t 53) (.t 55) (.k (.sc (.bool false)))⟩ ::
         ⟨(some 57), none, [], [], .mv (.t 56)⟩ ::
         ⟨(some 58), (some (57, true)), [], [], .mv (.t 4)⟩ ::
         ⟨(some 59), (some (57, true)), [], [], .cvb (.t 58)⟩ ::
         ⟨(some 60), (some (57, true)), [], [], .bin .eql false (.t 59) (.k (.sc (.string ⟨#[120, 97, 98, 99, 100, 101, 102, 103, 104]⟩)))⟩ ::
         ⟨(some 61), none, [], [], .pick (.t 57) (.t 60) (.k (.sc (.bool false)))⟩ ::
         ⟨(some 62), none, [], [], .mv (.t 61)⟩ ::
         ⟨(some 63), (some (62, true)), [], [], .mv (.t 5)⟩ ::
         ⟨(some 64), (some (62, true)), [], [], .bin .eql false (.t 63) (.k (.sc (.int .i64 (0))))⟩ ::
         ⟨(some 65), none, [], [], .pick (.t 62) (.t 64) (.k (.sc (.bool false)))⟩ ::
         ⟨(some 0), none, [], [], .mv (.t 65)⟩ :: []) (some [0]))
       .ret)))))
theorem b26 : cmpG Try.prog 26 = some (strip a26, r26, 66) := by kernel_rfl


end Go.Proofs.Ytdjjibmjinllnaa.Cod
