import Derived.Test.YtdjjibmjinllnaaProg
import Derived.Test.YtdjjibmjinllnaaSimD
import Derived.KernelRfl
namespace Go.Proofs.Ytdjjibmjinllnaa.Cod
open Go Go.Sim Go.Proofs
set_option maxRecDepth 100000
abbrev r4 : List AR := [.t 4]
abbrev a4 : ACode :=
  (.seq
   (.reg [⟨(some 4), none, [], [], .mv (.k (.sc (.bool false)))⟩] (some [0, 1]))
   (.seq
    (.seq
     (.reg [⟨(some 10), none, [], [], .mv (.t 0)⟩,
       ⟨(some 11), none, [], [], .lenL (.t 10)⟩,
       ⟨(some 12), none, [], [], .bin .gtr false (.t 11) (.k (.sc (.int .i64 (20))))⟩,
       ⟨(some 13), none, [], [], .mv (.t 12)⟩,
       ⟨(some 14), (some (13, false)), [], [], .mv (.t 1)⟩,
       ⟨(some 15), (some (13, false)), [], [], .lenL (.t 14)⟩,
       ⟨(some 16), (some (13, false)), [], [], .bin .gtr false (.t 15) (.k (.sc (.int .i64 (500))))⟩,
       ⟨(some 17), none, [], [], .pick (.t 13) (.k (.sc (.bool true))) (.t 16)⟩] (some [0, 1, 17]))
     (.cond (.t 17)
      (.keep []
       (.seq
        (.reg [⟨(some 18), none, [], [], .cal (.k (.fn 11 [])) []⟩,
          ⟨(some 4), none, [], [], .mv (.t 18)⟩] (some [4]))
        .ret))
      (.keep [0, 1]
       .skip)))
    (.seq
     (.reg [⟨(some 5), none, [], [], .mv (.k .nl)⟩] (some [0, 1, 5]))
     (.seq
      (.reg [⟨(some 19), none, [], [], .cal (.k (.fn 14 [])) []⟩,
        ⟨(some 6), none, [], [], .mv (.t 19)⟩] (some [0, 1, 5, 6]))
      (.seq
       (.seq
        (.reg [⟨(some 20), none, [], [], .mv (.t 0)⟩,
          ⟨(some 21), none, [], [], .lenL (.t 20)⟩,
          ⟨(some 22), none, [], [], .mv (.k (.sc (.int .i64 (0))))⟩] (some [1, 5, 6, 20, 21, 22]))
        (.block 0
         (.loop
          (.seq
           (.reg [⟨(some 23), none, [], [], .bin .lss false (.t 22) (.t 21)⟩] none)
           (.seq
            (.cond (.t 23)
             (.keep [1, 5, 6, 20, 21, 22]
              .skip)
             (.exit 0))
            (.seq
             (.block 1
              (.seq
               (.reg [⟨(some 24), none, [], [], .ixaS 1 (.t 20) (.t 22)⟩,
                 ⟨(some 25), none, [], [], .ld false 1 (.t 24)⟩,
                 ⟨(some 8), none, [], [], .mv (.t 25)⟩] (some [1, 5, 6, 8, 20, 21, 22]))
               (.seq
                (.seq
                 (.reg [⟨(some 26), none, [], [], .mv (.t 8)⟩,
                   ⟨(some 27), none, [], [], .lenL (.t 26)⟩,
                   ⟨(some 28), none, [], [], .bin .gtr false (.t 27) (.k (.sc (.int .i64 (300))))⟩] (some [1, 5, 6, 8, 20, 21, 22, 28]))
                 (.cond (.t 28)
                  (.keep []
                   (.seq
                    (.reg [⟨(some 29), none, [], [], .cal (.k (.fn 11 [])) []⟩,
                      ⟨(some 4), none, [], [], .mv (.t 29)⟩] (some [4]))
                    .ret))
                  (.keep [1, 5, 6, 8, 20, 21, 22]
                   .skip)))
                (.seq
                 (.reg [⟨(some 30), none, [], [], .mv (.t 6)⟩,
                   ⟨(some 31), none, [], [], .mv (.t 8)⟩,
                   ⟨(some 32), none, [], [], .calM (.k (.fn 15 [])) [(.t 30), (.t 31)]⟩] (some [1, 5, 6, 8, 20, 21, 22]))
                 (.seq
                  (.reg [⟨(some 33), none, [], [], .mv (.t 5)⟩,
                    ⟨(some 34), none, [], [], .mv (.t 8)⟩,
                    ⟨(some 35), none, [], [], .app 1 1 (.t 33) (.t 34)⟩,
                    ⟨(some 5), none, [], [], .mv (.t 35)⟩] (some [1, 5, 6, 20, 21, 22]))
                  (.seq
                   (.reg [⟨(some 36), none, [], [], .mv (.t 6)⟩,
                     ⟨(some 37), none, [], [], .cal (.k (.fn 16 [])) [(.t 36)]⟩,
                     ⟨(some 38), none, [], [], .mv (.t 5)⟩,
                     ⟨(some 39), none, [], [], .cal (.k (.fn 12 [])) [(.t 38)]⟩,
                     ⟨(some 40), none, [], [], .aeq true 32 (.i :: .i :: .i :: .i :: .i :: .i :: .i :: .i :: .i :: .i :: .i :: .i :: .i :: .i :: .i :: .i :: .i :: .i :: .i :: .i :: .i :: .i :: .i :: .i :: .i :: .i :: .i :: .i :: .i :: .i :: .i :: .i :: []) (.t 37) (.t 39)⟩,
                     ⟨(some 41), none, [], [], .mv (.t 40)⟩,
                     ⟨(some 42), (some (41, false)), [], [], .mv (.t 6)⟩,
                     ⟨(some 43), (some (41, false)), [], [], .cal (.k (.fn 17 [])) [(.t 42)]⟩,
                     ⟨(some 44), (some (41, false)), [], [], .mv (.t 5)⟩,
                     ⟨(some 45), (some (41, false)), [], [], .lenL (.t 44)⟩,
                     ⟨(some 46), (some (41, false)), [], [], .cvi .u64 (.t 45)⟩,
                     ⟨(some 47), (some (41, false)), [], [], .bin .neq false (.t 43) (.t 46)⟩,
                     ⟨(some 48), none, [], [], .pick (.t 41) (.k (.sc (.bool true))) (.t 47)⟩] (some [1, 5, 6, 20, 21, 22, 48]))
                   (.cond (.t 48)
                    (.keep []
                     (.seq
                      (.reg [⟨(some 4), none, [], [], .mv (.k (.sc (.bool false)))⟩] none)
                      .ret))
                    (.keep [1, 5, 6, 20, 21, 22]
                     .skip))))))))
             (.reg [⟨(some 49), none, [], [], .bin .add false (.t 22) (.k (.sc (.int .i64 (1))))⟩,
               ⟨(some 22), none, [], [], .mv (.t 49)⟩] (some [1, 5, 6, 20, 21, 22]))))))))
       (.seq
        (.reg [⟨(some 50), none, [], [], .mv (.t 6)⟩,
          ⟨(some 51), none, [], [], .calM (.k (.fn 18 [])) [(.t 50)]⟩,
          ⟨(some 9), none, [], [], .mv (.t 51)⟩] (some [1, 5, 6, 9]))
        (.seq
         (.reg [⟨(some 52), none, [], [], .mv (.t 9)⟩,
           ⟨(some 53), none, [], [], .mv (.t 1)⟩,
           ⟨(some 54), none, [], [], .calM (.k (.fn 15 [])) [(.t 52), (.t 53)]⟩] (some [1, 5, 6, 9]))
         (.seq
          (.seq
           (.reg [⟨(some 55), none, [], [], .mv (.t 9)⟩,
             ⟨(some 56), none, [], [], .cal (.k (.fn 16 [])) [(.t 55)]⟩,
             ⟨(some 57), none, [], [], .mv (.t 5)⟩,
             ⟨(some 58), none, [], [], .app 1 1 (.k .nl) (.t 57)⟩,
             ⟨(some 59), none, [], [], .mv (.t 1)⟩,
             ⟨(some 60), none, [], [], .app 1 1 (.t 58) (.t 59)⟩,
             ⟨(some 61), none, [], [], .cal (.k (.fn 12 [])) [(.t 60)]⟩,
             ⟨(some 62), none, [], [], .aeq true 32 (.i :: .i :: .i :: .i :: .i :: .i :: .i :: .i :: .i :: .i :: .i :: .i :: .i :: .i :: .i :: .i :: .i :: .i :: .i :: .i :: .i :: .i :: .i :: .i :: .i :: .i :: .i :: .i :: .i :: .i :: .i :: .i :: []) (.t 56) (.t 61)⟩,
             ⟨(some 63), none, [], [], .mv (.t 62)⟩,
             ⟨(some 64), (some (63, false)), [], [], .mv (.t 6)⟩,
             ⟨(some 65), (some (63, false)), [], [], .cal (.k (.fn 16 [])) [(.t 64)]⟩,
             ⟨(some 66), (some (63, false)), [], [], .mv (.t 5)⟩,
             ⟨(some 67), (some (63, false)), [], [], .cal (.k (.fn 12 [])) [(.t 66)]⟩,
             ⟨(some 68), (some (63, false)), [], [], .aeq true 32 (.i :: .i :: .i :: .i :: .i :: .i :: .i :: .i :: .i :: .i :: .i :: .i :: .i :: .i :: .i :: .i :: .i :: .i :: .i :: .i :: .i :: .i :: .i :: .i :: .i :: .i :: .i :: .i :: .i :: .i :: .i :: .i :: []) (.t 65) (.t 67)⟩,
             ⟨(some 69), none, [], [], .pick (.t 63) (.k (.sc (.bool true))) (.t 68)⟩] (some [1, 6, 9, 69]))
           (.cond (.t 69)
            (.keep []
             (.seq
              (.reg [⟨(some 4), none, [], [], .mv (.k (.sc (.bool false)))⟩] none)
              .ret))
            (.keep [1, 6, 9]
             .skip)))
          (.seq
           (.reg [⟨(some 70), none, [], [], .mv (.t 6)⟩,
             ⟨(some 71), none, [], [], .mv (.t 1)⟩,
             ⟨(some 72), none, [], [], .calM (.k (.fn 15 [])) [(.t 70), (.t 71)]⟩] (some [6, 9]))
           (.seq
            (.reg [⟨(some 73), none, [], [], .mv (.t 6)⟩,
              ⟨(some 74), none, [], [], .cal (.k (.fn 16 [])) [(.t 73)]⟩,
              ⟨(some 75), none, [], [], .mv (.t 9)⟩,
              ⟨(some 76), none, [], [], .cal (.k (.fn 16 [])) [(.t 75)]⟩,
              ⟨(some 77), none, [], [], .aeq false 32 (.i :: .i :: .i :: .i :: .i :: .i :: .i :: .i :: .i :: .i :: .i :: .i :: .i :: .i :: .i :: .i :: .i :: .i :: .i :: .i :: .i :: .i :: .i :: .i :: .i :: .i :: .i :: .i :: .i :: .i :: .i :: .i :: []) (.t 74) (.t 76)⟩,
              ⟨(some 78), none, [], [], .mv (.t 77)⟩,
              ⟨(some 79), (some (78, true)), [], [], .mv (.t 6)⟩,
              ⟨(some 80), (some (78, true)), [], [], .cal (.k (.fn 17 [])) [(.t 79)]⟩,
              ⟨(some 81), (some (78, true)), [], [], .mv (.t 9)⟩,
              ⟨(some 82), (some (78, true)), [], [], .cal (.k (.fn 17 [])) [(.t 81)]⟩,
              ⟨(some 83), (some (78, true)), [], [], .bin .eql false (.t 80) (.t 82)⟩,
              ⟨(some 84), none, [], [], .pick (.t 78) (.t 83) (.k (.sc (.bool false)))⟩,
              ⟨(some 85), none, [], [], .mv (.t 84)⟩,
              ⟨(some 86), (some (85, true)), [], [], .cal (.k (.fn 11 [])) []⟩,
              ⟨(some 87), none, [], [], .pick (.t 85) (.t 86) (.k (.sc (.bool false)))⟩,
              ⟨(some 4), none, [], [], .mv (.t 87)⟩] (some [4]))
            .ret))))))))))
theorem b4 : cmpG Try.prog 4 = some (strip a4, r4, 88) := by kernel_rfl


end Go.Proofs.Ytdjjibmjinllnaa.Cod
