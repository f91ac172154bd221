import Derived.Test.YtdjjibmjinllnaaProg
import Derived.Test.YtdjjibmjinllnaaSimD
import Derived.KernelRfl
namespace Go.Proofs.Ytdjjibmjinllnaa.Cod
open Go Go.Sim Go.Proofs
set_option maxRecDepth 100000
abbrev r5 : List AR := [.t 2]
abbrev a5 : ACode :=
  (.seq
   (.reg [⟨(some 2), none, [], [], .mv (.k (.sc (.bool false)))⟩] (some [0]))
   (.seq
    (.seq
     (.reg [⟨(some 5), none, [], [], .mv (.t 0)⟩,
       ⟨(some 6), none, [], [], .lenL (.t 5)⟩,
       ⟨(some 7), none, [], [], .bin .gtr false (.t 6) (.k (.sc (.int .i64 (500))))⟩] (some [0, 7]))
     (.cond (.t 7)
      (.keep []
       (.seq
        (.reg [⟨(some 8), none, [], [], .cal (.k (.fn 11 [])) []⟩,
          ⟨(some 2), none, [], [], .mv (.t 8)⟩] (some [2]))
        .ret))
      (.keep [0]
       .skip)))
    (.seq
     (.seq
      (.reg [⟨(some 9), none, [], [], .bld [(.sc (.bool false)), (.sc (.int .u32 (0))), (.sc (.int .u32 (0))), (.sc (.int .u32 (0))), (.sc (.int .u32 (0))), (.sc (.int .u32 (0))), (.sc (.int .u32 (0))), (.sc (.int .u32 (0))), (.sc (.int .u32 (0))), .nl, (.sc (.int .u64 (0)))] []⟩,
        ⟨(some 10), none, [], [], .box (.t 9)⟩,
        ⟨(some 11), none, [], [], .bsl 2 1 [(.sc (.pointer none)), (.sc (.pointer none))] [(0, 1, (.k (.sc (.pointer none)))), (1, 1, (.t 10))]⟩,
        ⟨(some 12), none, [], [], .lenL (.t 11)⟩,
        ⟨(some 13), none, [], [], .mv (.k (.sc (.int .i64 (0))))⟩] (some [0, 11, 12, 13]))
      (.block 0
       (.loop
        (.seq
         (.reg [⟨(some 14), none, [], [], .bin .lss false (.t 13) (.t 12)⟩] none)
         (.seq
          (.cond (.t 14)
           (.keep [0, 11, 12, 13]
            .skip)
           (.exit 0))
          (.seq
           (.block 1
            (.seq
             (.reg [⟨(some 15), none, [], [], .ixaS 1 (.t 11) (.t 13)⟩,
               ⟨(some 16), none, [], [], .ld false 1 (.t 15)⟩,
               ⟨(some 4), none, [], [], .mv (.t 16)⟩] (some [0, 4, 11, 12, 13]))
             (.seq
              (.reg [⟨(some 17), none, [], [], .mv (.t 4)⟩,
                ⟨(some 18), none, [], [], .mv (.t 0)⟩,
                ⟨(some 19), none, [], [], .cal (.k (.fn 15 [])) [(.t 17), (.t 18)]⟩] (some [0, 4, 11, 12, 13]))
              (.seq
               (.reg [⟨(some 20), none, [], [], .mv (.t 4)⟩,
                 ⟨(some 21), none, [], [], .cal (.k (.fn 16 [])) [(.t 20)]⟩,
                 ⟨(some 22), none, [], [], .bld (List.replicate 32 (.sc (.int .u8 (0)))) []⟩,
                 ⟨(some 23), none, [], [], .aeq true 32 (.i :: .i :: .i :: .i :: .i :: .i :: .i :: .i :: .i :: .i :: .i :: .i :: .i :: .i :: .i :: .i :: .i :: .i :: .i :: .i :: .i :: .i :: .i :: .i :: .i :: .i :: .i :: .i :: .i :: .i :: .i :: .i :: []) (.t 21) (.t 22)⟩,
                 ⟨(some 24), none, [], [], .mv (.t 23)⟩,
                 ⟨(some 25), (some (24, false)), [], [], .mv (.t 4)⟩,
                 ⟨(some 26), (some (24, false)), [], [], .cal (.k (.fn 17 [])) [(.t 25)]⟩,
                 ⟨(some 27), (some (24, false)), [], [], .bin .neq false (.t 26) (.k (.sc (.int .u64 (0))))⟩,
                 ⟨(some 28), none, [], [], .pick (.t 24) (.k (.sc (.bool true))) (.t 27)⟩,
                 ⟨(some 29), none, [], [], .mv (.t 28)⟩,
                 ⟨(some 30), (some (29, false)), [], [], .mv (.t 4)⟩,
                 ⟨(some 31), (some (29, false)), [], [], .cal (.k (.fn 18 [])) [(.t 30)]⟩,
                 ⟨(some 32), (some (29, false)), [], [], .pnil false (.t 31)⟩,
                 ⟨(some 33), none, [], [], .pick (.t 29) (.k (.sc (.bool true))) (.t 32)⟩] (some [0, 11, 12, 13, 33]))
               (.cond (.t 33)
                (.keep []
                 (.seq
                  (.reg [⟨(some 2), none, [], [], .mv (.k (.sc (.bool false)))⟩] none)
                  .ret))
                (.keep [0, 11, 12, 13]
                 .skip))))))
           (.reg [⟨(some 34), none, [], [], .bin .add false (.t 13) (.k (.sc (.int .i64 (1))))⟩,
             ⟨(some 13), none, [], [], .mv (.t 34)⟩] (some [0, 11, 12, 13]))))))))
     (.seq
      (.reg [⟨(some 35), none, [], [], .cal (.k (.fn 11 [])) []⟩,
        ⟨(some 2), none, [], [], .mv (.t 35)⟩] (some [2]))
      .ret))))
theorem b5 : cmpG Try.prog 5 = some (strip a5, r5, 36) := by kernel_rfl


end Go.Proofs.Ytdjjibmjinllnaa.Cod
