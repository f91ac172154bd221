import Derived.Test.YtbmdahhhgpbchaaProg
import Derived.Test.YtbmdahhhgpbchaaSimD
import Derived.KernelRfl
namespace Go.Proofs.Ytbmdahhhgpbchaa.Cod
open Go Go.Sim Go.Proofs
set_option maxRecDepth 100000
abbrev r12 : List AR := [.t 2]
abbrev a12 : ACode :=
 (.seq
 (.reg [⟨some 2, none, [], [], .mv (.k .nl)⟩] (some [0]))
 (.seq
 (.reg [⟨some 3, none, [], [], .mv (.k .nl)⟩] none)
 (.seq
 (.seq
 (.reg [⟨some 6, none, [], [], .mv (.t 0)⟩,
 ⟨some 7, none, [], [], .lenL (.t 6)⟩,
 ⟨some 8, none, [], [], .mv (.k (.sc (.int .i64 0)))⟩] (some [3, 6, 7, 8]))
 (.block 0
 (.loop
 (.seq
 (.reg [⟨some 9, none, [], [], .bin .lss false (.t 8) (.t 7)⟩] none)
 (.seq
 (.cond (.t 9)
 (.keep [3, 6, 7, 8]
 .skip)
 (.exit 0))
 (.seq
 (.block 1
 (.seq
 (.reg [⟨some 10, none, [], [], .ixaS 2 (.t 6) (.t 8)⟩,
 ⟨some 11, none, [], [], .ld true 2 (.t 10)⟩,
 ⟨some 5, none, [], [], .alc [(.sc (.int .u64 0)), (.sc (.int .u64 0))]⟩,
 ⟨none, none, [], [], .sto 2 (.t 5) (.t 11)⟩] (some [3, 5, 6, 7, 8]))
 (.seq
 (.reg [⟨some 12, none, [], [], .fa 0 (.t 5)⟩,
 ⟨some 13, none, [], [], .ld false 1 (.t 12)⟩,
 ⟨some 14, none, [], [], .fa 1 (.t 5)⟩,
 ⟨some 15, none, [], [], .ld false 1 (.t 14)⟩,
 ⟨some 16, none, [], [], .mx [(.t 13), (.t 15)]⟩,
 ⟨some 17, none, [], [], .bin .leq false (.t 16) (.k (.sc (.int .u64 4611686018427387904)))⟩] (some [3, 5, 6, 7, 8, 17]))
 (.cond (.t 17)
 (.keep [3, 5, 6, 7, 8]
 (.reg [⟨some 18, none, [], [], .mv (.t 3)⟩,
 ⟨some 19, none, [], [], .fa 0 (.t 5)⟩,
 ⟨some 20, none, [], [], .ld false 1 (.t 19)⟩,
 ⟨some 21, none, [], [], .cvi .i64 (.t 20)⟩,
 ⟨some 22, none, [], [], .fa 1 (.t 5)⟩,
 ⟨some 23, none, [], [], .ld false 1 (.t 22)⟩,
 ⟨some 24, none, [], [], .cvi .i64 (.t 23)⟩,
 ⟨some 25, none, [], [], .bld [(.sc (.int .i64 0)), (.sc (.int .i64 0))] [(0, 1, (.t 21)), (1, 1, (.t 24))]⟩,
 ⟨some 26, none, [], [], .bsl 1 2 [(.sc (.int .i64 0)), (.sc (.int .i64 0))] [(0, 2, (.t 25))]⟩,
 ⟨some 27, none, [], [], .app 2 16 (.t 18) (.t 26)⟩,
 ⟨some 3, none, [], [], .mv (.t 27)⟩] (some [3, 6, 7, 8])))
 (.keep [3, 6, 7, 8]
 .skip)))))
 (.reg [⟨some 28, none, [], [], .bin .add false (.t 8) (.k (.sc (.int .i64 1)))⟩,
 ⟨some 8, none, [], [], .mv (.t 28)⟩] (some [3, 6, 7, 8]))))))))
 (.seq
 (.reg [⟨some 29, none, [], [], .mv (.t 3)⟩,
 ⟨some 2, none, [], [], .mv (.t 29)⟩] (some [2]))
 .ret))))
theorem b12 : cmpG Try.prog 12 = some (strip a12, r12, 30) := by kernel_rfl


end Go.Proofs.Ytbmdahhhgpbchaa.Cod
