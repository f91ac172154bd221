import Derived.Test.YtbmdahhhgpbchaaProg
import Derived.Test.YtbmdahhhgpbchaaSimD
import Derived.KernelRfl
namespace Go.Proofs.Ytbmdahhhgpbchaa.Cod
open Go Go.Sim Go.Proofs
set_option maxRecDepth 100000
abbrev r67 : List AR := [.c 2 true 3, .t 3]
abbrev a67 : ACode :=
 (.seq
 (.reg [⟨some 2, none, [], [], .alc [(.sc (.bool false)), (.sc (.int .i64 0)), (.sc (.int .i64 0))]⟩,
 ⟨some 3, none, [], [], .mv (.k (.sc (.int .i64 0)))⟩] (some [0, 2]))
 (.seq
 (.reg [⟨some 5, none, [], [], .mv (.t 0)⟩,
 ⟨some 6, none, [], [], .mv (.t 0)⟩,
 ⟨some 7, none, [], [], .bld [(.sc (.bool false)), (.sc (.int .i64 0)), (.sc (.int .i64 0))] [(0, 1, (.k (.sc (.bool true)))), (1, 1, (.t 5)), (2, 1, (.t 6))]⟩,
 ⟨some 4, none, [], [], .alc [(.sc (.bool false)), (.sc (.int .i64 0)), (.sc (.int .i64 0))]⟩,
 ⟨none, none, [], [], .sto 3 (.t 4) (.t 7)⟩] (some [2, 4]))
 (.seq
 (.seq
 (.reg [⟨some 8, none, [], [], .ld true 3 (.t 4)⟩,
 ⟨some 9, none, [], [], .cal (.k (.fn 106 [])) [(.t 8)]⟩,
 ⟨some 10, none, [], [], .un .not (.t 9)⟩] (some [2, 4, 10]))
 (.cond (.t 10)
 (.keep [2]
 (.seq
 (.reg [⟨some 11, none, [], [], .bld [(.sc (.bool false)), (.sc (.int .i64 0)), (.sc (.int .i64 0))] []⟩,
 ⟨none, none, [], [], .sto 3 (.t 2) (.t 11)⟩,
 ⟨some 3, none, [], [], .mv (.k (.sc (.int .i64 1)))⟩] (some [2, 3]))
 .ret))
 (.keep [2, 4]
 .skip)))
 (.seq
 (.reg [⟨some 12, none, [], [], .ld true 3 (.t 4)⟩,
 ⟨none, none, [], [], .sto 3 (.t 2) (.t 12)⟩,
 ⟨some 3, none, [], [], .mv (.k (.sc (.int .i64 0)))⟩] (some [2, 3]))
 .ret))))
theorem b67 : cmpG Try.prog 67 = some (strip a67, r67, 13) := by kernel_rfl

abbrev r72 : List AR := [.c 2 true 3]
abbrev a72 : ACode :=
 (.seq
 (.reg [⟨some 1, none, [], [], .box (.t 0)⟩,
 ⟨some 2, none, [], [], .alc [(.sc (.bool false)), (.sc (.int .i64 0)), (.sc (.int .i64 0))]⟩] (some [1, 2]))
 (.seq
 (.seq
 (.reg [⟨some 3, none, [], [], .fa 0 (.t 1)⟩,
 ⟨some 4, none, [], [], .ld false 1 (.t 3)⟩] (some [1, 2, 4]))
 (.cond (.t 4)
 (.keep [1, 2]
 (.reg [⟨some 5, none, [], [], .fa 1 (.t 1)⟩,
 ⟨none, none, [], [], .sto 1 (.t 5) (.k (.sc (.int .i64 1)))⟩,
 ⟨some 6, none, [], [], .fa 2 (.t 1)⟩,
 ⟨none, none, [], [], .sto 1 (.t 6) (.k (.sc (.int .i64 1)))⟩] (some [1, 2])))
 (.keep [1, 2]
 .skip)))
 (.seq
 (.reg [⟨some 7, none, [], [], .ld true 3 (.t 1)⟩,
 ⟨none, none, [], [], .sto 3 (.t 2) (.t 7)⟩] (some [2]))
 .ret)))
theorem b72 : cmpG Try.prog 72 = some (strip a72, r72, 8) := by kernel_rfl

abbrev r74 : List AR := [.c 2 true 3, .t 3]
abbrev a74 : ACode :=
 (.seq
 (.reg [⟨some 1, none, [], [], .box (.t 0)⟩,
 ⟨some 2, none, [], [], .alc [(.sc (.bool false)), (.sc (.int .i64 0)), (.sc (.int .i64 0))]⟩,
 ⟨some 3, none, [], [], .mv (.k (.sc (.bool false)))⟩] (some [1, 2]))
 (.seq
 (.seq
 (.reg [⟨some 4, none, [], [], .fa 0 (.t 1)⟩,
 ⟨some 5, none, [], [], .ld false 1 (.t 4)⟩,
 ⟨some 6, none, [], [], .un .not (.t 5)⟩,
 ⟨some 7, none, [], [], .mv (.t 6)⟩,
 ⟨some 8, (some (7, false)), [], [], .ld true 3 (.t 1)⟩,
 ⟨some 9, (some (7, false)), [], [], .cal (.k (.fn 106 [])) [(.t 8)]⟩,
 ⟨some 10, (some (7, false)), [], [], .un .not (.t 9)⟩,
 ⟨some 11, none, [], [], .pick (.t 7) (.k (.sc (.bool true))) (.t 10)⟩] (some [1, 2, 11]))
 (.cond (.t 11)
 (.keep [1, 2]
 (.seq
 (.reg [⟨some 12, none, [], [], .ld true 3 (.t 1)⟩,
 ⟨none, none, [], [], .sto 3 (.t 2) (.t 12)⟩,
 ⟨some 3, none, [], [], .mv (.k (.sc (.bool false)))⟩] (some [2, 3]))
 .ret))
 (.keep [1, 2]
 .skip)))
 (.seq
 (.reg [⟨some 13, none, [], [], .fa 2 (.t 1)⟩,
 ⟨some 14, none, [], [], .ld false 1 (.t 13)⟩,
 ⟨some 15, none, [], [], .bin .sub false (.t 14) (.k (.sc (.int .i64 1)))⟩,
 ⟨some 16, none, [], [], .fa 2 (.t 1)⟩,
 ⟨none, none, [], [], .sto 1 (.t 16) (.t 15)⟩] (some [1, 2]))
 (.seq
 (.seq
 (.reg [⟨some 17, none, [], [], .fa 2 (.t 1)⟩,
 ⟨some 18, none, [], [], .ld false 1 (.t 17)⟩,
 ⟨some 19, none, [], [], .bin .gtr false (.t 18) (.k (.sc (.int .i64 0)))⟩] (some [1, 2, 19]))
 (.cond (.t 19)
 (.keep [1, 2]
 (.seq
 (.reg [⟨some 20, none, [], [], .ld true 3 (.t 1)⟩,
 ⟨none, none, [], [], .sto 3 (.t 2) (.t 20)⟩,
 ⟨some 3, none, [], [], .mv (.k (.sc (.bool false)))⟩] (some [2, 3]))
 .ret))
 (.keep [1, 2]
 .skip)))
 (.seq
 (.reg [⟨some 21, none, [], [], .fa 1 (.t 1)⟩,
 ⟨some 22, none, [], [], .ld false 1 (.t 21)⟩,
 ⟨some 23, none, [], [], .fa 1 (.t 1)⟩,
 ⟨some 24, none, [], [], .ld false 1 (.t 23)⟩,
 ⟨some 25, none, [], [], .bin .add false (.t 22) (.t 24)⟩,
 ⟨some 26, none, [], [], .mn [(.t 25), (.k (.sc (.int .i64 16)))]⟩,
 ⟨some 27, none, [], [], .fa 1 (.t 1)⟩,
 ⟨none, none, [], [], .sto 1 (.t 27) (.t 26)⟩] (some [1, 2]))
 (.seq
 (.reg [⟨some 28, none, [], [], .fa 1 (.t 1)⟩,
 ⟨some 29, none, [], [], .ld false 1 (.t 28)⟩,
 ⟨some 30, none, [], [], .fa 2 (.t 1)⟩,
 ⟨none, none, [], [], .sto 1 (.t 30) (.t 29)⟩] (some [1, 2]))
 (.seq
 (.reg [⟨some 31, none, [], [], .ld true 3 (.t 1)⟩,
 ⟨none, none, [], [], .sto 3 (.t 2) (.t 31)⟩,
 ⟨some 3, none, [], [], .mv (.k (.sc (.bool true)))⟩] (some [2, 3]))
 .ret)))))))
theorem b74 : cmpG Try.prog 74 = some (strip a74, r74, 32) := by kernel_rfl

abbrev r106 : List AR := [.t 2]
abbrev a106 : ACode :=
 (.seq
 (.reg [⟨some 1, none, [], [], .box (.t 0)⟩,
 ⟨some 2, none, [], [], .mv (.k (.sc (.bool false)))⟩] (some [1]))
 (.seq
 (.seq
 (.reg [⟨some 3, none, [], [], .fa 0 (.t 1)⟩,
 ⟨some 4, none, [], [], .ld false 1 (.t 3)⟩,
 ⟨some 5, none, [], [], .un .not (.t 4)⟩] (some [1, 5]))
 (.cond (.t 5)
 (.keep [1]
 (.seq
 (.reg [⟨some 6, none, [], [], .ld true 3 (.t 1)⟩,
 ⟨some 7, none, [], [], .bld [(.sc (.bool false)), (.sc (.int .i64 0)), (.sc (.int .i64 0))] []⟩,
 ⟨some 8, none, [], [], .aeq false 3 [.b, .i, .i] (.t 6) (.t 7)⟩,
 ⟨some 2, none, [], [], .mv (.t 8)⟩] (some [2]))
 .ret))
 (.keep [1]
 .skip)))
 (.seq
 (.reg [⟨some 9, none, [], [], .fa 2 (.t 1)⟩,
 ⟨some 10, none, [], [], .ld false 1 (.t 9)⟩,
 ⟨some 11, none, [], [], .bin .geq false (.t 10) (.k (.sc (.int .i64 1)))⟩,
 ⟨some 12, none, [], [], .mv (.t 11)⟩,
 ⟨some 13, (some (12, true)), [], [], .fa 2 (.t 1)⟩,
 ⟨some 14, (some (12, true)), [], [], .ld false 1 (.t 13)⟩,
 ⟨some 15, (some (12, true)), [], [], .fa 1 (.t 1)⟩,
 ⟨some 16, (some (12, true)), [], [], .ld false 1 (.t 15)⟩,
 ⟨some 17, (some (12, true)), [], [], .bin .leq false (.t 14) (.t 16)⟩,
 ⟨some 18, none, [], [], .pick (.t 12) (.t 17) (.k (.sc (.bool false)))⟩,
 ⟨some 19, none, [], [], .mv (.t 18)⟩,
 ⟨some 20, (some (19, true)), [], [], .fa 1 (.t 1)⟩,
 ⟨some 21, (some (19, true)), [], [], .ld false 1 (.t 20)⟩,
 ⟨some 22, (some (19, true)), [], [], .bin .leq false (.t 21) (.k (.sc (.int .i64 16)))⟩,
 ⟨some 23, none, [], [], .pick (.t 19) (.t 22) (.k (.sc (.bool false)))⟩,
 ⟨some 2, none, [], [], .mv (.t 23)⟩] (some [2]))
 .ret)))
theorem b106 : cmpG Try.prog 106 = some (strip a106, r106, 24) := by kernel_rfl

abbrev r107 : List AR := [.c 2 true 3]
abbrev a107 : ACode :=
 (.seq
 (.reg [⟨some 1, none, [], [], .box (.t 0)⟩,
 ⟨some 2, none, [], [], .alc [(.sc (.bool false)), (.sc (.int .i64 0)), (.sc (.int .i64 0))]⟩] (some [2]))
 (.seq
 (.reg [⟨some 3, none, [], [], .bld [(.sc (.bool false)), (.sc (.int .i64 0)), (.sc (.int .i64 0))] []⟩,
 ⟨none, none, [], [], .sto 3 (.t 2) (.t 3)⟩] (some [2]))
 .ret))
theorem b107 : cmpG Try.prog 107 = some (strip a107, r107, 4) := by kernel_rfl

abbrev r31 : List AR := [.c 4 true 7, .t 5]
abbrev a31 : ACode :=
 (.seq
 (.reg [⟨some 4, none, [], [], .alc [.nl, (.sc (.int .i64 0)), .nl, .nl, (.sc (.bool false)), (.sc (.int .i64 0)), (.sc (.int .i64 0))]⟩,
 ⟨some 5, none, [], [], .mv (.k (.sc (.int .i64 0)))⟩] (some [0, 1, 4]))
 (.seq
 (.reg [⟨some 10, none, [], [], .mv (.t 0)⟩,
 ⟨some 11, none, [], [], .lenL (.t 10)⟩,
 ⟨some 12, none, [], [], .mv (.t 1)⟩,
 ⟨some 13, none, [], [], .cal (.k (.fn 66 [])) [(.t 11), (.t 12)]⟩,
 ⟨some 9, none, [], [], .mv (.t 13)⟩,
 ⟨some 14, none, [], [], .ext (.t 9) 0⟩,
 ⟨some 15, none, [], [], .ext (.t 9) 1⟩,
 ⟨some 6, none, [], [], .alc [(.sc (.int .i64 0)), .nl, .nl]⟩,
 ⟨none, none, [], [], .sto 3 (.t 6) (.t 14)⟩,
 ⟨some 7, none, [], [], .mv (.t 15)⟩] (some [0, 4, 6, 7]))
 (.seq
 (.seq
 (.reg [⟨some 16, none, [], [], .mv (.t 7)⟩,
 ⟨some 17, none, [], [], .bin .neq false (.t 16) (.k (.sc (.int .i64 0)))⟩] (some [0, 4, 6, 7, 17]))
 (.cond (.t 17)
 (.keep [4, 7]
 (.seq
 (.reg [⟨some 18, none, [], [], .bld [.nl, (.sc (.int .i64 0)), .nl, .nl, (.sc (.bool false)), (.sc (.int .i64 0)), (.sc (.int .i64 0))] []⟩,
 ⟨some 19, none, [], [], .mv (.t 7)⟩,
 ⟨none, none, [], [], .sto 7 (.t 4) (.t 18)⟩,
 ⟨some 5, none, [], [], .mv (.t 19)⟩] (some [4, 5]))
 .ret))
 (.keep [0, 4, 6]
 .skip)))
 (.seq
 (.reg [⟨some 21, none, [], [], .cal (.k (.fn 67 [])) [(.k (.sc (.int .i64 1)))]⟩,
 ⟨some 20, none, [], [], .mv (.t 21)⟩,
 ⟨some 22, none, [], [], .ext (.t 20) 0⟩,
 ⟨some 23, none, [], [], .ext (.t 20) 1⟩,
 ⟨some 8, none, [], [], .alc [(.sc (.bool false)), (.sc (.int .i64 0)), (.sc (.int .i64 0))]⟩,
 ⟨none, none, [], [], .sto 3 (.t 8) (.t 22)⟩,
 ⟨some 7, none, [], [], .mv (.t 23)⟩] (some [0, 4, 6, 7, 8]))
 (.seq
 (.regD [⟨some 24, none, [(.t 0)], [], .mv (.t 0)⟩,
 ⟨some 25, none, [(.k (.fn 68 [])), (.t 24)], [], .calG [0] (.k (.fn 68 [])) [(.t 24)]⟩,
 ⟨some 26, none, [(.t 6)], [0, 1], .ld true 3 (.t 6)⟩,
 ⟨some 27, none, [(.t 8)], [0, 1, 2], .ld true 3 (.t 8)⟩,
 ⟨some 28, none, [(.t 25), (.t 26), (.t 27)], [], .bld [.nl, (.sc (.int .i64 0)), .nl, .nl, (.sc (.bool false)), (.sc (.int .i64 0)), (.sc (.int .i64 0))] [(0, 1, (.t 25)), (1, 3, (.t 26)), (4, 3, (.t 27))]⟩,
 ⟨some 29, none, [(.k (.fn 69 [])), (.t 28)], [], .cal (.k (.fn 69 [])) [(.t 28)]⟩,
 ⟨some 30, none, [(.t 7)], [0, 1, 2, 3, 4, 5], .mv (.t 7)⟩,
 ⟨none, none, [(.t 4), (.t 29)], [6], .sto 7 (.t 4) (.t 29)⟩,
 ⟨some 5, none, [(.t 30)], [], .mv (.t 30)⟩] (some [4, 5]))
 .ret)))))
theorem b31 : cmpG Try.prog 31 = some (strip a31, r31, 31) := by kernel_rfl

abbrev r32 : List AR := [.c 2 true 7, .t 3]
abbrev a32 : ACode :=
 (.seq
 (.reg [⟨some 1, none, [], [], .box (.t 0)⟩,
 ⟨some 2, none, [], [], .alc [.nl, (.sc (.int .i64 0)), .nl, .nl, (.sc (.bool false)), (.sc (.int .i64 0)), (.sc (.int .i64 0))]⟩,
 ⟨some 3, none, [], [], .mv (.k .nl)⟩] (some [1, 2]))
 (.scope
 (.seq
 (.reg [⟨some 4, none, [], [], .mv (.k .nl)⟩] none)
 (.seq
 (.lab 0)
 (.seq
 (.block 0
 (.loop
 (.block 1
 (.seq
 (.reg [⟨some 9, none, [], [], .fa 1 (.t 1)⟩,
 ⟨some 10, none, [], [], .ld true 3 (.t 9)⟩,
 ⟨some 11, none, [], [], .cal (.k (.fn 70 [])) [(.t 10)]⟩,
 ⟨some 8, none, [], [], .mv (.t 11)⟩,
 ⟨some 12, none, [], [], .ext (.t 8) 0⟩,
 ⟨some 13, none, [], [], .ext (.t 8) 1⟩,
 ⟨some 14, none, [], [], .ext (.t 8) 2⟩,
 ⟨some 5, none, [], [], .alc [(.sc (.int .i64 0)), .nl, .nl]⟩,
 ⟨some 6, none, [], [], .alc [(.sc (.int .i64 0)), (.sc (.int .i64 0))]⟩,
 ⟨none, none, [], [], .sto 3 (.t 5) (.t 12)⟩,
 ⟨none, none, [], [], .sto 2 (.t 6) (.t 13)⟩,
 ⟨some 7, none, [], [], .mv (.t 14)⟩] (some [1, 2, 4, 5, 6, 7]))
 (.seq
 (.seq
 (.reg [⟨some 15, none, [], [], .mv (.t 7)⟩,
 ⟨some 16, none, [], [], .un .not (.t 15)⟩] (some [1, 2, 4, 5, 6, 16]))
 (.cond (.t 16)
 (.exit 0)
 (.keep [1, 2, 4, 5, 6]
 .skip)))
 (.seq
 (.reg [⟨some 17, none, [], [], .ld true 3 (.t 5)⟩,
 ⟨some 18, none, [], [], .fa 1 (.t 1)⟩,
 ⟨none, none, [], [], .sto 3 (.t 18) (.t 17)⟩] (some [1, 2, 4, 6]))
 (.regD [⟨some 19, none, [(.t 4)], [], .mv (.t 4)⟩,
 ⟨some 20, none, [(.t 6)], [0], .fa 0 (.t 6)⟩,
 ⟨some 21, none, [(.t 20)], [0], .ld false 1 (.t 20)⟩,
 ⟨some 22, none, [(.t 1)], [0, 1, 2], .fa 0 (.t 1)⟩,
 ⟨some 23, none, [(.t 22)], [0, 1, 2], .ld false 1 (.t 22)⟩,
 ⟨some 24, none, [(.t 6)], [0, 1, 2, 3, 4], .fa 0 (.t 6)⟩,
 ⟨some 25, none, [(.t 24)], [0, 1, 2, 3, 4], .ld false 1 (.t 24)⟩,
 ⟨some 26, none, [(.t 6)], [0, 1, 2, 3, 4, 5, 6], .fa 1 (.t 6)⟩,
 ⟨some 27, none, [(.t 26)], [0, 1, 2, 3, 4, 5, 6], .ld false 1 (.t 26)⟩,
 ⟨some 28, none, [(.t 23), (.t 25), (.t 27)], [0, 1, 2], .slL 1 (some (.t 25)) (some (.t 27)) none (.t 23)⟩,
 ⟨some 29, none, [(.k (.fn 68 [])), (.t 28)], [0, 1, 2], .calG [0] (.k (.fn 68 [])) [(.t 28)]⟩,
 ⟨some 30, none, [(.t 21), (.t 29)], [0], .bld [(.sc (.int .i64 0)), .nl] [(0, 1, (.t 21)), (1, 1, (.t 29))]⟩,
 ⟨some 31, none, [(.t 30)], [0], .bsl 1 2 [(.sc (.int .i64 0)), .nl] [(0, 2, (.t 30))]⟩,
 ⟨some 32, none, [(.t 19), (.t 31)], [], .app 2 32 (.t 19) (.t 31)⟩,
 ⟨some 4, none, [(.t 32)], [], .mv (.t 32)⟩] (some [1, 2, 4]))))))))
 (.seq
 (.reg [⟨some 33, none, [], [], .ld true 7 (.t 1)⟩,
 ⟨some 34, none, [], [], .mv (.t 4)⟩,
 ⟨none, none, [], [], .sto 7 (.t 2) (.t 33)⟩,
 ⟨some 3, none, [], [], .mv (.t 34)⟩] (some [2, 3]))
 .ret))))))
theorem b32 : cmpG Try.prog 32 = some (strip a32, r32, 35) := by kernel_rfl

abbrev r33 : List AR := [.c 6 true 7, .t 7]
abbrev a33 : ACode :=
 (.seq
 (.reg [⟨some 3, none, [], [], .box (.t 0)⟩,
 ⟨some 6, none, [], [], .alc [.nl, (.sc (.int .i64 0)), .nl, .nl, (.sc (.bool false)), (.sc (.int .i64 0)), (.sc (.int .i64 0))]⟩,
 ⟨some 7, none, [], [], .mv (.k (.sc (.bool false)))⟩] (some [1, 2, 3, 6]))
 (.seq
 (.reg [⟨some 11, none, [], [], .fa 1 (.t 3)⟩,
 ⟨some 12, none, [], [], .ld true 3 (.t 11)⟩,
 ⟨some 13, none, [], [], .mv (.t 1)⟩,
 ⟨some 14, none, [], [], .mv (.t 2)⟩,
 ⟨some 15, none, [], [], .cal (.k (.fn 71 [])) [(.t 12), (.t 13), (.t 14)]⟩,
 ⟨some 10, none, [], [], .mv (.t 15)⟩,
 ⟨some 16, none, [], [], .ext (.t 10) 0⟩,
 ⟨some 17, none, [], [], .ext (.t 10) 1⟩,
 ⟨some 8, none, [], [], .alc [(.sc (.int .i64 0)), .nl, .nl]⟩,
 ⟨none, none, [], [], .sto 3 (.t 8) (.t 16)⟩,
 ⟨some 9, none, [], [], .mv (.t 17)⟩] (some [3, 6, 8, 9]))
 (.seq
 (.reg [⟨some 18, none, [], [], .ld true 3 (.t 8)⟩,
 ⟨some 19, none, [], [], .fa 1 (.t 3)⟩,
 ⟨none, none, [], [], .sto 3 (.t 19) (.t 18)⟩] (some [3, 6, 9]))
 (.seq
 (.seq
 (.reg [⟨some 20, none, [], [], .mv (.t 9)⟩] none)
 (.cond (.t 20)
 (.keep [3, 6, 9]
 (.reg [⟨some 21, none, [], [], .fa 4 (.t 3)⟩,
 ⟨some 22, none, [], [], .ld true 3 (.t 21)⟩,
 ⟨some 23, none, [], [], .cal (.k (.fn 72 [])) [(.t 22)]⟩,
 ⟨some 24, none, [], [], .fa 4 (.t 3)⟩,
 ⟨none, none, [], [], .sto 3 (.t 24) (.t 23)⟩] (some [3, 6, 9])))
 (.keep [3, 6, 9]
 .skip)))
 (.seq
 (.reg [⟨some 25, none, [], [], .ld true 7 (.t 3)⟩,
 ⟨some 26, none, [], [], .cal (.k (.fn 69 [])) [(.t 25)]⟩,
 ⟨some 27, none, [], [], .mv (.t 9)⟩,
 ⟨none, none, [], [], .sto 7 (.t 6) (.t 26)⟩,
 ⟨some 7, none, [], [], .mv (.t 27)⟩] (some [6, 7]))
 .ret)))))
theorem b33 : cmpG Try.prog 33 = some (strip a33, r33, 28) := by kernel_rfl

abbrev r34 : List AR := [.t 2]
abbrev a34 : ACode :=
 (.seq
 (.reg [⟨some 1, none, [], [], .box (.t 0)⟩,
 ⟨some 2, none, [], [], .mv (.k (.sc (.int .i64 0)))⟩] (some [1]))
 (.seq
 (.reg [⟨some 3, none, [], [], .fa 1 (.t 1)⟩,
 ⟨some 4, none, [], [], .ld true 3 (.t 3)⟩,
 ⟨some 5, none, [], [], .cal (.k (.fn 73 [])) [(.t 4)]⟩,
 ⟨some 2, none, [], [], .mv (.t 5)⟩] (some [2]))
 .ret))
theorem b34 : cmpG Try.prog 34 = some (strip a34, r34, 6) := by kernel_rfl

abbrev r35 : List AR := [.c 2 true 7, .t 3]
abbrev a35 : ACode :=
 (.seq
 (.reg [⟨some 1, none, [], [], .box (.t 0)⟩,
 ⟨some 2, none, [], [], .alc [.nl, (.sc (.int .i64 0)), .nl, .nl, (.sc (.bool false)), (.sc (.int .i64 0)), (.sc (.int .i64 0))]⟩,
 ⟨some 3, none, [], [], .mv (.k (.sc (.bool false)))⟩] (some [1, 2]))
 (.seq
 (.reg [⟨some 7, none, [], [], .fa 4 (.t 1)⟩,
 ⟨some 8, none, [], [], .ld true 3 (.t 7)⟩,
 ⟨some 9, none, [], [], .cal (.k (.fn 74 [])) [(.t 8)]⟩,
 ⟨some 6, none, [], [], .mv (.t 9)⟩,
 ⟨some 10, none, [], [], .ext (.t 6) 0⟩,
 ⟨some 11, none, [], [], .ext (.t 6) 1⟩,
 ⟨some 4, none, [], [], .alc [(.sc (.bool false)), (.sc (.int .i64 0)), (.sc (.int .i64 0))]⟩,
 ⟨none, none, [], [], .sto 3 (.t 4) (.t 10)⟩,
 ⟨some 5, none, [], [], .mv (.t 11)⟩] (some [1, 2, 4, 5]))
 (.seq
 (.reg [⟨some 12, none, [], [], .ld true 3 (.t 4)⟩,
 ⟨some 13, none, [], [], .fa 4 (.t 1)⟩,
 ⟨none, none, [], [], .sto 3 (.t 13) (.t 12)⟩] (some [1, 2, 5]))
 (.seq
 (.seq
 (.reg [⟨some 14, none, [], [], .mv (.t 5)⟩] none)
 (.cond (.t 14)
 (.keep [1, 2, 5]
 (.reg [⟨some 15, none, [], [], .fa 1 (.t 1)⟩,
 ⟨some 16, none, [], [], .ld true 3 (.t 15)⟩,
 ⟨some 17, none, [], [], .cal (.k (.fn 75 [])) [(.t 16)]⟩,
 ⟨some 18, none, [], [], .fa 1 (.t 1)⟩,
 ⟨none, none, [], [], .sto 3 (.t 18) (.t 17)⟩] (some [1, 2, 5])))
 (.keep [1, 2, 5]
 .skip)))
 (.seq
 (.reg [⟨some 19, none, [], [], .ld true 7 (.t 1)⟩,
 ⟨some 20, none, [], [], .mv (.t 5)⟩,
 ⟨none, none, [], [], .sto 7 (.t 2) (.t 19)⟩,
 ⟨some 3, none, [], [], .mv (.t 20)⟩] (some [2, 3]))
 .ret)))))
theorem b35 : cmpG Try.prog 35 = some (strip a35, r35, 21) := by kernel_rfl

abbrev r36 : List AR := [.t 2]
abbrev a36 : ACode :=
 (.seq
 (.reg [⟨some 1, none, [], [], .box (.t 0)⟩,
 ⟨some 2, none, [], [], .mv (.k (.sc (.bool false)))⟩] (some [1]))
 (.seq
 (.reg [⟨some 3, none, [], [], .fa 1 (.t 1)⟩,
 ⟨some 4, none, [], [], .ld true 3 (.t 3)⟩,
 ⟨some 5, none, [], [], .cal (.k (.fn 76 [])) [(.t 4)]⟩,
 ⟨some 2, none, [], [], .mv (.t 5)⟩] (some [2]))
 .ret))
theorem b36 : cmpG Try.prog 36 = some (strip a36, r36, 6) := by kernel_rfl

abbrev r69 : List AR := [.c 2 true 7]
abbrev a69 : ACode :=
 (.seq
 (.reg [⟨some 1, none, [], [], .box (.t 0)⟩,
 ⟨some 2, none, [], [], .alc [.nl, (.sc (.int .i64 0)), .nl, .nl, (.sc (.bool false)), (.sc (.int .i64 0)), (.sc (.int .i64 0))]⟩] (some [1, 2]))
 (.seq
 (.seq
 (.reg [⟨some 3, none, [], [], .fa 1 (.t 1)⟩,
 ⟨some 4, none, [], [], .ld true 3 (.t 3)⟩,
 ⟨some 5, none, [], [], .cal (.k (.fn 76 [])) [(.t 4)]⟩] (some [1, 2, 5]))
 (.cond (.t 5)
 (.keep [1, 2]
 (.reg [⟨some 6, none, [], [], .fa 4 (.t 1)⟩,
 ⟨some 7, none, [], [], .ld true 3 (.t 6)⟩,
 ⟨some 8, none, [], [], .cal (.k (.fn 107 [])) [(.t 7)]⟩,
 ⟨some 9, none, [], [], .fa 4 (.t 1)⟩,
 ⟨none, none, [], [], .sto 3 (.t 9) (.t 8)⟩] (some [1, 2])))
 (.keep [1, 2]
 .skip)))
 (.seq
 (.reg [⟨some 10, none, [], [], .ld true 7 (.t 1)⟩,
 ⟨none, none, [], [], .sto 7 (.t 2) (.t 10)⟩] (some [2]))
 .ret)))
theorem b69 : cmpG Try.prog 69 = some (strip a69, r69, 11) := by kernel_rfl

abbrev r68 : List AR := [.t 2]
abbrev a68 : ACode :=
 (.seq
 (.reg [⟨some 2, none, [], [], .mv (.k .nl)⟩] (some [0]))
 (.seq
 (.seq
 (.reg [⟨some 3, none, [], [], .mv (.t 0)⟩,
 ⟨some 4, none, [], [], .nil true (.t 3) (.k .nl)⟩] (some [0, 4]))
 (.cond (.t 4)
 (.keep []
 (.seq
 (.reg [⟨some 2, none, [], [], .mv (.k .nl)⟩] none)
 .ret))
 (.keep [0]
 .skip)))
 (.seq
 (.reg [⟨some 5, none, [], [], .bsl 0 1 [] []⟩,
 ⟨some 6, none, [], [], .mv (.t 0)⟩,
 ⟨some 7, none, [], [], .app 1 1 (.t 5) (.t 6)⟩,
 ⟨some 2, none, [], [], .mv (.t 7)⟩] (some [2]))
 .ret)))
theorem b68 : cmpG Try.prog 68 = some (strip a68, r68, 8) := by kernel_rfl

abbrev r6 : List AR := [.t 4]
abbrev a6 : ACode :=
 (.seq
 (.reg [⟨some 4, none, [], [], .mv (.k (.sc (.bool false)))⟩] (some [0, 1]))
 (.seq
 (.seq
 (.reg [⟨some 17, none, [], [], .mv (.t 0)⟩,
 ⟨some 18, none, [], [], .lenL (.t 17)⟩,
 ⟨some 19, none, [], [], .bin .gtr false (.t 18) (.k (.sc (.int .i64 8000)))⟩] (some [0, 1, 19]))
 (.cond (.t 19)
 (.keep []
 (.seq
 (.reg [⟨some 20, none, [], [], .cal (.k (.fn 30 [])) []⟩,
 ⟨some 4, none, [], [], .mv (.t 20)⟩] (some [4]))
 .ret))
 (.keep [0, 1]
 .skip)))
 (.seq
 (.reg [⟨some 21, none, [], [], .mv (.t 0)⟩,
 ⟨some 22, none, [], [], .app 1 1 (.k .nl) (.t 21)⟩,
 ⟨some 5, none, [], [], .mv (.t 22)⟩] (some [0, 1, 5]))
 (.seq
 (.reg [⟨some 24, none, [], [], .mv (.t 5)⟩,
 ⟨some 25, none, [], [], .calG [0] (.k (.fn 31 [])) [(.t 24), (.k (.sc (.int .i64 0)))]⟩,
 ⟨some 23, none, [], [], .mv (.t 25)⟩,
 ⟨some 26, none, [], [], .ext (.t 23) 0⟩,
 ⟨some 27, none, [], [], .ext (.t 23) 1⟩,
 ⟨some 6, none, [], [], .alc [.nl, (.sc (.int .i64 0)), .nl, .nl, (.sc (.bool false)), (.sc (.int .i64 0)), (.sc (.int .i64 0))]⟩,
 ⟨none, none, [], [], .sto 7 (.t 6) (.t 26)⟩,
 ⟨some 7, none, [], [], .mv (.t 27)⟩] (some [0, 1, 5, 6, 7]))
 (.seq
 (.seq
 (.reg [⟨some 28, none, [], [], .mv (.t 7)⟩,
 ⟨some 29, none, [], [], .bin .neq false (.t 28) (.k (.sc (.int .i64 0)))⟩] (some [0, 1, 5, 6, 29]))
 (.cond (.t 29)
 (.keep []
 (.seq
 (.reg [⟨some 4, none, [], [], .mv (.k (.sc (.bool false)))⟩] none)
 .ret))
 (.keep [0, 1, 5, 6]
 .skip)))
 (.seq
 (.seq
 (.reg [⟨some 30, none, [], [], .mv (.t 5)⟩,
 ⟨some 31, none, [], [], .lenL (.t 30)⟩,
 ⟨some 32, none, [], [], .mv (.k (.sc (.int .i64 0)))⟩] (some [0, 1, 5, 6, 31, 32]))
 (.block 0
 (.loop
 (.seq
 (.reg [⟨some 33, none, [], [], .bin .lss false (.t 32) (.t 31)⟩] none)
 (.seq
 (.cond (.t 33)
 (.keep [0, 1, 5, 6, 31, 32]
 .skip)
 (.exit 0))
 (.seq
 (.block 1
 (.seq
 (.reg [⟨some 34, none, [], [], .mv (.t 32)⟩,
 ⟨some 8, none, [], [], .mv (.t 34)⟩] (some [0, 1, 5, 6, 8, 31, 32]))
 (.reg [⟨some 35, none, [], [], .mv (.t 5)⟩,
 ⟨some 36, none, [], [], .mv (.t 8)⟩,
 ⟨some 37, none, [], [], .ixaS 1 (.t 35) (.t 36)⟩,
 ⟨some 38, none, [], [], .ld false 1 (.t 37)⟩,
 ⟨some 39, none, [], [], .bin .add false (.t 38) (.k (.sc (.int .u8 1)))⟩,
 ⟨some 40, none, [], [], .ixaS 1 (.t 35) (.t 36)⟩,
 ⟨none, none, [], [], .sto 1 (.t 40) (.t 39)⟩] (some [0, 1, 5, 6, 31, 32]))))
 (.reg [⟨some 41, none, [], [], .bin .add false (.t 32) (.k (.sc (.int .i64 1)))⟩,
 ⟨some 32, none, [], [], .mv (.t 41)⟩] (some [0, 1, 5, 6, 31, 32]))))))))
 (.seq
 (.seq
 (.reg [⟨some 42, none, [], [], .mv (.t 1)⟩,
 ⟨some 43, none, [], [], .mv (.t 1)⟩,
 ⟨some 44, none, [], [], .lenL (.t 43)⟩,
 ⟨some 45, none, [], [], .mn [(.t 44), (.k (.sc (.int .i64 40)))]⟩,
 ⟨some 46, none, [], [], .slL 3 none (some (.t 45)) none (.t 42)⟩,
 ⟨some 47, none, [], [], .lenL (.t 46)⟩,
 ⟨some 48, none, [], [], .mv (.k (.sc (.int .i64 0)))⟩] (some [0, 6, 46, 47, 48]))
 (.block 2
 (.loop
 (.seq
 (.reg [⟨some 49, none, [], [], .bin .lss false (.t 48) (.t 47)⟩] none)
 (.seq
 (.cond (.t 49)
 (.keep [0, 6, 46, 47, 48]
 .skip)
 (.exit 2))
 (.seq
 (.block 3
 (.seq
 (.reg [⟨some 50, none, [], [], .ixaS 3 (.t 46) (.t 48)⟩,
 ⟨some 51, none, [], [], .ld true 3 (.t 50)⟩,
 ⟨some 10, none, [], [], .alc [(.sc (.int .u8 0)), (.sc (.int .i64 0)), .nl]⟩,
 ⟨none, none, [], [], .sto 3 (.t 10) (.t 51)⟩] (some [0, 6, 10, 46, 47, 48]))
 (.seq
 (.reg [⟨some 53, none, [], [], .ld true 7 (.t 6)⟩,
 ⟨some 54, none, [], [], .cal (.k (.fn 32 [])) [(.t 53)]⟩,
 ⟨some 52, none, [], [], .mv (.t 54)⟩,
 ⟨some 55, none, [], [], .ext (.t 52) 0⟩,
 ⟨some 56, none, [], [], .ext (.t 52) 1⟩,
 ⟨some 11, none, [], [], .alc [.nl, (.sc (.int .i64 0)), .nl, .nl, (.sc (.bool false)), (.sc (.int .i64 0)), (.sc (.int .i64 0))]⟩,
 ⟨none, none, [], [], .sto 7 (.t 11) (.t 55)⟩,
 ⟨some 12, none, [], [], .mv (.t 56)⟩] (some [0, 6, 10, 11, 12, 46, 47, 48]))
 (.seq
 (.seq
 (.reg [⟨some 57, none, [], [], .mv (.t 12)⟩,
 ⟨some 58, none, [], [], .lenL (.t 57)⟩,
 ⟨some 59, none, [], [], .bin .gtr false (.t 58) (.k (.sc (.int .i64 8)))⟩,
 ⟨some 60, none, [], [], .mv (.t 59)⟩,
 ⟨some 61, (some (60, false)), [], [], .ld true 7 (.t 11)⟩,
 ⟨some 62, (some (60, false)), [], [], .cal (.k (.fn 38 [])) [(.t 61)]⟩,
 ⟨some 63, (some (60, false)), [], [], .bin .gtr false (.t 62) (.k (.sc (.int .i64 8)))⟩,
 ⟨some 64, none, [], [], .pick (.t 60) (.k (.sc (.bool true))) (.t 63)⟩] (some [0, 6, 10, 11, 12, 46, 47, 48, 64]))
 (.cond (.t 64)
 (.keep []
 (.seq
 (.reg [⟨some 4, none, [], [], .mv (.k (.sc (.bool false)))⟩] none)
 .ret))
 (.keep [0, 6, 10, 11, 12, 46, 47, 48]
 .skip)))
 (.seq
 (.seq
 (.reg [⟨some 65, none, [], [], .mv (.t 12)⟩,
 ⟨some 66, none, [], [], .lenL (.t 65)⟩,
 ⟨some 67, none, [], [], .mv (.k (.sc (.int .i64 0)))⟩] (some [0, 6, 10, 11, 46, 47, 48, 65, 66, 67]))
 (.block 4
 (.loop
 (.seq
 (.reg [⟨some 68, none, [], [], .bin .lss false (.t 67) (.t 66)⟩] none)
 (.seq
 (.cond (.t 68)
 (.keep [0, 6, 10, 11, 46, 47, 48, 65, 66, 67]
 .skip)
 (.exit 4))
 (.seq
 (.block 5
 (.seq
 (.reg [⟨some 69, none, [], [], .ixaS 2 (.t 65) (.t 67)⟩,
 ⟨some 70, none, [], [], .ld true 2 (.t 69)⟩,
 ⟨some 14, none, [], [], .alc [(.sc (.int .i64 0)), .nl]⟩,
 ⟨none, none, [], [], .sto 2 (.t 14) (.t 70)⟩] (some [0, 6, 10, 11, 14, 46, 47, 48, 65, 66, 67]))
 (.seq
 (.regD (⟨some 71, none, [(.t 14)], [], .fa 0 (.t 14)⟩ ::
 ⟨some 72, none, [(.t 71)], [], .ld false 1 (.t 71)⟩ ::
 ⟨some 73, none, [(.t 72), (.k (.sc (.int .i64 0)))], [], .bin .lss false (.t 72) (.k (.sc (.int .i64 0)))⟩ ::
 ⟨some 74, none, [(.t 73)], [], .mv (.t 73)⟩ ::
 ⟨some 75, (some (74, false)), [(.t 14)], [], .fa 0 (.t 14)⟩ ::
 ⟨some 76, (some (74, false)), [(.t 75)], [], .ld false 1 (.t 75)⟩ ::
 ⟨some 77, (some (74, false)), [(.t 14)], [4, 5], .fa 1 (.t 14)⟩ ::
 ⟨some 78, (some (74, false)), [(.t 77)], [4, 5], .ld false 1 (.t 77)⟩ ::
 ⟨some 79, (some (74, false)), [(.t 78)], [4, 5], .lenL (.t 78)⟩ ::
 ⟨some 80, (some (74, false)), [(.t 76), (.t 79)], [], .bin .add false (.t 76) (.t 79)⟩ ::
 ⟨some 81, (some (74, false)), [(.t 0)], [4, 5, 6, 7, 8, 9], .mv (.t 0)⟩ ::
 ⟨some 82, (some (74, false)), [(.t 81)], [4, 5, 6, 7, 8, 9], .lenL (.t 81)⟩ ::
 ⟨some 83, (some (74, false)), [(.t 80), (.t 82)], [], .bin .gtr false (.t 80) (.t 82)⟩ ::
 ⟨some 84, none, [(.t 74), (.k (.sc (.bool true))), (.t 83)], [], .pick (.t 74) (.k (.sc (.bool true))) (.t 83)⟩ ::
 ⟨some 85, none, [(.t 84)], [], .mv (.t 84)⟩ ::
 ⟨some 86, (some (85, false)), [(.t 14)], [], .fa 1 (.t 14)⟩ ::
 ⟨some 87, (some (85, false)), [(.t 86)], [], .ld false 1 (.t 86)⟩ ::
 ⟨some 88, (some (85, false)), [(.t 87)], [], .lenL (.t 87)⟩ ::
 ⟨some 89, (some (85, false)), [(.t 88), (.k (.sc (.int .i64 256)))], [], .bin .gtr false (.t 88) (.k (.sc (.int .i64 256)))⟩ ::
 ⟨some 90, none, [(.t 85), (.k (.sc (.bool true))), (.t 89)], [], .pick (.t 85) (.k (.sc (.bool true))) (.t 89)⟩ ::
 ⟨some 91, none, [(.t 90)], [], .mv (.t 90)⟩ ::
 ⟨some 92, (some (91, false)), [(.t 14)], [], .fa 1 (.t 14)⟩ ::
 ⟨some 93, (some (91, false)), [(.t 92)], [], .ld false 1 (.t 92)⟩ ::
 ⟨some 94, (some (91, false)), [(.t 93)], [], .lenL (.t 93)⟩ ::
 ⟨some 95, (some (91, false)), [(.t 94), (.k (.sc (.int .i64 0)))], [], .bin .eql false (.t 94) (.k (.sc (.int .i64 0)))⟩ ::
 ⟨some 96, none, [(.t 91), (.k (.sc (.bool true))), (.t 95)], [], .pick (.t 91) (.k (.sc (.bool true))) (.t 95)⟩ ::
 ⟨some 97, none, [(.t 96)], [], .mv (.t 96)⟩ ::
 ⟨some 98, (some (97, false)), [(.t 14)], [], .fa 1 (.t 14)⟩ ::
 ⟨some 99, (some (97, false)), [(.t 98)], [], .ld false 1 (.t 98)⟩ ::
 ⟨some 100, (some (97, false)), [(.t 0)], [27, 28], .mv (.t 0)⟩ ::
 ⟨some 101, (some (97, false)), [(.t 14)], [27, 28, 29], .fa 0 (.t 14)⟩ ::
 ⟨some 102, (some (97, false)), [(.t 101)], [27, 28, 29], .ld false 1 (.t 101)⟩ ::
 ⟨some 103, (some (97, false)), [(.t 14)], [27, 28, 29, 30, 31], .fa 0 (.t 14)⟩ ::
 ⟨some 104, (some (97, false)), [(.t 103)], [27, 28, 29, 30, 31], .ld false 1 (.t 103)⟩ ::
 ⟨some 105, (some (97, false)), [(.t 14)], [27, 28, 29, 30, 31, 32, 33], .fa 1 (.t 14)⟩ ::
 ⟨some 106, (some (97, false)), [(.t 105)], [27, 28, 29, 30, 31, 32, 33], .ld false 1 (.t 105)⟩ ::
 ⟨some 107, (some (97, false)), [(.t 106)], [27, 28, 29, 30, 31, 32, 33], .lenL (.t 106)⟩ ::
 ⟨some 108, (some (97, false)), [(.t 104), (.t 107)], [27, 28, 29, 30, 31], .bin .add false (.t 104) (.t 107)⟩ ::
 ⟨some 109, (some (97, false)), [(.t 100), (.t 102), (.t 108)], [27, 28], .slL 1 (some (.t 102)) (some (.t 108)) none (.t 100)⟩ ::
 ⟨some 110, (some (97, false)), [(.k (.fn 22 [])), (.t 99), (.t 109)], [], .cal (.k (.fn 22 [])) [(.t 99), (.t 109)]⟩ ::
 ⟨some 111, (some (97, false)), [(.t 110)], [], .un .not (.t 110)⟩ ::
 ⟨some 112, none, [(.t 97), (.k (.sc (.bool true))), (.t 111)], [], .pick (.t 97) (.k (.sc (.bool true))) (.t 111)⟩ :: []) (some [0, 6, 10, 11, 46, 47, 48, 65, 66, 67, 112]))
 (.cond (.t 112)
 (.keep []
 (.seq
 (.reg [⟨some 4, none, [], [], .mv (.k (.sc (.bool false)))⟩] none)
 .ret))
 (.keep [0, 6, 10, 11, 46, 47, 48, 65, 66, 67]
 .skip)))))
 (.reg [⟨some 113, none, [], [], .bin .add false (.t 67) (.k (.sc (.int .i64 1)))⟩,
 ⟨some 67, none, [], [], .mv (.t 113)⟩] (some [0, 6, 10, 11, 46, 47, 48, 65, 66, 67]))))))))
 (.seq
 (.reg [⟨some 115, none, [], [], .ld true 7 (.t 11)⟩,
 ⟨some 116, none, [], [], .fa 1 (.t 10)⟩,
 ⟨some 117, none, [], [], .ld false 1 (.t 116)⟩,
 ⟨some 118, none, [], [], .cal (.k (.fn 33 [])) [(.t 115), (.t 117), (.k .nl)]⟩,
 ⟨some 114, none, [], [], .mv (.t 118)⟩,
 ⟨some 119, none, [], [], .ext (.t 114) 0⟩,
 ⟨some 120, none, [], [], .ext (.t 114) 1⟩,
 ⟨some 15, none, [], [], .alc [.nl, (.sc (.int .i64 0)), .nl, .nl, (.sc (.bool false)), (.sc (.int .i64 0)), (.sc (.int .i64 0))]⟩,
 ⟨none, none, [], [], .sto 7 (.t 15) (.t 119)⟩,
 ⟨some 16, none, [], [], .mv (.t 120)⟩] (some [0, 6, 15, 46, 47, 48]))
 (.reg [⟨some 122, none, [], [], .ld true 7 (.t 15)⟩,
 ⟨some 123, none, [], [], .cal (.k (.fn 35 [])) [(.t 122)]⟩,
 ⟨some 121, none, [], [], .mv (.t 123)⟩,
 ⟨some 124, none, [], [], .ext (.t 121) 0⟩,
 ⟨some 125, none, [], [], .ext (.t 121) 1⟩,
 ⟨none, none, [], [], .sto 7 (.t 6) (.t 124)⟩] (some [0, 6, 46, 47, 48]))))))))
 (.reg [⟨some 126, none, [], [], .bin .add false (.t 48) (.k (.sc (.int .i64 1)))⟩,
 ⟨some 48, none, [], [], .mv (.t 126)⟩] (some [0, 6, 46, 47, 48]))))))))
 (.seq
 (.reg [⟨some 127, none, [], [], .cal (.k (.fn 30 [])) []⟩,
 ⟨some 4, none, [], [], .mv (.t 127)⟩] (some [4]))
 .ret))))))))
abbrev r22 : List AR := [.t 4]
abbrev a22 : ACode :=
 (.seq
 (.reg [⟨some 4, none, [], [], .mv (.k (.sc (.bool false)))⟩] (some [0, 1]))
 (.seq
 (.seq
 (.reg [⟨some 6, none, [], [], .mv (.t 0)⟩,
 ⟨some 7, none, [], [], .lenL (.t 6)⟩,
 ⟨some 8, none, [], [], .mv (.t 1)⟩,
 ⟨some 9, none, [], [], .lenL (.t 8)⟩,
 ⟨some 10, none, [], [], .bin .neq false (.t 7) (.t 9)⟩] (some [0, 1, 10]))
 (.cond (.t 10)
 (.keep []
 (.seq
 (.reg [⟨some 4, none, [], [], .mv (.k (.sc (.bool false)))⟩] none)
 .ret))
 (.keep [0, 1]
 .skip)))
 (.seq
 (.seq
 (.reg [⟨some 5, none, [], [], .mv (.k (.sc (.int .i64 0)))⟩] (some [0, 1, 5]))
 (.block 0
 (.loop
 (.seq
 (.seq
 (.reg [⟨some 11, none, [], [], .mv (.t 5)⟩,
 ⟨some 12, none, [], [], .mv (.t 0)⟩,
 ⟨some 13, none, [], [], .lenL (.t 12)⟩,
 ⟨some 14, none, [], [], .bin .lss false (.t 11) (.t 13)⟩] (some [0, 1, 5, 14]))
 (.cond (.t 14)
 (.keep [0, 1, 5]
 .skip)
 (.exit 0)))
 (.seq
 (.block 1
 (.seq
 (.regD [⟨some 17, none, [(.t 0)], [], .mv (.t 0)⟩,
 ⟨some 18, none, [(.t 5)], [0], .mv (.t 5)⟩,
 ⟨some 19, none, [(.t 17), (.t 18)], [], .ixaS 1 (.t 17) (.t 18)⟩,
 ⟨some 20, none, [(.t 19)], [], .ld false 1 (.t 19)⟩,
 ⟨some 21, none, [(.t 1)], [0, 1, 2, 3], .mv (.t 1)⟩,
 ⟨some 22, none, [(.t 5)], [0, 1, 2, 3, 4], .mv (.t 5)⟩,
 ⟨some 23, none, [(.t 21), (.t 22)], [0, 1, 2, 3], .ixaS 1 (.t 21) (.t 22)⟩,
 ⟨some 24, none, [(.t 23)], [0, 1, 2, 3], .ld false 1 (.t 23)⟩,
 ⟨some 25, none, [(.t 20), (.t 24)], [], .bin .neq false (.t 20) (.t 24)⟩] (some [0, 1, 5, 25]))
 (.cond (.t 25)
 (.keep []
 (.seq
 (.reg [⟨some 4, none, [], [], .mv (.k (.sc (.bool false)))⟩] none)
 .ret))
 (.keep [0, 1, 5]
 .skip))))
 (.reg [⟨some 15, none, [], [], .mv (.t 5)⟩,
 ⟨some 16, none, [], [], .bin .add false (.t 15) (.k (.sc (.int .i64 1)))⟩,
 ⟨some 5, none, [], [], .mv (.t 16)⟩] (some [0, 1, 5])))))))
 (.seq
 (.reg [⟨some 4, none, [], [], .mv (.k (.sc (.bool true)))⟩] (some [4]))
 .ret))))
theorem b22 : cmpG Try.prog 22 = some (strip a22, r22, 26) := by kernel_rfl


end Go.Proofs.Ytbmdahhhgpbchaa.Cod
