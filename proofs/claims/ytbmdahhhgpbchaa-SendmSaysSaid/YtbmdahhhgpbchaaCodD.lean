import Derived.Test.YtbmdahhhgpbchaaProg
import Derived.Test.YtbmdahhhgpbchaaSimD
import Derived.KernelRfl
namespace Go.Proofs.Ytbmdahhhgpbchaa.Cod
open Go Go.Sim Go.Proofs
set_option maxRecDepth 100000
abbrev r85 : List AR := [.c 2 true 32]
abbrev a85 : ACode :=
 (.seq
 (.reg [⟨some 2, none, [], [], .alc (List.replicate 32 (.sc (.int .u8 0)))⟩] none)
 (.seq
 (.reg [⟨some 4, none, [], [], .cal (.k (.fn 116 [])) []⟩,
 ⟨some 3, none, [], [], .mv (.t 4)⟩] (some [0, 2, 3]))
 (.seq
 (.reg [⟨some 5, none, [], [], .mv (.t 3)⟩,
 ⟨some 6, none, [], [], .mv (.t 0)⟩,
 ⟨some 7, none, [], [], .calM (.k (.fn 117 [])) [(.t 5), (.t 6)]⟩] (some [2, 3]))
 (.seq
 (.reg [⟨some 8, none, [], [], .mv (.t 3)⟩,
 ⟨some 9, none, [], [], .cal (.k (.fn 118 [])) [(.t 8)]⟩,
 ⟨none, none, [], [], .sto 32 (.t 2) (.t 9)⟩] (some [2]))
 .ret))))
theorem b85 : cmpG Try.prog 85 = some (strip a85, r85, 10) := by kernel_rfl

abbrev r116 : List AR := [.t 0]
abbrev a116 : ACode :=
 (.seq
 (.reg [⟨some 0, none, [], [], .mv (.k (.sc (.pointer none)))⟩] (some []))
 (.seq
 (.reg [⟨some 1, none, [], [], .cal (.k (.fn 136 [])) []⟩,
 ⟨some 2, none, [], [], .bld [(.sc (.bool false)), (.sc (.int .u32 0)), (.sc (.int .u32 0)), (.sc (.int .u32 0)), (.sc (.int .u32 0)), (.sc (.int .u32 0)), (.sc (.int .u32 0)), (.sc (.int .u32 0)), (.sc (.int .u32 0)), .nl, (.sc (.int .u64 0))] [(0, 1, (.k (.sc (.bool true)))), (1, 8, (.t 1))]⟩,
 ⟨some 3, none, [], [], .box (.t 2)⟩,
 ⟨some 0, none, [], [], .mv (.t 3)⟩] (some [0]))
 .ret))
theorem b116 : cmpG Try.prog 116 = some (strip a116, r116, 4) := by kernel_rfl

abbrev r117 : List AR := []
abbrev a117 : ACode :=
 (.seq
 (.seq
 (.reg [⟨some 5, none, [], [], .mv (.t 0)⟩,
 ⟨some 6, none, [], [], .cal (.k (.fn 137 [])) [(.t 5)]⟩,
 ⟨some 7, none, [], [], .un .not (.t 6)⟩] (some [0, 1, 7]))
 (.cond (.t 7)
 .ret
 (.keep [0, 1]
 .skip)))
 (.seq
 (.reg [⟨some 8, none, [], [], .mv (.t 0)⟩,
 ⟨some 9, none, [], [], .nck (.t 8)⟩,
 ⟨some 10, none, [], [], .fa 10 (.t 9)⟩,
 ⟨some 11, none, [], [], .ld false 1 (.t 10)⟩,
 ⟨some 12, none, [], [], .mv (.t 1)⟩,
 ⟨some 13, none, [], [], .lenL (.t 12)⟩,
 ⟨some 14, none, [], [], .cvi .u64 (.t 13)⟩,
 ⟨some 15, none, [], [], .bin .add false (.t 11) (.t 14)⟩,
 ⟨some 16, none, [], [], .nck (.t 8)⟩,
 ⟨some 17, none, [], [], .fa 10 (.t 16)⟩,
 ⟨none, none, [], [], .sto 1 (.t 17) (.t 15)⟩] (some [0, 1]))
 (.seq
 (.reg [⟨some 18, none, [], [], .mv (.t 0)⟩,
 ⟨some 19, none, [], [], .nck (.t 18)⟩,
 ⟨some 20, none, [], [], .fa 9 (.t 19)⟩,
 ⟨some 21, none, [], [], .ld false 1 (.t 20)⟩,
 ⟨some 22, none, [], [], .cal (.k (.fn 68 [])) [(.t 21)]⟩,
 ⟨some 23, none, [], [], .mv (.t 1)⟩,
 ⟨some 24, none, [], [], .app 1 1 (.t 22) (.t 23)⟩,
 ⟨some 4, none, [], [], .mv (.t 24)⟩] (some [0, 4]))
 (.seq
 (.block 0
 (.loop
 (.seq
 (.seq
 (.reg [⟨some 25, none, [], [], .mv (.t 4)⟩,
 ⟨some 26, none, [], [], .lenL (.t 25)⟩,
 ⟨some 27, none, [], [], .bin .geq false (.t 26) (.k (.sc (.int .i64 64)))⟩] (some [0, 4, 27]))
 (.cond (.t 27)
 (.keep [0, 4]
 .skip)
 (.exit 0)))
 (.block 1
 (.seq
 (.reg [⟨some 28, none, [], [], .mv (.t 0)⟩,
 ⟨some 29, none, [], [], .mv (.t 0)⟩,
 ⟨some 30, none, [], [], .nck (.t 29)⟩,
 ⟨some 31, none, [], [], .fa 1 (.t 30)⟩,
 ⟨some 32, none, [], [], .ld true 8 (.t 31)⟩,
 ⟨some 33, none, [], [], .mv (.t 4)⟩,
 ⟨some 34, none, [], [], .cal (.k (.fn 138 [])) [(.t 32), (.t 33)]⟩,
 ⟨some 35, none, [], [], .nck (.t 28)⟩,
 ⟨some 36, none, [], [], .fa 1 (.t 35)⟩,
 ⟨none, none, [], [], .sto 8 (.t 36) (.t 34)⟩] (some [0, 4]))
 (.reg [⟨some 37, none, [], [], .mv (.t 4)⟩,
 ⟨some 38, none, [], [], .slL 1 (some (.k (.sc (.int .i64 64)))) none none (.t 37)⟩,
 ⟨some 4, none, [], [], .mv (.t 38)⟩] (some [0, 4])))))))
 (.reg [⟨some 39, none, [], [], .mv (.t 0)⟩,
 ⟨some 40, none, [], [], .mv (.t 4)⟩,
 ⟨some 41, none, [], [], .nck (.t 39)⟩,
 ⟨some 42, none, [], [], .fa 9 (.t 41)⟩,
 ⟨none, none, [], [], .sto 1 (.t 42) (.t 40)⟩] (some []))))))
theorem b117 : cmpG Try.prog 117 = some (strip a117, r117, 43) := by kernel_rfl

abbrev r118 : List AR := [.c 2 true 32]
abbrev a118 : ACode :=
 (.seq
 (.reg [⟨some 2, none, [], [], .alc (List.replicate 32 (.sc (.int .u8 0)))⟩] none)
 (.seq
 (.reg [⟨some 3, none, [], [], .alc (List.replicate 32 (.sc (.int .u8 0)))⟩] none)
 (.seq
 (.seq
 (.reg [⟨some 7, none, [], [], .mv (.t 0)⟩,
 ⟨some 8, none, [], [], .cal (.k (.fn 137 [])) [(.t 7)]⟩,
 ⟨some 9, none, [], [], .un .not (.t 8)⟩] (some [0, 2, 3, 9]))
 (.cond (.t 9)
 (.keep [2, 3]
 (.seq
 (.reg [⟨some 10, none, [], [], .ld true 32 (.t 3)⟩,
 ⟨none, none, [], [], .sto 32 (.t 2) (.t 10)⟩] (some [2]))
 .ret))
 (.keep [0, 2, 3]
 .skip)))
 (.seq
 (.reg [⟨some 11, none, [], [], .mv (.t 0)⟩,
 ⟨some 12, none, [], [], .nck (.t 11)⟩,
 ⟨some 13, none, [], [], .fa 1 (.t 12)⟩,
 ⟨some 14, none, [], [], .ld true 8 (.t 13)⟩,
 ⟨some 4, none, [], [], .alc [(.sc (.int .u32 0)), (.sc (.int .u32 0)), (.sc (.int .u32 0)), (.sc (.int .u32 0)), (.sc (.int .u32 0)), (.sc (.int .u32 0)), (.sc (.int .u32 0)), (.sc (.int .u32 0))]⟩,
 ⟨none, none, [], [], .sto 8 (.t 4) (.t 14)⟩] (some [0, 2, 3, 4]))
 (.seq
 (.seq
 (.reg [⟨some 15, none, [], [], .mv (.t 0)⟩,
 ⟨some 16, none, [], [], .cal (.k (.fn 139 [])) [(.t 15)]⟩,
 ⟨some 5, none, [], [], .mv (.t 16)⟩] (some [2, 3, 4, 5]))
 (.block 0
 (.loop
 (.seq
 (.seq
 (.reg [⟨some 17, none, [], [], .mv (.t 5)⟩,
 ⟨some 18, none, [], [], .lenL (.t 17)⟩,
 ⟨some 19, none, [], [], .bin .gtr false (.t 18) (.k (.sc (.int .i64 0)))⟩] (some [2, 3, 4, 5, 19]))
 (.cond (.t 19)
 (.keep [2, 3, 4, 5]
 .skip)
 (.exit 0)))
 (.seq
 (.block 1
 (.reg [⟨some 22, none, [], [], .ld true 8 (.t 4)⟩,
 ⟨some 23, none, [], [], .mv (.t 5)⟩,
 ⟨some 24, none, [], [], .cal (.k (.fn 138 [])) [(.t 22), (.t 23)]⟩,
 ⟨none, none, [], [], .sto 8 (.t 4) (.t 24)⟩] (some [2, 3, 4, 5])))
 (.reg [⟨some 20, none, [], [], .mv (.t 5)⟩,
 ⟨some 21, none, [], [], .slL 1 (some (.k (.sc (.int .i64 64)))) none none (.t 20)⟩,
 ⟨some 5, none, [], [], .mv (.t 21)⟩] (some [2, 3, 4, 5])))))))
 (.seq
 (.seq
 (.reg [⟨some 25, none, [], [], .mv (.k (.sc (.int .i64 0)))⟩] (some [2, 3, 4, 25]))
 (.block 2
 (.loop
 (.seq
 (.reg [⟨some 26, none, [], [], .bin .lss false (.t 25) (.k (.sc (.int .i64 32)))⟩] none)
 (.seq
 (.cond (.t 26)
 (.keep [2, 3, 4, 25]
 .skip)
 (.exit 2))
 (.seq
 (.block 3
 (.seq
 (.reg [⟨some 27, none, [], [], .mv (.t 25)⟩,
 ⟨some 6, none, [], [], .mv (.t 27)⟩] (some [2, 3, 4, 6, 25]))
 (.reg [⟨some 28, none, [], [], .mv (.t 6)⟩,
 ⟨some 29, none, [], [], .mv (.t 6)⟩,
 ⟨some 30, none, [], [], .bin .quo false (.t 29) (.k (.sc (.int .i64 4)))⟩,
 ⟨some 31, none, [], [], .ixaA 8 1 (.t 4) (.t 30)⟩,
 ⟨some 32, none, [], [], .ld false 1 (.t 31)⟩,
 ⟨some 33, none, [], [], .mv (.t 6)⟩,
 ⟨some 34, none, [], [], .bin .rem false (.t 33) (.k (.sc (.int .i64 4)))⟩,
 ⟨some 35, none, [], [], .bin .sub false (.k (.sc (.int .i64 3))) (.t 34)⟩,
 ⟨some 36, none, [], [], .bin .mul false (.k (.sc (.int .i64 8))) (.t 35)⟩,
 ⟨some 37, none, [], [], .bin .shr false (.t 32) (.t 36)⟩,
 ⟨some 38, none, [], [], .cvi .u8 (.t 37)⟩,
 ⟨some 39, none, [], [], .ixaA 32 1 (.t 3) (.t 28)⟩,
 ⟨none, none, [], [], .sto 1 (.t 39) (.t 38)⟩] (some [2, 3, 4, 25]))))
 (.reg [⟨some 40, none, [], [], .bin .add false (.t 25) (.k (.sc (.int .i64 1)))⟩,
 ⟨some 25, none, [], [], .mv (.t 40)⟩] (some [2, 3, 4, 25]))))))))
 (.seq
 (.reg [⟨some 41, none, [], [], .ld true 32 (.t 3)⟩,
 ⟨none, none, [], [], .sto 32 (.t 2) (.t 41)⟩] (some [2]))
 .ret)))))))
theorem b118 : cmpG Try.prog 118 = some (strip a118, r118, 42) := by kernel_rfl

abbrev r136 : List AR := [.c 0 true 8]
abbrev a136 : ACode :=
 (.seq
 (.reg [⟨some 0, none, [], [], .alc [(.sc (.int .u32 0)), (.sc (.int .u32 0)), (.sc (.int .u32 0)), (.sc (.int .u32 0)), (.sc (.int .u32 0)), (.sc (.int .u32 0)), (.sc (.int .u32 0)), (.sc (.int .u32 0))]⟩] none)
 (.seq
 (.reg [⟨some 1, none, [], [], .bld [(.sc (.int .u32 0)), (.sc (.int .u32 0)), (.sc (.int .u32 0)), (.sc (.int .u32 0)), (.sc (.int .u32 0)), (.sc (.int .u32 0)), (.sc (.int .u32 0)), (.sc (.int .u32 0))] [(0, 1, (.k (.sc (.int .u32 1779033703)))), (1, 1, (.k (.sc (.int .u32 3144134277)))), (2, 1, (.k (.sc (.int .u32 1013904242)))), (3, 1, (.k (.sc (.int .u32 2773480762)))), (4, 1, (.k (.sc (.int .u32 1359893119)))), (5, 1, (.k (.sc (.int .u32 2600822924)))), (6, 1, (.k (.sc (.int .u32 528734635)))), (7, 1, (.k (.sc (.int .u32 1541459225))))]⟩,
 ⟨none, none, [], [], .sto 8 (.t 0) (.t 1)⟩] (some [0]))
 .ret))
theorem b136 : cmpG Try.prog 136 = some (strip a136, r136, 2) := by kernel_rfl

abbrev r137 : List AR := [.t 2]
abbrev a137 : ACode :=
 (.seq
 (.reg [⟨some 2, none, [], [], .mv (.k (.sc (.bool false)))⟩] (some [0]))
 (.seq
 (.reg [⟨some 3, none, [], [], .mv (.t 0)⟩,
 ⟨some 4, none, [], [], .pnil false (.t 3)⟩,
 ⟨some 5, none, [], [], .mv (.t 4)⟩,
 ⟨some 6, (some (5, true)), [], [], .mv (.t 0)⟩,
 ⟨some 7, (some (5, true)), [], [], .nck (.t 6)⟩,
 ⟨some 8, (some (5, true)), [], [], .fa 0 (.t 7)⟩,
 ⟨some 9, (some (5, true)), [], [], .ld false 1 (.t 8)⟩,
 ⟨some 10, none, [], [], .pick (.t 5) (.t 9) (.k (.sc (.bool false)))⟩,
 ⟨some 2, none, [], [], .mv (.t 10)⟩] (some [2]))
 .ret))
theorem b137 : cmpG Try.prog 137 = some (strip a137, r137, 11) := by kernel_rfl

abbrev r138 : List AR := [.c 4 true 8]
abbrev a138 : ACode :=
 (.seq
 (.reg [⟨some 2, none, [], [], .box (.t 0)⟩,
 ⟨some 4, none, [], [], .alc [(.sc (.int .u32 0)), (.sc (.int .u32 0)), (.sc (.int .u32 0)), (.sc (.int .u32 0)), (.sc (.int .u32 0)), (.sc (.int .u32 0)), (.sc (.int .u32 0)), (.sc (.int .u32 0))]⟩] (some [1, 2, 4]))
 (.seq
 (.regD [⟨some 10, none, [(.t 2)], [], .ld true 8 (.t 2)⟩,
 ⟨some 11, none, [(.k (.fn 144 []))], [0], .cal (.k (.fn 144 [])) []⟩,
 ⟨some 12, none, [(.t 1)], [0, 1], .mv (.t 1)⟩,
 ⟨some 13, none, [(.k (.fn 145 [])), (.t 12)], [0], .cal (.k (.fn 145 [])) [(.t 12)]⟩,
 ⟨some 5, none, [], [0, 1, 2, 3], .alc [(.sc (.int .u32 0)), (.sc (.int .u32 0)), (.sc (.int .u32 0)), (.sc (.int .u32 0)), (.sc (.int .u32 0)), (.sc (.int .u32 0)), (.sc (.int .u32 0)), (.sc (.int .u32 0))]⟩,
 ⟨some 6, none, [], [0, 1, 2, 3, 4], .alc (List.replicate 64 (.sc (.int .u32 0)))⟩,
 ⟨some 7, none, [], [0, 1, 2, 3, 4, 5], .alc (List.replicate 64 (.sc (.int .u32 0)))⟩,
 ⟨none, none, [(.t 5), (.t 10)], [], .sto 8 (.t 5) (.t 10)⟩,
 ⟨none, none, [(.t 6), (.t 11)], [], .sto 64 (.t 6) (.t 11)⟩,
 ⟨none, none, [(.t 7), (.t 13)], [], .sto 64 (.t 7) (.t 13)⟩] (some [2, 4, 5, 6, 7]))
 (.seq
 (.seq
 (.reg [⟨some 14, none, [], [], .mv (.k (.sc (.int .i64 0)))⟩] none)
 (.block 0
 (.loop
 (.seq
 (.reg [⟨some 15, none, [], [], .bin .lss false (.t 14) (.k (.sc (.int .i64 64)))⟩] none)
 (.seq
 (.cond (.t 15)
 (.keep [2, 4, 5, 6, 7, 14]
 .skip)
 (.exit 0))
 (.seq
 (.block 1
 (.seq
 (.reg [⟨some 16, none, [], [], .mv (.t 14)⟩,
 ⟨some 8, none, [], [], .mv (.t 16)⟩] (some [2, 4, 5, 6, 7, 8, 14]))
 (.regD [⟨some 17, none, [(.t 5)], [], .ld true 8 (.t 5)⟩,
 ⟨some 18, none, [(.t 8)], [0], .mv (.t 8)⟩,
 ⟨some 19, none, [(.t 6), (.t 18)], [0], .ixaA 64 1 (.t 6) (.t 18)⟩,
 ⟨some 20, none, [(.t 19)], [0], .ld false 1 (.t 19)⟩,
 ⟨some 21, none, [(.t 8)], [0, 1, 2, 3], .mv (.t 8)⟩,
 ⟨some 22, none, [(.t 7), (.t 21)], [0, 1, 2, 3], .ixaA 64 1 (.t 7) (.t 21)⟩,
 ⟨some 23, none, [(.t 22)], [0, 1, 2, 3], .ld false 1 (.t 22)⟩,
 ⟨some 24, none, [(.k (.fn 146 [])), (.t 17), (.t 20), (.t 23)], [], .cal (.k (.fn 146 [])) [(.t 17), (.t 20), (.t 23)]⟩,
 ⟨none, none, [(.t 5), (.t 24)], [], .sto 8 (.t 5) (.t 24)⟩] (some [2, 4, 5, 6, 7, 14]))))
 (.reg [⟨some 25, none, [], [], .bin .add false (.t 14) (.k (.sc (.int .i64 1)))⟩,
 ⟨some 14, none, [], [], .mv (.t 25)⟩] (some [2, 4, 5, 6, 7, 14]))))))))
 (.seq
 (.seq
 (.reg [⟨some 26, none, [], [], .mv (.k (.sc (.int .i64 0)))⟩] (some [2, 4, 5, 26]))
 (.block 2
 (.loop
 (.seq
 (.reg [⟨some 27, none, [], [], .bin .lss false (.t 26) (.k (.sc (.int .i64 8)))⟩] none)
 (.seq
 (.cond (.t 27)
 (.keep [2, 4, 5, 26]
 .skip)
 (.exit 2))
 (.seq
 (.block 3
 (.seq
 (.reg [⟨some 28, none, [], [], .mv (.t 26)⟩,
 ⟨some 9, none, [], [], .mv (.t 28)⟩] (some [2, 4, 5, 9, 26]))
 (.regD [⟨some 29, none, [(.t 9)], [], .mv (.t 9)⟩,
 ⟨some 30, none, [(.t 5), (.t 29)], [], .ixaA 8 1 (.t 5) (.t 29)⟩,
 ⟨some 31, none, [(.t 30)], [], .ld false 1 (.t 30)⟩,
 ⟨some 32, none, [(.t 9)], [0, 1, 2], .mv (.t 9)⟩,
 ⟨some 33, none, [(.t 2), (.t 32)], [0, 1, 2], .ixaA 8 1 (.t 2) (.t 32)⟩,
 ⟨some 34, none, [(.t 33)], [0, 1, 2], .ld false 1 (.t 33)⟩,
 ⟨some 35, none, [(.t 31), (.t 34)], [], .bin .add false (.t 31) (.t 34)⟩,
 ⟨some 36, none, [(.t 5), (.t 29)], [], .ixaA 8 1 (.t 5) (.t 29)⟩,
 ⟨none, none, [(.t 36), (.t 35)], [], .sto 1 (.t 36) (.t 35)⟩] (some [2, 4, 5, 26]))))
 (.reg [⟨some 37, none, [], [], .bin .add false (.t 26) (.k (.sc (.int .i64 1)))⟩,
 ⟨some 26, none, [], [], .mv (.t 37)⟩] (some [2, 4, 5, 26]))))))))
 (.seq
 (.reg [⟨some 38, none, [], [], .ld true 8 (.t 5)⟩,
 ⟨none, none, [], [], .sto 8 (.t 4) (.t 38)⟩] (some [4]))
 .ret)))))
theorem b138 : cmpG Try.prog 138 = some (strip a138, r138, 39) := by kernel_rfl

abbrev r139 : List AR := [.t 2]
abbrev a139 : ACode :=
 (.seq
 (.reg [⟨some 2, none, [], [], .mv (.k .nl)⟩] (some [0]))
 (.seq
 (.reg [⟨some 5, none, [], [], .mv (.t 0)⟩,
 ⟨some 6, none, [], [], .nck (.t 5)⟩,
 ⟨some 7, none, [], [], .fa 9 (.t 6)⟩,
 ⟨some 8, none, [], [], .ld false 1 (.t 7)⟩,
 ⟨some 9, none, [], [], .cal (.k (.fn 68 [])) [(.t 8)]⟩,
 ⟨some 10, none, [], [], .bsl 1 1 [(.sc (.int .u8 0))] [(0, 1, (.k (.sc (.int .u8 128))))]⟩,
 ⟨some 11, none, [], [], .app 1 1 (.t 9) (.t 10)⟩,
 ⟨some 3, none, [], [], .mv (.t 11)⟩] (some [0, 3]))
 (.seq
 (.block 0
 (.loop
 (.seq
 (.seq
 (.reg [⟨some 12, none, [], [], .mv (.t 3)⟩,
 ⟨some 13, none, [], [], .lenL (.t 12)⟩,
 ⟨some 14, none, [], [], .bin .rem false (.t 13) (.k (.sc (.int .i64 64)))⟩,
 ⟨some 15, none, [], [], .bin .neq false (.t 14) (.k (.sc (.int .i64 56)))⟩] (some [0, 3, 15]))
 (.cond (.t 15)
 (.keep [0, 3]
 .skip)
 (.exit 0)))
 (.block 1
 (.reg [⟨some 16, none, [], [], .mv (.t 3)⟩,
 ⟨some 17, none, [], [], .bsl 1 1 [(.sc (.int .u8 0))] [(0, 1, (.k (.sc (.int .u8 0))))]⟩,
 ⟨some 18, none, [], [], .app 1 1 (.t 16) (.t 17)⟩,
 ⟨some 3, none, [], [], .mv (.t 18)⟩] (some [0, 3]))))))
 (.seq
 (.seq
 (.reg [⟨some 19, none, [], [], .mv (.k (.sc (.int .i64 0)))⟩] none)
 (.block 2
 (.loop
 (.seq
 (.reg [⟨some 20, none, [], [], .bin .lss false (.t 19) (.k (.sc (.int .i64 8)))⟩] none)
 (.seq
 (.cond (.t 20)
 (.keep [0, 3, 19]
 .skip)
 (.exit 2))
 (.seq
 (.block 3
 (.seq
 (.reg [⟨some 21, none, [], [], .mv (.t 19)⟩,
 ⟨some 4, none, [], [], .mv (.t 21)⟩] (some [0, 3, 4, 19]))
 (.reg [⟨some 22, none, [], [], .mv (.t 3)⟩,
 ⟨some 23, none, [], [], .mv (.t 0)⟩,
 ⟨some 24, none, [], [], .nck (.t 23)⟩,
 ⟨some 25, none, [], [], .fa 10 (.t 24)⟩,
 ⟨some 26, none, [], [], .ld false 1 (.t 25)⟩,
 ⟨some 27, none, [], [], .bin .mul false (.t 26) (.k (.sc (.int .u64 8)))⟩,
 ⟨some 28, none, [], [], .mv (.t 4)⟩,
 ⟨some 29, none, [], [], .bin .sub false (.k (.sc (.int .i64 7))) (.t 28)⟩,
 ⟨some 30, none, [], [], .bin .mul false (.k (.sc (.int .i64 8))) (.t 29)⟩,
 ⟨some 31, none, [], [], .bin .shr false (.t 27) (.t 30)⟩,
 ⟨some 32, none, [], [], .cvi .u8 (.t 31)⟩,
 ⟨some 33, none, [], [], .bsl 1 1 [(.sc (.int .u8 0))] [(0, 1, (.t 32))]⟩,
 ⟨some 34, none, [], [], .app 1 1 (.t 22) (.t 33)⟩,
 ⟨some 3, none, [], [], .mv (.t 34)⟩] (some [0, 3, 19]))))
 (.reg [⟨some 35, none, [], [], .bin .add false (.t 19) (.k (.sc (.int .i64 1)))⟩,
 ⟨some 19, none, [], [], .mv (.t 35)⟩] (some [0, 3, 19]))))))))
 (.seq
 (.reg [⟨some 36, none, [], [], .mv (.t 3)⟩,
 ⟨some 2, none, [], [], .mv (.t 36)⟩] (some [2]))
 .ret)))))
theorem b139 : cmpG Try.prog 139 = some (strip a139, r139, 37) := by kernel_rfl

abbrev r144 : List AR := [.c 0 true 64]
abbrev a144 : ACode :=
 (.seq
 (.reg [⟨some 0, none, [], [], .alc (List.replicate 64 (.sc (.int .u32 0)))⟩] none)
 (.seq
 (.reg [⟨some 1, none, [], [], .bld (.sc (.int .u32 0) :: .sc (.int .u32 0) :: .sc (.int .u32 0) :: .sc (.int .u32 0) :: .sc (.int .u32 0) :: .sc (.int .u32 0) :: .sc (.int .u32 0) :: .sc (.int .u32 0) :: .sc (.int .u32 0) :: .sc (.int .u32 0) :: .sc (.int .u32 0) :: .sc (.int .u32 0) :: .sc (.int .u32 0) :: .sc (.int .u32 0) :: .sc (.int .u32 0) :: .sc (.int .u32 0) :: .sc (.int .u32 0) :: .sc (.int .u32 0) :: .sc (.int .u32 0) :: .sc (.int .u32 0) :: .sc (.int .u32 0) :: .sc (.int .u32 0) :: .sc (.int .u32 0) :: .sc (.int .u32 0) :: .sc (.int .u32 0) :: .sc (.int .u32 0) :: .sc (.int .u32 0) :: .sc (.int .u32 0) :: .sc (.int .u32 0) :: .sc (.int .u32 0) :: .sc (.int .u32 0) :: .sc (.int .u32 0) :: .sc (.int .u32 0) :: .sc (.int .u32 0) :: .sc (.int .u32 0) :: .sc (.int .u32 0) :: .sc (.int .u32 0) :: .sc (.int .u32 0) :: .sc (.int .u32 0) :: .sc (.int .u32 0) :: .sc (.int .u32 0) :: .sc (.int .u32 0) :: .sc (.int .u32 0) :: .sc (.int .u32 0) :: .sc (.int .u32 0) :: .sc (.int .u32 0) :: .sc (.int .u32 0) :: .sc (.int .u32 0) :: .sc (.int .u32 0) :: .sc (.int .u32 0) :: .sc (.int .u32 0) :: .sc (.int .u32 0) :: .sc (.int .u32 0) :: .sc (.int .u32 0) :: .sc (.int .u32 0) :: .sc (.int .u32 0) :: .sc (.int .u32 0) :: .sc (.int .u32 0) :: .sc (.int .u32 0) :: .sc (.int .u32 0) :: .sc (.int .u32 0) :: .sc (.int .u32 0) :: .sc (.int .u32 0) :: .sc (.int .u32 0) :: []) ((0, 1, (.k (.sc (.int .u32 1116352408)))) :: (1, 1, (.k (.sc (.int .u32 1899447441)))) :: (2, 1, (.k (.sc (.int .u32 3049323471)))) :: (3, 1, (.k (.sc (.int .u32 3921009573)))) :: (4, 1, (.k (.sc (.int .u32 961987163)))) :: (5, 1, (.k (.sc (.int .u32 1508970993)))) :: (6, 1, (.k (.sc (.int .u32 2453635748)))) :: (7, 1, (.k (.sc (.int .u32 2870763221)))) :: (8, 1, (.k (.sc (.int .u32 3624381080)))) :: (9, 1, (.k (.sc (.int .u32 310598401)))) :: (10, 1, (.k (.sc (.int .u32 607225278)))) :: (11, 1, (.k (.sc (.int .u32 1426881987)))) :: (12, 1, (.k (.sc (.int .u32 1925078388)))) :: (13, 1, (.k (.sc (.int .u32 2162078206)))) :: (14, 1, (.k (.sc (.int .u32 2614888103)))) :: (15, 1, (.k (.sc (.int .u32 3248222580)))) :: (16, 1, (.k (.sc (.int .u32 3835390401)))) :: (17, 1, (.k (.sc (.int .u32 4022224774)))) :: (18, 1, (.k (.sc (.int .u32 264347078)))) :: (19, 1, (.k (.sc (.int .u32 604807628)))) :: (20, 1, (.k (.sc (.int .u32 770255983)))) :: (21, 1, (.k (.sc (.int .u32 1249150122)))) :: (22, 1, (.k (.sc (.int .u32 1555081692)))) :: (23, 1, (.k (.sc (.int .u32 1996064986)))) :: (24, 1, (.k (.sc (.int .u32 2554220882)))) :: (25, 1, (.k (.sc (.int .u32 2821834349)))) :: (26, 1, (.k (.sc (.int .u32 2952996808)))) :: (27, 1, (.k (.sc (.int .u32 3210313671)))) :: (28, 1, (.k (.sc (.int .u32 3336571891)))) :: (29, 1, (.k (.sc (.int .u32 3584528711)))) :: (30, 1, (.k (.sc (.int .u32 113926993)))) :: (31, 1, (.k (.sc (.int .u32 338241895)))) :: (32, 1, (.k (.sc (.int .u32 666307205)))) :: (33, 1, (.k (.sc (.int .u32 773529912)))) :: (34, 1, (.k (.sc (.int .u32 1294757372)))) :: (35, 1, (.k (.sc (.int .u32 1396182291)))) :: (36, 1, (.k (.sc (.int .u32 1695183700)))) :: (37, 1, (.k (.sc (.int .u32 1986661051)))) :: (38, 1, (.k (.sc (.int .u32 2177026350)))) :: (39, 1, (.k (.sc (.int .u32 2456956037)))) :: (40, 1, (.k (.sc (.int .u32 2730485921)))) :: (41, 1, (.k (.sc (.int .u32 2820302411)))) :: (42, 1, (.k (.sc (.int .u32 3259730800)))) :: (43, 1, (.k (.sc (.int .u32 3345764771)))) :: (44, 1, (.k (.sc (.int .u32 3516065817)))) :: (45, 1, (.k (.sc (.int .u32 3600352804)))) :: (46, 1, (.k (.sc (.int .u32 4094571909)))) :: (47, 1, (.k (.sc (.int .u32 275423344)))) :: (48, 1, (.k (.sc (.int .u32 430227734)))) :: (49, 1, (.k (.sc (.int .u32 506948616)))) :: (50, 1, (.k (.sc (.int .u32 659060556)))) :: (51, 1, (.k (.sc (.int .u32 883997877)))) :: (52, 1, (.k (.sc (.int .u32 958139571)))) :: (53, 1, (.k (.sc (.int .u32 1322822218)))) :: (54, 1, (.k (.sc (.int .u32 1537002063)))) :: (55, 1, (.k (.sc (.int .u32 1747873779)))) :: (56, 1, (.k (.sc (.int .u32 1955562222)))) :: (57, 1, (.k (.sc (.int .u32 2024104815)))) :: (58, 1, (.k (.sc (.int .u32 2227730452)))) :: (59, 1, (.k (.sc (.int .u32 2361852424)))) :: (60, 1, (.k (.sc (.int .u32 2428436474)))) :: (61, 1, (.k (.sc (.int .u32 2756734187)))) :: (62, 1, (.k (.sc (.int .u32 3204031479)))) :: (63, 1, (.k (.sc (.int .u32 3329325298)))) :: [])⟩,
 ⟨none, none, [], [], .sto 64 (.t 0) (.t 1)⟩] (some [0]))
 .ret))
theorem b144 : cmpG Try.prog 144 = some (strip a144, r144, 2) := by kernel_rfl

abbrev r145 : List AR := [.c 2 true 64]
abbrev a145 : ACode :=
 (.seq
 (.reg [⟨some 2, none, [], [], .alc (List.replicate 64 (.sc (.int .u32 0)))⟩] none)
 (.seq
 (.reg [⟨some 3, none, [], [], .alc (List.replicate 64 (.sc (.int .u32 0)))⟩] none)
 (.seq
 (.seq
 (.reg [⟨some 10, none, [], [], .mv (.t 0)⟩,
 ⟨some 11, none, [], [], .slL 1 none (some (.k (.sc (.int .i64 64)))) none (.t 10)⟩,
 ⟨some 12, none, [], [], .lenL (.t 11)⟩,
 ⟨some 13, none, [], [], .mv (.k (.sc (.int .i64 0)))⟩] (some [0, 2, 3, 12, 13]))
 (.block 0
 (.loop
 (.seq
 (.reg [⟨some 14, none, [], [], .bin .lss false (.t 13) (.t 12)⟩] none)
 (.seq
 (.cond (.t 14)
 (.keep [0, 2, 3, 12, 13]
 .skip)
 (.exit 0))
 (.seq
 (.block 1
 (.seq
 (.reg [⟨some 15, none, [], [], .mv (.t 13)⟩,
 ⟨some 4, none, [], [], .mv (.t 15)⟩] (some [0, 2, 3, 4, 12, 13]))
 (.regD [⟨some 16, none, [(.t 4)], [], .mv (.t 4)⟩,
 ⟨some 17, none, [(.t 16), (.k (.sc (.int .i64 4)))], [], .bin .quo false (.t 16) (.k (.sc (.int .i64 4)))⟩,
 ⟨some 18, none, [(.t 4)], [0, 1], .mv (.t 4)⟩,
 ⟨some 19, none, [(.t 18), (.k (.sc (.int .i64 4)))], [0, 1], .bin .quo false (.t 18) (.k (.sc (.int .i64 4)))⟩,
 ⟨some 20, none, [(.t 3), (.t 19)], [0, 1], .ixaA 64 1 (.t 3) (.t 19)⟩,
 ⟨some 21, none, [(.t 20)], [0, 1], .ld false 1 (.t 20)⟩,
 ⟨some 22, none, [(.t 21), (.k (.sc (.int .u64 8)))], [0, 1], .bin .shl false (.t 21) (.k (.sc (.int .u64 8)))⟩,
 ⟨some 23, none, [(.t 0)], [0, 1, 2, 3, 4, 5, 6], .mv (.t 0)⟩,
 ⟨some 24, none, [(.t 4)], [0, 1, 2, 3, 4, 5, 6, 7], .mv (.t 4)⟩,
 ⟨some 25, none, [(.t 23), (.t 24)], [0, 1, 2, 3, 4, 5, 6], .ixaS 1 (.t 23) (.t 24)⟩,
 ⟨some 26, none, [(.t 25)], [0, 1, 2, 3, 4, 5, 6], .ld false 1 (.t 25)⟩,
 ⟨some 27, none, [(.t 26)], [0, 1, 2, 3, 4, 5, 6], .cvi .u32 (.t 26)⟩,
 ⟨some 28, none, [(.t 22), (.t 27)], [0, 1], .bin .or false (.t 22) (.t 27)⟩,
 ⟨some 29, none, [(.t 3), (.t 17)], [], .ixaA 64 1 (.t 3) (.t 17)⟩,
 ⟨none, none, [(.t 29), (.t 28)], [], .sto 1 (.t 29) (.t 28)⟩] (some [0, 2, 3, 12, 13]))))
 (.reg [⟨some 30, none, [], [], .bin .add false (.t 13) (.k (.sc (.int .i64 1)))⟩,
 ⟨some 13, none, [], [], .mv (.t 30)⟩] (some [0, 2, 3, 12, 13]))))))))
 (.seq
 (.seq
 (.reg [⟨some 5, none, [], [], .mv (.k (.sc (.int .i64 16)))⟩] (some [2, 3, 5]))
 (.block 2
 (.loop
 (.seq
 (.seq
 (.reg [⟨some 31, none, [], [], .mv (.t 5)⟩,
 ⟨some 32, none, [], [], .bin .lss false (.t 31) (.k (.sc (.int .i64 64)))⟩] (some [2, 3, 5, 32]))
 (.cond (.t 32)
 (.keep [2, 3, 5]
 .skip)
 (.exit 2)))
 (.seq
 (.block 3
 (.seq
 (.regD [⟨some 35, none, [(.t 5)], [], .mv (.t 5)⟩,
 ⟨some 36, none, [(.t 35), (.k (.sc (.int .i64 15)))], [], .bin .sub false (.t 35) (.k (.sc (.int .i64 15)))⟩,
 ⟨some 37, none, [(.t 3), (.t 36)], [], .ixaA 64 1 (.t 3) (.t 36)⟩,
 ⟨some 38, none, [(.t 37)], [], .ld false 1 (.t 37)⟩,
 ⟨some 39, none, [(.t 5)], [0, 1, 2, 3], .mv (.t 5)⟩,
 ⟨some 40, none, [(.t 39), (.k (.sc (.int .i64 2)))], [0, 1, 2, 3], .bin .sub false (.t 39) (.k (.sc (.int .i64 2)))⟩,
 ⟨some 41, none, [(.t 3), (.t 40)], [0, 1, 2, 3], .ixaA 64 1 (.t 3) (.t 40)⟩,
 ⟨some 42, none, [(.t 41)], [0, 1, 2, 3], .ld false 1 (.t 41)⟩,
 ⟨some 6, none, [(.t 38)], [4, 5, 6, 7], .mv (.t 38)⟩,
 ⟨some 7, none, [(.t 42)], [], .mv (.t 42)⟩] (some [2, 3, 5, 6, 7]))
 (.seq
 (.reg [⟨some 43, none, [], [], .mv (.t 6)⟩,
 ⟨some 44, none, [], [], .cal (.k (.fn 150 [])) [(.t 43), (.k (.sc (.int .i64 7)))]⟩,
 ⟨some 45, none, [], [], .mv (.t 6)⟩,
 ⟨some 46, none, [], [], .cal (.k (.fn 150 [])) [(.t 45), (.k (.sc (.int .i64 18)))]⟩,
 ⟨some 47, none, [], [], .bin .xor false (.t 44) (.t 46)⟩,
 ⟨some 48, none, [], [], .mv (.t 6)⟩,
 ⟨some 49, none, [], [], .bin .shr false (.t 48) (.k (.sc (.int .u64 3)))⟩,
 ⟨some 50, none, [], [], .bin .xor false (.t 47) (.t 49)⟩,
 ⟨some 8, none, [], [], .mv (.t 50)⟩] (some [2, 3, 5, 7, 8]))
 (.seq
 (.reg [⟨some 51, none, [], [], .mv (.t 7)⟩,
 ⟨some 52, none, [], [], .cal (.k (.fn 150 [])) [(.t 51), (.k (.sc (.int .i64 17)))]⟩,
 ⟨some 53, none, [], [], .mv (.t 7)⟩,
 ⟨some 54, none, [], [], .cal (.k (.fn 150 [])) [(.t 53), (.k (.sc (.int .i64 19)))]⟩,
 ⟨some 55, none, [], [], .bin .xor false (.t 52) (.t 54)⟩,
 ⟨some 56, none, [], [], .mv (.t 7)⟩,
 ⟨some 57, none, [], [], .bin .shr false (.t 56) (.k (.sc (.int .u64 10)))⟩,
 ⟨some 58, none, [], [], .bin .xor false (.t 55) (.t 57)⟩,
 ⟨some 9, none, [], [], .mv (.t 58)⟩] (some [2, 3, 5, 8, 9]))
 (.regD [⟨some 59, none, [(.t 5)], [], .mv (.t 5)⟩,
 ⟨some 60, none, [(.t 5)], [0], .mv (.t 5)⟩,
 ⟨some 61, none, [(.t 60), (.k (.sc (.int .i64 16)))], [0], .bin .sub false (.t 60) (.k (.sc (.int .i64 16)))⟩,
 ⟨some 62, none, [(.t 3), (.t 61)], [0], .ixaA 64 1 (.t 3) (.t 61)⟩,
 ⟨some 63, none, [(.t 62)], [0], .ld false 1 (.t 62)⟩,
 ⟨some 64, none, [(.t 8)], [0, 1, 2, 3, 4], .mv (.t 8)⟩,
 ⟨some 65, none, [(.t 63), (.t 64)], [0], .bin .add false (.t 63) (.t 64)⟩,
 ⟨some 66, none, [(.t 5)], [0, 1, 2, 3, 4, 5, 6], .mv (.t 5)⟩,
 ⟨some 67, none, [(.t 66), (.k (.sc (.int .i64 7)))], [0, 1, 2, 3, 4, 5, 6], .bin .sub false (.t 66) (.k (.sc (.int .i64 7)))⟩,
 ⟨some 68, none, [(.t 3), (.t 67)], [0, 1, 2, 3, 4, 5, 6], .ixaA 64 1 (.t 3) (.t 67)⟩,
 ⟨some 69, none, [(.t 68)], [0, 1, 2, 3, 4, 5, 6], .ld false 1 (.t 68)⟩,
 ⟨some 70, none, [(.t 65), (.t 69)], [0], .bin .add false (.t 65) (.t 69)⟩,
 ⟨some 71, none, [(.t 9)], [0, 1, 2, 3, 4, 5, 6, 7, 8, 9, 10, 11], .mv (.t 9)⟩,
 ⟨some 72, none, [(.t 70), (.t 71)], [0], .bin .add false (.t 70) (.t 71)⟩,
 ⟨some 73, none, [(.t 3), (.t 59)], [], .ixaA 64 1 (.t 3) (.t 59)⟩,
 ⟨none, none, [(.t 73), (.t 72)], [], .sto 1 (.t 73) (.t 72)⟩] (some [2, 3, 5]))))))
 (.reg [⟨some 33, none, [], [], .mv (.t 5)⟩,
 ⟨some 34, none, [], [], .bin .add false (.t 33) (.k (.sc (.int .i64 1)))⟩,
 ⟨some 5, none, [], [], .mv (.t 34)⟩] (some [2, 3, 5])))))))
 (.seq
 (.reg [⟨some 74, none, [], [], .ld true 64 (.t 3)⟩,
 ⟨none, none, [], [], .sto 64 (.t 2) (.t 74)⟩] (some [2]))
 .ret)))))
theorem b145 : cmpG Try.prog 145 = some (strip a145, r145, 75) := by kernel_rfl

abbrev r146 : List AR := [.c 6 true 8]
abbrev a146 : ACode :=
 (.seq
 (.reg [⟨some 3, none, [], [], .box (.t 0)⟩,
 ⟨some 6, none, [], [], .alc [(.sc (.int .u32 0)), (.sc (.int .u32 0)), (.sc (.int .u32 0)), (.sc (.int .u32 0)), (.sc (.int .u32 0)), (.sc (.int .u32 0)), (.sc (.int .u32 0)), (.sc (.int .u32 0))]⟩] (some [1, 2, 3, 6]))
 (.seq
 (.regD (⟨some 17, none, [(.t 3), (.k (.sc (.int .i64 0)))], [], .ixaA 8 1 (.t 3) (.k (.sc (.int .i64 0)))⟩ ::
 ⟨some 18, none, [(.t 17)], [], .ld false 1 (.t 17)⟩ ::
 ⟨some 19, none, [(.t 3), (.k (.sc (.int .i64 1)))], [0, 1], .ixaA 8 1 (.t 3) (.k (.sc (.int .i64 1)))⟩ ::
 ⟨some 20, none, [(.t 19)], [0, 1], .ld false 1 (.t 19)⟩ ::
 ⟨some 21, none, [(.t 3), (.k (.sc (.int .i64 2)))], [0, 1, 2, 3], .ixaA 8 1 (.t 3) (.k (.sc (.int .i64 2)))⟩ ::
 ⟨some 22, none, [(.t 21)], [0, 1, 2, 3], .ld false 1 (.t 21)⟩ ::
 ⟨some 23, none, [(.t 3), (.k (.sc (.int .i64 3)))], [0, 1, 2, 3, 4, 5], .ixaA 8 1 (.t 3) (.k (.sc (.int .i64 3)))⟩ ::
 ⟨some 24, none, [(.t 23)], [0, 1, 2, 3, 4, 5], .ld false 1 (.t 23)⟩ ::
 ⟨some 25, none, [(.t 3), (.k (.sc (.int .i64 4)))], [0, 1, 2, 3, 4, 5, 6, 7], .ixaA 8 1 (.t 3) (.k (.sc (.int .i64 4)))⟩ ::
 ⟨some 26, none, [(.t 25)], [0, 1, 2, 3, 4, 5, 6, 7], .ld false 1 (.t 25)⟩ ::
 ⟨some 27, none, [(.t 3), (.k (.sc (.int .i64 5)))], [0, 1, 2, 3, 4, 5, 6, 7, 8, 9], .ixaA 8 1 (.t 3) (.k (.sc (.int .i64 5)))⟩ ::
 ⟨some 28, none, [(.t 27)], [0, 1, 2, 3, 4, 5, 6, 7, 8, 9], .ld false 1 (.t 27)⟩ ::
 ⟨some 29, none, [(.t 3), (.k (.sc (.int .i64 6)))], [0, 1, 2, 3, 4, 5, 6, 7, 8, 9, 10, 11], .ixaA 8 1 (.t 3) (.k (.sc (.int .i64 6)))⟩ ::
 ⟨some 30, none, [(.t 29)], [0, 1, 2, 3, 4, 5, 6, 7, 8, 9, 10, 11], .ld false 1 (.t 29)⟩ ::
 ⟨some 31, none, [(.t 3), (.k (.sc (.int .i64 7)))], [0, 1, 2, 3, 4, 5, 6, 7, 8, 9, 10, 11, 12, 13], .ixaA 8 1 (.t 3) (.k (.sc (.int .i64 7)))⟩ ::
 ⟨some 32, none, [(.t 31)], [0, 1, 2, 3, 4, 5, 6, 7, 8, 9, 10, 11, 12, 13], .ld false 1 (.t 31)⟩ ::
 ⟨some 7, none, [(.t 18)], [2, 3, 4, 5, 6, 7, 8, 9, 10, 11, 12, 13, 14, 15], .mv (.t 18)⟩ ::
 ⟨some 8, none, [(.t 20)], [4, 5, 6, 7, 8, 9, 10, 11, 12, 13, 14, 15], .mv (.t 20)⟩ ::
 ⟨some 9, none, [(.t 22)], [6, 7, 8, 9, 10, 11, 12, 13, 14, 15], .mv (.t 22)⟩ ::
 ⟨some 10, none, [(.t 24)], [8, 9, 10, 11, 12, 13, 14, 15], .mv (.t 24)⟩ ::
 ⟨some 11, none, [(.t 26)], [10, 11, 12, 13, 14, 15], .mv (.t 26)⟩ ::
 ⟨some 12, none, [(.t 28)], [12, 13, 14, 15], .mv (.t 28)⟩ ::
 ⟨some 13, none, [(.t 30)], [14, 15], .mv (.t 30)⟩ ::
 ⟨some 14, none, [(.t 32)], [], .mv (.t 32)⟩ :: []) (some [1, 2, 6, 7, 8, 9, 10, 11, 12, 13, 14]))
 (.seq
 (.reg [⟨some 33, none, [], [], .mv (.t 14)⟩,
 ⟨some 34, none, [], [], .mv (.t 11)⟩,
 ⟨some 35, none, [], [], .cal (.k (.fn 150 [])) [(.t 34), (.k (.sc (.int .i64 6)))]⟩,
 ⟨some 36, none, [], [], .mv (.t 11)⟩,
 ⟨some 37, none, [], [], .cal (.k (.fn 150 [])) [(.t 36), (.k (.sc (.int .i64 11)))]⟩,
 ⟨some 38, none, [], [], .bin .xor false (.t 35) (.t 37)⟩,
 ⟨some 39, none, [], [], .mv (.t 11)⟩,
 ⟨some 40, none, [], [], .cal (.k (.fn 150 [])) [(.t 39), (.k (.sc (.int .i64 25)))]⟩,
 ⟨some 41, none, [], [], .bin .xor false (.t 38) (.t 40)⟩,
 ⟨some 42, none, [], [], .bin .add false (.t 33) (.t 41)⟩,
 ⟨some 43, none, [], [], .mv (.t 13)⟩,
 ⟨some 44, none, [], [], .mv (.t 11)⟩,
 ⟨some 45, none, [], [], .mv (.t 12)⟩,
 ⟨some 46, none, [], [], .mv (.t 13)⟩,
 ⟨some 47, none, [], [], .bin .xor false (.t 45) (.t 46)⟩,
 ⟨some 48, none, [], [], .bin .and false (.t 44) (.t 47)⟩,
 ⟨some 49, none, [], [], .bin .xor false (.t 43) (.t 48)⟩,
 ⟨some 50, none, [], [], .bin .add false (.t 42) (.t 49)⟩,
 ⟨some 51, none, [], [], .mv (.t 1)⟩,
 ⟨some 52, none, [], [], .bin .add false (.t 50) (.t 51)⟩,
 ⟨some 53, none, [], [], .mv (.t 2)⟩,
 ⟨some 54, none, [], [], .bin .add false (.t 52) (.t 53)⟩,
 ⟨some 15, none, [], [], .mv (.t 54)⟩] (some [6, 7, 8, 9, 10, 11, 12, 13, 15]))
 (.seq
 (.reg [⟨some 55, none, [], [], .mv (.t 7)⟩,
 ⟨some 56, none, [], [], .cal (.k (.fn 150 [])) [(.t 55), (.k (.sc (.int .i64 2)))]⟩,
 ⟨some 57, none, [], [], .mv (.t 7)⟩,
 ⟨some 58, none, [], [], .cal (.k (.fn 150 [])) [(.t 57), (.k (.sc (.int .i64 13)))]⟩,
 ⟨some 59, none, [], [], .bin .xor false (.t 56) (.t 58)⟩,
 ⟨some 60, none, [], [], .mv (.t 7)⟩,
 ⟨some 61, none, [], [], .cal (.k (.fn 150 [])) [(.t 60), (.k (.sc (.int .i64 22)))]⟩,
 ⟨some 62, none, [], [], .bin .xor false (.t 59) (.t 61)⟩,
 ⟨some 63, none, [], [], .mv (.t 7)⟩,
 ⟨some 64, none, [], [], .mv (.t 8)⟩,
 ⟨some 65, none, [], [], .bin .and false (.t 63) (.t 64)⟩,
 ⟨some 66, none, [], [], .mv (.t 9)⟩,
 ⟨some 67, none, [], [], .mv (.t 7)⟩,
 ⟨some 68, none, [], [], .mv (.t 8)⟩,
 ⟨some 69, none, [], [], .bin .or false (.t 67) (.t 68)⟩,
 ⟨some 70, none, [], [], .bin .and false (.t 66) (.t 69)⟩,
 ⟨some 71, none, [], [], .bin .or false (.t 65) (.t 70)⟩,
 ⟨some 72, none, [], [], .bin .add false (.t 62) (.t 71)⟩,
 ⟨some 16, none, [], [], .mv (.t 72)⟩] (some [6, 7, 8, 9, 10, 11, 12, 13, 15, 16]))
 (.seq
 (.reg [⟨some 73, none, [], [], .mv (.t 15)⟩,
 ⟨some 74, none, [], [], .mv (.t 16)⟩,
 ⟨some 75, none, [], [], .bin .add false (.t 73) (.t 74)⟩,
 ⟨some 76, none, [], [], .mv (.t 7)⟩,
 ⟨some 77, none, [], [], .mv (.t 8)⟩,
 ⟨some 78, none, [], [], .mv (.t 9)⟩,
 ⟨some 79, none, [], [], .mv (.t 10)⟩,
 ⟨some 80, none, [], [], .mv (.t 15)⟩,
 ⟨some 81, none, [], [], .bin .add false (.t 79) (.t 80)⟩,
 ⟨some 82, none, [], [], .mv (.t 11)⟩,
 ⟨some 83, none, [], [], .mv (.t 12)⟩,
 ⟨some 84, none, [], [], .mv (.t 13)⟩,
 ⟨some 85, none, [], [], .bld [(.sc (.int .u32 0)), (.sc (.int .u32 0)), (.sc (.int .u32 0)), (.sc (.int .u32 0)), (.sc (.int .u32 0)), (.sc (.int .u32 0)), (.sc (.int .u32 0)), (.sc (.int .u32 0))] [(0, 1, (.t 75)), (1, 1, (.t 76)), (2, 1, (.t 77)), (3, 1, (.t 78)), (4, 1, (.t 81)), (5, 1, (.t 82)), (6, 1, (.t 83)), (7, 1, (.t 84))]⟩,
 ⟨none, none, [], [], .sto 8 (.t 6) (.t 85)⟩] (some [6]))
 .ret)))))
theorem b146 : cmpG Try.prog 146 = some (strip a146, r146, 86) := by kernel_rfl

abbrev r150 : List AR := [.t 4]
abbrev a150 : ACode :=
 (.seq
 (.reg [⟨some 4, none, [], [], .mv (.k (.sc (.int .u32 0)))⟩] (some [0, 1]))
 (.seq
 (.reg [⟨some 5, none, [], [], .mv (.t 0)⟩,
 ⟨some 6, none, [], [], .mv (.t 1)⟩,
 ⟨some 7, none, [], [], .un .neg (.t 6)⟩,
 ⟨some 8, none, [], [], .cal (.k (.fn 151 [])) [(.t 5), (.t 7)]⟩,
 ⟨some 4, none, [], [], .mv (.t 8)⟩] (some [4]))
 .ret))
theorem b150 : cmpG Try.prog 150 = some (strip a150, r150, 9) := by kernel_rfl

abbrev r151 : List AR := [.t 4]
abbrev a151 : ACode :=
 (.seq
 (.reg [⟨some 4, none, [], [], .mv (.k (.sc (.int .u32 0)))⟩] (some [0, 1]))
 (.seq
 (.reg [⟨some 6, none, [], [], .mv (.t 1)⟩,
 ⟨some 7, none, [], [], .cvi .u64 (.t 6)⟩,
 ⟨some 8, none, [], [], .bin .and false (.t 7) (.k (.sc (.int .u64 31)))⟩,
 ⟨some 5, none, [], [], .mv (.t 8)⟩] (some [0, 5]))
 (.seq
 (.reg [⟨some 9, none, [], [], .mv (.t 0)⟩,
 ⟨some 10, none, [], [], .mv (.t 5)⟩,
 ⟨some 11, none, [], [], .bin .shl false (.t 9) (.t 10)⟩,
 ⟨some 12, none, [], [], .mv (.t 0)⟩,
 ⟨some 13, none, [], [], .mv (.t 5)⟩,
 ⟨some 14, none, [], [], .bin .sub false (.k (.sc (.int .u64 32))) (.t 13)⟩,
 ⟨some 15, none, [], [], .bin .shr false (.t 12) (.t 14)⟩,
 ⟨some 16, none, [], [], .bin .or false (.t 11) (.t 15)⟩,
 ⟨some 4, none, [], [], .mv (.t 16)⟩] (some [4]))
 .ret)))
theorem b151 : cmpG Try.prog 151 = some (strip a151, r151, 17) := by kernel_rfl


end Go.Proofs.Ytbmdahhhgpbchaa.Cod
