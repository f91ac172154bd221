import Derived.Test.YtbmdahhhgpbchaaProg
import Derived.Test.YtbmdahhhgpbchaaSimD
import Derived.KernelRfl
namespace Go.Proofs.Ytbmdahhhgpbchaa.Cod
open Go Go.Sim Go.Proofs
set_option maxRecDepth 100000
abbrev r66 : List AR := [.c 4 true 3, .t 5]
abbrev a66 : ACode :=
 (.seq
 (.reg [⟨some 4, none, [], [], .alc [(.sc (.int .i64 0)), .nl, .nl]⟩,
 ⟨some 5, none, [], [], .mv (.k (.sc (.int .i64 0)))⟩] (some [0, 1, 4]))
 (.seq
 (.reg [⟨some 7, none, [], [], .mv (.t 0)⟩,
 ⟨some 8, none, [], [], .bld [(.sc (.int .i64 0)), .nl, .nl] [(0, 1, (.t 7))]⟩,
 ⟨some 6, none, [], [], .alc [(.sc (.int .i64 0)), .nl, .nl]⟩,
 ⟨none, none, [], [], .sto 3 (.t 6) (.t 8)⟩] (some [0, 1, 4, 6]))
 (.seq
 (.seq
 (.reg [⟨some 9, none, [], [], .mv (.t 0)⟩,
 ⟨some 10, none, [], [], .bin .lss false (.t 9) (.k (.sc (.int .i64 0)))⟩,
 ⟨some 11, none, [], [], .mv (.t 10)⟩,
 ⟨some 12, (some (11, false)), [], [], .mv (.t 0)⟩,
 ⟨some 13, (some (11, false)), [], [], .bin .gtr false (.t 12) (.k (.sc (.int .i64 1099511627776)))⟩,
 ⟨some 14, none, [], [], .pick (.t 11) (.k (.sc (.bool true))) (.t 13)⟩,
 ⟨some 15, none, [], [], .mv (.t 14)⟩,
 ⟨some 16, (some (15, false)), [], [], .ld true 3 (.t 6)⟩,
 ⟨some 17, (some (15, false)), [], [], .mv (.t 1)⟩,
 ⟨some 18, (some (15, false)), [], [], .cal (.k (.fn 105 [])) [(.t 16), (.t 17)]⟩,
 ⟨some 19, (some (15, false)), [], [], .un .not (.t 18)⟩,
 ⟨some 20, none, [], [], .pick (.t 15) (.k (.sc (.bool true))) (.t 19)⟩] (some [1, 4, 6, 20]))
 (.cond (.t 20)
 (.keep [4]
 (.seq
 (.reg [⟨some 21, none, [], [], .bld [(.sc (.int .i64 0)), .nl, .nl] []⟩,
 ⟨none, none, [], [], .sto 3 (.t 4) (.t 21)⟩,
 ⟨some 5, none, [], [], .mv (.k (.sc (.int .i64 1)))⟩] (some [4, 5]))
 .ret))
 (.keep [1, 4, 6]
 .skip)))
 (.seq
 (.reg [⟨some 22, none, [], [], .fa 1 (.t 6)⟩,
 ⟨some 23, none, [], [], .ld true 1 (.t 22)⟩,
 ⟨some 24, none, [], [], .mv (.t 1)⟩,
 ⟨some 25, none, [], [], .cal (.k (.fn 104 [])) [(.t 23), (.k (.sc (.int .i64 0))), (.t 24)]⟩,
 ⟨some 26, none, [], [], .fa 1 (.t 6)⟩,
 ⟨none, none, [], [], .sto 1 (.t 26) (.t 25)⟩] (some [4, 6]))
 (.seq
 (.reg [⟨some 27, none, [], [], .ld true 3 (.t 6)⟩,
 ⟨none, none, [], [], .sto 3 (.t 4) (.t 27)⟩,
 ⟨some 5, none, [], [], .mv (.k (.sc (.int .i64 0)))⟩] (some [4, 5]))
 .ret)))))
theorem b66 : cmpG Try.prog 66 = some (strip a66, r66, 28) := by kernel_rfl

abbrev r70 : List AR := [.c 2 true 3, .c 3 true 2, .c 4 false 1]
abbrev a70 : ACode :=
 (.seq
 (.reg [⟨some 1, none, [], [], .box (.t 0)⟩,
 ⟨some 2, none, [], [], .alc [(.sc (.int .i64 0)), .nl, .nl]⟩,
 ⟨some 3, none, [], [], .alc [(.sc (.int .i64 0)), (.sc (.int .i64 0))]⟩,
 ⟨some 4, none, [], [], .alc [(.sc (.bool false))]⟩] (some [1, 2, 3, 4]))
 (.seq
 (.seq
 (.reg [⟨some 6, none, [], [], .ld true 3 (.t 1)⟩,
 ⟨some 7, none, [], [], .cal (.k (.fn 108 [])) [(.t 6)]⟩] (some [1, 2, 3, 4, 7]))
 (.block 0
 (.rgf (.t 7) 8
 (.reg [⟨some 5, none, [], [], .alc [(.sc (.int .i64 0)), (.sc (.int .i64 0))]⟩,
 ⟨none, none, [], [], .sto 2 (.t 5) (.t 8)⟩] (some [1, 2, 3, 4, 5]))
 (.block 1
 (.seq
 (.reg [⟨some 9, none, [], [], .fa 1 (.t 1)⟩,
 ⟨some 10, none, [], [], .ld true 1 (.t 9)⟩,
 ⟨some 11, none, [], [], .fa 0 (.t 5)⟩,
 ⟨some 12, none, [], [], .ld false 1 (.t 11)⟩,
 ⟨some 13, none, [], [], .cal (.k (.fn 109 [])) [(.t 10), (.t 12)]⟩,
 ⟨some 14, none, [], [], .un .not (.t 13)⟩,
 ⟨some 15, none, [], [], .mv (.t 14)⟩,
 ⟨some 16, (some (15, true)), [], [], .fa 2 (.t 1)⟩,
 ⟨some 17, (some (15, true)), [], [], .ld true 1 (.t 16)⟩,
 ⟨some 18, (some (15, true)), [], [], .fa 0 (.t 5)⟩,
 ⟨some 19, (some (15, true)), [], [], .ld false 1 (.t 18)⟩,
 ⟨some 20, (some (15, true)), [], [], .cal (.k (.fn 109 [])) [(.t 17), (.t 19)]⟩,
 ⟨some 21, (some (15, true)), [], [], .un .not (.t 20)⟩,
 ⟨some 22, none, [], [], .pick (.t 15) (.t 21) (.k (.sc (.bool false)))⟩] (some [1, 2, 3, 4, 5, 22]))
 (.cond (.t 22)
 (.keep [1, 2, 3, 4, 5]
 (.seq
 (.reg [⟨some 23, none, [], [], .fa 2 (.t 1)⟩,
 ⟨some 24, none, [], [], .ld true 1 (.t 23)⟩,
 ⟨some 25, none, [], [], .fa 0 (.t 5)⟩,
 ⟨some 26, none, [], [], .ld false 1 (.t 25)⟩,
 ⟨some 27, none, [], [], .fa 1 (.t 5)⟩,
 ⟨some 28, none, [], [], .ld false 1 (.t 27)⟩,
 ⟨some 29, none, [], [], .cal (.k (.fn 104 [])) [(.t 24), (.t 26), (.t 28)]⟩,
 ⟨some 30, none, [], [], .fa 2 (.t 1)⟩,
 ⟨none, none, [], [], .sto 1 (.t 30) (.t 29)⟩] (some [1, 2, 3, 4, 5]))
 (.seq
 (.regD [⟨some 31, none, [(.t 1)], [], .ld true 3 (.t 1)⟩,
 ⟨some 32, none, [(.t 5)], [0], .ld true 2 (.t 5)⟩,
 ⟨none, none, [(.t 2), (.t 31)], [1], .sto 3 (.t 2) (.t 31)⟩,
 ⟨none, none, [(.t 3), (.t 32)], [], .sto 2 (.t 3) (.t 32)⟩,
 ⟨none, none, [(.t 4), (.k (.sc (.bool true)))], [], .sto 1 (.t 4) (.k (.sc (.bool true)))⟩] (some []))
 .ret)))
 (.keep []
 .skip)))))))
 (.seq
 (.reg [⟨some 33, none, [], [], .ld true 3 (.t 1)⟩,
 ⟨some 34, none, [], [], .bld [(.sc (.int .i64 0)), (.sc (.int .i64 0))] []⟩,
 ⟨none, none, [], [], .sto 3 (.t 2) (.t 33)⟩,
 ⟨none, none, [], [], .sto 2 (.t 3) (.t 34)⟩,
 ⟨none, none, [], [], .sto 1 (.t 4) (.k (.sc (.bool false)))⟩] (some [2, 3, 4]))
 .ret)))
theorem b70 : cmpG Try.prog 70 = some (strip a70, r70, 35) := by kernel_rfl

abbrev r71 : List AR := [.c 6 true 3, .t 7]
abbrev a71 : ACode :=
 (.seq
 (.reg [⟨some 3, none, [], [], .box (.t 0)⟩,
 ⟨some 6, none, [], [], .alc [(.sc (.int .i64 0)), .nl, .nl]⟩,
 ⟨some 7, none, [], [], .mv (.k (.sc (.bool false)))⟩] (some [1, 2, 3, 6]))
 (.seq
 (.seq
 (.reg [⟨some 11, none, [], [], .ld true 3 (.t 3)⟩,
 ⟨some 12, none, [], [], .mv (.t 1)⟩,
 ⟨some 13, none, [], [], .cal (.k (.fn 105 [])) [(.t 11), (.t 12)]⟩,
 ⟨some 14, none, [], [], .un .not (.t 13)⟩,
 ⟨some 15, none, [], [], .mv (.t 14)⟩,
 ⟨some 16, (some (15, false)), [], [], .mv (.t 1)⟩,
 ⟨some 17, (some (15, false)), [], [], .ld true 3 (.t 3)⟩,
 ⟨some 18, (some (15, false)), [], [], .cal (.k (.fn 73 [])) [(.t 17)]⟩,
 ⟨some 19, (some (15, false)), [], [], .bin .lss false (.t 16) (.t 18)⟩,
 ⟨some 20, none, [], [], .pick (.t 15) (.k (.sc (.bool true))) (.t 19)⟩] (some [1, 2, 3, 6, 20]))
 (.cond (.t 20)
 (.keep [3, 6]
 (.seq
 (.reg [⟨some 21, none, [], [], .ld true 3 (.t 3)⟩,
 ⟨none, none, [], [], .sto 3 (.t 6) (.t 21)⟩,
 ⟨some 7, none, [], [], .mv (.k (.sc (.bool false)))⟩] (some [6, 7]))
 .ret))
 (.keep [1, 2, 3, 6]
 .skip)))
 (.seq
 (.reg [⟨some 22, none, [], [], .ld true 3 (.t 3)⟩,
 ⟨some 23, none, [], [], .cal (.k (.fn 110 [])) [(.t 22)]⟩,
 ⟨some 8, none, [], [], .mv (.t 23)⟩] (some [1, 2, 3, 6, 8]))
 (.seq
 (.reg [⟨some 24, none, [], [], .fa 1 (.t 3)⟩,
 ⟨some 25, none, [], [], .ld true 1 (.t 24)⟩,
 ⟨some 26, none, [], [], .mv (.t 1)⟩,
 ⟨some 27, none, [], [], .cal (.k (.fn 104 [])) [(.t 25), (.k (.sc (.int .i64 0))), (.t 26)]⟩,
 ⟨some 28, none, [], [], .fa 1 (.t 3)⟩,
 ⟨none, none, [], [], .sto 1 (.t 28) (.t 27)⟩] (some [1, 2, 3, 6, 8]))
 (.seq
 (.seq
 (.reg [⟨some 29, none, [], [], .mv (.t 2)⟩,
 ⟨some 30, none, [], [], .lenL (.t 29)⟩,
 ⟨some 31, none, [], [], .mv (.k (.sc (.int .i64 0)))⟩] (some [1, 3, 6, 8, 29, 30, 31]))
 (.block 0
 (.loop
 (.seq
 (.reg [⟨some 32, none, [], [], .bin .lss false (.t 31) (.t 30)⟩] none)
 (.seq
 (.cond (.t 32)
 (.keep [1, 3, 6, 8, 29, 30, 31]
 .skip)
 (.exit 0))
 (.seq
 (.block 1
 (.seq
 (.reg [⟨some 33, none, [], [], .ixaS 2 (.t 29) (.t 31)⟩,
 ⟨some 34, none, [], [], .ld true 2 (.t 33)⟩,
 ⟨some 10, none, [], [], .alc [(.sc (.int .i64 0)), (.sc (.int .i64 0))]⟩,
 ⟨none, none, [], [], .sto 2 (.t 10) (.t 34)⟩] (some [1, 3, 6, 8, 10, 29, 30, 31]))
 (.seq
 (.reg [⟨some 35, none, [], [], .ld true 3 (.t 3)⟩,
 ⟨some 36, none, [], [], .fa 0 (.t 10)⟩,
 ⟨some 37, none, [], [], .ld false 1 (.t 36)⟩,
 ⟨some 38, none, [], [], .cal (.k (.fn 105 [])) [(.t 35), (.t 37)]⟩,
 ⟨some 39, none, [], [], .mv (.t 38)⟩,
 ⟨some 40, (some (39, true)), [], [], .ld true 3 (.t 3)⟩,
 ⟨some 41, (some (39, true)), [], [], .fa 1 (.t 10)⟩,
 ⟨some 42, (some (39, true)), [], [], .ld false 1 (.t 41)⟩,
 ⟨some 43, (some (39, true)), [], [], .cal (.k (.fn 105 [])) [(.t 40), (.t 42)]⟩,
 ⟨some 44, none, [], [], .pick (.t 39) (.t 43) (.k (.sc (.bool false)))⟩,
 ⟨some 45, none, [], [], .mv (.t 44)⟩,
 ⟨some 46, (some (45, true)), [], [], .fa 0 (.t 10)⟩,
 ⟨some 47, (some (45, true)), [], [], .ld false 1 (.t 46)⟩,
 ⟨some 48, (some (45, true)), [], [], .mv (.t 1)⟩,
 ⟨some 49, (some (45, true)), [], [], .bin .geq false (.t 47) (.t 48)⟩,
 ⟨some 50, none, [], [], .pick (.t 45) (.t 49) (.k (.sc (.bool false)))⟩] (some [1, 3, 6, 8, 10, 29, 30, 31, 50]))
 (.cond (.t 50)
 (.keep [1, 3, 6, 8, 10, 29, 30, 31]
 (.reg [⟨some 51, none, [], [], .fa 1 (.t 3)⟩,
 ⟨some 52, none, [], [], .ld true 1 (.t 51)⟩,
 ⟨some 53, none, [], [], .fa 0 (.t 10)⟩,
 ⟨some 54, none, [], [], .ld false 1 (.t 53)⟩,
 ⟨some 55, none, [], [], .fa 1 (.t 10)⟩,
 ⟨some 56, none, [], [], .ld false 1 (.t 55)⟩,
 ⟨some 57, none, [], [], .cal (.k (.fn 104 [])) [(.t 52), (.t 54), (.t 56)]⟩,
 ⟨some 58, none, [], [], .fa 1 (.t 3)⟩,
 ⟨none, none, [], [], .sto 1 (.t 58) (.t 57)⟩] (some [1, 3, 6, 8, 29, 30, 31])))
 (.keep [1, 3, 6, 8, 29, 30, 31]
 .skip)))))
 (.reg [⟨some 59, none, [], [], .bin .add false (.t 31) (.k (.sc (.int .i64 1)))⟩,
 ⟨some 31, none, [], [], .mv (.t 59)⟩] (some [1, 3, 6, 8, 29, 30, 31]))))))))
 (.seq
 (.reg [⟨some 60, none, [], [], .ld true 3 (.t 3)⟩,
 ⟨some 61, none, [], [], .cal (.k (.fn 111 [])) [(.t 60)]⟩,
 ⟨some 62, none, [], [], .fa 2 (.t 3)⟩,
 ⟨none, none, [], [], .sto 1 (.t 62) (.t 61)⟩] (some [3, 6, 8]))
 (.seq
 (.regD [⟨some 63, none, [(.t 3)], [], .ld true 3 (.t 3)⟩,
 ⟨some 64, none, [(.t 3)], [0], .ld true 3 (.t 3)⟩,
 ⟨some 65, none, [(.k (.fn 110 [])), (.t 64)], [0], .cal (.k (.fn 110 [])) [(.t 64)]⟩,
 ⟨some 66, none, [(.t 8)], [0, 1, 2], .mv (.t 8)⟩,
 ⟨some 67, none, [(.t 65), (.t 66)], [0], .bin .lss false (.t 65) (.t 66)⟩,
 ⟨none, none, [(.t 6), (.t 63)], [3, 4], .sto 3 (.t 6) (.t 63)⟩,
 ⟨some 7, none, [(.t 67)], [], .mv (.t 67)⟩] (some [6, 7]))
 .ret)))))))
theorem b71 : cmpG Try.prog 71 = some (strip a71, r71, 68) := by kernel_rfl

abbrev r76 : List AR := [.t 2]
abbrev a76 : ACode :=
 (.seq
 (.reg [⟨some 1, none, [], [], .box (.t 0)⟩,
 ⟨some 2, none, [], [], .mv (.k (.sc (.bool false)))⟩] (some [1]))
 (.seq
 (.reg [⟨some 3, none, [], [], .ld true 3 (.t 1)⟩,
 ⟨some 4, none, [], [], .cal (.k (.fn 110 [])) [(.t 3)]⟩,
 ⟨some 5, none, [], [], .bin .eql false (.t 4) (.k (.sc (.int .i64 0)))⟩,
 ⟨some 2, none, [], [], .mv (.t 5)⟩] (some [2]))
 .ret))
theorem b76 : cmpG Try.prog 76 = some (strip a76, r76, 6) := by kernel_rfl

abbrev r73 : List AR := [.t 2]
abbrev a73 : ACode :=
 (.seq
 (.reg [⟨some 1, none, [], [], .box (.t 0)⟩,
 ⟨some 2, none, [], [], .mv (.k (.sc (.int .i64 0)))⟩] (some [1]))
 (.seq
 (.reg [⟨some 3, none, [], [], .fa 1 (.t 1)⟩,
 ⟨some 4, none, [], [], .ld true 1 (.t 3)⟩,
 ⟨some 5, none, [], [], .cal (.k (.fn 112 [])) [(.t 4), (.k (.sc (.int .i64 0)))]⟩,
 ⟨some 2, none, [], [], .mv (.t 5)⟩] (some [2]))
 .ret))
theorem b73 : cmpG Try.prog 73 = some (strip a73, r73, 6) := by kernel_rfl

abbrev r110 : List AR := [.t 2]
abbrev a110 : ACode :=
 (.seq
 (.reg [⟨some 1, none, [], [], .box (.t 0)⟩,
 ⟨some 2, none, [], [], .mv (.k (.sc (.int .i64 0)))⟩] (some [1]))
 (.seq
 (.regD [⟨some 3, none, [(.t 1)], [], .fa 0 (.t 1)⟩,
 ⟨some 4, none, [(.t 3)], [], .ld false 1 (.t 3)⟩,
 ⟨some 5, none, [(.t 1)], [0, 1], .fa 1 (.t 1)⟩,
 ⟨some 6, none, [(.t 5)], [0, 1], .ld true 1 (.t 5)⟩,
 ⟨some 7, none, [(.k (.fn 65 [])), (.t 6)], [0, 1], .cal (.k (.fn 65 [])) [(.t 6)]⟩,
 ⟨some 8, none, [(.t 4), (.t 7)], [], .bin .sub false (.t 4) (.t 7)⟩,
 ⟨some 2, none, [(.t 8)], [], .mv (.t 8)⟩] (some [2]))
 .ret))
theorem b110 : cmpG Try.prog 110 = some (strip a110, r110, 9) := by kernel_rfl

abbrev r75 : List AR := [.c 2 true 3]
abbrev a75 : ACode :=
 (.seq
 (.reg [⟨some 1, none, [], [], .box (.t 0)⟩,
 ⟨some 2, none, [], [], .alc [(.sc (.int .i64 0)), .nl, .nl]⟩] (some [1, 2]))
 (.seq
 (.reg [⟨some 3, none, [], [], .bld [.nl] []⟩,
 ⟨some 4, none, [], [], .fa 2 (.t 1)⟩,
 ⟨none, none, [], [], .sto 1 (.t 4) (.t 3)⟩] (some [1, 2]))
 (.seq
 (.reg [⟨some 5, none, [], [], .ld true 3 (.t 1)⟩,
 ⟨none, none, [], [], .sto 3 (.t 2) (.t 5)⟩] (some [2]))
 .ret)))
theorem b75 : cmpG Try.prog 75 = some (strip a75, r75, 6) := by kernel_rfl

abbrev r105 : List AR := [.t 4]
abbrev a105 : ACode :=
 (.seq
 (.reg [⟨some 2, none, [], [], .box (.t 0)⟩,
 ⟨some 4, none, [], [], .mv (.k (.sc (.bool false)))⟩] (some [1, 2]))
 (.seq
 (.reg [⟨some 5, none, [], [], .mv (.t 1)⟩,
 ⟨some 6, none, [], [], .bin .geq false (.t 5) (.k (.sc (.int .i64 0)))⟩,
 ⟨some 7, none, [], [], .mv (.t 6)⟩,
 ⟨some 8, (some (7, true)), [], [], .mv (.t 1)⟩,
 ⟨some 9, (some (7, true)), [], [], .fa 0 (.t 2)⟩,
 ⟨some 10, (some (7, true)), [], [], .ld false 1 (.t 9)⟩,
 ⟨some 11, (some (7, true)), [], [], .bin .leq false (.t 8) (.t 10)⟩,
 ⟨some 12, none, [], [], .pick (.t 7) (.t 11) (.k (.sc (.bool false)))⟩,
 ⟨some 13, none, [], [], .mv (.t 12)⟩,
 ⟨some 14, (some (13, true)), [], [], .mv (.t 1)⟩,
 ⟨some 15, (some (13, true)), [], [], .bin .rem false (.t 14) (.k (.sc (.int .i64 256)))⟩,
 ⟨some 16, (some (13, true)), [], [], .bin .eql false (.t 15) (.k (.sc (.int .i64 0)))⟩,
 ⟨some 17, (some (13, true)), [], [], .mv (.t 16)⟩,
 ⟨some 18, (some (17, false)), [], [], .mv (.t 1)⟩,
 ⟨some 19, (some (17, false)), [], [], .fa 0 (.t 2)⟩,
 ⟨some 20, (some (17, false)), [], [], .ld false 1 (.t 19)⟩,
 ⟨some 21, (some (17, false)), [], [], .bin .eql false (.t 18) (.t 20)⟩,
 ⟨some 22, (some (13, true)), [], [], .pick (.t 17) (.k (.sc (.bool true))) (.t 21)⟩,
 ⟨some 23, none, [], [], .pick (.t 13) (.t 22) (.k (.sc (.bool false)))⟩,
 ⟨some 4, none, [], [], .mv (.t 23)⟩] (some [4]))
 .ret))
theorem b105 : cmpG Try.prog 105 = some (strip a105, r105, 24) := by kernel_rfl

abbrev r108 : List AR := [.t 2]
abbrev a108 : ACode :=
 (.seq
 (.reg [⟨some 1, none, [], [], .box (.t 0)⟩,
 ⟨some 2, none, [], [], .mv (.k (.sc .nilFunc))⟩] (some [1]))
 (.seq
 (.reg [⟨some 3, none, [], [], .mkf 133 [(.t 1)]⟩,
 ⟨some 2, none, [], [], .mv (.t 3)⟩] (some [2]))
 .ret))
theorem b108 : cmpG Try.prog 108 = some (strip a108, r108, 4) := by kernel_rfl

abbrev r111 : List AR := [.c 2 true 1]
abbrev a111 : ACode :=
 (.seq
 (.reg [⟨some 1, none, [], [], .box (.t 0)⟩,
 ⟨some 2, none, [], [], .alc [.nl]⟩] (some [1, 2]))
 (.seq
 (.reg [⟨some 5, none, [], [], .bld [.nl] []⟩,
 ⟨some 3, none, [], [], .alc [.nl]⟩,
 ⟨none, none, [], [], .sto 1 (.t 3) (.t 5)⟩] (some [1, 2, 3]))
 (.seq
 (.seq
 (.reg [⟨some 6, none, [], [], .ld true 3 (.t 1)⟩,
 ⟨some 7, none, [], [], .cal (.k (.fn 108 [])) [(.t 6)]⟩] (some [1, 2, 3, 7]))
 (.block 0
 (.rgf (.t 7) 8
 (.reg [⟨some 4, none, [], [], .alc [(.sc (.int .i64 0)), (.sc (.int .i64 0))]⟩,
 ⟨none, none, [], [], .sto 2 (.t 4) (.t 8)⟩] (some [1, 3, 4]))
 (.block 1
 (.seq
 (.reg [⟨some 9, none, [], [], .fa 2 (.t 1)⟩,
 ⟨some 10, none, [], [], .ld true 1 (.t 9)⟩,
 ⟨some 11, none, [], [], .fa 0 (.t 4)⟩,
 ⟨some 12, none, [], [], .ld false 1 (.t 11)⟩,
 ⟨some 13, none, [], [], .cal (.k (.fn 109 [])) [(.t 10), (.t 12)]⟩,
 ⟨some 14, none, [], [], .mv (.t 13)⟩,
 ⟨some 15, (some (14, true)), [], [], .fa 1 (.t 1)⟩,
 ⟨some 16, (some (14, true)), [], [], .ld true 1 (.t 15)⟩,
 ⟨some 17, (some (14, true)), [], [], .fa 0 (.t 4)⟩,
 ⟨some 18, (some (14, true)), [], [], .ld false 1 (.t 17)⟩,
 ⟨some 19, (some (14, true)), [], [], .cal (.k (.fn 109 [])) [(.t 16), (.t 18)]⟩,
 ⟨some 20, (some (14, true)), [], [], .un .not (.t 19)⟩,
 ⟨some 21, none, [], [], .pick (.t 14) (.t 20) (.k (.sc (.bool false)))⟩] (some [3, 4, 21]))
 (.cond (.t 21)
 (.keep [3, 4]
 (.reg [⟨some 22, none, [], [], .ld true 1 (.t 3)⟩,
 ⟨some 23, none, [], [], .fa 0 (.t 4)⟩,
 ⟨some 24, none, [], [], .ld false 1 (.t 23)⟩,
 ⟨some 25, none, [], [], .fa 1 (.t 4)⟩,
 ⟨some 26, none, [], [], .ld false 1 (.t 25)⟩,
 ⟨some 27, none, [], [], .cal (.k (.fn 104 [])) [(.t 22), (.t 24), (.t 26)]⟩,
 ⟨none, none, [], [], .sto 1 (.t 3) (.t 27)⟩] (some [])))
 (.keep []
 .skip)))))))
 (.seq
 (.reg [⟨some 28, none, [], [], .ld true 1 (.t 3)⟩,
 ⟨none, none, [], [], .sto 1 (.t 2) (.t 28)⟩] (some [2]))
 .ret))))
theorem b111 : cmpG Try.prog 111 = some (strip a111, r111, 29) := by kernel_rfl

end Go.Proofs.Ytbmdahhhgpbchaa.Cod
