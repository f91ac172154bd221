import Derived.Test.YtbmdahhhgpbchaaProg
import Derived.Test.YtbmdahhhgpbchaaSimD
import Derived.KernelRfl
namespace Go.Proofs.Ytbmdahhhgpbchaa.Cod
open Go Go.Sim Go.Proofs
set_option maxRecDepth 100000
abbrev r65 : List AR := [.t 2]
abbrev a65 : ACode :=
 (.seq
 (.reg [⟨some 1, none, [], [], .box (.t 0)⟩,
 ⟨some 2, none, [], [], .mv (.k (.sc (.int .i64 0)))⟩] (some [1]))
 (.seq
 (.reg [⟨some 3, none, [], [], .mv (.k (.sc (.int .i64 0)))⟩] none)
 (.seq
 (.seq
 (.reg [⟨some 6, none, [], [], .fa 0 (.t 1)⟩,
 ⟨some 7, none, [], [], .ld false 1 (.t 6)⟩,
 ⟨some 8, none, [], [], .lenL (.t 7)⟩,
 ⟨some 9, none, [], [], .mv (.k (.sc (.int .i64 0)))⟩] (some [3, 7, 8, 9]))
 (.block 0
 (.loop
 (.seq
 (.reg [⟨some 10, none, [], [], .bin .lss false (.t 9) (.t 8)⟩] none)
 (.seq
 (.cond (.t 10)
 (.keep [3, 7, 8, 9]
 .skip)
 (.exit 0))
 (.seq
 (.block 1
 (.seq
 (.reg [⟨some 11, none, [], [], .ixaS 2 (.t 7) (.t 9)⟩,
 ⟨some 12, none, [], [], .ld true 2 (.t 11)⟩,
 ⟨some 5, none, [], [], .alc [(.sc (.int .i64 0)), (.sc (.int .i64 0))]⟩,
 ⟨none, none, [], [], .sto 2 (.t 5) (.t 12)⟩] (some [3, 5, 7, 8, 9]))
 (.reg [⟨some 13, none, [], [], .mv (.t 3)⟩,
 ⟨some 14, none, [], [], .fa 1 (.t 5)⟩,
 ⟨some 15, none, [], [], .ld false 1 (.t 14)⟩,
 ⟨some 16, none, [], [], .fa 0 (.t 5)⟩,
 ⟨some 17, none, [], [], .ld false 1 (.t 16)⟩,
 ⟨some 18, none, [], [], .bin .sub false (.t 15) (.t 17)⟩,
 ⟨some 19, none, [], [], .bin .add false (.t 13) (.t 18)⟩,
 ⟨some 3, none, [], [], .mv (.t 19)⟩] (some [3, 7, 8, 9]))))
 (.reg [⟨some 20, none, [], [], .bin .add false (.t 9) (.k (.sc (.int .i64 1)))⟩,
 ⟨some 9, none, [], [], .mv (.t 20)⟩] (some [3, 7, 8, 9]))))))))
 (.seq
 (.reg [⟨some 21, none, [], [], .mv (.t 3)⟩,
 ⟨some 2, none, [], [], .mv (.t 21)⟩] (some [2]))
 .ret))))
theorem b65 : cmpG Try.prog 65 = some (strip a65, r65, 22) := by kernel_rfl

abbrev r109 : List AR := [.t 4]
abbrev a109 : ACode :=
 (.seq
 (.reg [⟨some 2, none, [], [], .box (.t 0)⟩,
 ⟨some 3, none, [], [], .box (.t 1)⟩,
 ⟨some 4, none, [], [], .mv (.k (.sc (.bool false)))⟩] (some [2, 3]))
 (.seq
 (.reg [⟨some 5, none, [], [], .fa 0 (.t 2)⟩,
 ⟨some 6, none, [], [], .ld false 1 (.t 5)⟩,
 ⟨some 7, none, [], [], .mkf 135 [(.t 3)]⟩,
 ⟨some 8, none, [], [], .cal (.k (.fn 134 [])) [(.t 6), (.t 7)]⟩,
 ⟨some 4, none, [], [], .mv (.t 8)⟩] (some [4]))
 .ret))
theorem b109 : cmpG Try.prog 109 = some (strip a109, r109, 9) := by kernel_rfl

abbrev r112 : List AR := [.t 4]
abbrev a112 : ACode :=
 (.seq
 (.reg [⟨some 2, none, [], [], .box (.t 0)⟩,
 ⟨some 4, none, [], [], .mv (.k (.sc (.int .i64 0)))⟩] (some [1, 2]))
 (.seq
 (.reg [⟨some 8, none, [], [], .mv (.t 1)⟩,
 ⟨some 9, none, [], [], .mv (.t 1)⟩,
 ⟨some 10, none, [], [], .cal (.k (.fn 130 [])) [(.t 8), (.t 9)]⟩,
 ⟨some 11, none, [], [], .fld false 1 0 (.t 10)⟩,
 ⟨some 5, none, [], [], .mv (.t 11)⟩] (some [2, 5]))
 (.seq
 (.seq
 (.reg [⟨some 12, none, [], [], .fa 0 (.t 2)⟩,
 ⟨some 13, none, [], [], .ld false 1 (.t 12)⟩,
 ⟨some 14, none, [], [], .lenL (.t 13)⟩,
 ⟨some 15, none, [], [], .mv (.k (.sc (.int .i64 0)))⟩] (some [5, 13, 14, 15]))
 (.block 0
 (.loop
 (.seq
 (.reg [⟨some 16, none, [], [], .bin .lss false (.t 15) (.t 14)⟩] none)
 (.seq
 (.cond (.t 16)
 (.keep [5, 13, 14, 15]
 .skip)
 (.exit 0))
 (.seq
 (.block 1
 (.seq
 (.reg [⟨some 17, none, [], [], .ixaS 2 (.t 13) (.t 15)⟩,
 ⟨some 18, none, [], [], .ld true 2 (.t 17)⟩,
 ⟨some 7, none, [], [], .alc [(.sc (.int .i64 0)), (.sc (.int .i64 0))]⟩,
 ⟨none, none, [], [], .sto 2 (.t 7) (.t 18)⟩] (some [5, 7, 13, 14, 15]))
 (.seq
 (.reg [⟨some 19, none, [], [], .mv (.t 5)⟩,
 ⟨some 20, none, [], [], .fa 0 (.t 7)⟩,
 ⟨some 21, none, [], [], .ld false 1 (.t 20)⟩,
 ⟨some 22, none, [], [], .bin .geq false (.t 19) (.t 21)⟩,
 ⟨some 23, none, [], [], .mv (.t 22)⟩,
 ⟨some 24, (some (23, true)), [], [], .mv (.t 5)⟩,
 ⟨some 25, (some (23, true)), [], [], .fa 1 (.t 7)⟩,
 ⟨some 26, (some (23, true)), [], [], .ld false 1 (.t 25)⟩,
 ⟨some 27, (some (23, true)), [], [], .bin .lss false (.t 24) (.t 26)⟩,
 ⟨some 28, none, [], [], .pick (.t 23) (.t 27) (.k (.sc (.bool false)))⟩] (some [5, 7, 13, 14, 15, 28]))
 (.cond (.t 28)
 (.keep [7]
 (.seq
 (.reg [⟨some 29, none, [], [], .fa 1 (.t 7)⟩,
 ⟨some 30, none, [], [], .ld false 1 (.t 29)⟩,
 ⟨some 4, none, [], [], .mv (.t 30)⟩] (some [4]))
 .ret))
 (.keep [5, 13, 14, 15]
 .skip)))))
 (.reg [⟨some 31, none, [], [], .bin .add false (.t 15) (.k (.sc (.int .i64 1)))⟩,
 ⟨some 15, none, [], [], .mv (.t 31)⟩] (some [5, 13, 14, 15]))))))))
 (.seq
 (.reg [⟨some 32, none, [], [], .mv (.t 5)⟩,
 ⟨some 4, none, [], [], .mv (.t 32)⟩] (some [4]))
 .ret))))
theorem b112 : cmpG Try.prog 112 = some (strip a112, r112, 33) := by kernel_rfl

abbrev r104 : List AR := [.c 6 true 1]
abbrev a104 : ACode :=
 (.seq
 (.reg [⟨some 3, none, [], [], .box (.t 0)⟩,
 ⟨some 6, none, [], [], .alc [.nl]⟩] (some [1, 2, 3, 6]))
 (.scope
 (.seq
 (.reg [⟨some 10, none, [], [], .mv (.t 1)⟩,
 ⟨some 11, none, [], [], .mv (.t 2)⟩,
 ⟨some 12, none, [], [], .cal (.k (.fn 130 [])) [(.t 10), (.t 11)]⟩,
 ⟨some 7, none, [], [], .alc [(.sc (.int .i64 0)), (.sc (.int .i64 0))]⟩,
 ⟨none, none, [], [], .sto 2 (.t 7) (.t 12)⟩] (some [3, 6, 7]))
 (.seq
 (.seq
 (.reg [⟨some 13, none, [], [], .ld true 2 (.t 7)⟩,
 ⟨some 14, none, [], [], .cal (.k (.fn 131 [])) [(.t 13)]⟩] (some [3, 6, 7, 14]))
 (.cond (.t 14)
 (.keep [3, 6]
 (.seq
 (.reg [⟨some 15, none, [], [], .ld true 1 (.t 3)⟩,
 ⟨none, none, [], [], .sto 1 (.t 6) (.t 15)⟩] (some [6]))
 .ret))
 (.keep [3, 6, 7]
 .skip)))
 (.seq
 (.reg [⟨some 8, none, [], [], .mv (.k .nl)⟩] none)
 (.seq
 (.reg [⟨some 9, none, [], [], .mv (.k (.sc (.int .i64 0)))⟩] none)
 (.seq
 (.block 0
 (.loop
 (.seq
 (.seq
 (.regD [⟨some 16, none, [(.t 9)], [], .mv (.t 9)⟩,
 ⟨some 17, none, [(.t 3)], [0], .fa 0 (.t 3)⟩,
 ⟨some 18, none, [(.t 17)], [0], .ld false 1 (.t 17)⟩,
 ⟨some 19, none, [(.t 18)], [0], .lenL (.t 18)⟩,
 ⟨some 20, none, [(.t 16), (.t 19)], [], .bin .lss false (.t 16) (.t 19)⟩,
 ⟨some 21, none, [(.t 20)], [], .mv (.t 20)⟩,
 ⟨some 22, (some (21, true)), [(.t 3)], [], .fa 0 (.t 3)⟩,
 ⟨some 23, (some (21, true)), [(.t 22)], [], .ld false 1 (.t 22)⟩,
 ⟨some 24, (some (21, true)), [(.t 9)], [6, 7], .mv (.t 9)⟩,
 ⟨some 25, (some (21, true)), [(.t 23), (.t 24)], [], .ixaS 2 (.t 23) (.t 24)⟩,
 ⟨some 26, (some (21, true)), [(.t 25)], [], .fa 1 (.t 25)⟩,
 ⟨some 27, (some (21, true)), [(.t 26)], [], .ld false 1 (.t 26)⟩,
 ⟨some 28, (some (21, true)), [(.t 7)], [6, 7, 8, 9, 10, 11], .fa 0 (.t 7)⟩,
 ⟨some 29, (some (21, true)), [(.t 28)], [6, 7, 8, 9, 10, 11], .ld false 1 (.t 28)⟩,
 ⟨some 30, (some (21, true)), [(.t 27), (.t 29)], [], .bin .lss false (.t 27) (.t 29)⟩,
 ⟨some 31, none, [(.t 21), (.t 30), (.k (.sc (.bool false)))], [], .pick (.t 21) (.t 30) (.k (.sc (.bool false)))⟩] (some [3, 6, 7, 8, 9, 31]))
 (.cond (.t 31)
 (.keep [3, 6, 7, 8, 9]
 .skip)
 (.exit 0)))
 (.seq
 (.block 1
 (.reg [⟨some 34, none, [], [], .mv (.t 8)⟩,
 ⟨some 35, none, [], [], .fa 0 (.t 3)⟩,
 ⟨some 36, none, [], [], .ld false 1 (.t 35)⟩,
 ⟨some 37, none, [], [], .mv (.t 9)⟩,
 ⟨some 38, none, [], [], .ixaS 2 (.t 36) (.t 37)⟩,
 ⟨some 39, none, [], [], .ld true 2 (.t 38)⟩,
 ⟨some 40, none, [], [], .bsl 1 2 [(.sc (.int .i64 0)), (.sc (.int .i64 0))] [(0, 2, (.t 39))]⟩,
 ⟨some 41, none, [], [], .app 2 16 (.t 34) (.t 40)⟩,
 ⟨some 8, none, [], [], .mv (.t 41)⟩] (some [3, 6, 7, 8, 9])))
 (.reg [⟨some 32, none, [], [], .mv (.t 9)⟩,
 ⟨some 33, none, [], [], .bin .add false (.t 32) (.k (.sc (.int .i64 1)))⟩,
 ⟨some 9, none, [], [], .mv (.t 33)⟩] (some [3, 6, 7, 8, 9]))))))
 (.seq
 (.lab 0)
 (.seq
 (.block 2
 (.loop
 (.seq
 (.seq
 (.reg [⟨some 42, none, [], [], .mv (.t 9)⟩,
 ⟨some 43, none, [], [], .fa 0 (.t 3)⟩,
 ⟨some 44, none, [], [], .ld false 1 (.t 43)⟩,
 ⟨some 45, none, [], [], .lenL (.t 44)⟩,
 ⟨some 46, none, [], [], .bin .lss false (.t 42) (.t 45)⟩] (some [3, 6, 7, 8, 9, 46]))
 (.cond (.t 46)
 (.keep [3, 6, 7, 8, 9]
 .skip)
 (.exit 2)))
 (.seq
 (.block 3
 (.seq
 (.seq
 (.regD [⟨some 49, none, [(.t 3)], [], .fa 0 (.t 3)⟩,
 ⟨some 50, none, [(.t 49)], [], .ld false 1 (.t 49)⟩,
 ⟨some 51, none, [(.t 9)], [0, 1], .mv (.t 9)⟩,
 ⟨some 52, none, [(.t 50), (.t 51)], [], .ixaS 2 (.t 50) (.t 51)⟩,
 ⟨some 53, none, [(.t 52)], [], .ld true 2 (.t 52)⟩,
 ⟨some 54, none, [(.t 7)], [0, 1, 2, 3, 4], .ld true 2 (.t 7)⟩,
 ⟨some 55, none, [(.k (.fn 132 [])), (.t 53), (.t 54)], [], .cal (.k (.fn 132 [])) [(.t 53), (.t 54)]⟩,
 ⟨some 56, none, [(.t 55)], [], .un .not (.t 55)⟩] (some [3, 6, 7, 8, 9, 56]))
 (.cond (.t 56)
 (.exit 2)
 (.keep [3, 6, 7, 8, 9]
 .skip)))
 (.regD [⟨some 57, none, [(.t 7)], [], .fa 0 (.t 7)⟩,
 ⟨some 58, none, [(.t 57)], [], .ld false 1 (.t 57)⟩,
 ⟨some 59, none, [(.t 3)], [0, 1], .fa 0 (.t 3)⟩,
 ⟨some 60, none, [(.t 59)], [0, 1], .ld false 1 (.t 59)⟩,
 ⟨some 61, none, [(.t 9)], [0, 1, 2, 3], .mv (.t 9)⟩,
 ⟨some 62, none, [(.t 60), (.t 61)], [0, 1], .ixaS 2 (.t 60) (.t 61)⟩,
 ⟨some 63, none, [(.t 62)], [0, 1], .fa 0 (.t 62)⟩,
 ⟨some 64, none, [(.t 63)], [0, 1], .ld false 1 (.t 63)⟩,
 ⟨some 65, none, [(.t 58), (.t 64)], [], .mn [(.t 58), (.t 64)]⟩,
 ⟨some 66, none, [(.t 7)], [0, 1, 2, 3, 4, 5, 6, 7, 8], .fa 1 (.t 7)⟩,
 ⟨some 67, none, [(.t 66)], [0, 1, 2, 3, 4, 5, 6, 7, 8], .ld false 1 (.t 66)⟩,
 ⟨some 68, none, [(.t 3)], [0, 1, 2, 3, 4, 5, 6, 7, 8, 9, 10], .fa 0 (.t 3)⟩,
 ⟨some 69, none, [(.t 68)], [0, 1, 2, 3, 4, 5, 6, 7, 8, 9, 10], .ld false 1 (.t 68)⟩,
 ⟨some 70, none, [(.t 9)], [0, 1, 2, 3, 4, 5, 6, 7, 8, 9, 10, 11, 12], .mv (.t 9)⟩,
 ⟨some 71, none, [(.t 69), (.t 70)], [0, 1, 2, 3, 4, 5, 6, 7, 8, 9, 10], .ixaS 2 (.t 69) (.t 70)⟩,
 ⟨some 72, none, [(.t 71)], [0, 1, 2, 3, 4, 5, 6, 7, 8, 9, 10], .fa 1 (.t 71)⟩,
 ⟨some 73, none, [(.t 72)], [0, 1, 2, 3, 4, 5, 6, 7, 8, 9, 10], .ld false 1 (.t 72)⟩,
 ⟨some 74, none, [(.t 67), (.t 73)], [0, 1, 2, 3, 4, 5, 6, 7, 8], .mx [(.t 67), (.t 73)]⟩,
 ⟨some 75, none, [(.t 65), (.t 74)], [], .bld [(.sc (.int .i64 0)), (.sc (.int .i64 0))] [(0, 1, (.t 65)), (1, 1, (.t 74))]⟩,
 ⟨none, none, [(.t 7), (.t 75)], [], .sto 2 (.t 7) (.t 75)⟩] (some [3, 6, 7, 8, 9]))))
 (.reg [⟨some 47, none, [], [], .mv (.t 9)⟩,
 ⟨some 48, none, [], [], .bin .add false (.t 47) (.k (.sc (.int .i64 1)))⟩,
 ⟨some 9, none, [], [], .mv (.t 48)⟩] (some [3, 6, 7, 8, 9]))))))
 (.seq
 (.regD [⟨some 76, none, [(.t 8)], [], .mv (.t 8)⟩,
 ⟨some 77, none, [(.t 7)], [0], .ld true 2 (.t 7)⟩,
 ⟨some 78, none, [(.t 77)], [0], .bsl 1 2 [(.sc (.int .i64 0)), (.sc (.int .i64 0))] [(0, 2, (.t 77))]⟩,
 ⟨some 79, none, [(.t 76), (.t 78)], [], .app 2 16 (.t 76) (.t 78)⟩,
 ⟨some 80, none, [(.t 3)], [0, 1, 2, 3], .fa 0 (.t 3)⟩,
 ⟨some 81, none, [(.t 80)], [0, 1, 2, 3], .ld false 1 (.t 80)⟩,
 ⟨some 82, none, [(.t 9)], [0, 1, 2, 3, 4, 5], .mv (.t 9)⟩,
 ⟨some 83, none, [(.t 81), (.t 82)], [0, 1, 2, 3], .slL 2 (some (.t 82)) none none (.t 81)⟩,
 ⟨some 84, none, [(.t 79), (.t 83)], [], .app 2 16 (.t 79) (.t 83)⟩,
 ⟨some 85, none, [(.t 84)], [], .bld [.nl] [(0, 1, (.t 84))]⟩,
 ⟨none, none, [(.t 6), (.t 85)], [], .sto 1 (.t 6) (.t 85)⟩] (some [6]))
 .ret))))))))))
theorem b104 : cmpG Try.prog 104 = some (strip a104, r104, 86) := by kernel_rfl

abbrev r101 : List AR := [.t 6]
abbrev a101 : ACode :=
 (.seq
 (.reg [⟨some 3, none, [], [], .box (.t 0)⟩,
 ⟨some 6, none, [], [], .mv (.k .nl)⟩] (some [1, 2, 3]))
 (.seq
 (.reg [⟨some 7, none, [], [], .mv (.k .nl)⟩] none)
 (.seq
 (.seq
 (.reg [⟨some 10, none, [], [], .fa 0 (.t 3)⟩,
 ⟨some 11, none, [], [], .ld false 1 (.t 10)⟩,
 ⟨some 12, none, [], [], .lenL (.t 11)⟩,
 ⟨some 13, none, [], [], .mv (.k (.sc (.int .i64 0)))⟩] (some [1, 2, 7, 11, 12, 13]))
 (.block 0
 (.loop
 (.seq
 (.reg [⟨some 14, none, [], [], .bin .lss false (.t 13) (.t 12)⟩] none)
 (.seq
 (.cond (.t 14)
 (.keep [1, 2, 7, 11, 12, 13]
 .skip)
 (.exit 0))
 (.seq
 (.block 1
 (.seq
 (.reg [⟨some 15, none, [], [], .ixaS 2 (.t 11) (.t 13)⟩,
 ⟨some 16, none, [], [], .ld true 2 (.t 15)⟩,
 ⟨some 9, none, [], [], .alc [(.sc (.int .i64 0)), (.sc (.int .i64 0))]⟩,
 ⟨none, none, [], [], .sto 2 (.t 9) (.t 16)⟩] (some [1, 2, 7, 9, 11, 12, 13]))
 (.seq
 (.reg [⟨some 17, none, [], [], .fa 0 (.t 9)⟩,
 ⟨some 18, none, [], [], .ld false 1 (.t 17)⟩,
 ⟨some 19, none, [], [], .mv (.t 1)⟩,
 ⟨some 20, none, [], [], .bin .gtr false (.t 18) (.t 19)⟩,
 ⟨some 21, none, [], [], .mv (.t 20)⟩,
 ⟨some 22, (some (21, true)), [], [], .mv (.t 7)⟩,
 ⟨some 23, (some (21, true)), [], [], .lenL (.t 22)⟩,
 ⟨some 24, (some (21, true)), [], [], .mv (.t 2)⟩,
 ⟨some 25, (some (21, true)), [], [], .bin .lss false (.t 23) (.t 24)⟩,
 ⟨some 26, none, [], [], .pick (.t 21) (.t 25) (.k (.sc (.bool false)))⟩] (some [1, 2, 7, 9, 11, 12, 13, 26]))
 (.cond (.t 26)
 (.keep [1, 2, 7, 9, 11, 12, 13]
 (.reg [⟨some 27, none, [], [], .mv (.t 7)⟩,
 ⟨some 28, none, [], [], .ld true 2 (.t 9)⟩,
 ⟨some 29, none, [], [], .bsl 1 2 [(.sc (.int .i64 0)), (.sc (.int .i64 0))] [(0, 2, (.t 28))]⟩,
 ⟨some 30, none, [], [], .app 2 16 (.t 27) (.t 29)⟩,
 ⟨some 7, none, [], [], .mv (.t 30)⟩] (some [1, 2, 7, 11, 12, 13])))
 (.keep [1, 2, 7, 11, 12, 13]
 .skip)))))
 (.reg [⟨some 31, none, [], [], .bin .add false (.t 13) (.k (.sc (.int .i64 1)))⟩,
 ⟨some 13, none, [], [], .mv (.t 31)⟩] (some [1, 2, 7, 11, 12, 13]))))))))
 (.seq
 (.reg [⟨some 32, none, [], [], .mv (.t 7)⟩,
 ⟨some 6, none, [], [], .mv (.t 32)⟩] (some [6]))
 .ret))))
theorem b101 : cmpG Try.prog 101 = some (strip a101, r101, 33) := by kernel_rfl

abbrev r134 : List AR := [.t 4]
abbrev a134 : ACode :=
 (.seq
 (.reg [⟨some 4, none, [], [], .mv (.k (.sc (.bool false)))⟩] (some [0, 1]))
 (.seq
 (.reg [⟨some 5, none, [], [], .mv (.t 0)⟩,
 ⟨some 6, none, [], [], .mv (.t 1)⟩,
 ⟨some 7, none, [], [], .cal (.k (.fn 143 [])) [(.t 5), (.t 6)]⟩,
 ⟨some 8, none, [], [], .bin .geq false (.t 7) (.k (.sc (.int .i64 0)))⟩,
 ⟨some 4, none, [], [], .mv (.t 8)⟩] (some [4]))
 .ret))
theorem b134 : cmpG Try.prog 134 = some (strip a134, r134, 9) := by kernel_rfl

abbrev r135 : List AR := [.t 3]
abbrev a135 : ACode :=
 (.seq
 (.reg [⟨some 2, none, [], [], .box (.t 0)⟩,
 ⟨some 3, none, [], [], .mv (.k (.sc (.bool false)))⟩] (some [1, 2]))
 (.seq
 (.reg [⟨some 4, none, [], [], .ld false 1 (.t 1)⟩,
 ⟨some 5, none, [], [], .fa 0 (.t 2)⟩,
 ⟨some 6, none, [], [], .ld false 1 (.t 5)⟩,
 ⟨some 7, none, [], [], .bin .geq false (.t 4) (.t 6)⟩,
 ⟨some 8, none, [], [], .mv (.t 7)⟩,
 ⟨some 9, (some (8, true)), [], [], .ld false 1 (.t 1)⟩,
 ⟨some 10, (some (8, true)), [], [], .fa 1 (.t 2)⟩,
 ⟨some 11, (some (8, true)), [], [], .ld false 1 (.t 10)⟩,
 ⟨some 12, (some (8, true)), [], [], .bin .lss false (.t 9) (.t 11)⟩,
 ⟨some 13, none, [], [], .pick (.t 8) (.t 12) (.k (.sc (.bool false)))⟩,
 ⟨some 3, none, [], [], .mv (.t 13)⟩] (some [3]))
 .ret))
theorem b135 : cmpG Try.prog 135 = some (strip a135, r135, 14) := by kernel_rfl

abbrev r130 : List AR := [.c 4 true 2]
abbrev a130 : ACode :=
 (.seq
 (.reg [⟨some 4, none, [], [], .alc [(.sc (.int .i64 0)), (.sc (.int .i64 0))]⟩] none)
 (.seq
 (.reg [⟨some 5, none, [], [], .mv (.t 0)⟩,
 ⟨some 6, none, [], [], .mx [(.t 5), (.k (.sc (.int .i64 0)))]⟩,
 ⟨some 7, none, [], [], .mn [(.t 6), (.k (.sc (.int .i64 4611686018427387904)))]⟩,
 ⟨some 8, none, [], [], .mv (.t 1)⟩,
 ⟨some 9, none, [], [], .mx [(.t 8), (.k (.sc (.int .i64 0)))]⟩,
 ⟨some 10, none, [], [], .mn [(.t 9), (.k (.sc (.int .i64 4611686018427387904)))]⟩,
 ⟨some 11, none, [], [], .bld [(.sc (.int .i64 0)), (.sc (.int .i64 0))] [(0, 1, (.t 7)), (1, 1, (.t 10))]⟩,
 ⟨none, none, [], [], .sto 2 (.t 4) (.t 11)⟩] (some [4]))
 .ret))
theorem b130 : cmpG Try.prog 130 = some (strip a130, r130, 12) := by kernel_rfl

abbrev r131 : List AR := [.t 2]
abbrev a131 : ACode :=
 (.seq
 (.reg [⟨some 1, none, [], [], .box (.t 0)⟩,
 ⟨some 2, none, [], [], .mv (.k (.sc (.bool false)))⟩] (some [1]))
 (.seq
 (.reg [⟨some 3, none, [], [], .fa 1 (.t 1)⟩,
 ⟨some 4, none, [], [], .ld false 1 (.t 3)⟩,
 ⟨some 5, none, [], [], .fa 0 (.t 1)⟩,
 ⟨some 6, none, [], [], .ld false 1 (.t 5)⟩,
 ⟨some 7, none, [], [], .bin .leq false (.t 4) (.t 6)⟩,
 ⟨some 2, none, [], [], .mv (.t 7)⟩] (some [2]))
 .ret))
theorem b131 : cmpG Try.prog 131 = some (strip a131, r131, 8) := by kernel_rfl

abbrev r132 : List AR := [.t 4]
abbrev a132 : ACode :=
 (.seq
 (.reg [⟨some 2, none, [], [], .box (.t 0)⟩,
 ⟨some 3, none, [], [], .box (.t 1)⟩,
 ⟨some 4, none, [], [], .mv (.k (.sc (.bool false)))⟩] (some [2, 3]))
 (.seq
 (.reg [⟨some 5, none, [], [], .fa 0 (.t 2)⟩,
 ⟨some 6, none, [], [], .ld false 1 (.t 5)⟩,
 ⟨some 7, none, [], [], .fa 1 (.t 3)⟩,
 ⟨some 8, none, [], [], .ld false 1 (.t 7)⟩,
 ⟨some 9, none, [], [], .bin .leq false (.t 6) (.t 8)⟩,
 ⟨some 10, none, [], [], .mv (.t 9)⟩,
 ⟨some 11, (some (10, true)), [], [], .fa 0 (.t 3)⟩,
 ⟨some 12, (some (10, true)), [], [], .ld false 1 (.t 11)⟩,
 ⟨some 13, (some (10, true)), [], [], .fa 1 (.t 2)⟩,
 ⟨some 14, (some (10, true)), [], [], .ld false 1 (.t 13)⟩,
 ⟨some 15, (some (10, true)), [], [], .bin .leq false (.t 12) (.t 14)⟩,
 ⟨some 16, none, [], [], .pick (.t 10) (.t 15) (.k (.sc (.bool false)))⟩,
 ⟨some 4, none, [], [], .mv (.t 16)⟩] (some [4]))
 .ret))
theorem b132 : cmpG Try.prog 132 = some (strip a132, r132, 17) := by kernel_rfl

abbrev r143 : List AR := [.t 4]
abbrev a143 : ACode :=
 (.seq
 (.reg [⟨some 4, none, [], [], .mv (.k (.sc (.int .i64 0)))⟩] (some [0, 1]))
 (.seq
 (.seq
 (.reg [⟨some 6, none, [], [], .mv (.t 0)⟩,
 ⟨some 7, none, [], [], .lenL (.t 6)⟩,
 ⟨some 8, none, [], [], .mv (.k (.sc (.int .i64 0)))⟩] (some [0, 1, 7, 8]))
 (.block 0
 (.loop
 (.seq
 (.reg [⟨some 9, none, [], [], .bin .lss false (.t 8) (.t 7)⟩] none)
 (.seq
 (.cond (.t 9)
 (.keep [0, 1, 7, 8]
 .skip)
 (.exit 0))
 (.seq
 (.block 1
 (.seq
 (.reg [⟨some 10, none, [], [], .mv (.t 8)⟩,
 ⟨some 5, none, [], [], .mv (.t 10)⟩] (some [0, 1, 5, 7, 8]))
 (.seq
 (.reg [⟨some 11, none, [], [], .mv (.t 1)⟩,
 ⟨some 12, none, [], [], .mv (.t 0)⟩,
 ⟨some 13, none, [], [], .mv (.t 5)⟩,
 ⟨some 14, none, [], [], .ixaS 2 (.t 12) (.t 13)⟩,
 ⟨some 15, none, [], [], .ld true 2 (.t 14)⟩,
 ⟨some 16, none, [], [], .cal (.t 11) [(.t 15)]⟩] (some [0, 1, 5, 7, 8, 16]))
 (.cond (.t 16)
 (.keep [5]
 (.seq
 (.reg [⟨some 17, none, [], [], .mv (.t 5)⟩,
 ⟨some 4, none, [], [], .mv (.t 17)⟩] (some [4]))
 .ret))
 (.keep [0, 1, 7, 8]
 .skip)))))
 (.reg [⟨some 18, none, [], [], .bin .add false (.t 8) (.k (.sc (.int .i64 1)))⟩,
 ⟨some 8, none, [], [], .mv (.t 18)⟩] (some [0, 1, 7, 8]))))))))
 (.seq
 (.reg [⟨some 4, none, [], [], .mv (.k (.sc (.int .i64 (-1))))⟩] (some [4]))
 .ret)))
theorem b143 : cmpG Try.prog 143 = some (strip a143, r143, 19) := by kernel_rfl


end Go.Proofs.Ytbmdahhhgpbchaa.Cod
