import Derived.Test.YtbmdahhhgpbchaaProg
import Derived.Test.YtbmdahhhgpbchaaSimD
import Derived.KernelRfl
namespace Go.Proofs.Ytbmdahhhgpbchaa.Cod
open Go Go.Sim Go.Proofs
set_option maxRecDepth 100000
def zI0 : List AV := .sc (.int .i64 0) :: .sc (.int .u8 0) :: .sc (.int .u8 0) :: .sc (.int .u8 0) :: .sc (.int .u8 0) :: .sc (.int .u8 0) :: .sc (.int .u8 0) :: .sc (.int .u8 0) :: .sc (.int .u8 0) :: .sc (.int .u8 0) :: .sc (.int .u8 0) :: .sc (.int .u8 0) :: .sc (.int .u8 0) :: .sc (.int .u8 0) :: .sc (.int .u8 0) :: .sc (.int .u8 0) :: .sc (.int .u8 0) :: .sc (.int .u32 0) :: .sc (.int .u32 0) :: .sc (.int .u64 0) :: .sc (.int .u64 0) :: .sc (.int .u8 0) :: .sc (.int .u8 0) :: .sc (.int .u8 0) :: .sc (.int .u8 0) :: .sc (.int .u8 0) :: .sc (.int .u8 0) :: .sc (.int .u8 0) :: .sc (.int .u8 0) :: .sc (.int .u8 0) :: .sc (.int .u8 0) :: .sc (.int .u8 0) :: .sc (.int .u8 0) :: .sc (.int .u8 0) :: .sc (.int .u8 0) :: .sc (.int .u8 0) :: .sc (.int .u8 0) :: .sc (.int .u8 0) :: .sc (.int .u8 0) :: .sc (.int .u8 0) :: .sc (.int .u8 0) :: .sc (.int .u8 0) :: .sc (.int .u8 0) :: .sc (.int .u8 0) :: .sc (.int .u8 0) :: .sc (.int .u8 0) :: .sc (.int .u8 0) :: .sc (.int .u8 0) :: .sc (.int .u8 0) :: .sc (.int .u8 0) :: .sc (.int .u8 0) :: .sc (.int .u8 0) :: .sc (.int .u8 0) :: .nl :: .nl :: .sc (.int .i64 0) :: []
abbrev r16 : List AR := [.c 4 true 5, .t 5]
abbrev a16 : ACode :=
 (.seq
 (.reg [⟨some 4, none, [], [], .alc [(.sc (.int .i64 0)), (.sc (.int .i64 0)), (.mp [] []), (.sc (.int .i64 0)), (.sc (.int .i64 0))]⟩,
 ⟨some 5, none, [], [], .mv (.k (.sc (.int .i64 0)))⟩] (some [0, 1, 4]))
 (.seq
 (.seq
 (.reg [⟨some 8, none, [], [], .mv (.t 0)⟩,
 ⟨some 9, none, [], [], .bin .gtr false (.t 8) (.k (.sc (.int .u64 1099511627776)))⟩] (some [0, 1, 4, 9]))
 (.cond (.t 9)
 (.keep [4]
 (.seq
 (.reg [⟨some 10, none, [], [], .bld [(.sc (.int .i64 0)), (.sc (.int .i64 0)), (.mp [] []), (.sc (.int .i64 0)), (.sc (.int .i64 0))] []⟩,
 ⟨none, none, [], [], .sto 5 (.t 4) (.t 10)⟩,
 ⟨some 5, none, [], [], .mv (.k (.sc (.int .i64 1)))⟩] (some [4, 5]))
 .ret))
 (.keep [0, 1, 4]
 .skip)))
 (.seq
 (.reg [⟨some 12, none, [], [], .mv (.t 0)⟩,
 ⟨some 13, none, [], [], .cvi .i64 (.t 12)⟩,
 ⟨some 14, none, [], [], .mv (.t 1)⟩,
 ⟨some 15, none, [], [], .cal (.k (.fn 56 [])) [(.t 13), (.t 14)]⟩,
 ⟨some 11, none, [], [], .mv (.t 15)⟩,
 ⟨some 16, none, [], [], .ext (.t 11) 0⟩,
 ⟨some 17, none, [], [], .ext (.t 11) 1⟩,
 ⟨some 6, none, [], [], .alc [(.sc (.int .i64 0)), (.sc (.int .i64 0)), (.mp [] [])]⟩,
 ⟨none, none, [], [], .sto 3 (.t 6) (.t 16)⟩,
 ⟨some 7, none, [], [], .mv (.t 17)⟩] (some [4, 6, 7]))
 (.seq
 (.reg [⟨some 18, none, [], [], .ld true 3 (.t 6)⟩,
 ⟨some 19, none, [], [], .bld [(.sc (.int .i64 0)), (.sc (.int .i64 0)), (.mp [] [])] [(0, 3, (.t 18))]⟩,
 ⟨some 20, none, [], [], .bld [(.sc (.int .i64 0)), (.sc (.int .i64 0)), (.mp [] []), (.sc (.int .i64 0)), (.sc (.int .i64 0))] [(0, 3, (.t 19))]⟩,
 ⟨some 21, none, [], [], .mv (.t 7)⟩,
 ⟨none, none, [], [], .sto 5 (.t 4) (.t 20)⟩,
 ⟨some 5, none, [], [], .mv (.t 21)⟩] (some [4, 5]))
 .ret))))
theorem b16 : cmpG Try.prog 16 = some (strip a16, r16, 22) := by kernel_rfl

abbrev r18 : List AR := [.c 4 true 5, .t 5]
abbrev a18 : ACode :=
 (.seq
 (.reg [⟨some 2, none, [], [], .box (.t 0)⟩,
 ⟨some 3, none, [], [], .box (.t 1)⟩,
 ⟨some 4, none, [], [], .alc [(.sc (.int .i64 0)), (.sc (.int .i64 0)), (.mp [] []), (.sc (.int .i64 0)), (.sc (.int .i64 0))]⟩,
 ⟨some 5, none, [], [], .mv (.k .nl)⟩] (some [2, 3, 4]))
 (.seq
 (.seq
 (.reg [⟨some 9, none, [], [], .fa 0 (.t 3)⟩,
 ⟨some 10, none, [], [], .ld false 1 (.t 9)⟩,
 ⟨some 11, none, [], [], .bin .neq false (.t 10) (.k (.sc (.int .i64 3)))⟩,
 ⟨some 12, none, [], [], .mv (.t 11)⟩,
 ⟨some 13, (some (12, false)), [], [], .fa 19 (.t 3)⟩,
 ⟨some 14, (some (12, false)), [], [], .ld false 1 (.t 13)⟩,
 ⟨some 15, (some (12, false)), [], [], .bin .gtr false (.t 14) (.k (.sc (.int .u64 4611686018427387904)))⟩,
 ⟨some 16, none, [], [], .pick (.t 12) (.k (.sc (.bool true))) (.t 15)⟩] (some [2, 3, 4, 16]))
 (.cond (.t 16)
 (.keep [2, 4]
 (.seq
 (.reg [⟨some 17, none, [], [], .fa 4 (.t 2)⟩,
 ⟨some 18, none, [], [], .ld false 1 (.t 17)⟩,
 ⟨some 19, none, [], [], .bin .add false (.t 18) (.k (.sc (.int .i64 1)))⟩,
 ⟨some 20, none, [], [], .fa 4 (.t 2)⟩,
 ⟨none, none, [], [], .sto 1 (.t 20) (.t 19)⟩] (some [2, 4]))
 (.seq
 (.reg [⟨some 21, none, [], [], .ld true 5 (.t 2)⟩,
 ⟨none, none, [], [], .sto 5 (.t 4) (.t 21)⟩,
 ⟨some 5, none, [], [], .mv (.k .nl)⟩] (some [4, 5]))
 .ret)))
 (.keep [2, 3, 4]
 .skip)))
 (.seq
 (.reg [⟨some 23, none, [], [], .fa 0 (.t 2)⟩,
 ⟨some 24, none, [], [], .fa 0 (.t 23)⟩,
 ⟨some 25, none, [], [], .ld true 3 (.t 24)⟩,
 ⟨some 26, none, [], [], .fa 19 (.t 3)⟩,
 ⟨some 27, none, [], [], .ld false 1 (.t 26)⟩,
 ⟨some 28, none, [], [], .cvi .i64 (.t 27)⟩,
 ⟨some 29, none, [], [], .fa 53 (.t 3)⟩,
 ⟨some 30, none, [], [], .ld false 1 (.t 29)⟩,
 ⟨some 31, none, [], [], .cal (.k (.fn 58 [])) [(.t 25), (.t 28), (.t 30)]⟩,
 ⟨some 22, none, [], [], .mv (.t 31)⟩,
 ⟨some 32, none, [], [], .ext (.t 22) 0⟩,
 ⟨some 33, none, [], [], .ext (.t 22) 1⟩,
 ⟨some 34, none, [], [], .ext (.t 22) 2⟩,
 ⟨some 6, none, [], [], .alc [(.sc (.int .i64 0)), (.sc (.int .i64 0)), (.mp [] [])]⟩,
 ⟨none, none, [], [], .sto 3 (.t 6) (.t 32)⟩,
 ⟨some 7, none, [], [], .mv (.t 33)⟩,
 ⟨some 8, none, [], [], .mv (.t 34)⟩] (some [2, 4, 6, 7, 8]))
 (.seq
 (.reg [⟨some 35, none, [], [], .ld true 3 (.t 6)⟩,
 ⟨some 36, none, [], [], .fa 0 (.t 2)⟩,
 ⟨some 37, none, [], [], .fa 0 (.t 36)⟩,
 ⟨none, none, [], [], .sto 3 (.t 37) (.t 35)⟩] (some [2, 4, 7, 8]))
 (.seq
 (.seq
 (.reg [⟨some 38, none, [], [], .mv (.t 8)⟩] (some [2, 4, 7, 38]))
 (.cond (.t 38)
 (.keep [2, 4, 7]
 (.reg [⟨some 39, none, [], [], .fa 3 (.t 2)⟩,
 ⟨some 40, none, [], [], .ld false 1 (.t 39)⟩,
 ⟨some 41, none, [], [], .bin .add false (.t 40) (.k (.sc (.int .i64 1)))⟩,
 ⟨some 42, none, [], [], .fa 3 (.t 2)⟩,
 ⟨none, none, [], [], .sto 1 (.t 42) (.t 41)⟩] (some [2, 4, 7])))
 (.keep [2, 4, 7]
 (.reg [⟨some 43, none, [], [], .fa 4 (.t 2)⟩,
 ⟨some 44, none, [], [], .ld false 1 (.t 43)⟩,
 ⟨some 45, none, [], [], .bin .add false (.t 44) (.k (.sc (.int .i64 1)))⟩,
 ⟨some 46, none, [], [], .fa 4 (.t 2)⟩,
 ⟨none, none, [], [], .sto 1 (.t 46) (.t 45)⟩] (some [2, 4, 7])))))
 (.seq
 (.reg [⟨some 47, none, [], [], .ld true 5 (.t 2)⟩,
 ⟨some 48, none, [], [], .mv (.t 7)⟩,
 ⟨none, none, [], [], .sto 5 (.t 4) (.t 47)⟩,
 ⟨some 5, none, [], [], .mv (.t 48)⟩] (some [4, 5]))
 .ret))))))
theorem b18 : cmpG Try.prog 18 = some (strip a18, r18, 49) := by kernel_rfl

abbrev r24 : List AR := [.c 4 true 56]
abbrev a24 : ACode :=
 (.seq
 (.reg [⟨some 2, none, [], [], .box (.t 0)⟩,
 ⟨some 3, none, [], [], .box (.t 1)⟩,
 ⟨some 4, none, [], [], .alc zI0⟩] (some [2, 3, 4]))
 (.seq
 (.regD [⟨some 5, none, [(.t 3)], [], .fa 1 (.t 3)⟩,
 ⟨some 6, none, [(.t 5)], [], .ld true 16 (.t 5)⟩,
 ⟨some 7, none, [(.t 3)], [0, 1], .fa 17 (.t 3)⟩,
 ⟨some 8, none, [(.t 7)], [0, 1], .ld true 2 (.t 7)⟩,
 ⟨some 9, none, [(.t 2)], [0, 1, 2, 3], .fa 0 (.t 2)⟩,
 ⟨some 10, none, [(.t 9)], [0, 1, 2, 3], .fa 0 (.t 9)⟩,
 ⟨some 11, none, [(.t 10)], [0, 1, 2, 3], .ld true 3 (.t 10)⟩,
 ⟨some 12, none, [(.k (.fn 26 [])), (.t 11)], [0, 1, 2, 3], .cal (.k (.fn 26 [])) [(.t 11)]⟩,
 ⟨some 13, none, [(.t 12)], [0, 1, 2, 3], .cvi .u64 (.t 12)⟩,
 ⟨some 14, none, [(.t 2)], [0, 1, 2, 3, 4, 5, 6, 7, 8], .fa 0 (.t 2)⟩,
 ⟨some 15, none, [(.t 14)], [0, 1, 2, 3, 4, 5, 6, 7, 8], .fa 0 (.t 14)⟩,
 ⟨some 16, none, [(.t 15)], [0, 1, 2, 3, 4, 5, 6, 7, 8], .ld true 3 (.t 15)⟩,
 ⟨some 17, none, [(.k (.fn 62 [])), (.t 16), (.k (.sc (.int .i64 4)))], [0, 1, 2, 3, 8], .cal (.k (.fn 62 [])) [(.t 16), (.k (.sc (.int .i64 4)))]⟩,
 ⟨some 18, none, [(.k (.fn 14 [])), (.t 17)], [0, 1, 2, 3, 8], .cal (.k (.fn 14 [])) [(.t 17)]⟩,
 ⟨some 19, none, [(.k (.sc (.int .i64 4))), (.t 6), (.t 8), (.t 13), (.t 18)], [], .bld zI0 [(0, 1, (.k (.sc (.int .i64 4)))), (1, 16, (.t 6)), (17, 2, (.t 8)), (19, 1, (.t 13)), (54, 1, (.t 18))]⟩,
 ⟨none, none, [(.t 4), (.t 19)], [], .sto 56 (.t 4) (.t 19)⟩] (some [4]))
 .ret))
theorem b24 : cmpG Try.prog 24 = some (strip a24, r24, 20) := by kernel_rfl

abbrev r21 : List AR := [.t 2, .t 3]
abbrev a21 : ACode :=
 (.seq
 (.reg [⟨some 1, none, [], [], .box (.t 0)⟩,
 ⟨some 2, none, [], [], .mv (.k (.sc (.int .i64 0)))⟩,
 ⟨some 3, none, [], [], .mv (.k (.sc (.int .i64 0)))⟩] (some [1]))
 (.seq
 (.regD [⟨some 4, none, [(.t 1)], [], .fa 3 (.t 1)⟩,
 ⟨some 5, none, [(.t 4)], [], .ld false 1 (.t 4)⟩,
 ⟨some 6, none, [(.t 1)], [0, 1], .fa 4 (.t 1)⟩,
 ⟨some 7, none, [(.t 6)], [0, 1], .ld false 1 (.t 6)⟩,
 ⟨some 2, none, [(.t 5)], [2, 3], .mv (.t 5)⟩,
 ⟨some 3, none, [(.t 7)], [], .mv (.t 7)⟩] (some [2, 3]))
 .ret))
theorem b21 : cmpG Try.prog 21 = some (strip a21, r21, 8) := by kernel_rfl

abbrev r14 : List AR := [.t 2]
abbrev a14 : ACode :=
 (.seq
 (.reg [⟨some 2, none, [], [], .mv (.k .nl)⟩] (some [0]))
 (.seq
 (.reg [⟨some 3, none, [], [], .mv (.k .nl)⟩] none)
 (.seq
 (.seq
 (.reg [⟨some 6, none, [], [], .mv (.t 0)⟩,
 ⟨some 7, none, [], [], .lenL (.t 6)⟩,
 ⟨some 8, none, [], [], .mv (.k (.sc (.int .i64 0)))⟩] (some [3, 6, 7, 8]))
 (.block 0
 (.loop
 (.seq
 (.reg [⟨some 9, none, [], [], .bin .lss false (.t 8) (.t 7)⟩] none)
 (.seq
 (.cond (.t 9)
 (.keep [3, 6, 7, 8]
 .skip)
 (.exit 0))
 (.seq
 (.block 1
 (.seq
 (.reg [⟨some 10, none, [], [], .ixaS 2 (.t 6) (.t 8)⟩,
 ⟨some 11, none, [], [], .ld true 2 (.t 10)⟩,
 ⟨some 5, none, [], [], .alc [(.sc (.int .i64 0)), (.sc (.int .i64 0))]⟩,
 ⟨none, none, [], [], .sto 2 (.t 5) (.t 11)⟩] (some [3, 5, 6, 7, 8]))
 (.seq
 (.reg [⟨some 12, none, [], [], .fa 0 (.t 5)⟩,
 ⟨some 13, none, [], [], .ld false 1 (.t 12)⟩,
 ⟨some 14, none, [], [], .fa 1 (.t 5)⟩,
 ⟨some 15, none, [], [], .ld false 1 (.t 14)⟩,
 ⟨some 16, none, [], [], .mn [(.t 13), (.t 15)]⟩,
 ⟨some 17, none, [], [], .bin .geq false (.t 16) (.k (.sc (.int .i64 0)))⟩] (some [3, 5, 6, 7, 8, 17]))
 (.cond (.t 17)
 (.keep [3, 5, 6, 7, 8]
 (.reg [⟨some 18, none, [], [], .mv (.t 3)⟩,
 ⟨some 19, none, [], [], .fa 0 (.t 5)⟩,
 ⟨some 20, none, [], [], .ld false 1 (.t 19)⟩,
 ⟨some 21, none, [], [], .cvi .u64 (.t 20)⟩,
 ⟨some 22, none, [], [], .fa 1 (.t 5)⟩,
 ⟨some 23, none, [], [], .ld false 1 (.t 22)⟩,
 ⟨some 24, none, [], [], .cvi .u64 (.t 23)⟩,
 ⟨some 25, none, [], [], .bld [(.sc (.int .u64 0)), (.sc (.int .u64 0))] [(0, 1, (.t 21)), (1, 1, (.t 24))]⟩,
 ⟨some 26, none, [], [], .bsl 1 2 [(.sc (.int .u64 0)), (.sc (.int .u64 0))] [(0, 2, (.t 25))]⟩,
 ⟨some 27, none, [], [], .app 2 16 (.t 18) (.t 26)⟩,
 ⟨some 3, none, [], [], .mv (.t 27)⟩] (some [3, 6, 7, 8])))
 (.keep [3, 6, 7, 8]
 .skip)))))
 (.reg [⟨some 28, none, [], [], .bin .add false (.t 8) (.k (.sc (.int .i64 1)))⟩,
 ⟨some 8, none, [], [], .mv (.t 28)⟩] (some [3, 6, 7, 8]))))))))
 (.seq
 (.reg [⟨some 29, none, [], [], .mv (.t 3)⟩,
 ⟨some 2, none, [], [], .mv (.t 29)⟩] (some [2]))
 .ret))))
theorem b14 : cmpG Try.prog 14 = some (strip a14, r14, 30) := by kernel_rfl

abbrev r11 : List AR := [.t 0]
abbrev a11 : ACode :=
 (.seq
 (.reg [⟨some 0, none, [], [], .mv (.k (.sc (.bool false)))⟩] (some []))
 (.seq
 (.reg [⟨some 8, none, [], [], .cal (.k (.fn 16 [])) [(.k (.sc (.int .u64 512))), (.k (.sc (.int .i64 0)))]⟩,
 ⟨some 7, none, [], [], .mv (.t 8)⟩,
 ⟨some 9, none, [], [], .ext (.t 7) 0⟩,
 ⟨some 10, none, [], [], .ext (.t 7) 1⟩,
 ⟨some 1, none, [], [], .alc [(.sc (.int .i64 0)), (.sc (.int .i64 0)), (.mp [] []), (.sc (.int .i64 0)), (.sc (.int .i64 0))]⟩,
 ⟨none, none, [], [], .sto 5 (.t 1) (.t 9)⟩,
 ⟨some 2, none, [], [], .mv (.t 10)⟩] (some [1, 2]))
 (.seq
 (.regD [⟨some 12, none, [(.t 1)], [], .ld true 5 (.t 1)⟩,
 ⟨some 13, none, [(.k (.sc (.int .i64 256))), (.k (.sc (.int .i64 256)))], [0], .mks (.sc (.int .u8 0)) (.k (.sc (.int .i64 256))) (.k (.sc (.int .i64 256)))⟩,
 ⟨some 14, none, [(.k (.sc (.int .i64 3))), (.k (.sc (.int .u64 256))), (.t 13)], [0], .bld zI0 [(0, 1, (.k (.sc (.int .i64 3)))), (19, 1, (.k (.sc (.int .u64 256)))), (53, 1, (.t 13))]⟩,
 ⟨some 15, none, [(.k (.fn 18 [])), (.t 12), (.t 14)], [], .cal (.k (.fn 18 [])) [(.t 12), (.t 14)]⟩,
 ⟨some 11, none, [(.t 15)], [], .mv (.t 15)⟩,
 ⟨some 16, none, [(.t 11)], [], .ext (.t 11) 0⟩,
 ⟨some 17, none, [(.t 11)], [5], .ext (.t 11) 1⟩,
 ⟨none, none, [(.t 1), (.t 16)], [6], .sto 5 (.t 1) (.t 16)⟩,
 ⟨some 3, none, [(.t 17)], [], .mv (.t 17)⟩] (some [1, 2, 3]))
 (.seq
 (.reg [⟨some 18, none, [], [], .ld true 5 (.t 1)⟩,
 ⟨some 19, none, [], [], .bld zI0 []⟩,
 ⟨some 20, none, [], [], .cal (.k (.fn 24 [])) [(.t 18), (.t 19)]⟩,
 ⟨some 4, none, [], [], .alc zI0⟩,
 ⟨none, none, [], [], .sto 56 (.t 4) (.t 20)⟩] (some [1, 2, 3, 4]))
 (.seq
 (.reg [⟨some 22, none, [], [], .ld true 5 (.t 1)⟩,
 ⟨some 23, none, [], [], .cal (.k (.fn 21 [])) [(.t 22)]⟩,
 ⟨some 21, none, [], [], .mv (.t 23)⟩,
 ⟨some 24, none, [], [], .ext (.t 21) 0⟩,
 ⟨some 25, none, [], [], .ext (.t 21) 1⟩,
 ⟨some 5, none, [], [], .mv (.t 24)⟩,
 ⟨some 6, none, [], [], .mv (.t 25)⟩] (some [1, 2, 3, 4, 5, 6]))
 (.seq
 (.reg (⟨some 26, none, [], [], .mv (.t 2)⟩ ::
 ⟨some 27, none, [], [], .bin .eql false (.t 26) (.k (.sc (.int .i64 0)))⟩ ::
 ⟨some 28, none, [], [], .mv (.t 27)⟩ ::
 ⟨some 29, (some (28, true)), [], [], .mv (.t 3)⟩ ::
 ⟨some 30, (some (28, true)), [], [], .lenL (.t 29)⟩ ::
 ⟨some 31, (some (28, true)), [], [], .bin .eql false (.t 30) (.k (.sc (.int .i64 0)))⟩ ::
 ⟨some 32, none, [], [], .pick (.t 28) (.t 31) (.k (.sc (.bool false)))⟩ ::
 ⟨some 33, none, [], [], .mv (.t 32)⟩ ::
 ⟨some 34, (some (33, true)), [], [], .fa 0 (.t 4)⟩ ::
 ⟨some 35, (some (33, true)), [], [], .ld false 1 (.t 34)⟩ ::
 ⟨some 36, (some (33, true)), [], [], .bin .eql false (.t 35) (.k (.sc (.int .i64 4)))⟩ ::
 ⟨some 37, none, [], [], .pick (.t 33) (.t 36) (.k (.sc (.bool false)))⟩ ::
 ⟨some 38, none, [], [], .mv (.t 37)⟩ ::
 ⟨some 39, (some (38, true)), [], [], .fa 19 (.t 4)⟩ ::
 ⟨some 40, (some (38, true)), [], [], .ld false 1 (.t 39)⟩ ::
 ⟨some 41, (some (38, true)), [], [], .bin .eql false (.t 40) (.k (.sc (.int .u64 0)))⟩ ::
 ⟨some 42, none, [], [], .pick (.t 38) (.t 41) (.k (.sc (.bool false)))⟩ ::
 ⟨some 43, none, [], [], .mv (.t 42)⟩ ::
 ⟨some 44, (some (43, true)), [], [], .fa 54 (.t 4)⟩ ::
 ⟨some 45, (some (43, true)), [], [], .ld false 1 (.t 44)⟩ ::
 ⟨some 46, (some (43, true)), [], [], .lenL (.t 45)⟩ ::
 ⟨some 47, (some (43, true)), [], [], .bin .eql false (.t 46) (.k (.sc (.int .i64 1)))⟩ ::
 ⟨some 48, none, [], [], .pick (.t 43) (.t 47) (.k (.sc (.bool false)))⟩ ::
 ⟨some 49, none, [], [], .mv (.t 48)⟩ ::
 ⟨some 50, (some (49, true)), [], [], .fa 54 (.t 4)⟩ ::
 ⟨some 51, (some (49, true)), [], [], .ld false 1 (.t 50)⟩ ::
 ⟨some 52, (some (49, true)), [], [], .ixaS 2 (.t 51) (.k (.sc (.int .i64 0)))⟩ ::
 ⟨some 53, (some (49, true)), [], [], .ld true 2 (.t 52)⟩ ::
 ⟨some 54, (some (49, true)), [], [], .bld [(.sc (.int .u64 0)), (.sc (.int .u64 0))] [(0, 1, (.k (.sc (.int .u64 256)))), (1, 1, (.k (.sc (.int .u64 512))))]⟩ ::
 ⟨some 55, (some (49, true)), [], [], .aeq false 2 [.i, .i] (.t 53) (.t 54)⟩ ::
 ⟨some 56, none, [], [], .pick (.t 49) (.t 55) (.k (.sc (.bool false)))⟩ ::
 ⟨some 57, none, [], [], .mv (.t 56)⟩ ::
 ⟨some 58, (some (57, true)), [], [], .mv (.t 5)⟩ ::
 ⟨some 59, (some (57, true)), [], [], .bin .eql false (.t 58) (.k (.sc (.int .i64 1)))⟩ ::
 ⟨some 60, none, [], [], .pick (.t 57) (.t 59) (.k (.sc (.bool false)))⟩ ::
 ⟨some 61, none, [], [], .mv (.t 60)⟩ ::
 ⟨some 62, (some (61, true)), [], [], .mv (.t 6)⟩ ::
 ⟨some 63, (some (61, true)), [], [], .bin .eql false (.t 62) (.k (.sc (.int .i64 0)))⟩ ::
 ⟨some 64, none, [], [], .pick (.t 61) (.t 63) (.k (.sc (.bool false)))⟩ ::
 ⟨some 65, none, [], [], .mv (.t 64)⟩ ::
 ⟨some 66, (some (65, true)), [], [], .fa 0 (.t 1)⟩ ::
 ⟨some 67, (some (65, true)), [], [], .fa 0 (.t 66)⟩ ::
 ⟨some 68, (some (65, true)), [], [], .ld true 3 (.t 67)⟩ ::
 ⟨some 69, (some (65, true)), [], [], .cal (.k (.fn 28 [])) [(.t 68)]⟩ ::
 ⟨some 70, (some (65, true)), [], [], .bin .eql false (.t 69) (.k (.sc (.int .i64 256)))⟩ ::
 ⟨some 71, none, [], [], .pick (.t 65) (.t 70) (.k (.sc (.bool false)))⟩ ::
 ⟨some 0, none, [], [], .mv (.t 71)⟩ :: []) (some [0]))
 .ret))))))
theorem b11 : cmpG Try.prog 11 = some (strip a11, r11, 72) := by kernel_rfl

abbrev r3 : List AR := [.t 4]
abbrev a3 : ACode :=
 (.seq
 (.reg [⟨some 4, none, [], [], .mv (.k (.sc (.bool false)))⟩] (some [0, 1]))
 (.seq
 (.seq
 (.reg [⟨some 17, none, [], [], .mv (.t 0)⟩,
 ⟨some 18, none, [], [], .lenL (.t 17)⟩,
 ⟨some 19, none, [], [], .bin .gtr false (.t 18) (.k (.sc (.int .i64 30)))⟩,
 ⟨some 20, none, [], [], .mv (.t 19)⟩,
 ⟨some 21, (some (20, false)), [], [], .mv (.t 1)⟩,
 ⟨some 22, (some (20, false)), [], [], .lenL (.t 21)⟩,
 ⟨some 23, (some (20, false)), [], [], .bin .gtr false (.t 22) (.k (.sc (.int .i64 30)))⟩,
 ⟨some 24, none, [], [], .pick (.t 20) (.k (.sc (.bool true))) (.t 23)⟩] (some [0, 1, 24]))
 (.cond (.t 24)
 (.keep []
 (.seq
 (.reg [⟨some 25, none, [], [], .cal (.k (.fn 11 [])) []⟩,
 ⟨some 4, none, [], [], .mv (.t 25)⟩] (some [4]))
 .ret))
 (.keep [0, 1]
 .skip)))
 (.seq
 (.reg [⟨some 5, none, [], [], .mv (.k .nl)⟩] (some [0, 1, 5]))
 (.seq
 (.reg [⟨some 6, none, [], [], .mv (.k .nl)⟩] none)
 (.seq
 (.seq
 (.reg [⟨some 26, none, [], [], .mv (.t 0)⟩,
 ⟨some 27, none, [], [], .lenL (.t 26)⟩,
 ⟨some 28, none, [], [], .mv (.k (.sc (.int .i64 0)))⟩] none)
 (.block 0
 (.loop
 (.seq
 (.reg [⟨some 29, none, [], [], .bin .lss false (.t 28) (.t 27)⟩] none)
 (.seq
 (.cond (.t 29)
 (.keep [0, 1, 5, 6, 26, 27, 28]
 .skip)
 (.exit 0))
 (.seq
 (.block 1
 (.seq
 (.reg [⟨some 30, none, [], [], .ixaS 2 (.t 26) (.t 28)⟩,
 ⟨some 31, none, [], [], .ld true 2 (.t 30)⟩,
 ⟨some 8, none, [], [], .alc [(.sc (.int .u64 0)), (.sc (.int .u64 0))]⟩,
 ⟨none, none, [], [], .sto 2 (.t 8) (.t 31)⟩] (some [0, 1, 5, 6, 8, 26, 27, 28]))
 (.reg [⟨some 32, none, [], [], .mv (.t 5)⟩,
 ⟨some 33, none, [], [], .ld true 2 (.t 8)⟩,
 ⟨some 34, none, [], [], .bsl 1 2 [(.sc (.int .u64 0)), (.sc (.int .u64 0))] [(0, 2, (.t 33))]⟩,
 ⟨some 35, none, [], [], .app 2 16 (.t 32) (.t 34)⟩,
 ⟨some 5, none, [], [], .mv (.t 35)⟩] (some [0, 1, 5, 6, 26, 27, 28]))))
 (.reg [⟨some 36, none, [], [], .bin .add false (.t 28) (.k (.sc (.int .i64 1)))⟩,
 ⟨some 28, none, [], [], .mv (.t 36)⟩] (some [0, 1, 5, 6, 26, 27, 28]))))))))
 (.seq
 (.seq
 (.reg [⟨some 37, none, [], [], .mv (.t 1)⟩,
 ⟨some 38, none, [], [], .lenL (.t 37)⟩,
 ⟨some 39, none, [], [], .mv (.k (.sc (.int .i64 0)))⟩] (some [0, 1, 5, 6, 37, 38, 39]))
 (.block 2
 (.loop
 (.seq
 (.reg [⟨some 40, none, [], [], .bin .lss false (.t 39) (.t 38)⟩] none)
 (.seq
 (.cond (.t 40)
 (.keep [0, 1, 5, 6, 37, 38, 39]
 .skip)
 (.exit 2))
 (.seq
 (.block 3
 (.seq
 (.reg [⟨some 41, none, [], [], .ixaS 2 (.t 37) (.t 39)⟩,
 ⟨some 42, none, [], [], .ld true 2 (.t 41)⟩,
 ⟨some 10, none, [], [], .alc [(.sc (.int .i64 0)), (.sc (.int .i64 0))]⟩,
 ⟨none, none, [], [], .sto 2 (.t 10) (.t 42)⟩] (some [0, 1, 5, 6, 10, 37, 38, 39]))
 (.reg [⟨some 43, none, [], [], .mv (.t 6)⟩,
 ⟨some 44, none, [], [], .ld true 2 (.t 10)⟩,
 ⟨some 45, none, [], [], .bsl 1 2 [(.sc (.int .i64 0)), (.sc (.int .i64 0))] [(0, 2, (.t 44))]⟩,
 ⟨some 46, none, [], [], .app 2 16 (.t 43) (.t 45)⟩,
 ⟨some 6, none, [], [], .mv (.t 46)⟩] (some [0, 1, 5, 6, 37, 38, 39]))))
 (.reg [⟨some 47, none, [], [], .bin .add false (.t 39) (.k (.sc (.int .i64 1)))⟩,
 ⟨some 39, none, [], [], .mv (.t 47)⟩] (some [0, 1, 5, 6, 37, 38, 39]))))))))
 (.seq
 (.reg [⟨some 48, none, [], [], .mv (.t 5)⟩,
 ⟨some 49, none, [], [], .cal (.k (.fn 12 [])) [(.t 48)]⟩,
 ⟨some 50, none, [], [], .mv (.t 0)⟩,
 ⟨some 51, none, [], [], .cal (.k (.fn 13 [])) [(.t 50)]⟩,
 ⟨some 11, none, [], [], .mv (.t 49)⟩,
 ⟨some 12, none, [], [], .mv (.t 51)⟩] (some [1, 6, 11, 12]))
 (.seq
 (.reg [⟨some 52, none, [], [], .mv (.t 6)⟩,
 ⟨some 53, none, [], [], .cal (.k (.fn 14 [])) [(.t 52)]⟩,
 ⟨some 54, none, [], [], .mv (.t 1)⟩,
 ⟨some 55, none, [], [], .cal (.k (.fn 15 [])) [(.t 54)]⟩,
 ⟨some 13, none, [], [], .mv (.t 53)⟩,
 ⟨some 14, none, [], [], .mv (.t 55)⟩] (some [11, 12, 13, 14]))
 (.seq
 (.seq
 (.reg [⟨some 56, none, [], [], .mv (.t 11)⟩,
 ⟨some 57, none, [], [], .lenL (.t 56)⟩,
 ⟨some 58, none, [], [], .mv (.t 12)⟩,
 ⟨some 59, none, [], [], .lenL (.t 58)⟩,
 ⟨some 60, none, [], [], .bin .neq false (.t 57) (.t 59)⟩,
 ⟨some 61, none, [], [], .mv (.t 60)⟩,
 ⟨some 62, (some (61, false)), [], [], .mv (.t 13)⟩,
 ⟨some 63, (some (61, false)), [], [], .lenL (.t 62)⟩,
 ⟨some 64, (some (61, false)), [], [], .mv (.t 14)⟩,
 ⟨some 65, (some (61, false)), [], [], .lenL (.t 64)⟩,
 ⟨some 66, (some (61, false)), [], [], .bin .neq false (.t 63) (.t 65)⟩,
 ⟨some 67, none, [], [], .pick (.t 61) (.k (.sc (.bool true))) (.t 66)⟩] (some [11, 12, 13, 14, 67]))
 (.cond (.t 67)
 (.keep []
 (.seq
 (.reg [⟨some 4, none, [], [], .mv (.k (.sc (.bool false)))⟩] none)
 .ret))
 (.keep [11, 12, 13, 14]
 .skip)))
 (.seq
 (.seq
 (.reg [⟨some 68, none, [], [], .mv (.t 11)⟩,
 ⟨some 69, none, [], [], .lenL (.t 68)⟩,
 ⟨some 70, none, [], [], .mv (.k (.sc (.int .i64 0)))⟩] (some [11, 12, 13, 14, 69, 70]))
 (.block 4
 (.loop
 (.seq
 (.reg [⟨some 71, none, [], [], .bin .lss false (.t 70) (.t 69)⟩] none)
 (.seq
 (.cond (.t 71)
 (.keep [11, 12, 13, 14, 69, 70]
 .skip)
 (.exit 4))
 (.seq
 (.block 5
 (.seq
 (.reg [⟨some 72, none, [], [], .mv (.t 70)⟩,
 ⟨some 15, none, [], [], .mv (.t 72)⟩] (some [11, 12, 13, 14, 15, 69, 70]))
 (.seq
 (.regD [⟨some 73, none, [(.t 11)], [], .mv (.t 11)⟩,
 ⟨some 74, none, [(.t 15)], [0], .mv (.t 15)⟩,
 ⟨some 75, none, [(.t 73), (.t 74)], [], .ixaS 2 (.t 73) (.t 74)⟩,
 ⟨some 76, none, [(.t 75)], [], .ld true 2 (.t 75)⟩,
 ⟨some 77, none, [(.t 12)], [0, 1, 2, 3], .mv (.t 12)⟩,
 ⟨some 78, none, [(.t 15)], [0, 1, 2, 3, 4], .mv (.t 15)⟩,
 ⟨some 79, none, [(.t 77), (.t 78)], [0, 1, 2, 3], .ixaS 2 (.t 77) (.t 78)⟩,
 ⟨some 80, none, [(.t 79)], [0, 1, 2, 3], .ld true 2 (.t 79)⟩,
 ⟨some 81, none, [(.t 76), (.t 80)], [], .aeq true 2 [.i, .i] (.t 76) (.t 80)⟩] (some [11, 12, 13, 14, 69, 70, 81]))
 (.cond (.t 81)
 (.keep []
 (.seq
 (.reg [⟨some 4, none, [], [], .mv (.k (.sc (.bool false)))⟩] none)
 .ret))
 (.keep [11, 12, 13, 14, 69, 70]
 .skip)))))
 (.reg [⟨some 82, none, [], [], .bin .add false (.t 70) (.k (.sc (.int .i64 1)))⟩,
 ⟨some 70, none, [], [], .mv (.t 82)⟩] (some [11, 12, 13, 14, 69, 70]))))))))
 (.seq
 (.seq
 (.reg [⟨some 83, none, [], [], .mv (.t 13)⟩,
 ⟨some 84, none, [], [], .lenL (.t 83)⟩,
 ⟨some 85, none, [], [], .mv (.k (.sc (.int .i64 0)))⟩] (some [13, 14, 84, 85]))
 (.block 6
 (.loop
 (.seq
 (.reg [⟨some 86, none, [], [], .bin .lss false (.t 85) (.t 84)⟩] none)
 (.seq
 (.cond (.t 86)
 (.keep [13, 14, 84, 85]
 .skip)
 (.exit 6))
 (.seq
 (.block 7
 (.seq
 (.reg [⟨some 87, none, [], [], .mv (.t 85)⟩,
 ⟨some 16, none, [], [], .mv (.t 87)⟩] (some [13, 14, 16, 84, 85]))
 (.seq
 (.regD [⟨some 88, none, [(.t 13)], [], .mv (.t 13)⟩,
 ⟨some 89, none, [(.t 16)], [0], .mv (.t 16)⟩,
 ⟨some 90, none, [(.t 88), (.t 89)], [], .ixaS 2 (.t 88) (.t 89)⟩,
 ⟨some 91, none, [(.t 90)], [], .ld true 2 (.t 90)⟩,
 ⟨some 92, none, [(.t 14)], [0, 1, 2, 3], .mv (.t 14)⟩,
 ⟨some 93, none, [(.t 16)], [0, 1, 2, 3, 4], .mv (.t 16)⟩,
 ⟨some 94, none, [(.t 92), (.t 93)], [0, 1, 2, 3], .ixaS 2 (.t 92) (.t 93)⟩,
 ⟨some 95, none, [(.t 94)], [0, 1, 2, 3], .ld true 2 (.t 94)⟩,
 ⟨some 96, none, [(.t 91), (.t 95)], [], .aeq true 2 [.i, .i] (.t 91) (.t 95)⟩] (some [13, 14, 84, 85, 96]))
 (.cond (.t 96)
 (.keep []
 (.seq
 (.reg [⟨some 4, none, [], [], .mv (.k (.sc (.bool false)))⟩] none)
 .ret))
 (.keep [13, 14, 84, 85]
 .skip)))))
 (.reg [⟨some 97, none, [], [], .bin .add false (.t 85) (.k (.sc (.int .i64 1)))⟩,
 ⟨some 85, none, [], [], .mv (.t 97)⟩] (some [13, 14, 84, 85]))))))))
 (.seq
 (.reg [⟨some 98, none, [], [], .cal (.k (.fn 11 [])) []⟩,
 ⟨some 4, none, [], [], .mv (.t 98)⟩] (some [4]))
 .ret))))))))))))
theorem b3 : cmpG Try.prog 3 = some (strip a3, r3, 99) := by kernel_rfl

abbrev r4 : List AR := [.t 6]
abbrev a4 : ACode :=
 (.seq
 (.reg [⟨some 6, none, [], [], .mv (.k (.sc (.bool false)))⟩] (some [0, 1, 2]))
 (.seq
 (.reg [⟨some 20, none, [], [], .mv (.t 0)⟩,
 ⟨some 21, none, [], [], .mv (.t 1)⟩,
 ⟨some 22, none, [], [], .cal (.k (.fn 16 [])) [(.t 20), (.t 21)]⟩,
 ⟨some 19, none, [], [], .mv (.t 22)⟩,
 ⟨some 23, none, [], [], .ext (.t 19) 0⟩,
 ⟨some 24, none, [], [], .ext (.t 19) 1⟩,
 ⟨some 7, none, [], [], .alc [(.sc (.int .i64 0)), (.sc (.int .i64 0)), (.mp [] []), (.sc (.int .i64 0)), (.sc (.int .i64 0))]⟩,
 ⟨none, none, [], [], .sto 5 (.t 7) (.t 23)⟩,
 ⟨some 8, none, [], [], .mv (.t 24)⟩] (some [0, 1, 2, 7, 8]))
 (.seq
 (.reg [⟨some 26, none, [], [], .mv (.t 0)⟩,
 ⟨some 27, none, [], [], .mv (.t 1)⟩,
 ⟨some 28, none, [], [], .cal (.k (.fn 17 [])) [(.t 26), (.t 27)]⟩,
 ⟨some 25, none, [], [], .mv (.t 28)⟩,
 ⟨some 29, none, [], [], .ext (.t 25) 0⟩,
 ⟨some 30, none, [], [], .ext (.t 25) 1⟩,
 ⟨some 9, none, [], [], .alc [(.sc (.int .i64 0)), (.sc (.int .i64 0)), .nl, (.sc (.int .i64 0)), (.sc (.int .i64 0))]⟩,
 ⟨none, none, [], [], .sto 5 (.t 9) (.t 29)⟩,
 ⟨some 10, none, [], [], .mv (.t 30)⟩] (some [2, 7, 8, 9, 10]))
 (.seq
 (.seq
 (.reg [⟨some 31, none, [], [], .mv (.t 8)⟩,
 ⟨some 32, none, [], [], .mv (.t 10)⟩,
 ⟨some 33, none, [], [], .bin .neq false (.t 31) (.t 32)⟩,
 ⟨some 34, none, [], [], .mv (.t 33)⟩,
 ⟨some 35, (some (34, false)), [], [], .mv (.t 8)⟩,
 ⟨some 36, (some (34, false)), [], [], .bin .neq false (.t 35) (.k (.sc (.int .i64 0)))⟩,
 ⟨some 37, none, [], [], .pick (.t 34) (.k (.sc (.bool true))) (.t 36)⟩] (some [2, 7, 8, 9, 10, 37]))
 (.cond (.t 37)
 (.keep [8, 10]
 (.seq
 (.reg [⟨some 38, none, [], [], .mv (.t 8)⟩,
 ⟨some 39, none, [], [], .mv (.t 10)⟩,
 ⟨some 40, none, [], [], .bin .eql false (.t 38) (.t 39)⟩,
 ⟨some 41, none, [], [], .mv (.t 40)⟩,
 ⟨some 42, (some (41, true)), [], [], .cal (.k (.fn 11 [])) []⟩,
 ⟨some 43, none, [], [], .pick (.t 41) (.t 42) (.k (.sc (.bool false)))⟩,
 ⟨some 6, none, [], [], .mv (.t 43)⟩] (some [6]))
 .ret))
 (.keep [2, 7, 9]
 .skip)))
 (.seq
 (.seq
 (.reg [⟨some 44, none, [], [], .mv (.t 2)⟩,
 ⟨some 45, none, [], [], .mv (.t 2)⟩,
 ⟨some 46, none, [], [], .lenL (.t 45)⟩,
 ⟨some 47, none, [], [], .mn [(.t 46), (.k (.sc (.int .i64 40)))]⟩,
 ⟨some 48, none, [], [], .slL 56 none (some (.t 47)) none (.t 44)⟩,
 ⟨some 49, none, [], [], .lenL (.t 48)⟩,
 ⟨some 50, none, [], [], .mv (.k (.sc (.int .i64 0)))⟩] (some [7, 9, 48, 49, 50]))
 (.block 0
 (.loop
 (.seq
 (.reg [⟨some 51, none, [], [], .bin .lss false (.t 50) (.t 49)⟩] none)
 (.seq
 (.cond (.t 51)
 (.keep [7, 9, 48, 49, 50]
 .skip)
 (.exit 0))
 (.seq
 (.block 1
 (.seq
 (.reg [⟨some 52, none, [], [], .ixaS 56 (.t 48) (.t 50)⟩,
 ⟨some 53, none, [], [], .ld true 56 (.t 52)⟩,
 ⟨some 12, none, [], [], .alc zI0⟩,
 ⟨none, none, [], [], .sto 56 (.t 12) (.t 53)⟩] (some [7, 9, 12, 48, 49, 50]))
 (.seq
 (.seq
 (.reg [⟨some 54, none, [], [], .fa 53 (.t 12)⟩,
 ⟨some 55, none, [], [], .ld false 1 (.t 54)⟩,
 ⟨some 56, none, [], [], .lenL (.t 55)⟩,
 ⟨some 57, none, [], [], .bin .gtr false (.t 56) (.k (.sc (.int .i64 1000)))⟩,
 ⟨some 58, none, [], [], .mv (.t 57)⟩,
 ⟨some 59, (some (58, false)), [], [], .fa 54 (.t 12)⟩,
 ⟨some 60, (some (58, false)), [], [], .ld false 1 (.t 59)⟩,
 ⟨some 61, (some (58, false)), [], [], .lenL (.t 60)⟩,
 ⟨some 62, (some (58, false)), [], [], .bin .gtr false (.t 61) (.k (.sc (.int .i64 10)))⟩,
 ⟨some 63, none, [], [], .pick (.t 58) (.k (.sc (.bool true))) (.t 62)⟩] (some [7, 9, 12, 48, 49, 50, 63]))
 (.cond (.t 63)
 (.keep []
 (.seq
 (.reg [⟨some 64, none, [], [], .cal (.k (.fn 11 [])) []⟩,
 ⟨some 6, none, [], [], .mv (.t 64)⟩] (some [6]))
 .ret))
 (.keep [7, 9, 12, 48, 49, 50]
 .skip)))
 (.seq
 (.regD [⟨some 66, none, [(.t 7)], [], .ld true 5 (.t 7)⟩,
 ⟨some 67, none, [(.t 12)], [0], .ld true 56 (.t 12)⟩,
 ⟨some 68, none, [(.k (.fn 19 [])), (.t 67)], [0], .cal (.k (.fn 19 [])) [(.t 67)]⟩,
 ⟨some 69, none, [(.k (.fn 18 [])), (.t 66), (.t 68)], [], .cal (.k (.fn 18 [])) [(.t 66), (.t 68)]⟩,
 ⟨some 65, none, [(.t 69)], [], .mv (.t 69)⟩,
 ⟨some 70, none, [(.t 65)], [], .ext (.t 65) 0⟩,
 ⟨some 71, none, [(.t 65)], [5], .ext (.t 65) 1⟩,
 ⟨some 13, none, [], [0, 1, 2, 3, 4, 5, 6], .alc [(.sc (.int .i64 0)), (.sc (.int .i64 0)), (.mp [] []), (.sc (.int .i64 0)), (.sc (.int .i64 0))]⟩,
 ⟨none, none, [(.t 13), (.t 70)], [6], .sto 5 (.t 13) (.t 70)⟩,
 ⟨some 14, none, [(.t 71)], [], .mv (.t 71)⟩] (some [7, 9, 12, 13, 14, 48, 49, 50]))
 (.seq
 (.reg [⟨some 73, none, [], [], .ld true 5 (.t 9)⟩,
 ⟨some 74, none, [], [], .ld true 56 (.t 12)⟩,
 ⟨some 75, none, [], [], .cal (.k (.fn 20 [])) [(.t 73), (.t 74)]⟩,
 ⟨some 72, none, [], [], .mv (.t 75)⟩,
 ⟨some 76, none, [], [], .ext (.t 72) 0⟩,
 ⟨some 77, none, [], [], .ext (.t 72) 1⟩,
 ⟨some 15, none, [], [], .alc [(.sc (.int .i64 0)), (.sc (.int .i64 0)), .nl, (.sc (.int .i64 0)), (.sc (.int .i64 0))]⟩,
 ⟨none, none, [], [], .sto 5 (.t 15) (.t 76)⟩,
 ⟨some 16, none, [], [], .mv (.t 77)⟩] (some [7, 9, 12, 13, 14, 15, 16, 48, 49, 50]))
 (.seq
 (.regD [⟨some 78, none, [(.t 13)], [], .ld true 5 (.t 13)⟩,
 ⟨some 79, none, [(.t 15)], [0], .ld true 5 (.t 15)⟩,
 ⟨none, none, [(.t 7), (.t 78)], [1], .sto 5 (.t 7) (.t 78)⟩,
 ⟨none, none, [(.t 9), (.t 79)], [], .sto 5 (.t 9) (.t 79)⟩] (some [7, 9, 12, 14, 16, 48, 49, 50]))
 (.seq
 (.reg [⟨some 81, none, [], [], .ld true 5 (.t 7)⟩,
 ⟨some 82, none, [], [], .cal (.k (.fn 21 [])) [(.t 81)]⟩,
 ⟨some 80, none, [], [], .mv (.t 82)⟩,
 ⟨some 83, none, [], [], .ext (.t 80) 0⟩,
 ⟨some 84, none, [], [], .ext (.t 80) 1⟩,
 ⟨some 17, none, [], [], .mv (.t 83)⟩,
 ⟨some 18, none, [], [], .mv (.t 84)⟩] (some [7, 9, 12, 14, 16, 17, 18, 48, 49, 50]))
 (.seq
 (.regD (⟨some 85, none, [(.t 14)], [], .mv (.t 14)⟩ ::
 ⟨some 86, none, [(.t 16)], [0], .mv (.t 16)⟩ ::
 ⟨some 87, none, [(.k (.fn 22 [])), (.t 85), (.t 86)], [], .cal (.k (.fn 22 [])) [(.t 85), (.t 86)]⟩ ::
 ⟨some 88, none, [(.t 87)], [], .un .not (.t 87)⟩ ::
 ⟨some 89, none, [(.t 88)], [], .mv (.t 88)⟩ ::
 ⟨some 90, (some (89, false)), [(.t 7)], [], .ld true 5 (.t 7)⟩ ::
 ⟨some 91, (some (89, false)), [(.t 12)], [5], .ld true 56 (.t 12)⟩ ::
 ⟨some 92, (some (89, false)), [(.k (.fn 19 [])), (.t 91)], [5], .cal (.k (.fn 19 [])) [(.t 91)]⟩ ::
 ⟨some 93, (some (89, false)), [(.k (.fn 24 [])), (.t 90), (.t 92)], [], .cal (.k (.fn 24 [])) [(.t 90), (.t 92)]⟩ ::
 ⟨some 94, (some (89, false)), [(.t 9)], [5, 6, 7, 8], .ld true 5 (.t 9)⟩ ::
 ⟨some 95, (some (89, false)), [(.t 12)], [5, 6, 7, 8, 9], .ld true 56 (.t 12)⟩ ::
 ⟨some 96, (some (89, false)), [(.k (.fn 25 [])), (.t 94), (.t 95)], [], .cal (.k (.fn 25 [])) [(.t 94), (.t 95)]⟩ ::
 ⟨some 97, (some (89, false)), [(.k (.fn 19 [])), (.t 96)], [], .cal (.k (.fn 19 [])) [(.t 96)]⟩ ::
 ⟨some 98, (some (89, false)), [(.k (.fn 23 [])), (.t 93), (.t 97)], [], .cal (.k (.fn 23 [])) [(.t 93), (.t 97)]⟩ ::
 ⟨some 99, (some (89, false)), [(.t 98)], [], .un .not (.t 98)⟩ ::
 ⟨some 100, none, [(.t 89), (.k (.sc (.bool true))), (.t 99)], [], .pick (.t 89) (.k (.sc (.bool true))) (.t 99)⟩ ::
 ⟨some 101, none, [(.t 100)], [], .mv (.t 100)⟩ ::
 ⟨some 102, (some (101, false)), [(.t 17)], [], .mv (.t 17)⟩ ::
 ⟨some 103, (some (101, false)), [(.t 9)], [17], .fa 3 (.t 9)⟩ ::
 ⟨some 104, (some (101, false)), [(.t 103)], [17], .ld false 1 (.t 103)⟩ ::
 ⟨some 105, (some (101, false)), [(.t 102), (.t 104)], [], .bin .neq false (.t 102) (.t 104)⟩ ::
 ⟨some 106, none, [(.t 101), (.k (.sc (.bool true))), (.t 105)], [], .pick (.t 101) (.k (.sc (.bool true))) (.t 105)⟩ ::
 ⟨some 107, none, [(.t 106)], [], .mv (.t 106)⟩ ::
 ⟨some 108, (some (107, false)), [(.t 18)], [], .mv (.t 18)⟩ ::
 ⟨some 109, (some (107, false)), [(.t 9)], [23], .fa 4 (.t 9)⟩ ::
 ⟨some 110, (some (107, false)), [(.t 109)], [23], .ld false 1 (.t 109)⟩ ::
 ⟨some 111, (some (107, false)), [(.t 108), (.t 110)], [], .bin .neq false (.t 108) (.t 110)⟩ ::
 ⟨some 112, none, [(.t 107), (.k (.sc (.bool true))), (.t 111)], [], .pick (.t 107) (.k (.sc (.bool true))) (.t 111)⟩ ::
 ⟨some 113, none, [(.t 112)], [], .mv (.t 112)⟩ ::
 ⟨some 114, (some (113, false)), [(.t 7)], [], .fa 0 (.t 7)⟩ ::
 ⟨some 115, (some (113, false)), [(.t 114)], [], .fa 0 (.t 114)⟩ ::
 ⟨some 116, (some (113, false)), [(.t 115)], [], .ld true 3 (.t 115)⟩ ::
 ⟨some 117, (some (113, false)), [(.k (.fn 26 [])), (.t 116)], [], .cal (.k (.fn 26 [])) [(.t 116)]⟩ ::
 ⟨some 118, (some (113, false)), [(.t 9)], [29, 30, 31, 32], .fa 0 (.t 9)⟩ ::
 ⟨some 119, (some (113, false)), [(.t 118)], [29, 30, 31, 32], .fa 1 (.t 118)⟩ ::
 ⟨some 120, (some (113, false)), [(.t 119)], [29, 30, 31, 32], .ld false 1 (.t 119)⟩ ::
 ⟨some 121, (some (113, false)), [(.t 117), (.t 120)], [], .bin .neq false (.t 117) (.t 120)⟩ ::
 ⟨some 122, none, [(.t 113), (.k (.sc (.bool true))), (.t 121)], [], .pick (.t 113) (.k (.sc (.bool true))) (.t 121)⟩ ::
 ⟨some 123, none, [(.t 122)], [], .mv (.t 122)⟩ ::
 ⟨some 124, (some (123, false)), [(.t 7)], [], .fa 0 (.t 7)⟩ ::
 ⟨some 125, (some (123, false)), [(.t 124)], [], .fa 0 (.t 124)⟩ ::
 ⟨some 126, (some (123, false)), [(.t 125)], [], .ld true 3 (.t 125)⟩ ::
 ⟨some 127, (some (123, false)), [(.k (.fn 27 [])), (.t 126)], [], .cal (.k (.fn 27 [])) [(.t 126)]⟩ ::
 ⟨some 128, (some (123, false)), [(.t 9)], [39, 40, 41, 42], .fa 0 (.t 9)⟩ ::
 ⟨some 129, (some (123, false)), [(.t 128)], [39, 40, 41, 42], .fa 1 (.t 128)⟩ ::
 ⟨some 130, (some (123, false)), [(.t 129)], [39, 40, 41, 42], .ld false 1 (.t 129)⟩ ::
 ⟨some 131, (some (123, false)), [(.t 9)], [39, 40, 41, 42, 43, 44, 45], .fa 0 (.t 9)⟩ ::
 ⟨some 132, (some (123, false)), [(.t 131)], [39, 40, 41, 42, 43, 44, 45], .fa 0 (.t 131)⟩ ::
 ⟨some 133, (some (123, false)), [(.t 132)], [39, 40, 41, 42, 43, 44, 45], .ld false 1 (.t 132)⟩ ::
 ⟨some 134, (some (123, false)), [(.t 130), (.t 133)], [39, 40, 41, 42], .bin .eql false (.t 130) (.t 133)⟩ ::
 ⟨some 135, (some (123, false)), [(.t 127), (.t 134)], [], .bin .neq true (.t 127) (.t 134)⟩ ::
 ⟨some 136, none, [(.t 123), (.k (.sc (.bool true))), (.t 135)], [], .pick (.t 123) (.k (.sc (.bool true))) (.t 135)⟩ ::
 ⟨some 137, none, [(.t 136)], [], .mv (.t 136)⟩ ::
 ⟨some 138, (some (137, false)), [(.t 7)], [], .fa 0 (.t 7)⟩ ::
 ⟨some 139, (some (137, false)), [(.t 138)], [], .fa 0 (.t 138)⟩ ::
 ⟨some 140, (some (137, false)), [(.t 139)], [], .ld true 3 (.t 139)⟩ ::
 ⟨some 141, (some (137, false)), [(.k (.fn 28 [])), (.t 140)], [], .cal (.k (.fn 28 [])) [(.t 140)]⟩ ::
 ⟨some 142, (some (137, false)), [(.t 9)], [53, 54, 55, 56], .fa 0 (.t 9)⟩ ::
 ⟨some 143, (some (137, false)), [(.t 142)], [53, 54, 55, 56], .ld true 3 (.t 142)⟩ ::
 ⟨some 144, (some (137, false)), [(.k (.fn 29 [])), (.t 143)], [], .cal (.k (.fn 29 [])) [(.t 143)]⟩ ::
 ⟨some 145, (some (137, false)), [(.t 141), (.t 144)], [], .bin .neq false (.t 141) (.t 144)⟩ ::
 ⟨some 146, none, [(.t 137), (.k (.sc (.bool true))), (.t 145)], [], .pick (.t 137) (.k (.sc (.bool true))) (.t 145)⟩ :: []) (some [7, 9, 48, 49, 50, 146]))
 (.cond (.t 146)
 (.keep []
 (.seq
 (.reg [⟨some 6, none, [], [], .mv (.k (.sc (.bool false)))⟩] none)
 .ret))
 (.keep [7, 9, 48, 49, 50]
 .skip))))))))))
 (.reg [⟨some 147, none, [], [], .bin .add false (.t 50) (.k (.sc (.int .i64 1)))⟩,
 ⟨some 50, none, [], [], .mv (.t 147)⟩] (some [7, 9, 48, 49, 50]))))))))
 (.seq
 (.reg [⟨some 148, none, [], [], .cal (.k (.fn 11 [])) []⟩,
 ⟨some 6, none, [], [], .mv (.t 148)⟩] (some [6]))
 .ret))))))
abbrev r9 : List AR := [.t 4]
abbrev a9 : ACode :=
 (.seq
 (.reg [⟨some 4, none, [], [], .mv (.k (.sc (.bool false)))⟩] (some [0, 1]))
 (.seq
 (.seq
 (.reg [⟨some 21, none, [], [], .mv (.t 0)⟩,
 ⟨some 22, none, [], [], .lenL (.t 21)⟩,
 ⟨some 23, none, [], [], .bin .gtr false (.t 22) (.k (.sc (.int .i64 3000)))⟩] (some [0, 1, 23]))
 (.cond (.t 23)
 (.keep []
 (.seq
 (.reg [⟨some 24, none, [], [], .cal (.k (.fn 11 [])) []⟩,
 ⟨some 4, none, [], [], .mv (.t 24)⟩] (some [4]))
 .ret))
 (.keep [0, 1]
 .skip)))
 (.seq
 (.reg [⟨some 26, none, [], [], .mv (.t 0)⟩,
 ⟨some 27, none, [], [], .cal (.k (.fn 31 [])) [(.t 26), (.k (.sc (.int .i64 0)))]⟩,
 ⟨some 25, none, [], [], .mv (.t 27)⟩,
 ⟨some 28, none, [], [], .ext (.t 25) 0⟩,
 ⟨some 29, none, [], [], .ext (.t 25) 1⟩,
 ⟨some 5, none, [], [], .alc [.nl, (.sc (.int .i64 0)), .nl, .nl, (.sc (.bool false)), (.sc (.int .i64 0)), (.sc (.int .i64 0))]⟩,
 ⟨none, none, [], [], .sto 7 (.t 5) (.t 28)⟩,
 ⟨some 6, none, [], [], .mv (.t 29)⟩] (some [0, 1, 5, 6]))
 (.seq
 (.reg [⟨some 31, none, [], [], .mv (.t 0)⟩,
 ⟨some 32, none, [], [], .lenL (.t 31)⟩,
 ⟨some 33, none, [], [], .cvi .u64 (.t 32)⟩,
 ⟨some 34, none, [], [], .cal (.k (.fn 16 [])) [(.t 33), (.k (.sc (.int .i64 0)))]⟩,
 ⟨some 30, none, [], [], .mv (.t 34)⟩,
 ⟨some 35, none, [], [], .ext (.t 30) 0⟩,
 ⟨some 36, none, [], [], .ext (.t 30) 1⟩,
 ⟨some 7, none, [], [], .alc [(.sc (.int .i64 0)), (.sc (.int .i64 0)), (.mp [] []), (.sc (.int .i64 0)), (.sc (.int .i64 0))]⟩,
 ⟨none, none, [], [], .sto 5 (.t 7) (.t 35)⟩,
 ⟨some 8, none, [], [], .mv (.t 36)⟩] (some [0, 1, 5, 6, 7, 8]))
 (.seq
 (.seq
 (.reg [⟨some 37, none, [], [], .mv (.t 6)⟩,
 ⟨some 38, none, [], [], .bin .neq false (.t 37) (.k (.sc (.int .i64 0)))⟩,
 ⟨some 39, none, [], [], .mv (.t 38)⟩,
 ⟨some 40, (some (39, false)), [], [], .mv (.t 8)⟩,
 ⟨some 41, (some (39, false)), [], [], .bin .neq false (.t 40) (.k (.sc (.int .i64 0)))⟩,
 ⟨some 42, none, [], [], .pick (.t 39) (.k (.sc (.bool true))) (.t 41)⟩] (some [0, 1, 5, 7, 42]))
 (.cond (.t 42)
 (.keep []
 (.seq
 (.reg [⟨some 4, none, [], [], .mv (.k (.sc (.bool false)))⟩] none)
 .ret))
 (.keep [0, 1, 5, 7]
 .skip)))
 (.seq
 (.reg [⟨some 9, none, [], [], .mv (.k .nl)⟩] (some [0, 1, 5, 7, 9]))
 (.seq
 (.seq
 (.reg [⟨some 43, none, [], [], .mv (.t 1)⟩,
 ⟨some 44, none, [], [], .mv (.t 1)⟩,
 ⟨some 45, none, [], [], .lenL (.t 44)⟩,
 ⟨some 46, none, [], [], .mn [(.t 45), (.k (.sc (.int .i64 60)))]⟩,
 ⟨some 47, none, [], [], .slL 1 none (some (.t 46)) none (.t 43)⟩,
 ⟨some 48, none, [], [], .lenL (.t 47)⟩,
 ⟨some 49, none, [], [], .mv (.k (.sc (.int .i64 0)))⟩] (some [0, 5, 7, 9, 47, 48, 49]))
 (.block 0
 (.loop
 (.seq
 (.reg [⟨some 50, none, [], [], .bin .lss false (.t 49) (.t 48)⟩] none)
 (.seq
 (.cond (.t 50)
 (.keep [0, 5, 7, 9, 47, 48, 49]
 .skip)
 (.exit 0))
 (.seq
 (.block 1
 (.seq
 (.reg [⟨some 51, none, [], [], .ixaS 1 (.t 47) (.t 49)⟩,
 ⟨some 52, none, [], [], .ld false 1 (.t 51)⟩,
 ⟨some 11, none, [], [], .mv (.t 52)⟩] (some [0, 5, 7, 9, 11, 47, 48, 49]))
 (.seq
 (.reg [⟨some 54, none, [], [], .ld true 7 (.t 5)⟩,
 ⟨some 55, none, [], [], .cal (.k (.fn 32 [])) [(.t 54)]⟩,
 ⟨some 53, none, [], [], .mv (.t 55)⟩,
 ⟨some 56, none, [], [], .ext (.t 53) 0⟩,
 ⟨some 57, none, [], [], .ext (.t 53) 1⟩,
 ⟨some 12, none, [], [], .alc [.nl, (.sc (.int .i64 0)), .nl, .nl, (.sc (.bool false)), (.sc (.int .i64 0)), (.sc (.int .i64 0))]⟩,
 ⟨none, none, [], [], .sto 7 (.t 12) (.t 56)⟩,
 ⟨some 13, none, [], [], .mv (.t 57)⟩] (some [0, 5, 7, 9, 11, 12, 13, 47, 48, 49]))
 (.seq
 (.seq
 (.reg [⟨some 58, none, [], [], .mv (.t 13)⟩,
 ⟨some 59, none, [], [], .lenL (.t 58)⟩,
 ⟨some 60, none, [], [], .mv (.k (.sc (.int .i64 0)))⟩] (some [0, 5, 7, 9, 11, 12, 47, 48, 49, 58, 59, 60]))
 (.block 2
 (.loop
 (.seq
 (.reg [⟨some 61, none, [], [], .bin .lss false (.t 60) (.t 59)⟩] none)
 (.seq
 (.cond (.t 61)
 (.keep [0, 5, 7, 9, 11, 12, 47, 48, 49, 58, 59, 60]
 .skip)
 (.exit 2))
 (.seq
 (.block 3
 (.seq
 (.reg [⟨some 62, none, [], [], .mv (.t 60)⟩,
 ⟨some 63, none, [], [], .ixaS 2 (.t 58) (.t 60)⟩,
 ⟨some 64, none, [], [], .ld true 2 (.t 63)⟩,
 ⟨some 15, none, [], [], .alc [(.sc (.int .i64 0)), .nl]⟩,
 ⟨some 14, none, [], [], .mv (.t 62)⟩,
 ⟨none, none, [], [], .sto 2 (.t 15) (.t 64)⟩] (some [0, 5, 7, 9, 11, 12, 14, 15, 47, 48, 49, 58, 59, 60]))
 (.seq
 (.seq
 (.reg [⟨some 65, none, [], [], .mv (.t 11)⟩,
 ⟨some 66, none, [], [], .mv (.t 14)⟩,
 ⟨some 67, none, [], [], .bin .rem false (.t 66) (.k (.sc (.int .i64 8)))⟩,
 ⟨some 68, none, [], [], .bin .shr false (.t 65) (.t 67)⟩,
 ⟨some 69, none, [], [], .bin .and false (.t 68) (.k (.sc (.int .u16 1)))⟩,
 ⟨some 70, none, [], [], .bin .eql false (.t 69) (.k (.sc (.int .u16 1)))⟩] (some [0, 5, 7, 9, 11, 12, 15, 47, 48, 49, 58, 59, 60, 70]))
 (.cond (.t 70)
 (.exit 3)
 (.keep [0, 5, 7, 9, 11, 12, 15, 47, 48, 49, 58, 59, 60]
 .skip)))
 (.seq
 (.reg [⟨some 72, none, [], [], .ld true 5 (.t 7)⟩,
 ⟨some 73, none, [], [], .fa 0 (.t 15)⟩,
 ⟨some 74, none, [], [], .ld false 1 (.t 73)⟩,
 ⟨some 75, none, [], [], .cvi .u64 (.t 74)⟩,
 ⟨some 76, none, [], [], .fa 1 (.t 15)⟩,
 ⟨some 77, none, [], [], .ld false 1 (.t 76)⟩,
 ⟨some 78, none, [], [], .bld zI0 [(0, 1, (.k (.sc (.int .i64 3)))), (19, 1, (.t 75)), (53, 1, (.t 77))]⟩,
 ⟨some 79, none, [], [], .cal (.k (.fn 18 [])) [(.t 72), (.t 78)]⟩,
 ⟨some 71, none, [], [], .mv (.t 79)⟩,
 ⟨some 80, none, [], [], .ext (.t 71) 0⟩,
 ⟨some 81, none, [], [], .ext (.t 71) 1⟩,
 ⟨some 16, none, [], [], .alc [(.sc (.int .i64 0)), (.sc (.int .i64 0)), (.mp [] []), (.sc (.int .i64 0)), (.sc (.int .i64 0))]⟩,
 ⟨none, none, [], [], .sto 5 (.t 16) (.t 80)⟩,
 ⟨some 17, none, [], [], .mv (.t 81)⟩] (some [0, 5, 7, 9, 11, 12, 16, 17, 47, 48, 49, 58, 59, 60]))
 (.seq
 (.reg [⟨some 82, none, [], [], .ld true 5 (.t 16)⟩,
 ⟨none, none, [], [], .sto 5 (.t 7) (.t 82)⟩] (some [0, 5, 7, 9, 11, 12, 17, 47, 48, 49, 58, 59, 60]))
 (.reg [⟨some 83, none, [], [], .mv (.t 9)⟩,
 ⟨some 84, none, [], [], .mv (.t 17)⟩,
 ⟨some 85, none, [], [], .app 1 1 (.t 83) (.t 84)⟩,
 ⟨some 9, none, [], [], .mv (.t 85)⟩] (some [0, 5, 7, 9, 11, 12, 47, 48, 49, 58, 59, 60])))))))
 (.reg [⟨some 86, none, [], [], .bin .add false (.t 60) (.k (.sc (.int .i64 1)))⟩,
 ⟨some 60, none, [], [], .mv (.t 86)⟩] (some [0, 5, 7, 9, 11, 12, 47, 48, 49, 58, 59, 60]))))))))
 (.seq
 (.reg [⟨some 87, none, [], [], .ld true 5 (.t 7)⟩,
 ⟨some 88, none, [], [], .bld zI0 []⟩,
 ⟨some 89, none, [], [], .cal (.k (.fn 24 [])) [(.t 87), (.t 88)]⟩,
 ⟨some 18, none, [], [], .alc zI0⟩,
 ⟨none, none, [], [], .sto 56 (.t 18) (.t 89)⟩] (some [0, 5, 7, 9, 11, 12, 18, 47, 48, 49]))
 (.seq
 (.seq
 (.reg [⟨some 91, none, [], [], .ld true 56 (.t 18)⟩,
 ⟨some 92, none, [], [], .cal (.k (.fn 55 [])) [(.t 91)]⟩,
 ⟨some 90, none, [], [], .mv (.t 92)⟩,
 ⟨some 93, none, [], [], .ext (.t 90) 0⟩,
 ⟨some 94, none, [], [], .ext (.t 90) 1⟩,
 ⟨some 19, none, [], [], .mv (.t 93)⟩,
 ⟨some 20, none, [], [], .mv (.t 94)⟩] (some [0, 5, 7, 9, 11, 12, 18, 20, 47, 48, 49]))
 (.seq
 (.reg [⟨some 95, none, [], [], .mv (.t 20)⟩,
 ⟨some 96, none, [], [], .bin .neq false (.t 95) (.k (.sc (.int .i64 0)))⟩] (some [0, 5, 7, 9, 11, 12, 18, 47, 48, 49, 96]))
 (.cond (.t 96)
 (.keep []
 (.seq
 (.reg [⟨some 4, none, [], [], .mv (.k (.sc (.bool false)))⟩] none)
 .ret))
 (.keep [0, 5, 7, 9, 11, 12, 18, 47, 48, 49]
 .skip))))
 (.seq
 (.seq
 (.reg [⟨some 97, none, [], [], .mv (.t 11)⟩,
 ⟨some 98, none, [], [], .bin .shr false (.t 97) (.k (.sc (.int .u64 8)))⟩,
 ⟨some 99, none, [], [], .bin .and false (.t 98) (.k (.sc (.int .u16 1)))⟩,
 ⟨some 100, none, [], [], .bin .eql false (.t 99) (.k (.sc (.int .u16 0)))⟩] (some [0, 5, 7, 9, 12, 18, 47, 48, 49, 100]))
 (.cond (.t 100)
 (.keep [0, 5, 7, 9, 12, 18, 47, 48, 49]
 (.seq
 (.regD [⟨some 102, none, [(.t 12)], [], .ld true 7 (.t 12)⟩,
 ⟨some 103, none, [(.t 18)], [0], .fa 19 (.t 18)⟩,
 ⟨some 104, none, [(.t 103)], [0], .ld false 1 (.t 103)⟩,
 ⟨some 105, none, [(.t 104)], [0], .cvi .i64 (.t 104)⟩,
 ⟨some 106, none, [(.t 18)], [0, 1, 2, 3], .fa 54 (.t 18)⟩,
 ⟨some 107, none, [(.t 106)], [0, 1, 2, 3], .ld false 1 (.t 106)⟩,
 ⟨some 108, none, [(.k (.fn 12 [])), (.t 107)], [0, 1, 2, 3], .cal (.k (.fn 12 [])) [(.t 107)]⟩,
 ⟨some 109, none, [(.k (.fn 33 [])), (.t 102), (.t 105), (.t 108)], [], .cal (.k (.fn 33 [])) [(.t 102), (.t 105), (.t 108)]⟩,
 ⟨some 101, none, [(.t 109)], [], .mv (.t 109)⟩,
 ⟨some 110, none, [(.t 101)], [], .ext (.t 101) 0⟩,
 ⟨some 111, none, [(.t 101)], [9], .ext (.t 101) 1⟩,
 ⟨none, none, [(.t 12), (.t 110)], [10], .sto 7 (.t 12) (.t 110)⟩] (some [0, 5, 7, 9, 12, 47, 48, 49]))
 (.seq
 (.regD [⟨some 112, none, [(.t 12)], [], .ld true 7 (.t 12)⟩,
 ⟨some 113, none, [(.k (.fn 34 [])), (.t 112)], [], .cal (.k (.fn 34 [])) [(.t 112)]⟩,
 ⟨some 114, none, [(.t 7)], [0, 1], .fa 0 (.t 7)⟩,
 ⟨some 115, none, [(.t 114)], [0, 1], .fa 0 (.t 114)⟩,
 ⟨some 116, none, [(.t 115)], [0, 1], .ld true 3 (.t 115)⟩,
 ⟨some 117, none, [(.k (.fn 26 [])), (.t 116)], [], .cal (.k (.fn 26 [])) [(.t 116)]⟩,
 ⟨some 118, none, [(.t 113), (.t 117)], [], .bin .lss false (.t 113) (.t 117)⟩,
 ⟨some 119, none, [(.t 118)], [], .mv (.t 118)⟩,
 ⟨some 120, (some (119, false)), [(.t 7)], [], .fa 0 (.t 7)⟩,
 ⟨some 121, (some (119, false)), [(.t 120)], [], .fa 0 (.t 120)⟩,
 ⟨some 122, (some (119, false)), [(.t 121)], [], .ld true 3 (.t 121)⟩,
 ⟨some 123, (some (119, false)), [(.k (.fn 27 [])), (.t 122)], [], .cal (.k (.fn 27 [])) [(.t 122)]⟩,
 ⟨some 124, (some (119, false)), [(.t 123)], [], .mv (.t 123)⟩,
 ⟨some 125, (some (124, true)), [(.t 12)], [], .ld true 7 (.t 12)⟩,
 ⟨some 126, (some (124, true)), [(.k (.fn 36 [])), (.t 125)], [], .cal (.k (.fn 36 [])) [(.t 125)]⟩,
 ⟨some 127, (some (124, true)), [(.t 126)], [], .un .not (.t 126)⟩,
 ⟨some 128, (some (119, false)), [(.t 124), (.t 127), (.k (.sc (.bool false)))], [], .pick (.t 124) (.t 127) (.k (.sc (.bool false)))⟩,
 ⟨some 129, none, [(.t 119), (.k (.sc (.bool true))), (.t 128)], [], .pick (.t 119) (.k (.sc (.bool true))) (.t 128)⟩] (some [0, 5, 7, 9, 12, 47, 48, 49, 129]))
 (.cond (.t 129)
 (.keep []
 (.seq
 (.reg [⟨some 4, none, [], [], .mv (.k (.sc (.bool false)))⟩] none)
 .ret))
 (.keep [0, 5, 7, 9, 12, 47, 48, 49]
 .skip)))))
 (.keep [0, 5, 7, 9, 12, 47, 48, 49]
 .skip)))
 (.reg [⟨some 131, none, [], [], .ld true 7 (.t 12)⟩,
 ⟨some 132, none, [], [], .cal (.k (.fn 35 [])) [(.t 131)]⟩,
 ⟨some 130, none, [], [], .mv (.t 132)⟩,
 ⟨some 133, none, [], [], .ext (.t 130) 0⟩,
 ⟨some 134, none, [], [], .ext (.t 130) 1⟩,
 ⟨none, none, [], [], .sto 7 (.t 5) (.t 133)⟩] (some [0, 5, 7, 9, 47, 48, 49])))))))))
 (.reg [⟨some 135, none, [], [], .bin .add false (.t 49) (.k (.sc (.int .i64 1)))⟩,
 ⟨some 49, none, [], [], .mv (.t 135)⟩] (some [0, 5, 7, 9, 47, 48, 49]))))))))
 (.seq
 (.reg (⟨some 136, none, [], [], .mv (.t 9)⟩ ::
 ⟨some 137, none, [], [], .lenL (.t 136)⟩ ::
 ⟨some 138, none, [], [], .mv (.t 0)⟩ ::
 ⟨some 139, none, [], [], .lenL (.t 138)⟩ ::
 ⟨some 140, none, [], [], .bin .leq false (.t 137) (.t 139)⟩ ::
 ⟨some 141, none, [], [], .mv (.t 140)⟩ ::
 ⟨some 142, (some (141, true)), [], [], .mv (.t 9)⟩ ::
 ⟨some 143, (some (141, true)), [], [], .mv (.t 0)⟩ ::
 ⟨some 144, (some (141, true)), [], [], .mv (.t 9)⟩ ::
 ⟨some 145, (some (141, true)), [], [], .lenL (.t 144)⟩ ::
 ⟨some 146, (some (141, true)), [], [], .slL 1 none (some (.t 145)) none (.t 143)⟩ ::
 ⟨some 147, (some (141, true)), [], [], .cal (.k (.fn 22 [])) [(.t 142), (.t 146)]⟩ ::
 ⟨some 148, none, [], [], .pick (.t 141) (.t 147) (.k (.sc (.bool false)))⟩ ::
 ⟨some 149, none, [], [], .mv (.t 148)⟩ ::
 ⟨some 150, (some (149, true)), [], [], .fa 0 (.t 7)⟩ ::
 ⟨some 151, (some (149, true)), [], [], .fa 0 (.t 150)⟩ ::
 ⟨some 152, (some (149, true)), [], [], .ld true 3 (.t 151)⟩ ::
 ⟨some 153, (some (149, true)), [], [], .cal (.k (.fn 26 [])) [(.t 152)]⟩ ::
 ⟨some 154, (some (149, true)), [], [], .mv (.t 9)⟩ ::
 ⟨some 155, (some (149, true)), [], [], .lenL (.t 154)⟩ ::
 ⟨some 156, (some (149, true)), [], [], .bin .eql false (.t 153) (.t 155)⟩ ::
 ⟨some 157, none, [], [], .pick (.t 149) (.t 156) (.k (.sc (.bool false)))⟩ ::
 ⟨some 158, none, [], [], .mv (.t 157)⟩ ::
 ⟨some 159, (some (158, true)), [], [], .cal (.k (.fn 11 [])) []⟩ ::
 ⟨some 160, none, [], [], .pick (.t 158) (.t 159) (.k (.sc (.bool false)))⟩ ::
 ⟨some 4, none, [], [], .mv (.t 160)⟩ :: []) (some [4]))
 .ret))))))))
theorem b9 : cmpG Try.prog 9 = some (strip a9, r9, 161) := by kernel_rfl

end Go.Proofs.Ytbmdahhhgpbchaa.Cod
