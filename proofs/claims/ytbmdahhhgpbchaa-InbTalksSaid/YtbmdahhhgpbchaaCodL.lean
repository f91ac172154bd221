import Derived.Test.YtbmdahhhgpbchaaProg
import Derived.Test.YtbmdahhhgpbchaaSimD
import Derived.KernelRfl
namespace Go.Proofs.Ytbmdahhhgpbchaa.Cod
open Go Go.Sim Go.Proofs
set_option maxRecDepth 100000
def zL2 : List AV := .sc (.int .i64 0) :: .sc (.int .u8 0) :: .sc (.int .u8 0) :: .sc (.int .u8 0) :: .sc (.int .u8 0) :: .sc (.int .u8 0) :: .sc (.int .u8 0) :: .sc (.int .u8 0) :: .sc (.int .u8 0) :: .sc (.int .u8 0) :: .sc (.int .u8 0) :: .sc (.int .u8 0) :: .sc (.int .u8 0) :: .sc (.int .u8 0) :: .sc (.int .u8 0) :: .sc (.int .u8 0) :: .sc (.int .u8 0) :: .sc (.int .u32 0) :: .sc (.int .u32 0) :: .sc (.int .u64 0) :: .sc (.int .u64 0) :: .sc (.int .u8 0) :: .sc (.int .u8 0) :: .sc (.int .u8 0) :: .sc (.int .u8 0) :: .sc (.int .u8 0) :: .sc (.int .u8 0) :: .sc (.int .u8 0) :: .sc (.int .u8 0) :: .sc (.int .u8 0) :: .sc (.int .u8 0) :: .sc (.int .u8 0) :: .sc (.int .u8 0) :: .sc (.int .u8 0) :: .sc (.int .u8 0) :: .sc (.int .u8 0) :: .sc (.int .u8 0) :: .sc (.int .u8 0) :: .sc (.int .u8 0) :: .sc (.int .u8 0) :: .sc (.int .u8 0) :: .sc (.int .u8 0) :: .sc (.int .u8 0) :: .sc (.int .u8 0) :: .sc (.int .u8 0) :: .sc (.int .u8 0) :: .sc (.int .u8 0) :: .sc (.int .u8 0) :: .sc (.int .u8 0) :: .sc (.int .u8 0) :: .sc (.int .u8 0) :: .sc (.int .u8 0) :: .sc (.int .u8 0) :: .nl :: .nl :: .sc (.int .i64 0) :: []
abbrev r55 : List AR := [.t 2, .t 3]
abbrev a55 : ACode :=
 (.seq
 (.reg [⟨some 1, none, [], [], .box (.t 0)⟩,
 ⟨some 2, none, [], [], .mv (.k .nl)⟩,
 ⟨some 3, none, [], [], .mv (.k (.sc (.int .i64 0)))⟩] (some [1]))
 (.seq
 (.seq
 (.reg [⟨some 6, none, [], [], .ld true 56 (.t 1)⟩,
 ⟨some 7, none, [], [], .cal (.k (.fn 90 [])) [(.t 6)]⟩,
 ⟨some 4, none, [], [], .mv (.t 7)⟩] (some [1, 4]))
 (.seq
 (.reg [⟨some 8, none, [], [], .mv (.t 4)⟩,
 ⟨some 9, none, [], [], .bin .neq false (.t 8) (.k (.sc (.int .i64 0)))⟩] (some [1, 4, 9]))
 (.cond (.t 9)
 (.keep [4]
 (.seq
 (.reg [⟨some 10, none, [], [], .mv (.t 4)⟩,
 ⟨some 2, none, [], [], .mv (.k .nl)⟩,
 ⟨some 3, none, [], [], .mv (.t 10)⟩] (some [2, 3]))
 .ret))
 (.keep [1]
 .skip))))
 (.seq
 (.regD [⟨some 11, none, [(.k (.sc (.int .u8 84))), (.k (.sc (.int .u8 87)))], [], .bsl 2 1 [(.sc (.int .u8 0)), (.sc (.int .u8 0))] [(0, 1, (.k (.sc (.int .u8 84)))), (1, 1, (.k (.sc (.int .u8 87))))]⟩,
 ⟨some 12, none, [(.t 11)], [], .cvm (.t 11)⟩,
 ⟨some 13, none, [(.t 1)], [0, 1], .fa 0 (.t 1)⟩,
 ⟨some 14, none, [(.t 13)], [0, 1], .ld false 1 (.t 13)⟩,
 ⟨some 15, none, [(.t 14)], [0, 1], .cvi .u8 (.t 14)⟩,
 ⟨some 16, none, [(.t 1)], [0, 1, 2, 3, 4], .fa 17 (.t 1)⟩,
 ⟨some 17, none, [(.t 16)], [0, 1, 2, 3, 4], .ld true 2 (.t 16)⟩,
 ⟨some 18, none, [(.k (.fn 91 [])), (.t 17)], [0, 1, 2, 3, 4], .cal (.k (.fn 91 [])) [(.t 17)]⟩,
 ⟨some 19, none, [(.t 15), (.t 18)], [0, 1], .bsl 2 1 [(.sc (.int .u8 0)), (.sc (.int .u8 0))] [(0, 1, (.t 15)), (1, 1, (.t 18))]⟩,
 ⟨some 20, none, [(.t 12), (.t 19)], [], .app 1 1 (.t 12) (.t 19)⟩,
 ⟨some 5, none, [(.t 20)], [], .mv (.t 20)⟩] (some [1, 5]))
 (.seq
 (.reg [⟨some 21, none, [], [], .mv (.t 5)⟩,
 ⟨some 22, none, [], [], .fa 1 (.t 1)⟩,
 ⟨some 23, none, [], [], .slA 16 1 none none (.t 22)⟩,
 ⟨some 24, none, [], [], .app 1 1 (.t 21) (.t 23)⟩,
 ⟨some 5, none, [], [], .mv (.t 24)⟩] (some [1, 5]))
 (.seq
 (.regD [⟨some 25, none, [(.t 5)], [], .mv (.t 5)⟩,
 ⟨some 26, none, [(.t 1)], [0], .fa 17 (.t 1)⟩,
 ⟨some 27, none, [(.t 26)], [0], .fa 0 (.t 26)⟩,
 ⟨some 28, none, [(.t 27)], [0], .ld false 1 (.t 27)⟩,
 ⟨some 29, none, [(.t 28)], [0], .cvi .u64 (.t 28)⟩,
 ⟨some 30, none, [(.k (.fn 92 [])), (.t 25), (.t 29), (.k (.sc (.int .i64 4)))], [], .calG [0] (.k (.fn 92 [])) [(.t 25), (.t 29), (.k (.sc (.int .i64 4)))]⟩,
 ⟨some 31, none, [(.t 1)], [0, 1, 2, 3, 4, 5], .fa 17 (.t 1)⟩,
 ⟨some 32, none, [(.t 31)], [0, 1, 2, 3, 4, 5], .fa 1 (.t 31)⟩,
 ⟨some 33, none, [(.t 32)], [0, 1, 2, 3, 4, 5], .ld false 1 (.t 32)⟩,
 ⟨some 34, none, [(.t 33)], [0, 1, 2, 3, 4, 5], .cvi .u64 (.t 33)⟩,
 ⟨some 35, none, [(.k (.fn 92 [])), (.t 30), (.t 34), (.k (.sc (.int .i64 4)))], [], .calG [0] (.k (.fn 92 [])) [(.t 30), (.t 34), (.k (.sc (.int .i64 4)))]⟩,
 ⟨some 5, none, [(.t 35)], [], .mv (.t 35)⟩] (some [1, 5]))
 (.seq
 (.reg [⟨some 36, none, [], [], .mv (.t 5)⟩,
 ⟨some 37, none, [], [], .ld true 56 (.t 1)⟩,
 ⟨some 38, none, [], [], .cal (.k (.fn 95 [])) [(.t 37)]⟩,
 ⟨some 39, none, [], [], .calG [0] (.k (.fn 94 [])) [(.t 36), (.t 38)]⟩,
 ⟨some 40, none, [], [], .cal (.k (.fn 93 [])) [(.t 39)]⟩,
 ⟨some 2, none, [], [], .mv (.t 40)⟩,
 ⟨some 3, none, [], [], .mv (.k (.sc (.int .i64 0)))⟩] (some [2, 3]))
 .ret))))))
theorem b55 : cmpG Try.prog 55 = some (strip a55, r55, 41) := by kernel_rfl

abbrev r90 : List AR := [.t 2]
abbrev a90 : ACode :=
 (.seq
 (.reg [⟨some 1, none, [], [], .box (.t 0)⟩,
 ⟨some 2, none, [], [], .mv (.k (.sc (.int .i64 0)))⟩] (some [1]))
 (.seq
 (.seq
 (.reg [⟨some 3, none, [], [], .fa 0 (.t 1)⟩,
 ⟨some 4, none, [], [], .ld false 1 (.t 3)⟩] (some [1, 4]))
 (.block 0
 (.seq
 (.seq
 (.reg [⟨some 6, none, [], [], .bin .eql false (.t 4) (.k (.sc (.int .i64 1)))⟩,
 ⟨some 5, none, [], [], .mv (.t 6)⟩] (some [1, 4, 5]))
 (.cond (.t 5)
 .skip
 (.keep [1, 4]
 (.seq
 (.reg [⟨some 7, none, [], [], .bin .eql false (.t 4) (.k (.sc (.int .i64 2)))⟩,
 ⟨some 5, none, [], [], .mv (.t 7)⟩] (some [1, 4, 5]))
 (.cond (.t 5)
 .skip
 (.keep [1, 4]
 (.seq
 (.reg [⟨some 8, none, [], [], .bin .eql false (.t 4) (.k (.sc (.int .i64 5)))⟩,
 ⟨some 5, none, [], [], .mv (.t 8)⟩] (some [1, 4, 5]))
 (.cond (.t 5)
 .skip
 (.keep [1, 4]
 (.reg [⟨some 9, none, [], [], .bin .eql false (.t 4) (.k (.sc (.int .i64 6)))⟩,
 ⟨some 5, none, [], [], .mv (.t 9)⟩] (some [1, 4, 5])))))))))))
 (.cond (.t 5)
 (.keep []
 (.seq
 (.reg [⟨some 2, none, [], [], .mv (.k (.sc (.int .i64 0)))⟩] none)
 .ret))
 (.keep [1, 4]
 (.seq
 (.reg [⟨some 11, none, [], [], .bin .eql false (.t 4) (.k (.sc (.int .i64 3)))⟩,
 ⟨some 10, none, [], [], .mv (.t 11)⟩] (some [1, 4, 10]))
 (.cond (.t 10)
 (.keep [1]
 (.seq
 (.block 1
 (.seq
 (.reg [⟨some 13, none, [], [], .fa 53 (.t 1)⟩,
 ⟨some 14, none, [], [], .ld false 1 (.t 13)⟩,
 ⟨some 15, none, [], [], .lenL (.t 14)⟩,
 ⟨some 16, none, [], [], .bin .eql false (.t 15) (.k (.sc (.int .i64 0)))⟩,
 ⟨some 12, none, [], [], .mv (.t 16)⟩] (some [1, 12]))
 (.cond (.t 12)
 (.keep []
 (.seq
 (.reg [⟨some 2, none, [], [], .mv (.k (.sc (.int .i64 4)))⟩] none)
 .ret))
 (.keep [1]
 (.seq
 (.reg [⟨some 18, none, [], [], .fa 53 (.t 1)⟩,
 ⟨some 19, none, [], [], .ld false 1 (.t 18)⟩,
 ⟨some 20, none, [], [], .lenL (.t 19)⟩,
 ⟨some 21, none, [], [], .bin .gtr false (.t 20) (.k (.sc (.int .i64 256)))⟩,
 ⟨some 17, none, [], [], .mv (.t 21)⟩] (some [17]))
 (.cond (.t 17)
 (.keep []
 (.seq
 (.reg [⟨some 2, none, [], [], .mv (.k (.sc (.int .i64 10)))⟩] none)
 .ret))
 (.keep []
 .skip)))))))
 (.seq
 (.reg [⟨some 2, none, [], [], .mv (.k (.sc (.int .i64 0)))⟩] none)
 .ret)))
 (.keep [1, 4]
 (.seq
 (.reg [⟨some 23, none, [], [], .bin .eql false (.t 4) (.k (.sc (.int .i64 4)))⟩,
 ⟨some 22, none, [], [], .mv (.t 23)⟩] (some [1, 4, 22]))
 (.cond (.t 22)
 (.keep [1]
 (.seq
 (.block 2
 (.seq
 (.reg [⟨some 25, none, [], [], .fa 54 (.t 1)⟩,
 ⟨some 26, none, [], [], .ld false 1 (.t 25)⟩,
 ⟨some 27, none, [], [], .lenL (.t 26)⟩,
 ⟨some 28, none, [], [], .bin .gtr false (.t 27) (.k (.sc (.int .i64 4)))⟩,
 ⟨some 24, none, [], [], .mv (.t 28)⟩] (some [1, 24]))
 (.cond (.t 24)
 (.keep []
 (.seq
 (.reg [⟨some 2, none, [], [], .mv (.k (.sc (.int .i64 5)))⟩] none)
 .ret))
 (.keep [1]
 (.seq
 (.reg [⟨some 30, none, [], [], .fa 19 (.t 1)⟩,
 ⟨some 31, none, [], [], .ld false 1 (.t 30)⟩,
 ⟨some 32, none, [], [], .fa 54 (.t 1)⟩,
 ⟨some 33, none, [], [], .ld false 1 (.t 32)⟩,
 ⟨some 34, none, [], [], .cal (.k (.fn 122 [])) [(.t 31), (.t 33)]⟩,
 ⟨some 35, none, [], [], .un .not (.t 34)⟩,
 ⟨some 29, none, [], [], .mv (.t 35)⟩] (some [29]))
 (.cond (.t 29)
 (.keep []
 (.seq
 (.reg [⟨some 2, none, [], [], .mv (.k (.sc (.int .i64 3)))⟩] none)
 .ret))
 (.keep []
 .skip)))))))
 (.seq
 (.reg [⟨some 2, none, [], [], .mv (.k (.sc (.int .i64 0)))⟩] none)
 .ret)))
 (.keep [1, 4]
 (.seq
 (.reg [⟨some 37, none, [], [], .bin .eql false (.t 4) (.k (.sc (.int .i64 7)))⟩,
 ⟨some 36, none, [], [], .mv (.t 37)⟩] (some [1, 36]))
 (.cond (.t 36)
 (.keep [1]
 (.seq
 (.seq
 (.reg [⟨some 38, none, [], [], .fa 55 (.t 1)⟩,
 ⟨some 39, none, [], [], .ld false 1 (.t 38)⟩,
 ⟨some 40, none, [], [], .bin .lss false (.t 39) (.k (.sc (.int .i64 1)))⟩,
 ⟨some 41, none, [], [], .mv (.t 40)⟩,
 ⟨some 42, (some (41, false)), [], [], .fa 55 (.t 1)⟩,
 ⟨some 43, (some (41, false)), [], [], .ld false 1 (.t 42)⟩,
 ⟨some 44, (some (41, false)), [], [], .bin .gtr false (.t 43) (.k (.sc (.int .i64 99)))⟩,
 ⟨some 45, none, [], [], .pick (.t 41) (.k (.sc (.bool true))) (.t 44)⟩] (some [45]))
 (.cond (.t 45)
 (.keep []
 (.seq
 (.reg [⟨some 2, none, [], [], .mv (.k (.sc (.int .i64 3)))⟩] none)
 .ret))
 (.keep []
 .skip)))
 (.seq
 (.reg [⟨some 2, none, [], [], .mv (.k (.sc (.int .i64 0)))⟩] none)
 .ret)))
 (.keep []
 .skip))))))))))))))
 (.seq
 (.reg [⟨some 2, none, [], [], .mv (.k (.sc (.int .i64 11)))⟩] none)
 .ret)))
theorem b90 : cmpG Try.prog 90 = some (strip a90, r90, 46) := by kernel_rfl

abbrev r92 : List AR := [.t 6]
abbrev a92 : ACode :=
 (.seq
 (.reg [⟨some 6, none, [], [], .mv (.k .nl)⟩] (some [0, 1, 2]))
 (.seq
 (.seq
 (.reg [⟨some 8, none, [], [], .mv (.t 2)⟩,
 ⟨some 9, none, [], [], .bin .sub false (.t 8) (.k (.sc (.int .i64 1)))⟩,
 ⟨some 7, none, [], [], .mv (.t 9)⟩] (some [0, 1, 7]))
 (.block 0
 (.loop
 (.seq
 (.seq
 (.reg [⟨some 10, none, [], [], .mv (.t 7)⟩,
 ⟨some 11, none, [], [], .bin .geq false (.t 10) (.k (.sc (.int .i64 0)))⟩] (some [0, 1, 7, 11]))
 (.cond (.t 11)
 (.keep [0, 1, 7]
 .skip)
 (.exit 0)))
 (.seq
 (.block 1
 (.reg [⟨some 14, none, [], [], .mv (.t 0)⟩,
 ⟨some 15, none, [], [], .mv (.t 1)⟩,
 ⟨some 16, none, [], [], .mv (.t 7)⟩,
 ⟨some 17, none, [], [], .bin .mul false (.k (.sc (.int .i64 8))) (.t 16)⟩,
 ⟨some 18, none, [], [], .bin .shr false (.t 15) (.t 17)⟩,
 ⟨some 19, none, [], [], .cvi .u8 (.t 18)⟩,
 ⟨some 20, none, [], [], .bsl 1 1 [(.sc (.int .u8 0))] [(0, 1, (.t 19))]⟩,
 ⟨some 21, none, [], [], .app 1 1 (.t 14) (.t 20)⟩,
 ⟨some 0, none, [], [], .mv (.t 21)⟩] (some [0, 1, 7])))
 (.reg [⟨some 12, none, [], [], .mv (.t 7)⟩,
 ⟨some 13, none, [], [], .bin .sub false (.t 12) (.k (.sc (.int .i64 1)))⟩,
 ⟨some 7, none, [], [], .mv (.t 13)⟩] (some [0, 1, 7])))))))
 (.seq
 (.reg [⟨some 22, none, [], [], .mv (.t 0)⟩,
 ⟨some 6, none, [], [], .mv (.t 22)⟩] (some [6]))
 .ret)))
theorem b92 : cmpG Try.prog 92 = some (strip a92, r92, 23) := by kernel_rfl

abbrev r93 : List AR := [.t 2]
abbrev a93 : ACode :=
 (.seq
 (.reg [⟨some 2, none, [], [], .mv (.k .nl)⟩] (some [0]))
 (.seq
 (.reg [⟨some 3, none, [], [], .mv (.t 0)⟩,
 ⟨some 4, none, [], [], .cal (.k (.fn 68 [])) [(.t 3)]⟩,
 ⟨some 5, none, [], [], .mv (.t 0)⟩,
 ⟨some 6, none, [], [], .cal (.k (.fn 126 [])) [(.t 5)]⟩,
 ⟨some 7, none, [], [], .cal (.k (.fn 125 [])) [(.t 6)]⟩,
 ⟨some 8, none, [], [], .app 1 1 (.t 4) (.t 7)⟩,
 ⟨some 2, none, [], [], .mv (.t 8)⟩] (some [2]))
 .ret))
theorem b93 : cmpG Try.prog 93 = some (strip a93, r93, 9) := by kernel_rfl

abbrev r94 : List AR := [.t 4]
abbrev a94 : ACode :=
 (.seq
 (.reg [⟨some 3, none, [], [], .box (.t 1)⟩,
 ⟨some 4, none, [], [], .mv (.k .nl)⟩] (some [0, 3]))
 (.seq
 (.seq
 (.reg [⟨some 7, none, [], [], .fa 0 (.t 3)⟩,
 ⟨some 8, none, [], [], .ld false 1 (.t 7)⟩] (some [0, 3, 8]))
 (.block 0
 (.seq
 (.seq
 (.reg [⟨some 10, none, [], [], .bin .eql false (.t 8) (.k (.sc (.int .i64 1)))⟩,
 ⟨some 9, none, [], [], .mv (.t 10)⟩] (some [0, 3, 8, 9]))
 (.cond (.t 9)
 .skip
 (.keep [0, 3, 8]
 (.reg [⟨some 11, none, [], [], .bin .eql false (.t 8) (.k (.sc (.int .i64 5)))⟩,
 ⟨some 9, none, [], [], .mv (.t 11)⟩] (some [0, 3, 8, 9])))))
 (.cond (.t 9)
 (.keep [0, 3]
 (.seq
 (.regD [⟨some 12, none, [(.t 0)], [], .mv (.t 0)⟩,
 ⟨some 13, none, [(.t 3)], [0], .fa 20 (.t 3)⟩,
 ⟨some 14, none, [(.t 13)], [0], .ld false 1 (.t 13)⟩,
 ⟨some 15, none, [(.k (.fn 92 [])), (.t 12), (.t 14), (.k (.sc (.int .i64 8)))], [], .calG [0] (.k (.fn 92 [])) [(.t 12), (.t 14), (.k (.sc (.int .i64 8)))]⟩,
 ⟨some 16, none, [(.t 3)], [0, 1, 2, 3], .fa 21 (.t 3)⟩,
 ⟨some 17, none, [(.t 16)], [0, 1, 2, 3], .slA 32 1 none none (.t 16)⟩,
 ⟨some 18, none, [(.t 15), (.t 17)], [], .app 1 1 (.t 15) (.t 17)⟩,
 ⟨some 4, none, [(.t 18)], [], .mv (.t 18)⟩] (some [4]))
 .ret))
 (.keep [0, 3, 8]
 (.seq
 (.reg [⟨some 20, none, [], [], .bin .eql false (.t 8) (.k (.sc (.int .i64 6)))⟩,
 ⟨some 19, none, [], [], .mv (.t 20)⟩] (some [0, 3, 8, 19]))
 (.cond (.t 19)
 (.keep [0, 3]
 (.seq
 (.reg [⟨some 21, none, [], [], .mv (.t 0)⟩,
 ⟨some 22, none, [], [], .fa 20 (.t 3)⟩,
 ⟨some 23, none, [], [], .ld false 1 (.t 22)⟩,
 ⟨some 24, none, [], [], .calG [0] (.k (.fn 92 [])) [(.t 21), (.t 23), (.k (.sc (.int .i64 8)))]⟩,
 ⟨some 4, none, [], [], .mv (.t 24)⟩] (some [4]))
 .ret))
 (.keep [0, 3, 8]
 (.seq
 (.reg [⟨some 26, none, [], [], .bin .eql false (.t 8) (.k (.sc (.int .i64 7)))⟩,
 ⟨some 25, none, [], [], .mv (.t 26)⟩] (some [0, 3, 25]))
 (.cond (.t 25)
 (.keep [0, 3]
 (.seq
 (.reg [⟨some 27, none, [], [], .mv (.t 0)⟩,
 ⟨some 28, none, [], [], .fa 55 (.t 3)⟩,
 ⟨some 29, none, [], [], .ld false 1 (.t 28)⟩,
 ⟨some 30, none, [], [], .cvi .u8 (.t 29)⟩,
 ⟨some 31, none, [], [], .bsl 1 1 [(.sc (.int .u8 0))] [(0, 1, (.t 30))]⟩,
 ⟨some 32, none, [], [], .app 1 1 (.t 27) (.t 31)⟩,
 ⟨some 4, none, [], [], .mv (.t 32)⟩] (some [4]))
 .ret))
 (.keep [0, 3]
 .skip)))))))))))
 (.seq
 (.regD [⟨some 33, none, [(.t 0)], [], .mv (.t 0)⟩,
 ⟨some 34, none, [(.t 3)], [0], .fa 19 (.t 3)⟩,
 ⟨some 35, none, [(.t 34)], [0], .ld false 1 (.t 34)⟩,
 ⟨some 36, none, [(.k (.fn 92 [])), (.t 33), (.t 35), (.k (.sc (.int .i64 8)))], [], .calG [0] (.k (.fn 92 [])) [(.t 33), (.t 35), (.k (.sc (.int .i64 8)))]⟩,
 ⟨some 37, none, [(.t 3)], [0, 1, 2, 3], .fa 53 (.t 3)⟩,
 ⟨some 38, none, [(.t 37)], [0, 1, 2, 3], .ld false 1 (.t 37)⟩,
 ⟨some 39, none, [(.t 36), (.t 38)], [], .app 1 1 (.t 36) (.t 38)⟩,
 ⟨some 0, none, [(.t 39)], [], .mv (.t 39)⟩] (some [0, 3]))
 (.seq
 (.seq
 (.reg [⟨some 40, none, [], [], .fa 54 (.t 3)⟩,
 ⟨some 41, none, [], [], .ld false 1 (.t 40)⟩,
 ⟨some 42, none, [], [], .lenL (.t 41)⟩,
 ⟨some 43, none, [], [], .mv (.k (.sc (.int .i64 0)))⟩] (some [0, 41, 42, 43]))
 (.block 1
 (.loop
 (.seq
 (.reg [⟨some 44, none, [], [], .bin .lss false (.t 43) (.t 42)⟩] none)
 (.seq
 (.cond (.t 44)
 (.keep [0, 41, 42, 43]
 .skip)
 (.exit 1))
 (.seq
 (.block 2
 (.seq
 (.reg [⟨some 45, none, [], [], .ixaS 2 (.t 41) (.t 43)⟩,
 ⟨some 46, none, [], [], .ld true 2 (.t 45)⟩,
 ⟨some 6, none, [], [], .alc [(.sc (.int .u64 0)), (.sc (.int .u64 0))]⟩,
 ⟨none, none, [], [], .sto 2 (.t 6) (.t 46)⟩] (some [0, 6, 41, 42, 43]))
 (.regD [⟨some 47, none, [(.t 0)], [], .mv (.t 0)⟩,
 ⟨some 48, none, [(.t 6)], [0], .fa 0 (.t 6)⟩,
 ⟨some 49, none, [(.t 48)], [0], .ld false 1 (.t 48)⟩,
 ⟨some 50, none, [(.k (.fn 92 [])), (.t 47), (.t 49), (.k (.sc (.int .i64 8)))], [], .calG [0] (.k (.fn 92 [])) [(.t 47), (.t 49), (.k (.sc (.int .i64 8)))]⟩,
 ⟨some 51, none, [(.t 6)], [0, 1, 2, 3], .fa 1 (.t 6)⟩,
 ⟨some 52, none, [(.t 51)], [0, 1, 2, 3], .ld false 1 (.t 51)⟩,
 ⟨some 53, none, [(.k (.fn 92 [])), (.t 50), (.t 52), (.k (.sc (.int .i64 8)))], [], .calG [0] (.k (.fn 92 [])) [(.t 50), (.t 52), (.k (.sc (.int .i64 8)))]⟩,
 ⟨some 0, none, [(.t 53)], [], .mv (.t 53)⟩] (some [0, 41, 42, 43]))))
 (.reg [⟨some 54, none, [], [], .bin .add false (.t 43) (.k (.sc (.int .i64 1)))⟩,
 ⟨some 43, none, [], [], .mv (.t 54)⟩] (some [0, 41, 42, 43]))))))))
 (.seq
 (.reg [⟨some 55, none, [], [], .mv (.t 0)⟩,
 ⟨some 4, none, [], [], .mv (.t 55)⟩] (some [4]))
 .ret)))))
theorem b94 : cmpG Try.prog 94 = some (strip a94, r94, 56) := by kernel_rfl

abbrev r95 : List AR := [.c 2 true 56]
abbrev a95 : ACode :=
 (.seq
 (.reg [⟨some 1, none, [], [], .box (.t 0)⟩,
 ⟨some 2, none, [], [], .alc zL2⟩] (some [1, 2]))
 (.seq
 (.reg [⟨some 4, none, [], [], .fa 0 (.t 1)⟩,
 ⟨some 5, none, [], [], .ld false 1 (.t 4)⟩,
 ⟨some 6, none, [], [], .fa 1 (.t 1)⟩,
 ⟨some 7, none, [], [], .ld true 16 (.t 6)⟩,
 ⟨some 8, none, [], [], .fa 17 (.t 1)⟩,
 ⟨some 9, none, [], [], .ld true 2 (.t 8)⟩,
 ⟨some 10, none, [], [], .bld zL2 [(0, 1, (.t 5)), (1, 16, (.t 7)), (17, 2, (.t 9))]⟩,
 ⟨some 3, none, [], [], .alc zL2⟩,
 ⟨none, none, [], [], .sto 56 (.t 3) (.t 10)⟩] (some [1, 2, 3]))
 (.seq
 (.seq
 (.reg [⟨some 11, none, [], [], .fa 0 (.t 1)⟩,
 ⟨some 12, none, [], [], .ld false 1 (.t 11)⟩] (some [1, 2, 3, 12]))
 (.block 0
 (.seq
 (.seq
 (.reg [⟨some 14, none, [], [], .bin .eql false (.t 12) (.k (.sc (.int .i64 1)))⟩,
 ⟨some 13, none, [], [], .mv (.t 14)⟩] (some [1, 2, 3, 12, 13]))
 (.cond (.t 13)
 .skip
 (.keep [1, 2, 3, 12]
 (.reg [⟨some 15, none, [], [], .bin .eql false (.t 12) (.k (.sc (.int .i64 5)))⟩,
 ⟨some 13, none, [], [], .mv (.t 15)⟩] (some [1, 2, 3, 12, 13])))))
 (.cond (.t 13)
 (.keep [1, 2, 3]
 (.regD [⟨some 16, none, [(.t 1)], [], .fa 20 (.t 1)⟩,
 ⟨some 17, none, [(.t 16)], [], .ld false 1 (.t 16)⟩,
 ⟨some 18, none, [(.t 1)], [0, 1], .fa 21 (.t 1)⟩,
 ⟨some 19, none, [(.t 18)], [0, 1], .ld true 32 (.t 18)⟩,
 ⟨some 20, none, [(.t 3)], [2, 3], .fa 20 (.t 3)⟩,
 ⟨none, none, [(.t 20), (.t 17)], [2, 3], .sto 1 (.t 20) (.t 17)⟩,
 ⟨some 21, none, [(.t 3)], [], .fa 21 (.t 3)⟩,
 ⟨none, none, [(.t 21), (.t 19)], [], .sto 32 (.t 21) (.t 19)⟩] (some [2, 3])))
 (.keep [1, 2, 3, 12]
 (.seq
 (.reg [⟨some 23, none, [], [], .bin .eql false (.t 12) (.k (.sc (.int .i64 2)))⟩,
 ⟨some 22, none, [], [], .mv (.t 23)⟩] (some [1, 2, 3, 12, 22]))
 (.cond (.t 22)
 (.keep [1, 2, 3]
 (.reg [⟨some 24, none, [], [], .fa 19 (.t 1)⟩,
 ⟨some 25, none, [], [], .ld false 1 (.t 24)⟩,
 ⟨some 26, none, [], [], .fa 19 (.t 3)⟩,
 ⟨none, none, [], [], .sto 1 (.t 26) (.t 25)⟩] (some [2, 3])))
 (.keep [1, 2, 3, 12]
 (.seq
 (.reg [⟨some 28, none, [], [], .bin .eql false (.t 12) (.k (.sc (.int .i64 3)))⟩,
 ⟨some 27, none, [], [], .mv (.t 28)⟩] (some [1, 2, 3, 12, 27]))
 (.cond (.t 27)
 (.keep [1, 2, 3]
 (.regD [⟨some 29, none, [(.t 1)], [], .fa 19 (.t 1)⟩,
 ⟨some 30, none, [(.t 29)], [], .ld false 1 (.t 29)⟩,
 ⟨some 31, none, [(.t 1)], [0, 1], .fa 53 (.t 1)⟩,
 ⟨some 32, none, [(.t 31)], [0, 1], .ld false 1 (.t 31)⟩,
 ⟨some 33, none, [(.k (.fn 68 [])), (.t 32)], [0, 1], .cal (.k (.fn 68 [])) [(.t 32)]⟩,
 ⟨some 34, none, [(.t 3)], [2, 3, 4], .fa 19 (.t 3)⟩,
 ⟨none, none, [(.t 34), (.t 30)], [], .sto 1 (.t 34) (.t 30)⟩,
 ⟨some 35, none, [(.t 3)], [], .fa 53 (.t 3)⟩,
 ⟨none, none, [(.t 35), (.t 33)], [], .sto 1 (.t 35) (.t 33)⟩] (some [2, 3])))
 (.keep [1, 2, 3, 12]
 (.seq
 (.reg [⟨some 37, none, [], [], .bin .eql false (.t 12) (.k (.sc (.int .i64 4)))⟩,
 ⟨some 36, none, [], [], .mv (.t 37)⟩] (some [1, 2, 3, 12, 36]))
 (.cond (.t 36)
 (.keep [1, 2, 3]
 (.regD [⟨some 38, none, [(.t 1)], [], .fa 19 (.t 1)⟩,
 ⟨some 39, none, [(.t 38)], [], .ld false 1 (.t 38)⟩,
 ⟨some 40, none, [(.t 1)], [0, 1], .fa 54 (.t 1)⟩,
 ⟨some 41, none, [(.t 40)], [0, 1], .ld false 1 (.t 40)⟩,
 ⟨some 42, none, [(.k (.fn 127 [])), (.t 41)], [0, 1], .cal (.k (.fn 127 [])) [(.t 41)]⟩,
 ⟨some 43, none, [(.t 3)], [2, 3, 4], .fa 19 (.t 3)⟩,
 ⟨none, none, [(.t 43), (.t 39)], [], .sto 1 (.t 43) (.t 39)⟩,
 ⟨some 44, none, [(.t 3)], [], .fa 54 (.t 3)⟩,
 ⟨none, none, [(.t 44), (.t 42)], [], .sto 1 (.t 44) (.t 42)⟩] (some [2, 3])))
 (.keep [1, 2, 3, 12]
 (.seq
 (.reg [⟨some 46, none, [], [], .bin .eql false (.t 12) (.k (.sc (.int .i64 6)))⟩,
 ⟨some 45, none, [], [], .mv (.t 46)⟩] (some [1, 2, 3, 12, 45]))
 (.cond (.t 45)
 (.keep [1, 2, 3]
 (.reg [⟨some 47, none, [], [], .fa 20 (.t 1)⟩,
 ⟨some 48, none, [], [], .ld false 1 (.t 47)⟩,
 ⟨some 49, none, [], [], .fa 20 (.t 3)⟩,
 ⟨none, none, [], [], .sto 1 (.t 49) (.t 48)⟩] (some [2, 3])))
 (.keep [1, 2, 3, 12]
 (.seq
 (.reg [⟨some 51, none, [], [], .bin .eql false (.t 12) (.k (.sc (.int .i64 7)))⟩,
 ⟨some 50, none, [], [], .mv (.t 51)⟩] (some [1, 2, 3, 50]))
 (.cond (.t 50)
 (.keep [1, 2, 3]
 (.reg [⟨some 52, none, [], [], .fa 55 (.t 1)⟩,
 ⟨some 53, none, [], [], .ld false 1 (.t 52)⟩,
 ⟨some 54, none, [], [], .fa 55 (.t 3)⟩,
 ⟨none, none, [], [], .sto 1 (.t 54) (.t 53)⟩] (some [2, 3])))
 (.keep [2, 3]
 .skip))))))))))))))))))))
 (.seq
 (.reg [⟨some 55, none, [], [], .ld true 56 (.t 3)⟩,
 ⟨none, none, [], [], .sto 56 (.t 2) (.t 55)⟩] (some [2]))
 .ret))))
theorem b95 : cmpG Try.prog 95 = some (strip a95, r95, 56) := by kernel_rfl

abbrev r122 : List AR := [.t 4]
abbrev a122 : ACode :=
 (.seq
 (.reg [⟨some 4, none, [], [], .mv (.k (.sc (.bool false)))⟩] (some [0, 1]))
 (.seq
 (.seq
 (.reg [⟨some 7, none, [], [], .mv (.t 1)⟩,
 ⟨some 8, none, [], [], .lenL (.t 7)⟩,
 ⟨some 9, none, [], [], .mv (.k (.sc (.int .i64 0)))⟩] (some [0, 7, 8, 9]))
 (.block 0
 (.loop
 (.seq
 (.reg [⟨some 10, none, [], [], .bin .lss false (.t 9) (.t 8)⟩] none)
 (.seq
 (.cond (.t 10)
 (.keep [0, 7, 8, 9]
 .skip)
 (.exit 0))
 (.seq
 (.block 1
 (.seq
 (.reg [⟨some 11, none, [], [], .ixaS 2 (.t 7) (.t 9)⟩,
 ⟨some 12, none, [], [], .ld true 2 (.t 11)⟩,
 ⟨some 6, none, [], [], .alc [(.sc (.int .u64 0)), (.sc (.int .u64 0))]⟩,
 ⟨none, none, [], [], .sto 2 (.t 6) (.t 12)⟩] (some [0, 6, 7, 8, 9]))
 (.seq
 (.seq
 (.reg [⟨some 13, none, [], [], .fa 0 (.t 6)⟩,
 ⟨some 14, none, [], [], .ld false 1 (.t 13)⟩,
 ⟨some 15, none, [], [], .mv (.t 0)⟩,
 ⟨some 16, none, [], [], .bin .leq false (.t 14) (.t 15)⟩,
 ⟨some 17, none, [], [], .mv (.t 16)⟩,
 ⟨some 18, (some (17, false)), [], [], .fa 1 (.t 6)⟩,
 ⟨some 19, (some (17, false)), [], [], .ld false 1 (.t 18)⟩,
 ⟨some 20, (some (17, false)), [], [], .fa 0 (.t 6)⟩,
 ⟨some 21, (some (17, false)), [], [], .ld false 1 (.t 20)⟩,
 ⟨some 22, (some (17, false)), [], [], .bin .leq false (.t 19) (.t 21)⟩,
 ⟨some 23, none, [], [], .pick (.t 17) (.k (.sc (.bool true))) (.t 22)⟩] (some [6, 7, 8, 9, 23]))
 (.cond (.t 23)
 (.keep []
 (.seq
 (.reg [⟨some 4, none, [], [], .mv (.k (.sc (.bool false)))⟩] none)
 .ret))
 (.keep [6, 7, 8, 9]
 .skip)))
 (.reg [⟨some 24, none, [], [], .fa 1 (.t 6)⟩,
 ⟨some 25, none, [], [], .ld false 1 (.t 24)⟩,
 ⟨some 0, none, [], [], .mv (.t 25)⟩] (some [0, 7, 8, 9])))))
 (.reg [⟨some 26, none, [], [], .bin .add false (.t 9) (.k (.sc (.int .i64 1)))⟩,
 ⟨some 9, none, [], [], .mv (.t 26)⟩] (some [0, 7, 8, 9]))))))))
 (.seq
 (.reg [⟨some 4, none, [], [], .mv (.k (.sc (.bool true)))⟩] (some [4]))
 .ret)))
theorem b122 : cmpG Try.prog 122 = some (strip a122, r122, 27) := by kernel_rfl

abbrev r125 : List AR := [.t 2]
abbrev a125 : ACode :=
 (.seq
 (.reg [⟨some 2, none, [], [], .mv (.k .nl)⟩] (some [0]))
 (.seq
 (.reg [⟨some 5, none, [], [], .mks (.sc (.int .u8 0)) (.k (.sc (.int .i64 4))) (.k (.sc (.int .i64 4)))⟩,
 ⟨some 3, none, [], [], .mv (.t 5)⟩] (some [0, 3]))
 (.seq
 (.seq
 (.reg [⟨some 6, none, [], [], .mv (.t 3)⟩,
 ⟨some 7, none, [], [], .lenL (.t 6)⟩,
 ⟨some 8, none, [], [], .mv (.k (.sc (.int .i64 0)))⟩] (some [0, 3, 7, 8]))
 (.block 0
 (.loop
 (.seq
 (.reg [⟨some 9, none, [], [], .bin .lss false (.t 8) (.t 7)⟩] none)
 (.seq
 (.cond (.t 9)
 (.keep [0, 3, 7, 8]
 .skip)
 (.exit 0))
 (.seq
 (.block 1
 (.seq
 (.reg [⟨some 10, none, [], [], .mv (.t 8)⟩,
 ⟨some 4, none, [], [], .mv (.t 10)⟩] (some [0, 3, 4, 7, 8]))
 (.reg [⟨some 11, none, [], [], .mv (.t 3)⟩,
 ⟨some 12, none, [], [], .mv (.t 4)⟩,
 ⟨some 13, none, [], [], .mv (.t 0)⟩,
 ⟨some 14, none, [], [], .mv (.t 4)⟩,
 ⟨some 15, none, [], [], .bin .mul false (.k (.sc (.int .i64 8))) (.t 14)⟩,
 ⟨some 16, none, [], [], .bin .shr false (.t 13) (.t 15)⟩,
 ⟨some 17, none, [], [], .cvi .u8 (.t 16)⟩,
 ⟨some 18, none, [], [], .ixaS 1 (.t 11) (.t 12)⟩,
 ⟨none, none, [], [], .sto 1 (.t 18) (.t 17)⟩] (some [0, 3, 7, 8]))))
 (.reg [⟨some 19, none, [], [], .bin .add false (.t 8) (.k (.sc (.int .i64 1)))⟩,
 ⟨some 8, none, [], [], .mv (.t 19)⟩] (some [0, 3, 7, 8]))))))))
 (.seq
 (.reg [⟨some 20, none, [], [], .mv (.t 3)⟩,
 ⟨some 2, none, [], [], .mv (.t 20)⟩] (some [2]))
 .ret))))
theorem b125 : cmpG Try.prog 125 = some (strip a125, r125, 21) := by kernel_rfl

abbrev r126 : List AR := [.t 2]
abbrev a126 : ACode :=
 (.seq
 (.reg [⟨some 2, none, [], [], .mv (.k (.sc (.int .u32 0)))⟩] (some [0]))
 (.seq
 (.reg [⟨some 3, none, [], [], .mv (.t 0)⟩,
 ⟨some 4, none, [], [], .bsl 1 1 [.nl] [(0, 1, (.t 3))]⟩,
 ⟨some 5, none, [], [], .cal (.k (.fn 141 [])) [(.t 4)]⟩,
 ⟨some 2, none, [], [], .mv (.t 5)⟩] (some [2]))
 .ret))
theorem b126 : cmpG Try.prog 126 = some (strip a126, r126, 6) := by kernel_rfl

abbrev r127 : List AR := [.t 2]
abbrev a127 : ACode :=
 (.seq
 (.reg [⟨some 2, none, [], [], .mv (.k .nl)⟩] (some [0]))
 (.seq
 (.seq
 (.reg [⟨some 3, none, [], [], .mv (.t 0)⟩,
 ⟨some 4, none, [], [], .nil true (.t 3) (.k .nl)⟩] (some [0, 4]))
 (.cond (.t 4)
 (.keep []
 (.seq
 (.reg [⟨some 2, none, [], [], .mv (.k .nl)⟩] none)
 .ret))
 (.keep [0]
 .skip)))
 (.seq
 (.reg [⟨some 5, none, [], [], .bsl 0 2 [] []⟩,
 ⟨some 6, none, [], [], .mv (.t 0)⟩,
 ⟨some 7, none, [], [], .app 2 16 (.t 5) (.t 6)⟩,
 ⟨some 2, none, [], [], .mv (.t 7)⟩] (some [2]))
 .ret)))
theorem b127 : cmpG Try.prog 127 = some (strip a127, r127, 8) := by kernel_rfl

abbrev r141 : List AR := [.t 2]
abbrev a141 : ACode :=
 (.seq
 (.reg [⟨some 2, none, [], [], .mv (.k (.sc (.int .u32 0)))⟩] (some [0]))
 (.seq
 (.reg [⟨some 3, none, [], [], .mv (.k (.sc (.int .u32 4294967295)))⟩] none)
 (.seq
 (.seq
 (.reg [⟨some 8, none, [], [], .mv (.t 0)⟩,
 ⟨some 9, none, [], [], .lenL (.t 8)⟩,
 ⟨some 10, none, [], [], .mv (.k (.sc (.int .i64 0)))⟩] (some [3, 8, 9, 10]))
 (.block 0
 (.loop
 (.seq
 (.reg [⟨some 11, none, [], [], .bin .lss false (.t 10) (.t 9)⟩] none)
 (.seq
 (.cond (.t 11)
 (.keep [3, 8, 9, 10]
 .skip)
 (.exit 0))
 (.seq
 (.block 1
 (.seq
 (.reg [⟨some 12, none, [], [], .ixaS 1 (.t 8) (.t 10)⟩,
 ⟨some 13, none, [], [], .ld false 1 (.t 12)⟩,
 ⟨some 5, none, [], [], .mv (.t 13)⟩] (some [3, 5, 8, 9, 10]))
 (.seq
 (.reg [⟨some 14, none, [], [], .mv (.t 5)⟩,
 ⟨some 15, none, [], [], .lenL (.t 14)⟩,
 ⟨some 16, none, [], [], .mv (.k (.sc (.int .i64 0)))⟩] (some [3, 8, 9, 10, 14, 15, 16]))
 (.block 2
 (.loop
 (.seq
 (.reg [⟨some 17, none, [], [], .bin .lss false (.t 16) (.t 15)⟩] none)
 (.seq
 (.cond (.t 17)
 (.keep [3, 8, 9, 10, 14, 15, 16]
 .skip)
 (.exit 2))
 (.seq
 (.block 3
 (.seq
 (.reg [⟨some 18, none, [], [], .ixaS 1 (.t 14) (.t 16)⟩,
 ⟨some 19, none, [], [], .ld false 1 (.t 18)⟩,
 ⟨some 7, none, [], [], .mv (.t 19)⟩] (some [3, 7, 8, 9, 10, 14, 15, 16]))
 (.reg [⟨some 20, none, [], [], .mv (.t 3)⟩,
 ⟨some 21, none, [], [], .mv (.t 7)⟩,
 ⟨some 22, none, [], [], .cal (.k (.fn 147 [])) [(.t 20), (.t 21)]⟩,
 ⟨some 3, none, [], [], .mv (.t 22)⟩] (some [3, 8, 9, 10, 14, 15, 16]))))
 (.reg [⟨some 23, none, [], [], .bin .add false (.t 16) (.k (.sc (.int .i64 1)))⟩,
 ⟨some 16, none, [], [], .mv (.t 23)⟩] (some [3, 8, 9, 10, 14, 15, 16]))))))))))
 (.reg [⟨some 24, none, [], [], .bin .add false (.t 10) (.k (.sc (.int .i64 1)))⟩,
 ⟨some 10, none, [], [], .mv (.t 24)⟩] (some [3, 8, 9, 10]))))))))
 (.seq
 (.reg [⟨some 25, none, [], [], .mv (.t 3)⟩,
 ⟨some 26, none, [], [], .un .xor (.t 25)⟩,
 ⟨some 2, none, [], [], .mv (.t 26)⟩] (some [2]))
 .ret))))
theorem b141 : cmpG Try.prog 141 = some (strip a141, r141, 27) := by kernel_rfl

abbrev r147 : List AR := [.t 4]
abbrev a147 : ACode :=
 (.seq
 (.reg [⟨some 4, none, [], [], .mv (.k (.sc (.int .u32 0)))⟩] (some [0, 1]))
 (.seq
 (.reg [⟨some 5, none, [], [], .mv (.t 0)⟩,
 ⟨some 6, none, [], [], .mv (.t 1)⟩,
 ⟨some 7, none, [], [], .cvi .u32 (.t 6)⟩,
 ⟨some 8, none, [], [], .bin .xor false (.t 5) (.t 7)⟩,
 ⟨some 0, none, [], [], .mv (.t 8)⟩] (some [0]))
 (.seq
 (.seq
 (.reg [⟨some 9, none, [], [], .mv (.k (.sc (.int .i64 0)))⟩] none)
 (.block 0
 (.loop
 (.seq
 (.reg [⟨some 10, none, [], [], .bin .lss false (.t 9) (.k (.sc (.int .i64 8)))⟩] none)
 (.seq
 (.cond (.t 10)
 (.keep [0, 9]
 .skip)
 (.exit 0))
 (.seq
 (.block 1
 (.reg [⟨some 11, none, [], [], .mv (.t 0)⟩,
 ⟨some 12, none, [], [], .bin .shr false (.t 11) (.k (.sc (.int .u64 1)))⟩,
 ⟨some 13, none, [], [], .mv (.t 0)⟩,
 ⟨some 14, none, [], [], .bin .and false (.t 13) (.k (.sc (.int .u32 1)))⟩,
 ⟨some 15, none, [], [], .un .neg (.t 14)⟩,
 ⟨some 16, none, [], [], .bin .and false (.k (.sc (.int .u32 3988292384))) (.t 15)⟩,
 ⟨some 17, none, [], [], .bin .xor false (.t 12) (.t 16)⟩,
 ⟨some 0, none, [], [], .mv (.t 17)⟩] (some [0, 9])))
 (.reg [⟨some 18, none, [], [], .bin .add false (.t 9) (.k (.sc (.int .i64 1)))⟩,
 ⟨some 9, none, [], [], .mv (.t 18)⟩] (some [0, 9]))))))))
 (.seq
 (.reg [⟨some 19, none, [], [], .mv (.t 0)⟩,
 ⟨some 4, none, [], [], .mv (.t 19)⟩] (some [4]))
 .ret))))
theorem b147 : cmpG Try.prog 147 = some (strip a147, r147, 20) := by kernel_rfl


end Go.Proofs.Ytbmdahhhgpbchaa.Cod
