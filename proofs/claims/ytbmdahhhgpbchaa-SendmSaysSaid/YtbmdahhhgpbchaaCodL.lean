import Derived.Test.YtbmdahhhgpbchaaProg
import Derived.Test.YtbmdahhhgpbchaaSimD
import Derived.KernelRfl
namespace Go.Proofs.Ytbmdahhhgpbchaa.Cod
open Go Go.Sim Go.Proofs
set_option maxRecDepth 100000
def zL0 : List AV := .sc (.bool false) :: .sc (.bool false) :: .sc (.bool false) :: .sc (.int .i64 0) :: .sc (.int .u8 0) :: .sc (.int .u8 0) :: .sc (.int .u8 0) :: .sc (.int .u8 0) :: .sc (.int .u8 0) :: .sc (.int .u8 0) :: .sc (.int .u8 0) :: .sc (.int .u8 0) :: .sc (.int .u8 0) :: .sc (.int .u8 0) :: .sc (.int .u8 0) :: .sc (.int .u8 0) :: .sc (.int .u8 0) :: .sc (.int .u8 0) :: .sc (.int .u8 0) :: .sc (.int .u8 0) :: .sc (.int .u32 0) :: .sc (.int .u32 0) :: .sc (.int .u64 0) :: .sc (.int .u64 0) :: .sc (.int .u8 0) :: .sc (.int .u8 0) :: .sc (.int .u8 0) :: .sc (.int .u8 0) :: .sc (.int .u8 0) :: .sc (.int .u8 0) :: .sc (.int .u8 0) :: .sc (.int .u8 0) :: .sc (.int .u8 0) :: .sc (.int .u8 0) :: .sc (.int .u8 0) :: .sc (.int .u8 0) :: .sc (.int .u8 0) :: .sc (.int .u8 0) :: .sc (.int .u8 0) :: .sc (.int .u8 0) :: .sc (.int .u8 0) :: .sc (.int .u8 0) :: .sc (.int .u8 0) :: .sc (.int .u8 0) :: .sc (.int .u8 0) :: .sc (.int .u8 0) :: .sc (.int .u8 0) :: .sc (.int .u8 0) :: .sc (.int .u8 0) :: .sc (.int .u8 0) :: .sc (.int .u8 0) :: .sc (.int .u8 0) :: .sc (.int .u8 0) :: .sc (.int .u8 0) :: .sc (.int .u8 0) :: .sc (.int .u8 0) :: .nl :: .nl :: .sc (.int .i64 0) :: []
def zL1 : List AV := .sc (.int .i64 0) :: .sc (.int .i64 0) :: .nl :: .sc (.int .u8 0) :: .sc (.int .u8 0) :: .sc (.int .u8 0) :: .sc (.int .u8 0) :: .sc (.int .u8 0) :: .sc (.int .u8 0) :: .sc (.int .u8 0) :: .sc (.int .u8 0) :: .sc (.int .u8 0) :: .sc (.int .u8 0) :: .sc (.int .u8 0) :: .sc (.int .u8 0) :: .sc (.int .u8 0) :: .sc (.int .u8 0) :: .sc (.int .u8 0) :: .sc (.int .u8 0) :: .sc (.int .u8 0) :: .sc (.int .u8 0) :: .sc (.int .u8 0) :: .sc (.int .u8 0) :: .sc (.int .u8 0) :: .sc (.int .u8 0) :: .sc (.int .u8 0) :: .sc (.int .u8 0) :: .sc (.int .u8 0) :: .sc (.int .u8 0) :: .sc (.int .u8 0) :: .sc (.int .u8 0) :: .sc (.int .u8 0) :: .sc (.int .u8 0) :: .sc (.int .u8 0) :: .sc (.int .u8 0) :: .sc (.int .u8 0) :: .sc (.int .u8 0) :: .sc (.int .u8 0) :: .sc (.int .u8 0) :: .sc (.int .u8 0) :: .sc (.int .u8 0) :: .sc (.int .u8 0) :: .sc (.int .u8 0) :: .sc (.int .u8 0) :: .sc (.int .u8 0) :: .sc (.int .u8 0) :: .sc (.int .u8 0) :: .sc (.int .u8 0) :: .sc (.int .u8 0) :: .sc (.int .u8 0) :: .sc (.int .u8 0) :: .sc (.int .u32 0) :: .sc (.int .u32 0) :: .nl :: .sc (.int .i64 0) :: .nl :: .nl :: .sc (.bool false) :: .sc (.int .i64 0) :: .sc (.int .i64 0) :: .sc (.bool false) :: .sc (.int .i64 0) :: .sc (.int .i64 0) :: []
def zL2 : List AV := .sc (.int .i64 0) :: .sc (.int .u8 0) :: .sc (.int .u8 0) :: .sc (.int .u8 0) :: .sc (.int .u8 0) :: .sc (.int .u8 0) :: .sc (.int .u8 0) :: .sc (.int .u8 0) :: .sc (.int .u8 0) :: .sc (.int .u8 0) :: .sc (.int .u8 0) :: .sc (.int .u8 0) :: .sc (.int .u8 0) :: .sc (.int .u8 0) :: .sc (.int .u8 0) :: .sc (.int .u8 0) :: .sc (.int .u8 0) :: .sc (.int .u32 0) :: .sc (.int .u32 0) :: .sc (.int .u64 0) :: .sc (.int .u64 0) :: .sc (.int .u8 0) :: .sc (.int .u8 0) :: .sc (.int .u8 0) :: .sc (.int .u8 0) :: .sc (.int .u8 0) :: .sc (.int .u8 0) :: .sc (.int .u8 0) :: .sc (.int .u8 0) :: .sc (.int .u8 0) :: .sc (.int .u8 0) :: .sc (.int .u8 0) :: .sc (.int .u8 0) :: .sc (.int .u8 0) :: .sc (.int .u8 0) :: .sc (.int .u8 0) :: .sc (.int .u8 0) :: .sc (.int .u8 0) :: .sc (.int .u8 0) :: .sc (.int .u8 0) :: .sc (.int .u8 0) :: .sc (.int .u8 0) :: .sc (.int .u8 0) :: .sc (.int .u8 0) :: .sc (.int .u8 0) :: .sc (.int .u8 0) :: .sc (.int .u8 0) :: .sc (.int .u8 0) :: .sc (.int .u8 0) :: .sc (.int .u8 0) :: .sc (.int .u8 0) :: .sc (.int .u8 0) :: .sc (.int .u8 0) :: .nl :: .nl :: .sc (.int .i64 0) :: []
abbrev r10 : List AR := [.t 6]
abbrev a10 : ACode :=
 (.seq
 (.reg [⟨some 6, none, [], [], .mv (.k (.sc (.bool false)))⟩] (some [0, 1, 2]))
 (.seq
 (.seq
 (.reg [⟨some 21, none, [], [], .mv (.t 0)⟩,
 ⟨some 22, none, [], [], .lenL (.t 21)⟩,
 ⟨some 23, none, [], [], .bin .gtr false (.t 22) (.k (.sc (.int .i64 6000)))⟩] (some [0, 1, 2, 23]))
 (.cond (.t 23)
 (.keep []
 (.seq
 (.reg [⟨some 24, none, [], [], .cal (.k (.fn 46 [])) []⟩,
 ⟨some 6, none, [], [], .mv (.t 24)⟩] (some [6]))
 .ret))
 (.keep [0, 1, 2]
 .skip)))
 (.seq
 (.reg [⟨some 25, none, [], [], .bld [(.sc (.int .u8 0)), (.sc (.int .u8 0)), (.sc (.int .u8 0)), (.sc (.int .u8 0)), (.sc (.int .u8 0)), (.sc (.int .u8 0)), (.sc (.int .u8 0)), (.sc (.int .u8 0)), (.sc (.int .u8 0)), (.sc (.int .u8 0)), (.sc (.int .u8 0)), (.sc (.int .u8 0)), (.sc (.int .u8 0)), (.sc (.int .u8 0)), (.sc (.int .u8 0)), (.sc (.int .u8 0))] [(0, 1, (.k (.sc (.int .u8 3))))]⟩,
 ⟨some 7, none, [], [], .alc [(.sc (.int .u8 0)), (.sc (.int .u8 0)), (.sc (.int .u8 0)), (.sc (.int .u8 0)), (.sc (.int .u8 0)), (.sc (.int .u8 0)), (.sc (.int .u8 0)), (.sc (.int .u8 0)), (.sc (.int .u8 0)), (.sc (.int .u8 0)), (.sc (.int .u8 0)), (.sc (.int .u8 0)), (.sc (.int .u8 0)), (.sc (.int .u8 0)), (.sc (.int .u8 0)), (.sc (.int .u8 0))]⟩,
 ⟨none, none, [], [], .sto 16 (.t 7) (.t 25)⟩] (some [0, 1, 2, 7]))
 (.seq
 (.reg [⟨some 27, none, [], [], .mv (.t 0)⟩,
 ⟨some 28, none, [], [], .ld true 16 (.t 7)⟩,
 ⟨some 29, none, [], [], .mv (.t 1)⟩,
 ⟨some 30, none, [], [], .cal (.k (.fn 47 [])) [(.t 27), (.t 28), (.t 29)]⟩,
 ⟨some 26, none, [], [], .mv (.t 30)⟩,
 ⟨some 31, none, [], [], .ext (.t 26) 0⟩,
 ⟨some 32, none, [], [], .ext (.t 26) 1⟩,
 ⟨some 8, none, [], [], .alc zL1⟩,
 ⟨none, none, [], [], .sto 63 (.t 8) (.t 31)⟩,
 ⟨some 9, none, [], [], .mv (.t 32)⟩] (some [0, 1, 2, 7, 8, 9]))
 (.seq
 (.seq
 (.reg [⟨some 33, none, [], [], .mv (.t 9)⟩,
 ⟨some 34, none, [], [], .bin .neq false (.t 33) (.k (.sc (.int .i64 0)))⟩] (some [0, 1, 2, 7, 8, 34]))
 (.cond (.t 34)
 (.keep [0]
 (.seq
 (.reg [⟨some 35, none, [], [], .mv (.t 0)⟩,
 ⟨some 36, none, [], [], .lenL (.t 35)⟩,
 ⟨some 37, none, [], [], .bin .eql false (.t 36) (.k (.sc (.int .i64 0)))⟩,
 ⟨some 38, none, [], [], .mv (.t 37)⟩,
 ⟨some 39, (some (38, true)), [], [], .cal (.k (.fn 46 [])) []⟩,
 ⟨some 40, none, [], [], .pick (.t 38) (.t 39) (.k (.sc (.bool false)))⟩,
 ⟨some 6, none, [], [], .mv (.t 40)⟩] (some [6]))
 .ret))
 (.keep [0, 1, 2, 7, 8]
 .skip)))
 (.seq
 (.seq
 (.reg [⟨some 41, none, [], [], .mv (.t 2)⟩,
 ⟨some 42, none, [], [], .mv (.t 2)⟩,
 ⟨some 43, none, [], [], .lenL (.t 42)⟩,
 ⟨some 44, none, [], [], .mn [(.t 43), (.k (.sc (.int .i64 40)))]⟩,
 ⟨some 45, none, [], [], .slL 59 none (some (.t 44)) none (.t 41)⟩,
 ⟨some 46, none, [], [], .lenL (.t 45)⟩,
 ⟨some 47, none, [], [], .mv (.k (.sc (.int .i64 0)))⟩] (some [0, 1, 7, 8, 45, 46, 47]))
 (.block 0
 (.loop
 (.seq
 (.reg [⟨some 48, none, [], [], .bin .lss false (.t 47) (.t 46)⟩] none)
 (.seq
 (.cond (.t 48)
 (.keep [0, 1, 7, 8, 45, 46, 47]
 .skip)
 (.exit 0))
 (.seq
 (.block 1
 (.seq
 (.reg [⟨some 49, none, [], [], .ixaS 59 (.t 45) (.t 47)⟩,
 ⟨some 50, none, [], [], .ld true 59 (.t 49)⟩,
 ⟨some 11, none, [], [], .alc zL0⟩,
 ⟨none, none, [], [], .sto 59 (.t 11) (.t 50)⟩] (some [0, 1, 7, 8, 11, 45, 46, 47]))
 (.seq
 (.seq
 (.reg [⟨some 51, none, [], [], .fa 3 (.t 11)⟩,
 ⟨some 52, none, [], [], .ld true 56 (.t 51)⟩,
 ⟨some 53, none, [], [], .cal (.k (.fn 45 [])) [(.t 52)]⟩] (some [0, 1, 7, 8, 11, 45, 46, 47, 53]))
 (.cond (.t 53)
 (.keep []
 (.seq
 (.reg [⟨some 54, none, [], [], .cal (.k (.fn 46 [])) []⟩,
 ⟨some 6, none, [], [], .mv (.t 54)⟩] (some [6]))
 .ret))
 (.keep [0, 1, 7, 8, 11, 45, 46, 47]
 .skip)))
 (.seq
 (.reg [⟨some 56, none, [], [], .ld true 63 (.t 8)⟩,
 ⟨some 57, none, [], [], .cal (.k (.fn 53 [])) [(.t 56)]⟩,
 ⟨some 55, none, [], [], .mv (.t 57)⟩,
 ⟨some 58, none, [], [], .ext (.t 55) 0⟩,
 ⟨some 59, none, [], [], .ext (.t 55) 1⟩,
 ⟨some 12, none, [], [], .mv (.t 58)⟩,
 ⟨some 13, none, [], [], .mv (.t 59)⟩] (some [0, 1, 7, 8, 11, 12, 13, 45, 46, 47]))
 (.seq
 (.reg [⟨some 14, none, [], [], .mv (.k .nl)⟩] (some [0, 1, 7, 8, 11, 12, 13, 45, 46, 47]))
 (.seq
 (.seq
 (.reg [⟨some 60, none, [], [], .fa 0 (.t 11)⟩,
 ⟨some 61, none, [], [], .ld false 1 (.t 60)⟩] (some [0, 1, 7, 8, 11, 12, 13, 45, 46, 47, 61]))
 (.cond (.t 61)
 (.keep [0, 1, 7, 8, 12, 13, 45, 46, 47]
 (.reg [⟨some 63, none, [], [], .ld true 63 (.t 8)⟩,
 ⟨some 64, none, [], [], .cal (.k (.fn 48 [])) [(.t 63)]⟩,
 ⟨some 62, none, [], [], .mv (.t 64)⟩,
 ⟨some 65, none, [], [], .ext (.t 62) 0⟩,
 ⟨some 66, none, [], [], .ext (.t 62) 1⟩,
 ⟨none, none, [], [], .sto 63 (.t 8) (.t 65)⟩,
 ⟨some 14, none, [], [], .mv (.t 66)⟩] (some [0, 1, 7, 8, 12, 13, 14, 45, 46, 47])))
 (.keep [0, 1, 7, 8, 11, 12, 13, 45, 46, 47]
 (.regD [⟨some 68, none, [(.t 8)], [], .ld true 63 (.t 8)⟩,
 ⟨some 69, none, [(.t 11)], [0], .ld true 59 (.t 11)⟩,
 ⟨some 70, none, [(.t 7)], [0, 1], .ld true 16 (.t 7)⟩,
 ⟨some 71, none, [(.t 8)], [0, 1, 2], .ld true 63 (.t 8)⟩,
 ⟨some 72, none, [(.k (.fn 52 [])), (.t 71)], [0, 1, 2], .cal (.k (.fn 52 [])) [(.t 71)]⟩,
 ⟨some 73, none, [(.k (.fn 51 [])), (.t 69), (.t 70), (.t 72)], [0], .cal (.k (.fn 51 [])) [(.t 69), (.t 70), (.t 72)]⟩,
 ⟨some 74, none, [(.k (.fn 50 [])), (.t 73)], [0], .cal (.k (.fn 50 [])) [(.t 73)]⟩,
 ⟨some 75, none, [(.k (.fn 49 [])), (.t 68), (.t 74)], [], .cal (.k (.fn 49 [])) [(.t 68), (.t 74)]⟩,
 ⟨some 67, none, [(.t 75)], [], .mv (.t 75)⟩,
 ⟨some 76, none, [(.t 67)], [], .ext (.t 67) 0⟩,
 ⟨some 77, none, [(.t 67)], [9], .ext (.t 67) 1⟩,
 ⟨none, none, [(.t 8), (.t 76)], [10], .sto 63 (.t 8) (.t 76)⟩,
 ⟨some 14, none, [(.t 77)], [], .mv (.t 77)⟩] (some [0, 1, 7, 8, 12, 13, 14, 45, 46, 47])))))
 (.seq
 (.reg [⟨some 79, none, [], [], .ld true 63 (.t 8)⟩,
 ⟨some 80, none, [], [], .cal (.k (.fn 53 [])) [(.t 79)]⟩,
 ⟨some 78, none, [], [], .mv (.t 80)⟩,
 ⟨some 81, none, [], [], .ext (.t 78) 0⟩,
 ⟨some 82, none, [], [], .ext (.t 78) 1⟩,
 ⟨some 15, none, [], [], .mv (.t 81)⟩,
 ⟨some 16, none, [], [], .mv (.t 82)⟩] (some [0, 1, 7, 8, 12, 13, 14, 15, 16, 45, 46, 47]))
 (.seq
 (.seq
 (.reg (⟨some 83, none, [], [], .mv (.t 14)⟩ ::
 ⟨some 84, none, [], [], .lenL (.t 83)⟩ ::
 ⟨some 85, none, [], [], .bin .gtr false (.t 84) (.k (.sc (.int .i64 8)))⟩ ::
 ⟨some 86, none, [], [], .mv (.t 85)⟩ ::
 ⟨some 87, (some (86, false)), [], [], .mv (.t 12)⟩ ::
 ⟨some 88, (some (86, false)), [], [], .bin .gtr false (.t 87) (.k (.sc (.int .i64 3)))⟩ ::
 ⟨some 89, (some (86, false)), [], [], .mv (.t 88)⟩ ::
 ⟨some 90, (some (89, true)), [], [], .mv (.t 14)⟩ ::
 ⟨some 91, (some (89, true)), [], [], .lenL (.t 90)⟩ ::
 ⟨some 92, (some (89, true)), [], [], .bin .gtr false (.t 91) (.k (.sc (.int .i64 0)))⟩ ::
 ⟨some 93, (some (89, true)), [], [], .mv (.t 92)⟩ ::
 ⟨some 94, (some (93, false)), [], [], .mv (.t 15)⟩ ::
 ⟨some 95, (some (93, false)), [], [], .mv (.t 12)⟩ ::
 ⟨some 96, (some (93, false)), [], [], .bin .neq false (.t 94) (.t 95)⟩ ::
 ⟨some 97, (some (89, true)), [], [], .pick (.t 93) (.k (.sc (.bool true))) (.t 96)⟩ ::
 ⟨some 98, (some (89, true)), [], [], .mv (.t 97)⟩ ::
 ⟨some 99, (some (98, false)), [], [], .mv (.t 16)⟩ ::
 ⟨some 100, (some (98, false)), [], [], .mv (.t 13)⟩ ::
 ⟨some 101, (some (98, false)), [], [], .bin .neq false (.t 99) (.t 100)⟩ ::
 ⟨some 102, (some (89, true)), [], [], .pick (.t 98) (.k (.sc (.bool true))) (.t 101)⟩ ::
 ⟨some 103, (some (86, false)), [], [], .pick (.t 89) (.t 102) (.k (.sc (.bool false)))⟩ ::
 ⟨some 104, none, [], [], .pick (.t 86) (.k (.sc (.bool true))) (.t 103)⟩ ::
 ⟨some 105, none, [], [], .mv (.t 104)⟩ ::
 ⟨some 106, (some (105, false)), [], [], .mv (.t 15)⟩ ::
 ⟨some 107, (some (105, false)), [], [], .bin .lss false (.t 106) (.k (.sc (.int .i64 1)))⟩ ::
 ⟨some 108, none, [], [], .pick (.t 105) (.k (.sc (.bool true))) (.t 107)⟩ ::
 ⟨some 109, none, [], [], .mv (.t 108)⟩ ::
 ⟨some 110, (some (109, false)), [], [], .mv (.t 15)⟩ ::
 ⟨some 111, (some (109, false)), [], [], .bin .gtr false (.t 110) (.k (.sc (.int .i64 5)))⟩ ::
 ⟨some 112, none, [], [], .pick (.t 109) (.k (.sc (.bool true))) (.t 111)⟩ ::
 ⟨some 113, none, [], [], .mv (.t 112)⟩ ::
 ⟨some 114, (some (113, false)), [], [], .mv (.t 15)⟩ ::
 ⟨some 115, (some (113, false)), [], [], .bin .neq false (.t 114) (.k (.sc (.int .i64 5)))⟩ ::
 ⟨some 116, (some (113, false)), [], [], .mv (.t 115)⟩ ::
 ⟨some 117, (some (116, true)), [], [], .mv (.t 16)⟩ ::
 ⟨some 118, (some (116, true)), [], [], .bin .neq false (.t 117) (.k (.sc (.int .i64 0)))⟩ ::
 ⟨some 119, (some (113, false)), [], [], .pick (.t 116) (.t 118) (.k (.sc (.bool false)))⟩ ::
 ⟨some 120, none, [], [], .pick (.t 113) (.k (.sc (.bool true))) (.t 119)⟩ :: []) (some [0, 1, 7, 8, 14, 45, 46, 47, 120]))
 (.cond (.t 120)
 (.keep []
 (.seq
 (.reg [⟨some 6, none, [], [], .mv (.k (.sc (.bool false)))⟩] none)
 .ret))
 (.keep [0, 1, 7, 8, 14, 45, 46, 47]
 .skip)))
 (.seq
 (.reg [⟨some 121, none, [], [], .mv (.t 14)⟩,
 ⟨some 122, none, [], [], .lenL (.t 121)⟩,
 ⟨some 123, none, [], [], .mv (.k (.sc (.int .i64 0)))⟩] (some [0, 1, 7, 8, 45, 46, 47, 121, 122, 123]))
 (.block 2
 (.loop
 (.seq
 (.reg [⟨some 124, none, [], [], .bin .lss false (.t 123) (.t 122)⟩] none)
 (.seq
 (.cond (.t 124)
 (.keep [0, 1, 7, 8, 45, 46, 47, 121, 122, 123]
 .skip)
 (.exit 2))
 (.seq
 (.block 3
 (.seq
 (.reg [⟨some 125, none, [], [], .ixaS 56 (.t 121) (.t 123)⟩,
 ⟨some 126, none, [], [], .ld true 56 (.t 125)⟩,
 ⟨some 18, none, [], [], .alc zL2⟩,
 ⟨none, none, [], [], .sto 56 (.t 18) (.t 126)⟩] (some [0, 1, 7, 8, 18, 45, 46, 47, 121, 122, 123]))
 (.seq
 (.seq
 (.reg [⟨some 128, none, [], [], .ld true 56 (.t 18)⟩,
 ⟨some 129, none, [], [], .cal (.k (.fn 55 [])) [(.t 128)]⟩,
 ⟨some 127, none, [], [], .mv (.t 129)⟩,
 ⟨some 130, none, [], [], .ext (.t 127) 0⟩,
 ⟨some 131, none, [], [], .ext (.t 127) 1⟩,
 ⟨some 19, none, [], [], .mv (.t 130)⟩,
 ⟨some 20, none, [], [], .mv (.t 131)⟩] (some [0, 1, 7, 8, 18, 20, 45, 46, 47, 121, 122, 123]))
 (.seq
 (.regD [⟨some 132, none, [(.t 20)], [], .mv (.t 20)⟩,
 ⟨some 133, none, [(.t 132), (.k (.sc (.int .i64 0)))], [], .bin .neq false (.t 132) (.k (.sc (.int .i64 0)))⟩,
 ⟨some 134, none, [(.t 133)], [], .mv (.t 133)⟩,
 ⟨some 135, (some (134, false)), [(.t 18)], [], .fa 1 (.t 18)⟩,
 ⟨some 136, (some (134, false)), [(.t 135)], [], .ld true 16 (.t 135)⟩,
 ⟨some 137, (some (134, false)), [(.t 7)], [3, 4], .ld true 16 (.t 7)⟩,
 ⟨some 138, (some (134, false)), [(.t 136), (.t 137)], [], .aeq true 16 [.i, .i, .i, .i, .i, .i, .i, .i, .i, .i, .i, .i, .i, .i, .i, .i] (.t 136) (.t 137)⟩,
 ⟨some 139, none, [(.t 134), (.k (.sc (.bool true))), (.t 138)], [], .pick (.t 134) (.k (.sc (.bool true))) (.t 138)⟩,
 ⟨some 140, none, [(.t 139)], [], .mv (.t 139)⟩,
 ⟨some 141, (some (140, false)), [(.t 18)], [], .fa 17 (.t 18)⟩,
 ⟨some 142, (some (140, false)), [(.t 141)], [], .ld true 2 (.t 141)⟩,
 ⟨some 143, (some (140, false)), [(.t 8)], [9, 10], .ld true 63 (.t 8)⟩,
 ⟨some 144, (some (140, false)), [(.k (.fn 52 [])), (.t 143)], [9, 10], .cal (.k (.fn 52 [])) [(.t 143)]⟩,
 ⟨some 145, (some (140, false)), [(.t 142), (.t 144)], [], .aeq true 2 [.i, .i] (.t 142) (.t 144)⟩,
 ⟨some 146, none, [(.t 140), (.k (.sc (.bool true))), (.t 145)], [], .pick (.t 140) (.k (.sc (.bool true))) (.t 145)⟩,
 ⟨some 147, none, [(.t 146)], [], .mv (.t 146)⟩,
 ⟨some 148, (some (147, false)), [(.t 18)], [], .fa 17 (.t 18)⟩,
 ⟨some 149, (some (147, false)), [(.t 148)], [], .fa 0 (.t 148)⟩,
 ⟨some 150, (some (147, false)), [(.t 149)], [], .ld false 1 (.t 149)⟩,
 ⟨some 151, (some (147, false)), [(.t 1)], [16, 17, 18], .mv (.t 1)⟩,
 ⟨some 152, (some (147, false)), [(.t 150), (.t 151)], [], .bin .neq false (.t 150) (.t 151)⟩,
 ⟨some 153, none, [(.t 147), (.k (.sc (.bool true))), (.t 152)], [], .pick (.t 147) (.k (.sc (.bool true))) (.t 152)⟩] (some [0, 1, 7, 8, 18, 45, 46, 47, 121, 122, 123, 153]))
 (.cond (.t 153)
 (.keep []
 (.seq
 (.reg [⟨some 6, none, [], [], .mv (.k (.sc (.bool false)))⟩] none)
 .ret))
 (.keep [0, 1, 7, 8, 18, 45, 46, 47, 121, 122, 123]
 .skip))))
 (.seq
 (.regD (⟨some 154, none, [(.t 18)], [], .fa 0 (.t 18)⟩ ::
 ⟨some 155, none, [(.t 154)], [], .ld false 1 (.t 154)⟩ ::
 ⟨some 156, none, [(.t 155), (.k (.sc (.int .i64 3)))], [], .bin .eql false (.t 155) (.k (.sc (.int .i64 3)))⟩ ::
 ⟨some 157, none, [(.t 156)], [], .mv (.t 156)⟩ ::
 ⟨some 158, (some (157, true)), [(.t 18)], [], .fa 19 (.t 18)⟩ ::
 ⟨some 159, (some (157, true)), [(.t 158)], [], .ld false 1 (.t 158)⟩ ::
 ⟨some 160, (some (157, true)), [(.t 18)], [4, 5], .fa 53 (.t 18)⟩ ::
 ⟨some 161, (some (157, true)), [(.t 160)], [4, 5], .ld false 1 (.t 160)⟩ ::
 ⟨some 162, (some (157, true)), [(.t 161)], [4, 5], .lenL (.t 161)⟩ ::
 ⟨some 163, (some (157, true)), [(.t 162)], [4, 5], .cvi .u64 (.t 162)⟩ ::
 ⟨some 164, (some (157, true)), [(.t 159), (.t 163)], [], .bin .add false (.t 159) (.t 163)⟩ ::
 ⟨some 165, (some (157, true)), [(.t 0)], [4, 5, 6, 7, 8, 9, 10], .mv (.t 0)⟩ ::
 ⟨some 166, (some (157, true)), [(.t 165)], [4, 5, 6, 7, 8, 9, 10], .lenL (.t 165)⟩ ::
 ⟨some 167, (some (157, true)), [(.t 166)], [4, 5, 6, 7, 8, 9, 10], .cvi .u64 (.t 166)⟩ ::
 ⟨some 168, (some (157, true)), [(.t 164), (.t 167)], [], .bin .gtr false (.t 164) (.t 167)⟩ ::
 ⟨some 169, (some (157, true)), [(.t 168)], [], .mv (.t 168)⟩ ::
 ⟨some 170, (some (169, false)), [(.t 18)], [], .fa 53 (.t 18)⟩ ::
 ⟨some 171, (some (169, false)), [(.t 170)], [], .ld false 1 (.t 170)⟩ ::
 ⟨some 172, (some (169, false)), [(.t 0)], [16, 17], .mv (.t 0)⟩ ::
 ⟨some 173, (some (169, false)), [(.t 18)], [16, 17, 18], .fa 19 (.t 18)⟩ ::
 ⟨some 174, (some (169, false)), [(.t 173)], [16, 17, 18], .ld false 1 (.t 173)⟩ ::
 ⟨some 175, (some (169, false)), [(.t 18)], [16, 17, 18, 19, 20], .fa 19 (.t 18)⟩ ::
 ⟨some 176, (some (169, false)), [(.t 175)], [16, 17, 18, 19, 20], .ld false 1 (.t 175)⟩ ::
 ⟨some 177, (some (169, false)), [(.t 18)], [16, 17, 18, 19, 20, 21, 22], .fa 53 (.t 18)⟩ ::
 ⟨some 178, (some (169, false)), [(.t 177)], [16, 17, 18, 19, 20, 21, 22], .ld false 1 (.t 177)⟩ ::
 ⟨some 179, (some (169, false)), [(.t 178)], [16, 17, 18, 19, 20, 21, 22], .lenL (.t 178)⟩ ::
 ⟨some 180, (some (169, false)), [(.t 179)], [16, 17, 18, 19, 20, 21, 22], .cvi .u64 (.t 179)⟩ ::
 ⟨some 181, (some (169, false)), [(.t 176), (.t 180)], [16, 17, 18, 19, 20], .bin .add false (.t 176) (.t 180)⟩ ::
 ⟨some 182, (some (169, false)), [(.t 172), (.t 174), (.t 181)], [16, 17], .slL 1 (some (.t 174)) (some (.t 181)) none (.t 172)⟩ ::
 ⟨some 183, (some (169, false)), [(.k (.fn 22 [])), (.t 171), (.t 182)], [], .cal (.k (.fn 22 [])) [(.t 171), (.t 182)]⟩ ::
 ⟨some 184, (some (169, false)), [(.t 183)], [], .un .not (.t 183)⟩ ::
 ⟨some 185, (some (157, true)), [(.t 169), (.k (.sc (.bool true))), (.t 184)], [], .pick (.t 169) (.k (.sc (.bool true))) (.t 184)⟩ ::
 ⟨some 186, none, [(.t 157), (.t 185), (.k (.sc (.bool false)))], [], .pick (.t 157) (.t 185) (.k (.sc (.bool false)))⟩ :: []) (some [0, 1, 7, 8, 45, 46, 47, 121, 122, 123, 186]))
 (.cond (.t 186)
 (.keep []
 (.seq
 (.reg [⟨some 6, none, [], [], .mv (.k (.sc (.bool false)))⟩] none)
 .ret))
 (.keep [0, 1, 7, 8, 45, 46, 47, 121, 122, 123]
 .skip))))))
 (.reg [⟨some 187, none, [], [], .bin .add false (.t 123) (.k (.sc (.int .i64 1)))⟩,
 ⟨some 123, none, [], [], .mv (.t 187)⟩] (some [0, 1, 7, 8, 45, 46, 47, 121, 122, 123]))))))))))))))))
 (.reg [⟨some 188, none, [], [], .bin .add false (.t 47) (.k (.sc (.int .i64 1)))⟩,
 ⟨some 47, none, [], [], .mv (.t 188)⟩] (some [0, 1, 7, 8, 45, 46, 47]))))))))
 (.seq
 (.reg [⟨some 189, none, [], [], .cal (.k (.fn 46 [])) []⟩,
 ⟨some 6, none, [], [], .mv (.t 189)⟩] (some [6]))
 .ret)))))))
theorem b10 : cmpG Try.prog 10 = some (strip a10, r10, 190) := by kernel_rfl

abbrev r55 : List AR := [.t 2, .t 3]
abbrev a55 : ACode :=
 (.seq
 (.reg [⟨some 1, none, [], [], .box (.t 0)⟩,
 ⟨some 2, none, [], [], .mv (.k .nl)⟩,
 ⟨some 3, none, [], [], .mv (.k (.sc (.int .i64 0)))⟩] (some [1]))
 (.seq
 (.seq
 (.reg [⟨some 6, none, [], [], .ld true 56 (.t 1)⟩,
 ⟨some 7, none, [], [], .cal (.k (.fn 90 [])) [(.t 6)]⟩,
 ⟨some 4, none, [], [], .mv (.t 7)⟩] (some [1, 4]))
 (.seq
 (.reg [⟨some 8, none, [], [], .mv (.t 4)⟩,
 ⟨some 9, none, [], [], .bin .neq false (.t 8) (.k (.sc (.int .i64 0)))⟩] (some [1, 4, 9]))
 (.cond (.t 9)
 (.keep [4]
 (.seq
 (.reg [⟨some 10, none, [], [], .mv (.t 4)⟩,
 ⟨some 2, none, [], [], .mv (.k .nl)⟩,
 ⟨some 3, none, [], [], .mv (.t 10)⟩] (some [2, 3]))
 .ret))
 (.keep [1]
 .skip))))
 (.seq
 (.regD [⟨some 11, none, [(.k (.sc (.int .u8 84))), (.k (.sc (.int .u8 87)))], [], .bsl 2 1 [(.sc (.int .u8 0)), (.sc (.int .u8 0))] [(0, 1, (.k (.sc (.int .u8 84)))), (1, 1, (.k (.sc (.int .u8 87))))]⟩,
 ⟨some 12, none, [(.t 11)], [], .cvm (.t 11)⟩,
 ⟨some 13, none, [(.t 1)], [0, 1], .fa 0 (.t 1)⟩,
 ⟨some 14, none, [(.t 13)], [0, 1], .ld false 1 (.t 13)⟩,
 ⟨some 15, none, [(.t 14)], [0, 1], .cvi .u8 (.t 14)⟩,
 ⟨some 16, none, [(.t 1)], [0, 1, 2, 3, 4], .fa 17 (.t 1)⟩,
 ⟨some 17, none, [(.t 16)], [0, 1, 2, 3, 4], .ld true 2 (.t 16)⟩,
 ⟨some 18, none, [(.k (.fn 91 [])), (.t 17)], [0, 1, 2, 3, 4], .cal (.k (.fn 91 [])) [(.t 17)]⟩,
 ⟨some 19, none, [(.t 15), (.t 18)], [0, 1], .bsl 2 1 [(.sc (.int .u8 0)), (.sc (.int .u8 0))] [(0, 1, (.t 15)), (1, 1, (.t 18))]⟩,
 ⟨some 20, none, [(.t 12), (.t 19)], [], .app 1 1 (.t 12) (.t 19)⟩,
 ⟨some 5, none, [(.t 20)], [], .mv (.t 20)⟩] (some [1, 5]))
 (.seq
 (.reg [⟨some 21, none, [], [], .mv (.t 5)⟩,
 ⟨some 22, none, [], [], .fa 1 (.t 1)⟩,
 ⟨some 23, none, [], [], .slA 16 1 none none (.t 22)⟩,
 ⟨some 24, none, [], [], .app 1 1 (.t 21) (.t 23)⟩,
 ⟨some 5, none, [], [], .mv (.t 24)⟩] (some [1, 5]))
 (.seq
 (.regD [⟨some 25, none, [(.t 5)], [], .mv (.t 5)⟩,
 ⟨some 26, none, [(.t 1)], [0], .fa 17 (.t 1)⟩,
 ⟨some 27, none, [(.t 26)], [0], .fa 0 (.t 26)⟩,
 ⟨some 28, none, [(.t 27)], [0], .ld false 1 (.t 27)⟩,
 ⟨some 29, none, [(.t 28)], [0], .cvi .u64 (.t 28)⟩,
 ⟨some 30, none, [(.k (.fn 92 [])), (.t 25), (.t 29), (.k (.sc (.int .i64 4)))], [], .calG [0] (.k (.fn 92 [])) [(.t 25), (.t 29), (.k (.sc (.int .i64 4)))]⟩,
 ⟨some 31, none, [(.t 1)], [0, 1, 2, 3, 4, 5], .fa 17 (.t 1)⟩,
 ⟨some 32, none, [(.t 31)], [0, 1, 2, 3, 4, 5], .fa 1 (.t 31)⟩,
 ⟨some 33, none, [(.t 32)], [0, 1, 2, 3, 4, 5], .ld false 1 (.t 32)⟩,
 ⟨some 34, none, [(.t 33)], [0, 1, 2, 3, 4, 5], .cvi .u64 (.t 33)⟩,
 ⟨some 35, none, [(.k (.fn 92 [])), (.t 30), (.t 34), (.k (.sc (.int .i64 4)))], [], .calG [0] (.k (.fn 92 [])) [(.t 30), (.t 34), (.k (.sc (.int .i64 4)))]⟩,
 ⟨some 5, none, [(.t 35)], [], .mv (.t 35)⟩] (some [1, 5]))
 (.seq
 (.reg [⟨some 36, none, [], [], .mv (.t 5)⟩,
 ⟨some 37, none, [], [], .ld true 56 (.t 1)⟩,
 ⟨some 38, none, [], [], .cal (.k (.fn 95 [])) [(.t 37)]⟩,
 ⟨some 39, none, [], [], .calG [0] (.k (.fn 94 [])) [(.t 36), (.t 38)]⟩,
 ⟨some 40, none, [], [], .cal (.k (.fn 93 [])) [(.t 39)]⟩,
 ⟨some 2, none, [], [], .mv (.t 40)⟩,
 ⟨some 3, none, [], [], .mv (.k (.sc (.int .i64 0)))⟩] (some [2, 3]))
 .ret))))))
theorem b55 : cmpG Try.prog 55 = some (strip a55, r55, 41) := by kernel_rfl

abbrev r90 : List AR := [.t 2]
abbrev a90 : ACode :=
 (.seq
 (.reg [⟨some 1, none, [], [], .box (.t 0)⟩,
 ⟨some 2, none, [], [], .mv (.k (.sc (.int .i64 0)))⟩] (some [1]))
 (.seq
 (.seq
 (.reg [⟨some 3, none, [], [], .fa 0 (.t 1)⟩,
 ⟨some 4, none, [], [], .ld false 1 (.t 3)⟩] (some [1, 4]))
 (.block 0
 (.seq
 (.seq
 (.reg [⟨some 6, none, [], [], .bin .eql false (.t 4) (.k (.sc (.int .i64 1)))⟩,
 ⟨some 5, none, [], [], .mv (.t 6)⟩] (some [1, 4, 5]))
 (.cond (.t 5)
 .skip
 (.keep [1, 4]
 (.seq
 (.reg [⟨some 7, none, [], [], .bin .eql false (.t 4) (.k (.sc (.int .i64 2)))⟩,
 ⟨some 5, none, [], [], .mv (.t 7)⟩] (some [1, 4, 5]))
 (.cond (.t 5)
 .skip
 (.keep [1, 4]
 (.seq
 (.reg [⟨some 8, none, [], [], .bin .eql false (.t 4) (.k (.sc (.int .i64 5)))⟩,
 ⟨some 5, none, [], [], .mv (.t 8)⟩] (some [1, 4, 5]))
 (.cond (.t 5)
 .skip
 (.keep [1, 4]
 (.reg [⟨some 9, none, [], [], .bin .eql false (.t 4) (.k (.sc (.int .i64 6)))⟩,
 ⟨some 5, none, [], [], .mv (.t 9)⟩] (some [1, 4, 5])))))))))))
 (.cond (.t 5)
 (.keep []
 (.seq
 (.reg [⟨some 2, none, [], [], .mv (.k (.sc (.int .i64 0)))⟩] none)
 .ret))
 (.keep [1, 4]
 (.seq
 (.reg [⟨some 11, none, [], [], .bin .eql false (.t 4) (.k (.sc (.int .i64 3)))⟩,
 ⟨some 10, none, [], [], .mv (.t 11)⟩] (some [1, 4, 10]))
 (.cond (.t 10)
 (.keep [1]
 (.seq
 (.block 1
 (.seq
 (.reg [⟨some 13, none, [], [], .fa 53 (.t 1)⟩,
 ⟨some 14, none, [], [], .ld false 1 (.t 13)⟩,
 ⟨some 15, none, [], [], .lenL (.t 14)⟩,
 ⟨some 16, none, [], [], .bin .eql false (.t 15) (.k (.sc (.int .i64 0)))⟩,
 ⟨some 12, none, [], [], .mv (.t 16)⟩] (some [1, 12]))
 (.cond (.t 12)
 (.keep []
 (.seq
 (.reg [⟨some 2, none, [], [], .mv (.k (.sc (.int .i64 4)))⟩] none)
 .ret))
 (.keep [1]
 (.seq
 (.reg [⟨some 18, none, [], [], .fa 53 (.t 1)⟩,
 ⟨some 19, none, [], [], .ld false 1 (.t 18)⟩,
 ⟨some 20, none, [], [], .lenL (.t 19)⟩,
 ⟨some 21, none, [], [], .bin .gtr false (.t 20) (.k (.sc (.int .i64 256)))⟩,
 ⟨some 17, none, [], [], .mv (.t 21)⟩] (some [17]))
 (.cond (.t 17)
 (.keep []
 (.seq
 (.reg [⟨some 2, none, [], [], .mv (.k (.sc (.int .i64 10)))⟩] none)
 .ret))
 (.keep []
 .skip)))))))
 (.seq
 (.reg [⟨some 2, none, [], [], .mv (.k (.sc (.int .i64 0)))⟩] none)
 .ret)))
 (.keep [1, 4]
 (.seq
 (.reg [⟨some 23, none, [], [], .bin .eql false (.t 4) (.k (.sc (.int .i64 4)))⟩,
 ⟨some 22, none, [], [], .mv (.t 23)⟩] (some [1, 4, 22]))
 (.cond (.t 22)
 (.keep [1]
 (.seq
 (.block 2
 (.seq
 (.reg [⟨some 25, none, [], [], .fa 54 (.t 1)⟩,
 ⟨some 26, none, [], [], .ld false 1 (.t 25)⟩,
 ⟨some 27, none, [], [], .lenL (.t 26)⟩,
 ⟨some 28, none, [], [], .bin .gtr false (.t 27) (.k (.sc (.int .i64 4)))⟩,
 ⟨some 24, none, [], [], .mv (.t 28)⟩] (some [1, 24]))
 (.cond (.t 24)
 (.keep []
 (.seq
 (.reg [⟨some 2, none, [], [], .mv (.k (.sc (.int .i64 5)))⟩] none)
 .ret))
 (.keep [1]
 (.seq
 (.reg [⟨some 30, none, [], [], .fa 19 (.t 1)⟩,
 ⟨some 31, none, [], [], .ld false 1 (.t 30)⟩,
 ⟨some 32, none, [], [], .fa 54 (.t 1)⟩,
 ⟨some 33, none, [], [], .ld false 1 (.t 32)⟩,
 ⟨some 34, none, [], [], .cal (.k (.fn 122 [])) [(.t 31), (.t 33)]⟩,
 ⟨some 35, none, [], [], .un .not (.t 34)⟩,
 ⟨some 29, none, [], [], .mv (.t 35)⟩] (some [29]))
 (.cond (.t 29)
 (.keep []
 (.seq
 (.reg [⟨some 2, none, [], [], .mv (.k (.sc (.int .i64 3)))⟩] none)
 .ret))
 (.keep []
 .skip)))))))
 (.seq
 (.reg [⟨some 2, none, [], [], .mv (.k (.sc (.int .i64 0)))⟩] none)
 .ret)))
 (.keep [1, 4]
 (.seq
 (.reg [⟨some 37, none, [], [], .bin .eql false (.t 4) (.k (.sc (.int .i64 7)))⟩,
 ⟨some 36, none, [], [], .mv (.t 37)⟩] (some [1, 36]))
 (.cond (.t 36)
 (.keep [1]
 (.seq
 (.seq
 (.reg [⟨some 38, none, [], [], .fa 55 (.t 1)⟩,
 ⟨some 39, none, [], [], .ld false 1 (.t 38)⟩,
 ⟨some 40, none, [], [], .bin .lss false (.t 39) (.k (.sc (.int .i64 1)))⟩,
 ⟨some 41, none, [], [], .mv (.t 40)⟩,
 ⟨some 42, (some (41, false)), [], [], .fa 55 (.t 1)⟩,
 ⟨some 43, (some (41, false)), [], [], .ld false 1 (.t 42)⟩,
 ⟨some 44, (some (41, false)), [], [], .bin .gtr false (.t 43) (.k (.sc (.int .i64 99)))⟩,
 ⟨some 45, none, [], [], .pick (.t 41) (.k (.sc (.bool true))) (.t 44)⟩] (some [45]))
 (.cond (.t 45)
 (.keep []
 (.seq
 (.reg [⟨some 2, none, [], [], .mv (.k (.sc (.int .i64 3)))⟩] none)
 .ret))
 (.keep []
 .skip)))
 (.seq
 (.reg [⟨some 2, none, [], [], .mv (.k (.sc (.int .i64 0)))⟩] none)
 .ret)))
 (.keep []
 .skip))))))))))))))
 (.seq
 (.reg [⟨some 2, none, [], [], .mv (.k (.sc (.int .i64 11)))⟩] none)
 .ret)))
theorem b90 : cmpG Try.prog 90 = some (strip a90, r90, 46) := by kernel_rfl

abbrev r92 : List AR := [.t 6]
abbrev a92 : ACode :=
 (.seq
 (.reg [⟨some 6, none, [], [], .mv (.k .nl)⟩] (some [0, 1, 2]))
 (.seq
 (.seq
 (.reg [⟨some 8, none, [], [], .mv (.t 2)⟩,
 ⟨some 9, none, [], [], .bin .sub false (.t 8) (.k (.sc (.int .i64 1)))⟩,
 ⟨some 7, none, [], [], .mv (.t 9)⟩] (some [0, 1, 7]))
 (.block 0
 (.loop
 (.seq
 (.seq
 (.reg [⟨some 10, none, [], [], .mv (.t 7)⟩,
 ⟨some 11, none, [], [], .bin .geq false (.t 10) (.k (.sc (.int .i64 0)))⟩] (some [0, 1, 7, 11]))
 (.cond (.t 11)
 (.keep [0, 1, 7]
 .skip)
 (.exit 0)))
 (.seq
 (.block 1
 (.reg [⟨some 14, none, [], [], .mv (.t 0)⟩,
 ⟨some 15, none, [], [], .mv (.t 1)⟩,
 ⟨some 16, none, [], [], .mv (.t 7)⟩,
 ⟨some 17, none, [], [], .bin .mul false (.k (.sc (.int .i64 8))) (.t 16)⟩,
 ⟨some 18, none, [], [], .bin .shr false (.t 15) (.t 17)⟩,
 ⟨some 19, none, [], [], .cvi .u8 (.t 18)⟩,
 ⟨some 20, none, [], [], .bsl 1 1 [(.sc (.int .u8 0))] [(0, 1, (.t 19))]⟩,
 ⟨some 21, none, [], [], .app 1 1 (.t 14) (.t 20)⟩,
 ⟨some 0, none, [], [], .mv (.t 21)⟩] (some [0, 1, 7])))
 (.reg [⟨some 12, none, [], [], .mv (.t 7)⟩,
 ⟨some 13, none, [], [], .bin .sub false (.t 12) (.k (.sc (.int .i64 1)))⟩,
 ⟨some 7, none, [], [], .mv (.t 13)⟩] (some [0, 1, 7])))))))
 (.seq
 (.reg [⟨some 22, none, [], [], .mv (.t 0)⟩,
 ⟨some 6, none, [], [], .mv (.t 22)⟩] (some [6]))
 .ret)))
theorem b92 : cmpG Try.prog 92 = some (strip a92, r92, 23) := by kernel_rfl

abbrev r93 : List AR := [.t 2]
abbrev a93 : ACode :=
 (.seq
 (.reg [⟨some 2, none, [], [], .mv (.k .nl)⟩] (some [0]))
 (.seq
 (.reg [⟨some 3, none, [], [], .mv (.t 0)⟩,
 ⟨some 4, none, [], [], .cal (.k (.fn 68 [])) [(.t 3)]⟩,
 ⟨some 5, none, [], [], .mv (.t 0)⟩,
 ⟨some 6, none, [], [], .cal (.k (.fn 126 [])) [(.t 5)]⟩,
 ⟨some 7, none, [], [], .cal (.k (.fn 125 [])) [(.t 6)]⟩,
 ⟨some 8, none, [], [], .app 1 1 (.t 4) (.t 7)⟩,
 ⟨some 2, none, [], [], .mv (.t 8)⟩] (some [2]))
 .ret))
theorem b93 : cmpG Try.prog 93 = some (strip a93, r93, 9) := by kernel_rfl

abbrev r94 : List AR := [.t 4]
abbrev a94 : ACode :=
 (.seq
 (.reg [⟨some 3, none, [], [], .box (.t 1)⟩,
 ⟨some 4, none, [], [], .mv (.k .nl)⟩] (some [0, 3]))
 (.seq
 (.seq
 (.reg [⟨some 7, none, [], [], .fa 0 (.t 3)⟩,
 ⟨some 8, none, [], [], .ld false 1 (.t 7)⟩] (some [0, 3, 8]))
 (.block 0
 (.seq
 (.seq
 (.reg [⟨some 10, none, [], [], .bin .eql false (.t 8) (.k (.sc (.int .i64 1)))⟩,
 ⟨some 9, none, [], [], .mv (.t 10)⟩] (some [0, 3, 8, 9]))
 (.cond (.t 9)
 .skip
 (.keep [0, 3, 8]
 (.reg [⟨some 11, none, [], [], .bin .eql false (.t 8) (.k (.sc (.int .i64 5)))⟩,
 ⟨some 9, none, [], [], .mv (.t 11)⟩] (some [0, 3, 8, 9])))))
 (.cond (.t 9)
 (.keep [0, 3]
 (.seq
 (.regD [⟨some 12, none, [(.t 0)], [], .mv (.t 0)⟩,
 ⟨some 13, none, [(.t 3)], [0], .fa 20 (.t 3)⟩,
 ⟨some 14, none, [(.t 13)], [0], .ld false 1 (.t 13)⟩,
 ⟨some 15, none, [(.k (.fn 92 [])), (.t 12), (.t 14), (.k (.sc (.int .i64 8)))], [], .calG [0] (.k (.fn 92 [])) [(.t 12), (.t 14), (.k (.sc (.int .i64 8)))]⟩,
 ⟨some 16, none, [(.t 3)], [0, 1, 2, 3], .fa 21 (.t 3)⟩,
 ⟨some 17, none, [(.t 16)], [0, 1, 2, 3], .slA 32 1 none none (.t 16)⟩,
 ⟨some 18, none, [(.t 15), (.t 17)], [], .app 1 1 (.t 15) (.t 17)⟩,
 ⟨some 4, none, [(.t 18)], [], .mv (.t 18)⟩] (some [4]))
 .ret))
 (.keep [0, 3, 8]
 (.seq
 (.reg [⟨some 20, none, [], [], .bin .eql false (.t 8) (.k (.sc (.int .i64 6)))⟩,
 ⟨some 19, none, [], [], .mv (.t 20)⟩] (some [0, 3, 8, 19]))
 (.cond (.t 19)
 (.keep [0, 3]
 (.seq
 (.reg [⟨some 21, none, [], [], .mv (.t 0)⟩,
 ⟨some 22, none, [], [], .fa 20 (.t 3)⟩,
 ⟨some 23, none, [], [], .ld false 1 (.t 22)⟩,
 ⟨some 24, none, [], [], .calG [0] (.k (.fn 92 [])) [(.t 21), (.t 23), (.k (.sc (.int .i64 8)))]⟩,
 ⟨some 4, none, [], [], .mv (.t 24)⟩] (some [4]))
 .ret))
 (.keep [0, 3, 8]
 (.seq
 (.reg [⟨some 26, none, [], [], .bin .eql false (.t 8) (.k (.sc (.int .i64 7)))⟩,
 ⟨some 25, none, [], [], .mv (.t 26)⟩] (some [0, 3, 25]))
 (.cond (.t 25)
 (.keep [0, 3]
 (.seq
 (.reg [⟨some 27, none, [], [], .mv (.t 0)⟩,
 ⟨some 28, none, [], [], .fa 55 (.t 3)⟩,
 ⟨some 29, none, [], [], .ld false 1 (.t 28)⟩,
 ⟨some 30, none, [], [], .cvi .u8 (.t 29)⟩,
 ⟨some 31, none, [], [], .bsl 1 1 [(.sc (.int .u8 0))] [(0, 1, (.t 30))]⟩,
 ⟨some 32, none, [], [], .app 1 1 (.t 27) (.t 31)⟩,
 ⟨some 4, none, [], [], .mv (.t 32)⟩] (some [4]))
 .ret))
 (.keep [0, 3]
 .skip)))))))))))
 (.seq
 (.regD [⟨some 33, none, [(.t 0)], [], .mv (.t 0)⟩,
 ⟨some 34, none, [(.t 3)], [0], .fa 19 (.t 3)⟩,
 ⟨some 35, none, [(.t 34)], [0], .ld false 1 (.t 34)⟩,
 ⟨some 36, none, [(.k (.fn 92 [])), (.t 33), (.t 35), (.k (.sc (.int .i64 8)))], [], .calG [0] (.k (.fn 92 [])) [(.t 33), (.t 35), (.k (.sc (.int .i64 8)))]⟩,
 ⟨some 37, none, [(.t 3)], [0, 1, 2, 3], .fa 53 (.t 3)⟩,
 ⟨some 38, none, [(.t 37)], [0, 1, 2, 3], .ld false 1 (.t 37)⟩,
 ⟨some 39, none, [(.t 36), (.t 38)], [], .app 1 1 (.t 36) (.t 38)⟩,
 ⟨some 0, none, [(.t 39)], [], .mv (.t 39)⟩] (some [0, 3]))
 (.seq
 (.seq
 (.reg [⟨some 40, none, [], [], .fa 54 (.t 3)⟩,
 ⟨some 41, none, [], [], .ld false 1 (.t 40)⟩,
 ⟨some 42, none, [], [], .lenL (.t 41)⟩,
 ⟨some 43, none, [], [], .mv (.k (.sc (.int .i64 0)))⟩] (some [0, 41, 42, 43]))
 (.block 1
 (.loop
 (.seq
 (.reg [⟨some 44, none, [], [], .bin .lss false (.t 43) (.t 42)⟩] none)
 (.seq
 (.cond (.t 44)
 (.keep [0, 41, 42, 43]
 .skip)
 (.exit 1))
 (.seq
 (.block 2
 (.seq
 (.reg [⟨some 45, none, [], [], .ixaS 2 (.t 41) (.t 43)⟩,
 ⟨some 46, none, [], [], .ld true 2 (.t 45)⟩,
 ⟨some 6, none, [], [], .alc [(.sc (.int .u64 0)), (.sc (.int .u64 0))]⟩,
 ⟨none, none, [], [], .sto 2 (.t 6) (.t 46)⟩] (some [0, 6, 41, 42, 43]))
 (.regD [⟨some 47, none, [(.t 0)], [], .mv (.t 0)⟩,
 ⟨some 48, none, [(.t 6)], [0], .fa 0 (.t 6)⟩,
 ⟨some 49, none, [(.t 48)], [0], .ld false 1 (.t 48)⟩,
 ⟨some 50, none, [(.k (.fn 92 [])), (.t 47), (.t 49), (.k (.sc (.int .i64 8)))], [], .calG [0] (.k (.fn 92 [])) [(.t 47), (.t 49), (.k (.sc (.int .i64 8)))]⟩,
 ⟨some 51, none, [(.t 6)], [0, 1, 2, 3], .fa 1 (.t 6)⟩,
 ⟨some 52, none, [(.t 51)], [0, 1, 2, 3], .ld false 1 (.t 51)⟩,
 ⟨some 53, none, [(.k (.fn 92 [])), (.t 50), (.t 52), (.k (.sc (.int .i64 8)))], [], .calG [0] (.k (.fn 92 [])) [(.t 50), (.t 52), (.k (.sc (.int .i64 8)))]⟩,
 ⟨some 0, none, [(.t 53)], [], .mv (.t 53)⟩] (some [0, 41, 42, 43]))))
 (.reg [⟨some 54, none, [], [], .bin .add false (.t 43) (.k (.sc (.int .i64 1)))⟩,
 ⟨some 43, none, [], [], .mv (.t 54)⟩] (some [0, 41, 42, 43]))))))))
 (.seq
 (.reg [⟨some 55, none, [], [], .mv (.t 0)⟩,
 ⟨some 4, none, [], [], .mv (.t 55)⟩] (some [4]))
 .ret)))))
theorem b94 : cmpG Try.prog 94 = some (strip a94, r94, 56) := by kernel_rfl

abbrev r95 : List AR := [.c 2 true 56]
abbrev a95 : ACode :=
 (.seq
 (.reg [⟨some 1, none, [], [], .box (.t 0)⟩,
 ⟨some 2, none, [], [], .alc zL2⟩] (some [1, 2]))
 (.seq
 (.reg [⟨some 4, none, [], [], .fa 0 (.t 1)⟩,
 ⟨some 5, none, [], [], .ld false 1 (.t 4)⟩,
 ⟨some 6, none, [], [], .fa 1 (.t 1)⟩,
 ⟨some 7, none, [], [], .ld true 16 (.t 6)⟩,
 ⟨some 8, none, [], [], .fa 17 (.t 1)⟩,
 ⟨some 9, none, [], [], .ld true 2 (.t 8)⟩,
 ⟨some 10, none, [], [], .bld zL2 [(0, 1, (.t 5)), (1, 16, (.t 7)), (17, 2, (.t 9))]⟩,
 ⟨some 3, none, [], [], .alc zL2⟩,
 ⟨none, none, [], [], .sto 56 (.t 3) (.t 10)⟩] (some [1, 2, 3]))
 (.seq
 (.seq
 (.reg [⟨some 11, none, [], [], .fa 0 (.t 1)⟩,
 ⟨some 12, none, [], [], .ld false 1 (.t 11)⟩] (some [1, 2, 3, 12]))
 (.block 0
 (.seq
 (.seq
 (.reg [⟨some 14, none, [], [], .bin .eql false (.t 12) (.k (.sc (.int .i64 1)))⟩,
 ⟨some 13, none, [], [], .mv (.t 14)⟩] (some [1, 2, 3, 12, 13]))
 (.cond (.t 13)
 .skip
 (.keep [1, 2, 3, 12]
 (.reg [⟨some 15, none, [], [], .bin .eql false (.t 12) (.k (.sc (.int .i64 5)))⟩,
 ⟨some 13, none, [], [], .mv (.t 15)⟩] (some [1, 2, 3, 12, 13])))))
 (.cond (.t 13)
 (.keep [1, 2, 3]
 (.regD [⟨some 16, none, [(.t 1)], [], .fa 20 (.t 1)⟩,
 ⟨some 17, none, [(.t 16)], [], .ld false 1 (.t 16)⟩,
 ⟨some 18, none, [(.t 1)], [0, 1], .fa 21 (.t 1)⟩,
 ⟨some 19, none, [(.t 18)], [0, 1], .ld true 32 (.t 18)⟩,
 ⟨some 20, none, [(.t 3)], [2, 3], .fa 20 (.t 3)⟩,
 ⟨none, none, [(.t 20), (.t 17)], [2, 3], .sto 1 (.t 20) (.t 17)⟩,
 ⟨some 21, none, [(.t 3)], [], .fa 21 (.t 3)⟩,
 ⟨none, none, [(.t 21), (.t 19)], [], .sto 32 (.t 21) (.t 19)⟩] (some [2, 3])))
 (.keep [1, 2, 3, 12]
 (.seq
 (.reg [⟨some 23, none, [], [], .bin .eql false (.t 12) (.k (.sc (.int .i64 2)))⟩,
 ⟨some 22, none, [], [], .mv (.t 23)⟩] (some [1, 2, 3, 12, 22]))
 (.cond (.t 22)
 (.keep [1, 2, 3]
 (.reg [⟨some 24, none, [], [], .fa 19 (.t 1)⟩,
 ⟨some 25, none, [], [], .ld false 1 (.t 24)⟩,
 ⟨some 26, none, [], [], .fa 19 (.t 3)⟩,
 ⟨none, none, [], [], .sto 1 (.t 26) (.t 25)⟩] (some [2, 3])))
 (.keep [1, 2, 3, 12]
 (.seq
 (.reg [⟨some 28, none, [], [], .bin .eql false (.t 12) (.k (.sc (.int .i64 3)))⟩,
 ⟨some 27, none, [], [], .mv (.t 28)⟩] (some [1, 2, 3, 12, 27]))
 (.cond (.t 27)
 (.keep [1, 2, 3]
 (.regD [⟨some 29, none, [(.t 1)], [], .fa 19 (.t 1)⟩,
 ⟨some 30, none, [(.t 29)], [], .ld false 1 (.t 29)⟩,
 ⟨some 31, none, [(.t 1)], [0, 1], .fa 53 (.t 1)⟩,
 ⟨some 32, none, [(.t 31)], [0, 1], .ld false 1 (.t 31)⟩,
 ⟨some 33, none, [(.k (.fn 68 [])), (.t 32)], [0, 1], .cal (.k (.fn 68 [])) [(.t 32)]⟩,
 ⟨some 34, none, [(.t 3)], [2, 3, 4], .fa 19 (.t 3)⟩,
 ⟨none, none, [(.t 34), (.t 30)], [], .sto 1 (.t 34) (.t 30)⟩,
 ⟨some 35, none, [(.t 3)], [], .fa 53 (.t 3)⟩,
 ⟨none, none, [(.t 35), (.t 33)], [], .sto 1 (.t 35) (.t 33)⟩] (some [2, 3])))
 (.keep [1, 2, 3, 12]
 (.seq
 (.reg [⟨some 37, none, [], [], .bin .eql false (.t 12) (.k (.sc (.int .i64 4)))⟩,
 ⟨some 36, none, [], [], .mv (.t 37)⟩] (some [1, 2, 3, 12, 36]))
 (.cond (.t 36)
 (.keep [1, 2, 3]
 (.regD [⟨some 38, none, [(.t 1)], [], .fa 19 (.t 1)⟩,
 ⟨some 39, none, [(.t 38)], [], .ld false 1 (.t 38)⟩,
 ⟨some 40, none, [(.t 1)], [0, 1], .fa 54 (.t 1)⟩,
 ⟨some 41, none, [(.t 40)], [0, 1], .ld false 1 (.t 40)⟩,
 ⟨some 42, none, [(.k (.fn 127 [])), (.t 41)], [0, 1], .cal (.k (.fn 127 [])) [(.t 41)]⟩,
 ⟨some 43, none, [(.t 3)], [2, 3, 4], .fa 19 (.t 3)⟩,
 ⟨none, none, [(.t 43), (.t 39)], [], .sto 1 (.t 43) (.t 39)⟩,
 ⟨some 44, none, [(.t 3)], [], .fa 54 (.t 3)⟩,
 ⟨none, none, [(.t 44), (.t 42)], [], .sto 1 (.t 44) (.t 42)⟩] (some [2, 3])))
 (.keep [1, 2, 3, 12]
 (.seq
 (.reg [⟨some 46, none, [], [], .bin .eql false (.t 12) (.k (.sc (.int .i64 6)))⟩,
 ⟨some 45, none, [], [], .mv (.t 46)⟩] (some [1, 2, 3, 12, 45]))
 (.cond (.t 45)
 (.keep [1, 2, 3]
 (.reg [⟨some 47, none, [], [], .fa 20 (.t 1)⟩,
 ⟨some 48, none, [], [], .ld false 1 (.t 47)⟩,
 ⟨some 49, none, [], [], .fa 20 (.t 3)⟩,
 ⟨none, none, [], [], .sto 1 (.t 49) (.t 48)⟩] (some [2, 3])))
 (.keep [1, 2, 3, 12]
 (.seq
 (.reg [⟨some 51, none, [], [], .bin .eql false (.t 12) (.k (.sc (.int .i64 7)))⟩,
 ⟨some 50, none, [], [], .mv (.t 51)⟩] (some [1, 2, 3, 50]))
 (.cond (.t 50)
 (.keep [1, 2, 3]
 (.reg [⟨some 52, none, [], [], .fa 55 (.t 1)⟩,
 ⟨some 53, none, [], [], .ld false 1 (.t 52)⟩,
 ⟨some 54, none, [], [], .fa 55 (.t 3)⟩,
 ⟨none, none, [], [], .sto 1 (.t 54) (.t 53)⟩] (some [2, 3])))
 (.keep [2, 3]
 .skip))))))))))))))))))))
 (.seq
 (.reg [⟨some 55, none, [], [], .ld true 56 (.t 3)⟩,
 ⟨none, none, [], [], .sto 56 (.t 2) (.t 55)⟩] (some [2]))
 .ret))))
theorem b95 : cmpG Try.prog 95 = some (strip a95, r95, 56) := by kernel_rfl

abbrev r122 : List AR := [.t 4]
abbrev a122 : ACode :=
 (.seq
 (.reg [⟨some 4, none, [], [], .mv (.k (.sc (.bool false)))⟩] (some [0, 1]))
 (.seq
 (.seq
 (.reg [⟨some 7, none, [], [], .mv (.t 1)⟩,
 ⟨some 8, none, [], [], .lenL (.t 7)⟩,
 ⟨some 9, none, [], [], .mv (.k (.sc (.int .i64 0)))⟩] (some [0, 7, 8, 9]))
 (.block 0
 (.loop
 (.seq
 (.reg [⟨some 10, none, [], [], .bin .lss false (.t 9) (.t 8)⟩] none)
 (.seq
 (.cond (.t 10)
 (.keep [0, 7, 8, 9]
 .skip)
 (.exit 0))
 (.seq
 (.block 1
 (.seq
 (.reg [⟨some 11, none, [], [], .ixaS 2 (.t 7) (.t 9)⟩,
 ⟨some 12, none, [], [], .ld true 2 (.t 11)⟩,
 ⟨some 6, none, [], [], .alc [(.sc (.int .u64 0)), (.sc (.int .u64 0))]⟩,
 ⟨none, none, [], [], .sto 2 (.t 6) (.t 12)⟩] (some [0, 6, 7, 8, 9]))
 (.seq
 (.seq
 (.reg [⟨some 13, none, [], [], .fa 0 (.t 6)⟩,
 ⟨some 14, none, [], [], .ld false 1 (.t 13)⟩,
 ⟨some 15, none, [], [], .mv (.t 0)⟩,
 ⟨some 16, none, [], [], .bin .leq false (.t 14) (.t 15)⟩,
 ⟨some 17, none, [], [], .mv (.t 16)⟩,
 ⟨some 18, (some (17, false)), [], [], .fa 1 (.t 6)⟩,
 ⟨some 19, (some (17, false)), [], [], .ld false 1 (.t 18)⟩,
 ⟨some 20, (some (17, false)), [], [], .fa 0 (.t 6)⟩,
 ⟨some 21, (some (17, false)), [], [], .ld false 1 (.t 20)⟩,
 ⟨some 22, (some (17, false)), [], [], .bin .leq false (.t 19) (.t 21)⟩,
 ⟨some 23, none, [], [], .pick (.t 17) (.k (.sc (.bool true))) (.t 22)⟩] (some [6, 7, 8, 9, 23]))
 (.cond (.t 23)
 (.keep []
 (.seq
 (.reg [⟨some 4, none, [], [], .mv (.k (.sc (.bool false)))⟩] none)
 .ret))
 (.keep [6, 7, 8, 9]
 .skip)))
 (.reg [⟨some 24, none, [], [], .fa 1 (.t 6)⟩,
 ⟨some 25, none, [], [], .ld false 1 (.t 24)⟩,
 ⟨some 0, none, [], [], .mv (.t 25)⟩] (some [0, 7, 8, 9])))))
 (.reg [⟨some 26, none, [], [], .bin .add false (.t 9) (.k (.sc (.int .i64 1)))⟩,
 ⟨some 9, none, [], [], .mv (.t 26)⟩] (some [0, 7, 8, 9]))))))))
 (.seq
 (.reg [⟨some 4, none, [], [], .mv (.k (.sc (.bool true)))⟩] (some [4]))
 .ret)))
theorem b122 : cmpG Try.prog 122 = some (strip a122, r122, 27) := by kernel_rfl

abbrev r125 : List AR := [.t 2]
abbrev a125 : ACode :=
 (.seq
 (.reg [⟨some 2, none, [], [], .mv (.k .nl)⟩] (some [0]))
 (.seq
 (.reg [⟨some 5, none, [], [], .mks (.sc (.int .u8 0)) (.k (.sc (.int .i64 4))) (.k (.sc (.int .i64 4)))⟩,
 ⟨some 3, none, [], [], .mv (.t 5)⟩] (some [0, 3]))
 (.seq
 (.seq
 (.reg [⟨some 6, none, [], [], .mv (.t 3)⟩,
 ⟨some 7, none, [], [], .lenL (.t 6)⟩,
 ⟨some 8, none, [], [], .mv (.k (.sc (.int .i64 0)))⟩] (some [0, 3, 7, 8]))
 (.block 0
 (.loop
 (.seq
 (.reg [⟨some 9, none, [], [], .bin .lss false (.t 8) (.t 7)⟩] none)
 (.seq
 (.cond (.t 9)
 (.keep [0, 3, 7, 8]
 .skip)
 (.exit 0))
 (.seq
 (.block 1
 (.seq
 (.reg [⟨some 10, none, [], [], .mv (.t 8)⟩,
 ⟨some 4, none, [], [], .mv (.t 10)⟩] (some [0, 3, 4, 7, 8]))
 (.reg [⟨some 11, none, [], [], .mv (.t 3)⟩,
 ⟨some 12, none, [], [], .mv (.t 4)⟩,
 ⟨some 13, none, [], [], .mv (.t 0)⟩,
 ⟨some 14, none, [], [], .mv (.t 4)⟩,
 ⟨some 15, none, [], [], .bin .mul false (.k (.sc (.int .i64 8))) (.t 14)⟩,
 ⟨some 16, none, [], [], .bin .shr false (.t 13) (.t 15)⟩,
 ⟨some 17, none, [], [], .cvi .u8 (.t 16)⟩,
 ⟨some 18, none, [], [], .ixaS 1 (.t 11) (.t 12)⟩,
 ⟨none, none, [], [], .sto 1 (.t 18) (.t 17)⟩] (some [0, 3, 7, 8]))))
 (.reg [⟨some 19, none, [], [], .bin .add false (.t 8) (.k (.sc (.int .i64 1)))⟩,
 ⟨some 8, none, [], [], .mv (.t 19)⟩] (some [0, 3, 7, 8]))))))))
 (.seq
 (.reg [⟨some 20, none, [], [], .mv (.t 3)⟩,
 ⟨some 2, none, [], [], .mv (.t 20)⟩] (some [2]))
 .ret))))
theorem b125 : cmpG Try.prog 125 = some (strip a125, r125, 21) := by kernel_rfl

abbrev r126 : List AR := [.t 2]
abbrev a126 : ACode :=
 (.seq
 (.reg [⟨some 2, none, [], [], .mv (.k (.sc (.int .u32 0)))⟩] (some [0]))
 (.seq
 (.reg [⟨some 3, none, [], [], .mv (.t 0)⟩,
 ⟨some 4, none, [], [], .bsl 1 1 [.nl] [(0, 1, (.t 3))]⟩,
 ⟨some 5, none, [], [], .cal (.k (.fn 141 [])) [(.t 4)]⟩,
 ⟨some 2, none, [], [], .mv (.t 5)⟩] (some [2]))
 .ret))
theorem b126 : cmpG Try.prog 126 = some (strip a126, r126, 6) := by kernel_rfl

abbrev r127 : List AR := [.t 2]
abbrev a127 : ACode :=
 (.seq
 (.reg [⟨some 2, none, [], [], .mv (.k .nl)⟩] (some [0]))
 (.seq
 (.seq
 (.reg [⟨some 3, none, [], [], .mv (.t 0)⟩,
 ⟨some 4, none, [], [], .nil true (.t 3) (.k .nl)⟩] (some [0, 4]))
 (.cond (.t 4)
 (.keep []
 (.seq
 (.reg [⟨some 2, none, [], [], .mv (.k .nl)⟩] none)
 .ret))
 (.keep [0]
 .skip)))
 (.seq
 (.reg [⟨some 5, none, [], [], .bsl 0 2 [] []⟩,
 ⟨some 6, none, [], [], .mv (.t 0)⟩,
 ⟨some 7, none, [], [], .app 2 16 (.t 5) (.t 6)⟩,
 ⟨some 2, none, [], [], .mv (.t 7)⟩] (some [2]))
 .ret)))
theorem b127 : cmpG Try.prog 127 = some (strip a127, r127, 8) := by kernel_rfl

abbrev r141 : List AR := [.t 2]
abbrev a141 : ACode :=
 (.seq
 (.reg [⟨some 2, none, [], [], .mv (.k (.sc (.int .u32 0)))⟩] (some [0]))
 (.seq
 (.reg [⟨some 3, none, [], [], .mv (.k (.sc (.int .u32 4294967295)))⟩] none)
 (.seq
 (.seq
 (.reg [⟨some 8, none, [], [], .mv (.t 0)⟩,
 ⟨some 9, none, [], [], .lenL (.t 8)⟩,
 ⟨some 10, none, [], [], .mv (.k (.sc (.int .i64 0)))⟩] (some [3, 8, 9, 10]))
 (.block 0
 (.loop
 (.seq
 (.reg [⟨some 11, none, [], [], .bin .lss false (.t 10) (.t 9)⟩] none)
 (.seq
 (.cond (.t 11)
 (.keep [3, 8, 9, 10]
 .skip)
 (.exit 0))
 (.seq
 (.block 1
 (.seq
 (.reg [⟨some 12, none, [], [], .ixaS 1 (.t 8) (.t 10)⟩,
 ⟨some 13, none, [], [], .ld false 1 (.t 12)⟩,
 ⟨some 5, none, [], [], .mv (.t 13)⟩] (some [3, 5, 8, 9, 10]))
 (.seq
 (.reg [⟨some 14, none, [], [], .mv (.t 5)⟩,
 ⟨some 15, none, [], [], .lenL (.t 14)⟩,
 ⟨some 16, none, [], [], .mv (.k (.sc (.int .i64 0)))⟩] (some [3, 8, 9, 10, 14, 15, 16]))
 (.block 2
 (.loop
 (.seq
 (.reg [⟨some 17, none, [], [], .bin .lss false (.t 16) (.t 15)⟩] none)
 (.seq
 (.cond (.t 17)
 (.keep [3, 8, 9, 10, 14, 15, 16]
 .skip)
 (.exit 2))
 (.seq
 (.block 3
 (.seq
 (.reg [⟨some 18, none, [], [], .ixaS 1 (.t 14) (.t 16)⟩,
 ⟨some 19, none, [], [], .ld false 1 (.t 18)⟩,
 ⟨some 7, none, [], [], .mv (.t 19)⟩] (some [3, 7, 8, 9, 10, 14, 15, 16]))
 (.reg [⟨some 20, none, [], [], .mv (.t 3)⟩,
 ⟨some 21, none, [], [], .mv (.t 7)⟩,
 ⟨some 22, none, [], [], .cal (.k (.fn 147 [])) [(.t 20), (.t 21)]⟩,
 ⟨some 3, none, [], [], .mv (.t 22)⟩] (some [3, 8, 9, 10, 14, 15, 16]))))
 (.reg [⟨some 23, none, [], [], .bin .add false (.t 16) (.k (.sc (.int .i64 1)))⟩,
 ⟨some 16, none, [], [], .mv (.t 23)⟩] (some [3, 8, 9, 10, 14, 15, 16]))))))))))
 (.reg [⟨some 24, none, [], [], .bin .add false (.t 10) (.k (.sc (.int .i64 1)))⟩,
 ⟨some 10, none, [], [], .mv (.t 24)⟩] (some [3, 8, 9, 10]))))))))
 (.seq
 (.reg [⟨some 25, none, [], [], .mv (.t 3)⟩,
 ⟨some 26, none, [], [], .un .xor (.t 25)⟩,
 ⟨some 2, none, [], [], .mv (.t 26)⟩] (some [2]))
 .ret))))
theorem b141 : cmpG Try.prog 141 = some (strip a141, r141, 27) := by kernel_rfl

abbrev r147 : List AR := [.t 4]
abbrev a147 : ACode :=
 (.seq
 (.reg [⟨some 4, none, [], [], .mv (.k (.sc (.int .u32 0)))⟩] (some [0, 1]))
 (.seq
 (.reg [⟨some 5, none, [], [], .mv (.t 0)⟩,
 ⟨some 6, none, [], [], .mv (.t 1)⟩,
 ⟨some 7, none, [], [], .cvi .u32 (.t 6)⟩,
 ⟨some 8, none, [], [], .bin .xor false (.t 5) (.t 7)⟩,
 ⟨some 0, none, [], [], .mv (.t 8)⟩] (some [0]))
 (.seq
 (.seq
 (.reg [⟨some 9, none, [], [], .mv (.k (.sc (.int .i64 0)))⟩] none)
 (.block 0
 (.loop
 (.seq
 (.reg [⟨some 10, none, [], [], .bin .lss false (.t 9) (.k (.sc (.int .i64 8)))⟩] none)
 (.seq
 (.cond (.t 10)
 (.keep [0, 9]
 .skip)
 (.exit 0))
 (.seq
 (.block 1
 (.reg [⟨some 11, none, [], [], .mv (.t 0)⟩,
 ⟨some 12, none, [], [], .bin .shr false (.t 11) (.k (.sc (.int .u64 1)))⟩,
 ⟨some 13, none, [], [], .mv (.t 0)⟩,
 ⟨some 14, none, [], [], .bin .and false (.t 13) (.k (.sc (.int .u32 1)))⟩,
 ⟨some 15, none, [], [], .un .neg (.t 14)⟩,
 ⟨some 16, none, [], [], .bin .and false (.k (.sc (.int .u32 3988292384))) (.t 15)⟩,
 ⟨some 17, none, [], [], .bin .xor false (.t 12) (.t 16)⟩,
 ⟨some 0, none, [], [], .mv (.t 17)⟩] (some [0, 9])))
 (.reg [⟨some 18, none, [], [], .bin .add false (.t 9) (.k (.sc (.int .i64 1)))⟩,
 ⟨some 9, none, [], [], .mv (.t 18)⟩] (some [0, 9]))))))))
 (.seq
 (.reg [⟨some 19, none, [], [], .mv (.t 0)⟩,
 ⟨some 4, none, [], [], .mv (.t 19)⟩] (some [4]))
 .ret))))
theorem b147 : cmpG Try.prog 147 = some (strip a147, r147, 20) := by kernel_rfl


end Go.Proofs.Ytbmdahhhgpbchaa.Cod
