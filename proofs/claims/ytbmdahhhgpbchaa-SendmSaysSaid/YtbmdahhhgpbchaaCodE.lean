import Derived.Test.YtbmdahhhgpbchaaProg
import Derived.Test.YtbmdahhhgpbchaaSimD
import Derived.KernelRfl
namespace Go.Proofs.Ytbmdahhhgpbchaa.Cod
open Go Go.Sim Go.Proofs
set_option maxRecDepth 100000
def zF1 : List AV := .sc (.int .i64 0) :: .sc (.int .i64 0) :: .nl :: .sc (.int .u8 0) :: .sc (.int .u8 0) :: .sc (.int .u8 0) :: .sc (.int .u8 0) :: .sc (.int .u8 0) :: .sc (.int .u8 0) :: .sc (.int .u8 0) :: .sc (.int .u8 0) :: .sc (.int .u8 0) :: .sc (.int .u8 0) :: .sc (.int .u8 0) :: .sc (.int .u8 0) :: .sc (.int .u8 0) :: .sc (.int .u8 0) :: .sc (.int .u8 0) :: .sc (.int .u8 0) :: .sc (.int .u8 0) :: .sc (.int .u8 0) :: .sc (.int .u8 0) :: .sc (.int .u8 0) :: .sc (.int .u8 0) :: .sc (.int .u8 0) :: .sc (.int .u8 0) :: .sc (.int .u8 0) :: .sc (.int .u8 0) :: .sc (.int .u8 0) :: .sc (.int .u8 0) :: .sc (.int .u8 0) :: .sc (.int .u8 0) :: .sc (.int .u8 0) :: .sc (.int .u8 0) :: .sc (.int .u8 0) :: .sc (.int .u8 0) :: .sc (.int .u8 0) :: .sc (.int .u8 0) :: .sc (.int .u8 0) :: .sc (.int .u8 0) :: .sc (.int .u8 0) :: .sc (.int .u8 0) :: .sc (.int .u8 0) :: .sc (.int .u8 0) :: .sc (.int .u8 0) :: .sc (.int .u8 0) :: .sc (.int .u8 0) :: .sc (.int .u8 0) :: .sc (.int .u8 0) :: .sc (.int .u8 0) :: .sc (.int .u8 0) :: .sc (.int .u32 0) :: .sc (.int .u32 0) :: .nl :: .sc (.int .i64 0) :: .nl :: .nl :: .sc (.bool false) :: .sc (.int .i64 0) :: .sc (.int .i64 0) :: .sc (.bool false) :: .sc (.int .i64 0) :: .sc (.int .i64 0) :: []
def zF2 : List AV := .sc (.int .i64 0) :: .sc (.int .u8 0) :: .sc (.int .u8 0) :: .sc (.int .u8 0) :: .sc (.int .u8 0) :: .sc (.int .u8 0) :: .sc (.int .u8 0) :: .sc (.int .u8 0) :: .sc (.int .u8 0) :: .sc (.int .u8 0) :: .sc (.int .u8 0) :: .sc (.int .u8 0) :: .sc (.int .u8 0) :: .sc (.int .u8 0) :: .sc (.int .u8 0) :: .sc (.int .u8 0) :: .sc (.int .u8 0) :: .sc (.int .u32 0) :: .sc (.int .u32 0) :: .sc (.int .u64 0) :: .sc (.int .u64 0) :: .sc (.int .u8 0) :: .sc (.int .u8 0) :: .sc (.int .u8 0) :: .sc (.int .u8 0) :: .sc (.int .u8 0) :: .sc (.int .u8 0) :: .sc (.int .u8 0) :: .sc (.int .u8 0) :: .sc (.int .u8 0) :: .sc (.int .u8 0) :: .sc (.int .u8 0) :: .sc (.int .u8 0) :: .sc (.int .u8 0) :: .sc (.int .u8 0) :: .sc (.int .u8 0) :: .sc (.int .u8 0) :: .sc (.int .u8 0) :: .sc (.int .u8 0) :: .sc (.int .u8 0) :: .sc (.int .u8 0) :: .sc (.int .u8 0) :: .sc (.int .u8 0) :: .sc (.int .u8 0) :: .sc (.int .u8 0) :: .sc (.int .u8 0) :: .sc (.int .u8 0) :: .sc (.int .u8 0) :: .sc (.int .u8 0) :: .sc (.int .u8 0) :: .sc (.int .u8 0) :: .sc (.int .u8 0) :: .sc (.int .u8 0) :: .nl :: .nl :: .sc (.int .i64 0) :: []
abbrev r45 : List AR := [.t 2]
abbrev a45 : ACode :=
 (.seq
 (.reg [⟨some 1, none, [], [], .box (.t 0)⟩,
 ⟨some 2, none, [], [], .mv (.k (.sc (.bool false)))⟩] (some [1]))
 (.seq
 (.reg [⟨some 3, none, [], [], .fa 53 (.t 1)⟩,
 ⟨some 4, none, [], [], .ld false 1 (.t 3)⟩,
 ⟨some 5, none, [], [], .lenL (.t 4)⟩,
 ⟨some 6, none, [], [], .bin .gtr false (.t 5) (.k (.sc (.int .i64 600)))⟩,
 ⟨some 7, none, [], [], .mv (.t 6)⟩,
 ⟨some 8, (some (7, false)), [], [], .fa 54 (.t 1)⟩,
 ⟨some 9, (some (7, false)), [], [], .ld false 1 (.t 8)⟩,
 ⟨some 10, (some (7, false)), [], [], .lenL (.t 9)⟩,
 ⟨some 11, (some (7, false)), [], [], .bin .gtr false (.t 10) (.k (.sc (.int .i64 20)))⟩,
 ⟨some 12, none, [], [], .pick (.t 7) (.k (.sc (.bool true))) (.t 11)⟩,
 ⟨some 2, none, [], [], .mv (.t 12)⟩] (some [2]))
 .ret))
theorem b45 : cmpG Try.prog 45 = some (strip a45, r45, 13) := by kernel_rfl

abbrev r46 : List AR := [.t 0]
abbrev a46 : ACode :=
 (.seq
 (.reg [⟨some 0, none, [], [], .mv (.k (.sc (.bool false)))⟩] (some []))
 (.seq
 (.reg [⟨some 13, none, [], [], .mks (.sc (.int .u8 0)) (.k (.sc (.int .i64 300))) (.k (.sc (.int .i64 300)))⟩,
 ⟨some 14, none, [], [], .bld [(.sc (.int .u8 0)), (.sc (.int .u8 0)), (.sc (.int .u8 0)), (.sc (.int .u8 0)), (.sc (.int .u8 0)), (.sc (.int .u8 0)), (.sc (.int .u8 0)), (.sc (.int .u8 0)), (.sc (.int .u8 0)), (.sc (.int .u8 0)), (.sc (.int .u8 0)), (.sc (.int .u8 0)), (.sc (.int .u8 0)), (.sc (.int .u8 0)), (.sc (.int .u8 0)), (.sc (.int .u8 0))] [(0, 1, (.k (.sc (.int .u8 1))))]⟩,
 ⟨some 15, none, [], [], .cal (.k (.fn 47 [])) [(.t 13), (.t 14), (.k (.sc (.int .u32 4)))]⟩,
 ⟨some 12, none, [], [], .mv (.t 15)⟩,
 ⟨some 16, none, [], [], .ext (.t 12) 0⟩,
 ⟨some 17, none, [], [], .ext (.t 12) 1⟩,
 ⟨some 1, none, [], [], .alc zF1⟩,
 ⟨none, none, [], [], .sto 63 (.t 1) (.t 16)⟩,
 ⟨some 2, none, [], [], .mv (.t 17)⟩] (some [1, 2]))
 (.seq
 (.reg [⟨some 19, none, [], [], .ld true 63 (.t 1)⟩,
 ⟨some 20, none, [], [], .cal (.k (.fn 48 [])) [(.t 19)]⟩,
 ⟨some 18, none, [], [], .mv (.t 20)⟩,
 ⟨some 21, none, [], [], .ext (.t 18) 0⟩,
 ⟨some 22, none, [], [], .ext (.t 18) 1⟩,
 ⟨none, none, [], [], .sto 63 (.t 1) (.t 21)⟩,
 ⟨some 3, none, [], [], .mv (.t 22)⟩] (some [1, 2, 3]))
 (.seq
 (.reg [⟨some 24, none, [], [], .ld true 63 (.t 1)⟩,
 ⟨some 25, none, [], [], .bld [(.sc (.int .u8 0)), (.sc (.int .u8 0)), (.sc (.int .u8 0)), (.sc (.int .u8 0)), (.sc (.int .u8 0)), (.sc (.int .u8 0)), (.sc (.int .u8 0)), (.sc (.int .u8 0)), (.sc (.int .u8 0)), (.sc (.int .u8 0)), (.sc (.int .u8 0)), (.sc (.int .u8 0)), (.sc (.int .u8 0)), (.sc (.int .u8 0)), (.sc (.int .u8 0)), (.sc (.int .u8 0))] [(0, 1, (.k (.sc (.int .u8 1))))]⟩,
 ⟨some 26, none, [], [], .bld [(.sc (.int .u32 0)), (.sc (.int .u32 0))] [(0, 1, (.k (.sc (.int .u32 4)))), (1, 1, (.k (.sc (.int .u32 2))))]⟩,
 ⟨some 27, none, [], [], .bld zF2 [(0, 1, (.k (.sc (.int .i64 2)))), (1, 16, (.t 25)), (17, 2, (.t 26))]⟩,
 ⟨some 28, none, [], [], .cal (.k (.fn 49 [])) [(.t 24), (.t 27)]⟩,
 ⟨some 23, none, [], [], .mv (.t 28)⟩,
 ⟨some 29, none, [], [], .ext (.t 23) 0⟩,
 ⟨some 30, none, [], [], .ext (.t 23) 1⟩,
 ⟨some 4, none, [], [], .alc zF1⟩,
 ⟨none, none, [], [], .sto 63 (.t 4) (.t 29)⟩,
 ⟨some 5, none, [], [], .mv (.t 30)⟩] (some [2, 3, 4, 5]))
 (.seq
 (.reg [⟨some 32, none, [], [], .ld true 63 (.t 4)⟩,
 ⟨some 33, none, [], [], .bld [(.sc (.int .u8 0)), (.sc (.int .u8 0)), (.sc (.int .u8 0)), (.sc (.int .u8 0)), (.sc (.int .u8 0)), (.sc (.int .u8 0)), (.sc (.int .u8 0)), (.sc (.int .u8 0)), (.sc (.int .u8 0)), (.sc (.int .u8 0)), (.sc (.int .u8 0)), (.sc (.int .u8 0)), (.sc (.int .u8 0)), (.sc (.int .u8 0)), (.sc (.int .u8 0)), (.sc (.int .u8 0))] [(0, 1, (.k (.sc (.int .u8 1))))]⟩,
 ⟨some 34, none, [], [], .bld [(.sc (.int .u32 0)), (.sc (.int .u32 0))] [(0, 1, (.k (.sc (.int .u32 4)))), (1, 1, (.k (.sc (.int .u32 2))))]⟩,
 ⟨some 35, none, [], [], .bld zF2 [(0, 1, (.k (.sc (.int .i64 4)))), (1, 16, (.t 33)), (17, 2, (.t 34)), (19, 1, (.k (.sc (.int .u64 300))))]⟩,
 ⟨some 36, none, [], [], .cal (.k (.fn 49 [])) [(.t 32), (.t 35)]⟩,
 ⟨some 31, none, [], [], .mv (.t 36)⟩,
 ⟨some 37, none, [], [], .ext (.t 31) 0⟩,
 ⟨some 38, none, [], [], .ext (.t 31) 1⟩,
 ⟨some 6, none, [], [], .alc zF1⟩,
 ⟨none, none, [], [], .sto 63 (.t 6) (.t 37)⟩,
 ⟨some 7, none, [], [], .mv (.t 38)⟩] (some [2, 3, 5, 6, 7]))
 (.seq
 (.reg [⟨some 40, none, [], [], .ld true 63 (.t 6)⟩,
 ⟨some 41, none, [], [], .bld [(.sc (.int .u8 0)), (.sc (.int .u8 0)), (.sc (.int .u8 0)), (.sc (.int .u8 0)), (.sc (.int .u8 0)), (.sc (.int .u8 0)), (.sc (.int .u8 0)), (.sc (.int .u8 0)), (.sc (.int .u8 0)), (.sc (.int .u8 0)), (.sc (.int .u8 0)), (.sc (.int .u8 0)), (.sc (.int .u8 0)), (.sc (.int .u8 0)), (.sc (.int .u8 0)), (.sc (.int .u8 0))] [(0, 1, (.k (.sc (.int .u8 1))))]⟩,
 ⟨some 42, none, [], [], .bld [(.sc (.int .u32 0)), (.sc (.int .u32 0))] [(0, 1, (.k (.sc (.int .u32 4))))]⟩,
 ⟨some 43, none, [], [], .bld zF2 [(0, 1, (.k (.sc (.int .i64 6)))), (1, 16, (.t 41)), (17, 2, (.t 42)), (20, 1, (.k (.sc (.int .u64 300))))]⟩,
 ⟨some 44, none, [], [], .cal (.k (.fn 49 [])) [(.t 40), (.t 43)]⟩,
 ⟨some 39, none, [], [], .mv (.t 44)⟩,
 ⟨some 45, none, [], [], .ext (.t 39) 0⟩,
 ⟨some 46, none, [], [], .ext (.t 39) 1⟩,
 ⟨some 8, none, [], [], .alc zF1⟩,
 ⟨none, none, [], [], .sto 63 (.t 8) (.t 45)⟩,
 ⟨some 9, none, [], [], .mv (.t 46)⟩] (some [2, 3, 5, 6, 7, 8]))
 (.seq
 (.reg [⟨some 48, none, [], [], .ld true 63 (.t 8)⟩,
 ⟨some 49, none, [], [], .cal (.k (.fn 53 [])) [(.t 48)]⟩,
 ⟨some 47, none, [], [], .mv (.t 49)⟩,
 ⟨some 50, none, [], [], .ext (.t 47) 0⟩,
 ⟨some 51, none, [], [], .ext (.t 47) 1⟩,
 ⟨some 10, none, [], [], .mv (.t 50)⟩,
 ⟨some 11, none, [], [], .mv (.t 51)⟩] (some [2, 3, 5, 6, 7, 10]))
 (.seq
 (.reg (⟨some 52, none, [], [], .mv (.t 2)⟩ ::
 ⟨some 53, none, [], [], .bin .eql false (.t 52) (.k (.sc (.int .i64 0)))⟩ ::
 ⟨some 54, none, [], [], .mv (.t 53)⟩ ::
 ⟨some 55, (some (54, true)), [], [], .mv (.t 3)⟩ ::
 ⟨some 56, (some (54, true)), [], [], .lenL (.t 55)⟩ ::
 ⟨some 57, (some (54, true)), [], [], .bin .eql false (.t 56) (.k (.sc (.int .i64 1)))⟩ ::
 ⟨some 58, none, [], [], .pick (.t 54) (.t 57) (.k (.sc (.bool false)))⟩ ::
 ⟨some 59, none, [], [], .mv (.t 58)⟩ ::
 ⟨some 60, (some (59, true)), [], [], .mv (.t 3)⟩ ::
 ⟨some 61, (some (59, true)), [], [], .ixaS 56 (.t 60) (.k (.sc (.int .i64 0)))⟩ ::
 ⟨some 62, (some (59, true)), [], [], .fa 0 (.t 61)⟩ ::
 ⟨some 63, (some (59, true)), [], [], .ld false 1 (.t 62)⟩ ::
 ⟨some 64, (some (59, true)), [], [], .bin .eql false (.t 63) (.k (.sc (.int .i64 1)))⟩ ::
 ⟨some 65, none, [], [], .pick (.t 59) (.t 64) (.k (.sc (.bool false)))⟩ ::
 ⟨some 66, none, [], [], .mv (.t 65)⟩ ::
 ⟨some 67, (some (66, true)), [], [], .mv (.t 5)⟩ ::
 ⟨some 68, (some (66, true)), [], [], .lenL (.t 67)⟩ ::
 ⟨some 69, (some (66, true)), [], [], .bin .eql false (.t 68) (.k (.sc (.int .i64 2)))⟩ ::
 ⟨some 70, none, [], [], .pick (.t 66) (.t 69) (.k (.sc (.bool false)))⟩ ::
 ⟨some 71, none, [], [], .mv (.t 70)⟩ ::
 ⟨some 72, (some (71, true)), [], [], .mv (.t 7)⟩ ::
 ⟨some 73, (some (71, true)), [], [], .lenL (.t 72)⟩ ::
 ⟨some 74, (some (71, true)), [], [], .bin .eql false (.t 73) (.k (.sc (.int .i64 1)))⟩ ::
 ⟨some 75, none, [], [], .pick (.t 71) (.t 74) (.k (.sc (.bool false)))⟩ ::
 ⟨some 76, none, [], [], .mv (.t 75)⟩ ::
 ⟨some 77, (some (76, true)), [], [], .mv (.t 7)⟩ ::
 ⟨some 78, (some (76, true)), [], [], .ixaS 56 (.t 77) (.k (.sc (.int .i64 0)))⟩ ::
 ⟨some 79, (some (76, true)), [], [], .fa 0 (.t 78)⟩ ::
 ⟨some 80, (some (76, true)), [], [], .ld false 1 (.t 79)⟩ ::
 ⟨some 81, (some (76, true)), [], [], .bin .eql false (.t 80) (.k (.sc (.int .i64 5)))⟩ ::
 ⟨some 82, none, [], [], .pick (.t 76) (.t 81) (.k (.sc (.bool false)))⟩ ::
 ⟨some 83, none, [], [], .mv (.t 82)⟩ ::
 ⟨some 84, (some (83, true)), [], [], .mv (.t 10)⟩ ::
 ⟨some 85, (some (83, true)), [], [], .bin .eql false (.t 84) (.k (.sc (.int .i64 4)))⟩ ::
 ⟨some 86, none, [], [], .pick (.t 83) (.t 85) (.k (.sc (.bool false)))⟩ ::
 ⟨some 87, none, [], [], .mv (.t 86)⟩ ::
 ⟨some 88, (some (87, true)), [], [], .ld true 63 (.t 6)⟩ ::
 ⟨some 89, (some (87, true)), [], [], .cal (.k (.fn 54 [])) [(.t 88)]⟩ ::
 ⟨some 90, (some (87, true)), [], [], .bin .eql false (.t 89) (.k (.sc (.int .i64 300)))⟩ ::
 ⟨some 91, none, [], [], .pick (.t 87) (.t 90) (.k (.sc (.bool false)))⟩ ::
 ⟨some 0, none, [], [], .mv (.t 91)⟩ :: []) (some [0]))
 .ret))))))))
theorem b46 : cmpG Try.prog 46 = some (strip a46, r46, 92) := by kernel_rfl

abbrev r47 : List AR := [.c 6 true 63, .t 7]
abbrev a47 : ACode :=
 (.seq
 (.reg [⟨some 4, none, [], [], .box (.t 1)⟩,
 ⟨some 6, none, [], [], .alc zF1⟩,
 ⟨some 7, none, [], [], .mv (.k (.sc (.int .i64 0)))⟩] (some [0, 2, 4, 6]))
 (.seq
 (.seq
 (.reg [⟨some 10, none, [], [], .mv (.t 0)⟩,
 ⟨some 11, none, [], [], .lenL (.t 10)⟩,
 ⟨some 12, none, [], [], .bin .eql false (.t 11) (.k (.sc (.int .i64 0)))⟩,
 ⟨some 13, none, [], [], .mv (.t 12)⟩,
 ⟨some 14, (some (13, false)), [], [], .mv (.t 0)⟩,
 ⟨some 15, (some (13, false)), [], [], .lenL (.t 14)⟩,
 ⟨some 16, (some (13, false)), [], [], .bin .gtr false (.t 15) (.k (.sc (.int .i64 16777216)))⟩,
 ⟨some 17, none, [], [], .pick (.t 13) (.k (.sc (.bool true))) (.t 16)⟩] (some [0, 2, 4, 6, 17]))
 (.cond (.t 17)
 (.keep [6]
 (.seq
 (.reg [⟨some 18, none, [], [], .bld zF1 []⟩,
 ⟨none, none, [], [], .sto 63 (.t 6) (.t 18)⟩,
 ⟨some 7, none, [], [], .mv (.k (.sc (.int .i64 1)))⟩] (some [6, 7]))
 .ret))
 (.keep [0, 2, 4, 6]
 .skip)))
 (.seq
 (.reg [⟨some 20, none, [], [], .cal (.k (.fn 67 [])) [(.k (.sc (.int .i64 1)))]⟩,
 ⟨some 19, none, [], [], .mv (.t 20)⟩,
 ⟨some 21, none, [], [], .ext (.t 19) 0⟩,
 ⟨some 22, none, [], [], .ext (.t 19) 1⟩,
 ⟨some 8, none, [], [], .alc [(.sc (.bool false)), (.sc (.int .i64 0)), (.sc (.int .i64 0))]⟩,
 ⟨none, none, [], [], .sto 3 (.t 8) (.t 21)⟩,
 ⟨some 9, none, [], [], .mv (.t 22)⟩] (some [0, 2, 4, 6, 8, 9]))
 (.seq
 (.regD [⟨some 23, none, [(.t 0)], [], .mv (.t 0)⟩,
 ⟨some 24, none, [(.k (.fn 68 [])), (.t 23)], [], .cal (.k (.fn 68 [])) [(.t 23)]⟩,
 ⟨some 25, none, [(.t 0)], [0, 1], .mv (.t 0)⟩,
 ⟨some 26, none, [(.k (.fn 85 [])), (.t 25)], [], .cal (.k (.fn 85 [])) [(.t 25)]⟩,
 ⟨some 27, none, [(.t 4)], [0, 1, 2, 3], .ld true 16 (.t 4)⟩,
 ⟨some 28, none, [(.t 2)], [0, 1, 2, 3, 4], .mv (.t 2)⟩,
 ⟨some 29, none, [(.t 28)], [0, 1, 2, 3, 4], .bld [(.sc (.int .u32 0)), (.sc (.int .u32 0))] [(0, 1, (.t 28))]⟩,
 ⟨some 30, none, [(.t 8)], [0, 1, 2, 3, 4, 5, 6], .ld true 3 (.t 8)⟩,
 ⟨some 31, none, [(.k (.sc (.int .i64 1))), (.t 24), (.t 26), (.t 27), (.t 29), (.t 30)], [], .bld zF1 [(0, 1, (.k (.sc (.int .i64 1)))), (2, 1, (.t 24)), (3, 32, (.t 26)), (35, 16, (.t 27)), (51, 2, (.t 29)), (60, 3, (.t 30))]⟩,
 ⟨some 32, none, [(.t 9)], [0, 1, 2, 3, 4, 5, 6, 7, 8], .mv (.t 9)⟩,
 ⟨none, none, [(.t 6), (.t 31)], [9], .sto 63 (.t 6) (.t 31)⟩,
 ⟨some 7, none, [(.t 32)], [], .mv (.t 32)⟩] (some [6, 7]))
 .ret))))
theorem b47 : cmpG Try.prog 47 = some (strip a47, r47, 33) := by kernel_rfl

abbrev r48 : List AR := [.c 2 true 63, .t 3]
abbrev a48 : ACode :=
 (.seq
 (.reg [⟨some 1, none, [], [], .box (.t 0)⟩,
 ⟨some 2, none, [], [], .alc zF1⟩,
 ⟨some 3, none, [], [], .mv (.k .nl)⟩] (some [1, 2]))
 (.seq
 (.seq
 (.reg [⟨some 4, none, [], [], .fa 0 (.t 1)⟩,
 ⟨some 5, none, [], [], .ld false 1 (.t 4)⟩] (some [1, 2, 5]))
 (.block 0
 (.seq
 (.reg [⟨some 7, none, [], [], .bin .eql false (.t 5) (.k (.sc (.int .i64 1)))⟩,
 ⟨some 6, none, [], [], .mv (.t 7)⟩] (some [1, 2, 5, 6]))
 (.cond (.t 6)
 (.keep [1, 2]
 (.seq
 (.reg [⟨some 8, none, [], [], .ld true 63 (.t 1)⟩,
 ⟨some 9, none, [], [], .cal (.k (.fn 86 [])) [(.t 8), (.k (.sc (.int .i64 1)))]⟩,
 ⟨some 10, none, [], [], .ext (.t 9) 0⟩,
 ⟨some 11, none, [], [], .ext (.t 9) 1⟩,
 ⟨none, none, [], [], .sto 63 (.t 2) (.t 10)⟩,
 ⟨some 3, none, [], [], .mv (.t 11)⟩] (some [2, 3]))
 .ret))
 (.keep [1, 2, 5]
 (.seq
 (.reg [⟨some 13, none, [], [], .bin .eql false (.t 5) (.k (.sc (.int .i64 2)))⟩,
 ⟨some 12, none, [], [], .mv (.t 13)⟩] (some [1, 2, 5, 12]))
 (.cond (.t 12)
 (.keep [1, 2]
 (.seq
 (.reg [⟨some 15, none, [], [], .fa 53 (.t 1)⟩,
 ⟨some 16, none, [], [], .ld true 7 (.t 15)⟩,
 ⟨some 17, none, [], [], .cal (.k (.fn 35 [])) [(.t 16)]⟩,
 ⟨some 14, none, [], [], .mv (.t 17)⟩,
 ⟨some 18, none, [], [], .ext (.t 14) 0⟩,
 ⟨some 19, none, [], [], .ext (.t 14) 1⟩,
 ⟨some 20, none, [], [], .fa 53 (.t 1)⟩,
 ⟨none, none, [], [], .sto 7 (.t 20) (.t 18)⟩] (some [1, 2]))
 (.seq
 (.reg [⟨some 21, none, [], [], .ld true 63 (.t 1)⟩,
 ⟨some 22, none, [], [], .cal (.k (.fn 87 [])) [(.t 21)]⟩,
 ⟨some 23, none, [], [], .ext (.t 22) 0⟩,
 ⟨some 24, none, [], [], .ext (.t 22) 1⟩,
 ⟨none, none, [], [], .sto 63 (.t 2) (.t 23)⟩,
 ⟨some 3, none, [], [], .mv (.t 24)⟩] (some [2, 3]))
 .ret)))
 (.keep [1, 2, 5]
 (.seq
 (.reg [⟨some 26, none, [], [], .bin .eql false (.t 5) (.k (.sc (.int .i64 3)))⟩,
 ⟨some 25, none, [], [], .mv (.t 26)⟩] (some [1, 2, 25]))
 (.cond (.t 25)
 (.keep [1, 2]
 (.seq
 (.reg [⟨some 27, none, [], [], .ld true 63 (.t 1)⟩,
 ⟨some 28, none, [], [], .cal (.k (.fn 86 [])) [(.t 27), (.k (.sc (.int .i64 5)))]⟩,
 ⟨some 29, none, [], [], .ext (.t 28) 0⟩,
 ⟨some 30, none, [], [], .ext (.t 28) 1⟩,
 ⟨none, none, [], [], .sto 63 (.t 2) (.t 29)⟩,
 ⟨some 3, none, [], [], .mv (.t 30)⟩] (some [2, 3]))
 .ret))
 (.keep [1, 2]
 .skip)))))))))))
 (.seq
 (.reg [⟨some 31, none, [], [], .ld true 63 (.t 1)⟩,
 ⟨none, none, [], [], .sto 63 (.t 2) (.t 31)⟩,
 ⟨some 3, none, [], [], .mv (.k .nl)⟩] (some [2, 3]))
 .ret)))
theorem b48 : cmpG Try.prog 48 = some (strip a48, r48, 32) := by kernel_rfl

abbrev r49 : List AR := [.c 4 true 63, .t 5]
abbrev a49 : ACode :=
 (.seq
 (.reg [⟨some 2, none, [], [], .box (.t 0)⟩,
 ⟨some 3, none, [], [], .box (.t 1)⟩,
 ⟨some 4, none, [], [], .alc zF1⟩,
 ⟨some 5, none, [], [], .mv (.k .nl)⟩] (some [2, 3, 4]))
 (.seq
 (.seq
 (.reg (⟨some 6, none, [], [], .fa 0 (.t 2)⟩ ::
 ⟨some 7, none, [], [], .ld false 1 (.t 6)⟩ ::
 ⟨some 8, none, [], [], .bin .lss false (.t 7) (.k (.sc (.int .i64 1)))⟩ ::
 ⟨some 9, none, [], [], .mv (.t 8)⟩ ::
 ⟨some 10, (some (9, false)), [], [], .fa 0 (.t 2)⟩ ::
 ⟨some 11, (some (9, false)), [], [], .ld false 1 (.t 10)⟩ ::
 ⟨some 12, (some (9, false)), [], [], .bin .gtr false (.t 11) (.k (.sc (.int .i64 3)))⟩ ::
 ⟨some 13, none, [], [], .pick (.t 9) (.k (.sc (.bool true))) (.t 12)⟩ ::
 ⟨some 14, none, [], [], .mv (.t 13)⟩ ::
 ⟨some 15, (some (14, false)), [], [], .fa 1 (.t 3)⟩ ::
 ⟨some 16, (some (14, false)), [], [], .ld true 16 (.t 15)⟩ ::
 ⟨some 17, (some (14, false)), [], [], .fa 35 (.t 2)⟩ ::
 ⟨some 18, (some (14, false)), [], [], .ld true 16 (.t 17)⟩ ::
 ⟨some 19, (some (14, false)), [], [], .aeq true 16 [.i, .i, .i, .i, .i, .i, .i, .i, .i, .i, .i, .i, .i, .i, .i, .i] (.t 16) (.t 18)⟩ ::
 ⟨some 20, none, [], [], .pick (.t 14) (.k (.sc (.bool true))) (.t 19)⟩ ::
 ⟨some 21, none, [], [], .mv (.t 20)⟩ ::
 ⟨some 22, (some (21, false)), [], [], .fa 17 (.t 3)⟩ ::
 ⟨some 23, (some (21, false)), [], [], .fa 0 (.t 22)⟩ ::
 ⟨some 24, (some (21, false)), [], [], .ld false 1 (.t 23)⟩ ::
 ⟨some 25, (some (21, false)), [], [], .fa 51 (.t 2)⟩ ::
 ⟨some 26, (some (21, false)), [], [], .fa 0 (.t 25)⟩ ::
 ⟨some 27, (some (21, false)), [], [], .ld false 1 (.t 26)⟩ ::
 ⟨some 28, (some (21, false)), [], [], .bin .neq false (.t 24) (.t 27)⟩ ::
 ⟨some 29, none, [], [], .pick (.t 21) (.k (.sc (.bool true))) (.t 28)⟩ :: []) (some [2, 3, 4, 29]))
 (.cond (.t 29)
 (.keep [2, 4]
 (.seq
 (.reg [⟨some 30, none, [], [], .ld true 63 (.t 2)⟩,
 ⟨none, none, [], [], .sto 63 (.t 4) (.t 30)⟩,
 ⟨some 5, none, [], [], .mv (.k .nl)⟩] (some [4, 5]))
 .ret))
 (.keep [2, 3, 4]
 .skip)))
 (.seq
 (.seq
 (.reg [⟨some 31, none, [], [], .fa 0 (.t 3)⟩,
 ⟨some 32, none, [], [], .ld false 1 (.t 31)⟩] (some [2, 3, 4, 32]))
 (.block 0
 (.seq
 (.block 5
 (.seq
 (.block 4
 (.seq
 (.block 3
 (.seq
 (.block 2
 (.seq
 (.block 1
 (.seq
 (.seq
 (.seq
 (.reg [⟨some 34, none, [], [], .bin .eql false (.t 32) (.k (.sc (.int .i64 2)))⟩,
 ⟨some 33, none, [], [], .mv (.t 34)⟩] (some [2, 3, 4, 32, 33]))
 (.cond (.t 33)
 (.exit 1)
 (.keep [2, 3, 4, 32]
 .skip)))
 (.seq
 (.seq
 (.reg [⟨some 36, none, [], [], .bin .eql false (.t 32) (.k (.sc (.int .i64 4)))⟩,
 ⟨some 35, none, [], [], .mv (.t 36)⟩] (some [2, 3, 4, 32, 35]))
 (.cond (.t 35)
 (.exit 2)
 (.keep [2, 3, 4, 32]
 .skip)))
 (.seq
 (.seq
 (.reg [⟨some 38, none, [], [], .bin .eql false (.t 32) (.k (.sc (.int .i64 7)))⟩,
 ⟨some 37, none, [], [], .mv (.t 38)⟩] (some [2, 3, 4, 32, 37]))
 (.cond (.t 37)
 (.exit 3)
 (.keep [2, 3, 4, 32]
 .skip)))
 (.seq
 (.reg [⟨some 40, none, [], [], .bin .eql false (.t 32) (.k (.sc (.int .i64 6)))⟩,
 ⟨some 39, none, [], [], .mv (.t 40)⟩] (some [2, 3, 4, 39]))
 (.cond (.t 39)
 (.exit 4)
 (.keep [2, 4]
 .skip))))))
 (.keep [2, 4]
 (.exit 5))))
 (.seq
 (.seq
 (.reg [⟨some 41, none, [], [], .ld true 63 (.t 2)⟩,
 ⟨some 42, none, [], [], .ld true 56 (.t 3)⟩,
 ⟨some 43, none, [], [], .cal (.k (.fn 88 [])) [(.t 41), (.t 42)]⟩,
 ⟨some 44, none, [], [], .ext (.t 43) 0⟩,
 ⟨some 45, none, [], [], .ext (.t 43) 1⟩,
 ⟨none, none, [], [], .sto 63 (.t 4) (.t 44)⟩,
 ⟨some 5, none, [], [], .mv (.t 45)⟩] (some [4, 5]))
 .ret)
 (.keep [4]
 (.exit 0)))))
 (.seq
 (.seq
 (.reg [⟨some 46, none, [], [], .ld true 63 (.t 2)⟩,
 ⟨some 47, none, [], [], .ld true 56 (.t 3)⟩,
 ⟨some 48, none, [], [], .cal (.k (.fn 89 [])) [(.t 46), (.t 47)]⟩,
 ⟨some 49, none, [], [], .ext (.t 48) 0⟩,
 ⟨some 50, none, [], [], .ext (.t 48) 1⟩,
 ⟨none, none, [], [], .sto 63 (.t 4) (.t 49)⟩,
 ⟨some 5, none, [], [], .mv (.t 50)⟩] (some [4, 5]))
 .ret)
 (.keep [4]
 (.exit 0)))))
 (.seq
 (.regD [⟨some 51, none, [(.t 3)], [], .fa 55 (.t 3)⟩,
 ⟨some 52, none, [(.t 51)], [], .ld false 1 (.t 51)⟩,
 ⟨some 53, none, [(.t 2)], [0, 1], .fa 0 (.t 2)⟩,
 ⟨none, none, [(.t 53), (.k (.sc (.int .i64 5)))], [0, 1], .sto 1 (.t 53) (.k (.sc (.int .i64 5)))⟩,
 ⟨some 54, none, [(.t 2)], [], .fa 1 (.t 2)⟩,
 ⟨none, none, [(.t 54), (.t 52)], [], .sto 1 (.t 54) (.t 52)⟩] (some [2, 4]))
 (.exit 0))))
 (.seq
 (.seq
 (.reg [⟨some 55, none, [], [], .fa 20 (.t 3)⟩,
 ⟨some 56, none, [], [], .ld false 1 (.t 55)⟩,
 ⟨some 57, none, [], [], .fa 2 (.t 2)⟩,
 ⟨some 58, none, [], [], .ld false 1 (.t 57)⟩,
 ⟨some 59, none, [], [], .lenL (.t 58)⟩,
 ⟨some 60, none, [], [], .cvi .u64 (.t 59)⟩,
 ⟨some 61, none, [], [], .bin .neq false (.t 56) (.t 60)⟩] (some [2, 4, 61]))
 (.cond (.t 61)
 (.exit 0)
 (.keep [2, 4]
 .skip)))
 (.reg [⟨some 62, none, [], [], .fa 0 (.t 2)⟩,
 ⟨none, none, [], [], .sto 1 (.t 62) (.k (.sc (.int .i64 4)))⟩] (some [2, 4])))))
 (.seq
 (.reg [⟨some 63, none, [], [], .fa 1 (.t 2)⟩,
 ⟨none, none, [], [], .sto 1 (.t 63) (.k (.sc (.int .i64 0)))⟩] (some [2, 4]))
 (.exit 0)))))
 (.seq
 (.reg [⟨some 64, none, [], [], .ld true 63 (.t 2)⟩,
 ⟨none, none, [], [], .sto 63 (.t 4) (.t 64)⟩,
 ⟨some 5, none, [], [], .mv (.k .nl)⟩] (some [4, 5]))
 .ret))))
theorem b49 : cmpG Try.prog 49 = some (strip a49, r49, 65) := by kernel_rfl

abbrev r50 : List AR := [.c 2 true 56]
abbrev a50 : ACode :=
 (.seq
 (.reg [⟨some 1, none, [], [], .box (.t 0)⟩,
 ⟨some 2, none, [], [], .alc zF2⟩] (some [1, 2]))
 (.seq
 (.reg [⟨some 6, none, [], [], .fa 0 (.t 1)⟩,
 ⟨some 7, none, [], [], .ld false 1 (.t 6)⟩,
 ⟨some 8, none, [], [], .fa 1 (.t 1)⟩,
 ⟨some 9, none, [], [], .ld true 16 (.t 8)⟩,
 ⟨some 10, none, [], [], .fa 17 (.t 1)⟩,
 ⟨some 11, none, [], [], .ld true 2 (.t 10)⟩,
 ⟨some 12, none, [], [], .fa 19 (.t 1)⟩,
 ⟨some 13, none, [], [], .ld false 1 (.t 12)⟩,
 ⟨some 14, none, [], [], .fa 20 (.t 1)⟩,
 ⟨some 15, none, [], [], .ld false 1 (.t 14)⟩,
 ⟨some 16, none, [], [], .fa 21 (.t 1)⟩,
 ⟨some 17, none, [], [], .ld true 32 (.t 16)⟩,
 ⟨some 18, none, [], [], .fa 53 (.t 1)⟩,
 ⟨some 19, none, [], [], .ld false 1 (.t 18)⟩,
 ⟨some 20, none, [], [], .fa 55 (.t 1)⟩,
 ⟨some 21, none, [], [], .ld false 1 (.t 20)⟩,
 ⟨some 22, none, [], [], .bld zF2 [(0, 1, (.t 7)), (1, 16, (.t 9)), (17, 2, (.t 11)), (19, 1, (.t 13)), (20, 1, (.t 15)), (21, 32, (.t 17)), (53, 1, (.t 19)), (55, 1, (.t 21))]⟩,
 ⟨some 3, none, [], [], .alc zF2⟩,
 ⟨none, none, [], [], .sto 56 (.t 3) (.t 22)⟩] (some [1, 2, 3]))
 (.seq
 (.seq
 (.reg [⟨some 23, none, [], [], .fa 54 (.t 1)⟩,
 ⟨some 24, none, [], [], .ld false 1 (.t 23)⟩,
 ⟨some 25, none, [], [], .lenL (.t 24)⟩,
 ⟨some 26, none, [], [], .mv (.k (.sc (.int .i64 0)))⟩] (some [2, 3, 24, 25, 26]))
 (.block 0
 (.loop
 (.seq
 (.reg [⟨some 27, none, [], [], .bin .lss false (.t 26) (.t 25)⟩] none)
 (.seq
 (.cond (.t 27)
 (.keep [2, 3, 24, 25, 26]
 .skip)
 (.exit 0))
 (.seq
 (.block 1
 (.seq
 (.reg [⟨some 28, none, [], [], .ixaS 2 (.t 24) (.t 26)⟩,
 ⟨some 29, none, [], [], .ld true 2 (.t 28)⟩,
 ⟨some 5, none, [], [], .alc [(.sc (.int .u64 0)), (.sc (.int .u64 0))]⟩,
 ⟨none, none, [], [], .sto 2 (.t 5) (.t 29)⟩] (some [2, 3, 5, 24, 25, 26]))
 (.reg [⟨some 30, none, [], [], .fa 54 (.t 3)⟩,
 ⟨some 31, none, [], [], .ld false 1 (.t 30)⟩,
 ⟨some 32, none, [], [], .ld true 2 (.t 5)⟩,
 ⟨some 33, none, [], [], .bsl 1 2 [(.sc (.int .u64 0)), (.sc (.int .u64 0))] [(0, 2, (.t 32))]⟩,
 ⟨some 34, none, [], [], .app 2 16 (.t 31) (.t 33)⟩,
 ⟨some 35, none, [], [], .fa 54 (.t 3)⟩,
 ⟨none, none, [], [], .sto 1 (.t 35) (.t 34)⟩] (some [2, 3, 24, 25, 26]))))
 (.reg [⟨some 36, none, [], [], .bin .add false (.t 26) (.k (.sc (.int .i64 1)))⟩,
 ⟨some 26, none, [], [], .mv (.t 36)⟩] (some [2, 3, 24, 25, 26]))))))))
 (.seq
 (.reg [⟨some 37, none, [], [], .ld true 56 (.t 3)⟩,
 ⟨none, none, [], [], .sto 56 (.t 2) (.t 37)⟩] (some [2]))
 .ret))))
theorem b50 : cmpG Try.prog 50 = some (strip a50, r50, 38) := by kernel_rfl

abbrev r51 : List AR := [.c 6 true 56]
abbrev a51 : ACode :=
 (.seq
 (.reg [⟨some 3, none, [], [], .box (.t 0)⟩,
 ⟨some 4, none, [], [], .box (.t 1)⟩,
 ⟨some 5, none, [], [], .box (.t 2)⟩,
 ⟨some 6, none, [], [], .alc zF2⟩] (some [3, 4, 5, 6]))
 (.seq
 (.reg [⟨some 8, none, [], [], .fa 3 (.t 3)⟩,
 ⟨some 9, none, [], [], .ld true 56 (.t 8)⟩,
 ⟨some 7, none, [], [], .alc zF2⟩,
 ⟨none, none, [], [], .sto 56 (.t 7) (.t 9)⟩] (some [3, 4, 5, 6, 7]))
 (.seq
 (.seq
 (.reg [⟨some 10, none, [], [], .fa 1 (.t 3)⟩,
 ⟨some 11, none, [], [], .ld false 1 (.t 10)⟩] (some [3, 4, 5, 6, 7, 11]))
 (.cond (.t 11)
 (.keep [3, 4, 5, 6, 7]
 (.regD [⟨some 12, none, [(.t 4)], [], .ld true 16 (.t 4)⟩,
 ⟨some 13, none, [(.t 5)], [0], .fa 0 (.t 5)⟩,
 ⟨some 14, none, [(.t 13)], [0], .ld false 1 (.t 13)⟩,
 ⟨some 15, none, [(.t 7)], [1, 2], .fa 1 (.t 7)⟩,
 ⟨none, none, [(.t 15), (.t 12)], [1, 2], .sto 16 (.t 15) (.t 12)⟩,
 ⟨some 16, none, [(.t 7)], [], .fa 17 (.t 7)⟩,
 ⟨some 17, none, [(.t 16)], [], .fa 0 (.t 16)⟩,
 ⟨none, none, [(.t 17), (.t 14)], [], .sto 1 (.t 17) (.t 14)⟩] (some [3, 5, 6, 7])))
 (.keep [3, 5, 6, 7]
 .skip)))
 (.seq
 (.seq
 (.reg [⟨some 18, none, [], [], .fa 2 (.t 3)⟩,
 ⟨some 19, none, [], [], .ld false 1 (.t 18)⟩] (some [5, 6, 7, 19]))
 (.cond (.t 19)
 (.keep [5, 6, 7]
 (.reg [⟨some 20, none, [], [], .ld true 2 (.t 5)⟩,
 ⟨some 21, none, [], [], .fa 17 (.t 7)⟩,
 ⟨none, none, [], [], .sto 2 (.t 21) (.t 20)⟩] (some [6, 7])))
 (.keep [6, 7]
 .skip)))
 (.seq
 (.reg [⟨some 22, none, [], [], .ld true 56 (.t 7)⟩,
 ⟨none, none, [], [], .sto 56 (.t 6) (.t 22)⟩] (some [6]))
 .ret)))))
theorem b51 : cmpG Try.prog 51 = some (strip a51, r51, 23) := by kernel_rfl

abbrev r52 : List AR := [.c 2 true 2]
abbrev a52 : ACode :=
 (.seq
 (.reg [⟨some 1, none, [], [], .box (.t 0)⟩,
 ⟨some 2, none, [], [], .alc [(.sc (.int .u32 0)), (.sc (.int .u32 0))]⟩] (some [1, 2]))
 (.seq
 (.reg [⟨some 3, none, [], [], .fa 51 (.t 1)⟩,
 ⟨some 4, none, [], [], .ld true 2 (.t 3)⟩,
 ⟨none, none, [], [], .sto 2 (.t 2) (.t 4)⟩] (some [2]))
 .ret))
theorem b52 : cmpG Try.prog 52 = some (strip a52, r52, 5) := by kernel_rfl

abbrev r53 : List AR := [.t 2, .t 3]
abbrev a53 : ACode :=
 (.seq
 (.reg [⟨some 1, none, [], [], .box (.t 0)⟩,
 ⟨some 2, none, [], [], .mv (.k (.sc (.int .i64 0)))⟩,
 ⟨some 3, none, [], [], .mv (.k (.sc (.int .i64 0)))⟩] (some [1]))
 (.seq
 (.regD [⟨some 4, none, [(.t 1)], [], .fa 0 (.t 1)⟩,
 ⟨some 5, none, [(.t 4)], [], .ld false 1 (.t 4)⟩,
 ⟨some 6, none, [(.t 1)], [0, 1], .fa 1 (.t 1)⟩,
 ⟨some 7, none, [(.t 6)], [0, 1], .ld false 1 (.t 6)⟩,
 ⟨some 2, none, [(.t 5)], [2, 3], .mv (.t 5)⟩,
 ⟨some 3, none, [(.t 7)], [], .mv (.t 7)⟩] (some [2, 3]))
 .ret))
theorem b53 : cmpG Try.prog 53 = some (strip a53, r53, 8) := by kernel_rfl

abbrev r54 : List AR := [.t 2]
abbrev a54 : ACode :=
 (.seq
 (.reg [⟨some 1, none, [], [], .box (.t 0)⟩,
 ⟨some 2, none, [], [], .mv (.k (.sc (.int .i64 0)))⟩] (some [1]))
 (.seq
 (.reg [⟨some 3, none, [], [], .fa 53 (.t 1)⟩,
 ⟨some 4, none, [], [], .ld true 7 (.t 3)⟩,
 ⟨some 5, none, [], [], .cal (.k (.fn 34 [])) [(.t 4)]⟩,
 ⟨some 2, none, [], [], .mv (.t 5)⟩] (some [2]))
 .ret))
theorem b54 : cmpG Try.prog 54 = some (strip a54, r54, 6) := by kernel_rfl

abbrev r86 : List AR := [.c 4 true 63, .t 5]
abbrev a86 : ACode :=
 (.seq
 (.reg [⟨some 2, none, [], [], .box (.t 0)⟩,
 ⟨some 4, none, [], [], .alc zF1⟩,
 ⟨some 5, none, [], [], .mv (.k .nl)⟩] (some [1, 2, 4]))
 (.seq
 (.reg [⟨some 9, none, [], [], .fa 60 (.t 2)⟩,
 ⟨some 10, none, [], [], .ld true 3 (.t 9)⟩,
 ⟨some 11, none, [], [], .cal (.k (.fn 74 [])) [(.t 10)]⟩,
 ⟨some 8, none, [], [], .mv (.t 11)⟩,
 ⟨some 12, none, [], [], .ext (.t 8) 0⟩,
 ⟨some 13, none, [], [], .ext (.t 8) 1⟩,
 ⟨some 6, none, [], [], .alc [(.sc (.bool false)), (.sc (.int .i64 0)), (.sc (.int .i64 0))]⟩,
 ⟨none, none, [], [], .sto 3 (.t 6) (.t 12)⟩,
 ⟨some 7, none, [], [], .mv (.t 13)⟩] (some [1, 2, 4, 6, 7]))
 (.seq
 (.reg [⟨some 14, none, [], [], .ld true 3 (.t 6)⟩,
 ⟨some 15, none, [], [], .fa 60 (.t 2)⟩,
 ⟨none, none, [], [], .sto 3 (.t 15) (.t 14)⟩] (some [1, 2, 4, 7]))
 (.seq
 (.seq
 (.reg [⟨some 16, none, [], [], .mv (.t 7)⟩,
 ⟨some 17, none, [], [], .un .not (.t 16)⟩] (some [1, 2, 4, 17]))
 (.cond (.t 17)
 (.keep [2, 4]
 (.seq
 (.reg [⟨some 18, none, [], [], .ld true 63 (.t 2)⟩,
 ⟨none, none, [], [], .sto 63 (.t 4) (.t 18)⟩,
 ⟨some 5, none, [], [], .mv (.k .nl)⟩] (some [4, 5]))
 .ret))
 (.keep [1, 2, 4]
 .skip)))
 (.seq
 (.regD [⟨some 19, none, [(.t 2)], [], .ld true 63 (.t 2)⟩,
 ⟨some 20, none, [(.t 2)], [0], .ld true 63 (.t 2)⟩,
 ⟨some 21, none, [(.t 1)], [0, 1], .mv (.t 1)⟩,
 ⟨some 22, none, [(.k (.fn 119 [])), (.t 20), (.t 21)], [0], .cal (.k (.fn 119 [])) [(.t 20), (.t 21)]⟩,
 ⟨none, none, [(.t 4), (.t 19)], [], .sto 63 (.t 4) (.t 19)⟩,
 ⟨some 5, none, [(.t 22)], [], .mv (.t 22)⟩] (some [4, 5]))
 .ret)))))
theorem b86 : cmpG Try.prog 86 = some (strip a86, r86, 23) := by kernel_rfl

abbrev r87 : List AR := [.c 2 true 63, .t 3]
abbrev a87 : ACode :=
 (.seq
 (.reg [⟨some 1, none, [], [], .box (.t 0)⟩,
 ⟨some 2, none, [], [], .alc zF1⟩,
 ⟨some 3, none, [], [], .mv (.k .nl)⟩] (some [1, 2]))
 (.seq
 (.reg [⟨some 11, none, [], [], .fa 53 (.t 1)⟩,
 ⟨some 12, none, [], [], .ld true 7 (.t 11)⟩,
 ⟨some 13, none, [], [], .cal (.k (.fn 32 [])) [(.t 12)]⟩,
 ⟨some 10, none, [], [], .mv (.t 13)⟩,
 ⟨some 14, none, [], [], .ext (.t 10) 0⟩,
 ⟨some 15, none, [], [], .ext (.t 10) 1⟩,
 ⟨some 4, none, [], [], .alc [.nl, (.sc (.int .i64 0)), .nl, .nl, (.sc (.bool false)), (.sc (.int .i64 0)), (.sc (.int .i64 0))]⟩,
 ⟨none, none, [], [], .sto 7 (.t 4) (.t 14)⟩,
 ⟨some 5, none, [], [], .mv (.t 15)⟩] (some [1, 2, 4, 5]))
 (.seq
 (.reg [⟨some 16, none, [], [], .ld true 7 (.t 4)⟩,
 ⟨some 17, none, [], [], .fa 53 (.t 1)⟩,
 ⟨none, none, [], [], .sto 7 (.t 17) (.t 16)⟩] (some [1, 2, 5]))
 (.seq
 (.reg [⟨some 6, none, [], [], .mv (.k .nl)⟩] none)
 (.seq
 (.seq
 (.reg [⟨some 18, none, [], [], .mv (.t 5)⟩,
 ⟨some 19, none, [], [], .lenL (.t 18)⟩,
 ⟨some 20, none, [], [], .mv (.k (.sc (.int .i64 0)))⟩] (some [1, 2, 6, 18, 19, 20]))
 (.block 0
 (.loop
 (.seq
 (.reg [⟨some 21, none, [], [], .bin .lss false (.t 20) (.t 19)⟩] none)
 (.seq
 (.cond (.t 21)
 (.keep [1, 2, 6, 18, 19, 20]
 .skip)
 (.exit 0))
 (.seq
 (.block 1
 (.seq
 (.reg [⟨some 22, none, [], [], .ixaS 2 (.t 18) (.t 20)⟩,
 ⟨some 23, none, [], [], .ld true 2 (.t 22)⟩,
 ⟨some 8, none, [], [], .alc [(.sc (.int .i64 0)), .nl]⟩,
 ⟨none, none, [], [], .sto 2 (.t 8) (.t 23)⟩] (some [1, 2, 6, 8, 18, 19, 20]))
 (.seq
 (.reg [⟨some 24, none, [], [], .ld true 63 (.t 1)⟩,
 ⟨some 25, none, [], [], .cal (.k (.fn 120 [])) [(.t 24), (.k (.sc (.int .i64 3)))]⟩,
 ⟨some 9, none, [], [], .alc zF2⟩,
 ⟨none, none, [], [], .sto 56 (.t 9) (.t 25)⟩] (some [1, 2, 6, 8, 9, 18, 19, 20]))
 (.seq
 (.regD [⟨some 26, none, [(.t 8)], [], .fa 0 (.t 8)⟩,
 ⟨some 27, none, [(.t 26)], [], .ld false 1 (.t 26)⟩,
 ⟨some 28, none, [(.t 27)], [], .cvi .u64 (.t 27)⟩,
 ⟨some 29, none, [(.t 8)], [0, 1, 2], .fa 1 (.t 8)⟩,
 ⟨some 30, none, [(.t 29)], [0, 1, 2], .ld false 1 (.t 29)⟩,
 ⟨some 31, none, [(.t 9)], [3, 4], .fa 19 (.t 9)⟩,
 ⟨none, none, [(.t 31), (.t 28)], [3, 4], .sto 1 (.t 31) (.t 28)⟩,
 ⟨some 32, none, [(.t 9)], [], .fa 53 (.t 9)⟩,
 ⟨none, none, [(.t 32), (.t 30)], [], .sto 1 (.t 32) (.t 30)⟩] (some [1, 2, 6, 9, 18, 19, 20]))
 (.reg [⟨some 33, none, [], [], .mv (.t 6)⟩,
 ⟨some 34, none, [], [], .ld true 56 (.t 9)⟩,
 ⟨some 35, none, [], [], .bsl 1 56 zF2 [(0, 56, (.t 34))]⟩,
 ⟨some 36, none, [], [], .app 56 136 (.t 33) (.t 35)⟩,
 ⟨some 6, none, [], [], .mv (.t 36)⟩] (some [1, 2, 6, 18, 19, 20]))))))
 (.reg [⟨some 37, none, [], [], .bin .add false (.t 20) (.k (.sc (.int .i64 1)))⟩,
 ⟨some 20, none, [], [], .mv (.t 37)⟩] (some [1, 2, 6, 18, 19, 20]))))))))
 (.seq
 (.reg [⟨some 38, none, [], [], .ld true 63 (.t 1)⟩,
 ⟨some 39, none, [], [], .mv (.t 6)⟩,
 ⟨none, none, [], [], .sto 63 (.t 2) (.t 38)⟩,
 ⟨some 3, none, [], [], .mv (.t 39)⟩] (some [2, 3]))
 .ret))))))
theorem b87 : cmpG Try.prog 87 = some (strip a87, r87, 40) := by kernel_rfl

abbrev r88 : List AR := [.c 4 true 63, .t 5]
abbrev a88 : ACode :=
 (.seq
 (.reg [⟨some 2, none, [], [], .box (.t 0)⟩,
 ⟨some 3, none, [], [], .box (.t 1)⟩,
 ⟨some 4, none, [], [], .alc zF1⟩,
 ⟨some 5, none, [], [], .mv (.k .nl)⟩] (some [2, 3, 4]))
 (.seq
 (.reg [⟨some 10, none, [], [], .fa 51 (.t 2)⟩,
 ⟨some 11, none, [], [], .fa 1 (.t 10)⟩,
 ⟨some 12, none, [], [], .ld false 1 (.t 11)⟩,
 ⟨some 6, none, [], [], .mv (.t 12)⟩] (some [2, 3, 4, 6]))
 (.seq
 (.reg [⟨some 13, none, [], [], .fa 17 (.t 3)⟩,
 ⟨some 14, none, [], [], .fa 1 (.t 13)⟩,
 ⟨some 15, none, [], [], .ld false 1 (.t 14)⟩,
 ⟨some 16, none, [], [], .mv (.t 6)⟩,
 ⟨some 17, none, [], [], .bin .gtr false (.t 15) (.t 16)⟩,
 ⟨some 18, none, [], [], .mv (.t 17)⟩,
 ⟨some 19, (some (18, false)), [], [], .fa 0 (.t 2)⟩,
 ⟨some 20, (some (18, false)), [], [], .ld false 1 (.t 19)⟩,
 ⟨some 21, (some (18, false)), [], [], .bin .eql false (.t 20) (.k (.sc (.int .i64 1)))⟩,
 ⟨some 22, (some (18, false)), [], [], .mv (.t 21)⟩,
 ⟨some 23, (some (22, true)), [], [], .fa 17 (.t 3)⟩,
 ⟨some 24, (some (22, true)), [], [], .fa 1 (.t 23)⟩,
 ⟨some 25, (some (22, true)), [], [], .ld false 1 (.t 24)⟩,
 ⟨some 26, (some (22, true)), [], [], .mv (.t 6)⟩,
 ⟨some 27, (some (22, true)), [], [], .bin .eql false (.t 25) (.t 26)⟩,
 ⟨some 28, (some (18, false)), [], [], .pick (.t 22) (.t 27) (.k (.sc (.bool false)))⟩,
 ⟨some 29, none, [], [], .pick (.t 18) (.k (.sc (.bool true))) (.t 28)⟩,
 ⟨some 7, none, [], [], .mv (.t 29)⟩] (some [2, 3, 4, 7]))
 (.seq
 (.seq
 (.reg [⟨some 30, none, [], [], .mv (.t 7)⟩,
 ⟨some 31, none, [], [], .un .not (.t 30)⟩,
 ⟨some 32, none, [], [], .mv (.t 31)⟩,
 ⟨some 33, (some (32, false)), [], [], .fa 19 (.t 3)⟩,
 ⟨some 34, (some (32, false)), [], [], .ld false 1 (.t 33)⟩,
 ⟨some 35, (some (32, false)), [], [], .bin .gtr false (.t 34) (.k (.sc (.int .u64 4611686018427387904)))⟩,
 ⟨some 36, none, [], [], .pick (.t 32) (.k (.sc (.bool true))) (.t 35)⟩] (some [2, 3, 4, 36]))
 (.cond (.t 36)
 (.keep [2, 4]
 (.seq
 (.reg [⟨some 37, none, [], [], .ld true 63 (.t 2)⟩,
 ⟨none, none, [], [], .sto 63 (.t 4) (.t 37)⟩,
 ⟨some 5, none, [], [], .mv (.k .nl)⟩] (some [4, 5]))
 .ret))
 (.keep [2, 3, 4]
 .skip)))
 (.seq
 (.reg [⟨some 39, none, [], [], .fa 2 (.t 2)⟩,
 ⟨some 40, none, [], [], .ld false 1 (.t 39)⟩,
 ⟨some 41, none, [], [], .fa 19 (.t 3)⟩,
 ⟨some 42, none, [], [], .ld false 1 (.t 41)⟩,
 ⟨some 43, none, [], [], .cvi .i64 (.t 42)⟩,
 ⟨some 44, none, [], [], .cal (.k (.fn 31 [])) [(.t 40), (.t 43)]⟩,
 ⟨some 38, none, [], [], .mv (.t 44)⟩,
 ⟨some 45, none, [], [], .ext (.t 38) 0⟩,
 ⟨some 46, none, [], [], .ext (.t 38) 1⟩,
 ⟨some 8, none, [], [], .alc [.nl, (.sc (.int .i64 0)), .nl, .nl, (.sc (.bool false)), (.sc (.int .i64 0)), (.sc (.int .i64 0))]⟩,
 ⟨none, none, [], [], .sto 7 (.t 8) (.t 45)⟩,
 ⟨some 9, none, [], [], .mv (.t 46)⟩] (some [2, 3, 4, 8, 9]))
 (.seq
 (.seq
 (.reg [⟨some 47, none, [], [], .mv (.t 9)⟩,
 ⟨some 48, none, [], [], .bin .neq false (.t 47) (.k (.sc (.int .i64 0)))⟩] (some [2, 3, 4, 8, 48]))
 (.cond (.t 48)
 (.keep [2, 4]
 (.seq
 (.reg [⟨some 49, none, [], [], .ld true 63 (.t 2)⟩,
 ⟨none, none, [], [], .sto 63 (.t 4) (.t 49)⟩,
 ⟨some 5, none, [], [], .mv (.k .nl)⟩] (some [4, 5]))
 .ret))
 (.keep [2, 3, 4, 8]
 .skip)))
 (.seq
 (.regD [⟨some 50, none, [(.t 8)], [], .ld true 7 (.t 8)⟩,
 ⟨some 51, none, [(.t 3)], [0], .fa 17 (.t 3)⟩,
 ⟨some 52, none, [(.t 51)], [0], .fa 1 (.t 51)⟩,
 ⟨some 53, none, [(.t 52)], [0], .ld false 1 (.t 52)⟩,
 ⟨some 54, none, [(.t 2)], [1, 2, 3], .fa 53 (.t 2)⟩,
 ⟨none, none, [(.t 54), (.t 50)], [1, 2, 3], .sto 7 (.t 54) (.t 50)⟩,
 ⟨some 55, none, [(.t 2)], [], .fa 51 (.t 2)⟩,
 ⟨some 56, none, [(.t 55)], [], .fa 1 (.t 55)⟩,
 ⟨none, none, [(.t 56), (.t 53)], [], .sto 1 (.t 56) (.t 53)⟩,
 ⟨some 57, none, [(.t 2)], [], .fa 0 (.t 2)⟩,
 ⟨none, none, [(.t 57), (.k (.sc (.int .i64 2)))], [], .sto 1 (.t 57) (.k (.sc (.int .i64 2)))⟩] (some [2, 4]))
 (.seq
 (.reg [⟨some 58, none, [], [], .ld true 63 (.t 2)⟩,
 ⟨some 59, none, [], [], .cal (.k (.fn 121 [])) [(.t 58)]⟩,
 ⟨some 60, none, [], [], .ext (.t 59) 0⟩,
 ⟨some 61, none, [], [], .ext (.t 59) 1⟩,
 ⟨none, none, [], [], .sto 63 (.t 4) (.t 60)⟩,
 ⟨some 5, none, [], [], .mv (.t 61)⟩] (some [4, 5]))
 .ret))))))))
theorem b88 : cmpG Try.prog 88 = some (strip a88, r88, 62) := by kernel_rfl

abbrev r89 : List AR := [.c 4 true 63, .t 5]
abbrev a89 : ACode :=
 (.seq
 (.reg [⟨some 2, none, [], [], .box (.t 0)⟩,
 ⟨some 3, none, [], [], .box (.t 1)⟩,
 ⟨some 4, none, [], [], .alc zF1⟩,
 ⟨some 5, none, [], [], .mv (.k .nl)⟩] (some [2, 3, 4]))
 (.seq
 (.seq
 (.reg [⟨some 8, none, [], [], .fa 0 (.t 2)⟩,
 ⟨some 9, none, [], [], .ld false 1 (.t 8)⟩,
 ⟨some 10, none, [], [], .bin .neq false (.t 9) (.k (.sc (.int .i64 2)))⟩,
 ⟨some 11, none, [], [], .mv (.t 10)⟩,
 ⟨some 12, (some (11, false)), [], [], .fa 17 (.t 3)⟩,
 ⟨some 13, (some (11, false)), [], [], .ld true 2 (.t 12)⟩,
 ⟨some 14, (some (11, false)), [], [], .fa 51 (.t 2)⟩,
 ⟨some 15, (some (11, false)), [], [], .ld true 2 (.t 14)⟩,
 ⟨some 16, (some (11, false)), [], [], .aeq true 2 [.i, .i] (.t 13) (.t 15)⟩,
 ⟨some 17, none, [], [], .pick (.t 11) (.k (.sc (.bool true))) (.t 16)⟩,
 ⟨some 18, none, [], [], .mv (.t 17)⟩,
 ⟨some 19, (some (18, false)), [], [], .fa 19 (.t 3)⟩,
 ⟨some 20, (some (18, false)), [], [], .ld false 1 (.t 19)⟩,
 ⟨some 21, (some (18, false)), [], [], .bin .gtr false (.t 20) (.k (.sc (.int .u64 4611686018427387904)))⟩,
 ⟨some 22, none, [], [], .pick (.t 18) (.k (.sc (.bool true))) (.t 21)⟩] (some [2, 3, 4, 22]))
 (.cond (.t 22)
 (.keep [2, 4]
 (.seq
 (.reg [⟨some 23, none, [], [], .ld true 63 (.t 2)⟩,
 ⟨none, none, [], [], .sto 63 (.t 4) (.t 23)⟩,
 ⟨some 5, none, [], [], .mv (.k .nl)⟩] (some [4, 5]))
 .ret))
 (.keep [2, 3, 4]
 .skip)))
 (.seq
 (.regD [⟨some 25, none, [(.t 2)], [], .fa 53 (.t 2)⟩,
 ⟨some 26, none, [(.t 25)], [], .ld true 7 (.t 25)⟩,
 ⟨some 27, none, [(.t 3)], [0, 1], .fa 19 (.t 3)⟩,
 ⟨some 28, none, [(.t 27)], [0, 1], .ld false 1 (.t 27)⟩,
 ⟨some 29, none, [(.t 28)], [0, 1], .cvi .i64 (.t 28)⟩,
 ⟨some 30, none, [(.t 3)], [0, 1, 2, 3, 4], .fa 54 (.t 3)⟩,
 ⟨some 31, none, [(.t 30)], [0, 1, 2, 3, 4], .ld false 1 (.t 30)⟩,
 ⟨some 32, none, [(.k (.fn 12 [])), (.t 31)], [0, 1, 2, 3, 4], .cal (.k (.fn 12 [])) [(.t 31)]⟩,
 ⟨some 33, none, [(.k (.fn 33 [])), (.t 26), (.t 29), (.t 32)], [], .cal (.k (.fn 33 [])) [(.t 26), (.t 29), (.t 32)]⟩,
 ⟨some 24, none, [(.t 33)], [], .mv (.t 33)⟩,
 ⟨some 34, none, [(.t 24)], [], .ext (.t 24) 0⟩,
 ⟨some 35, none, [(.t 24)], [10], .ext (.t 24) 1⟩,
 ⟨some 6, none, [], [0, 1, 2, 3, 4, 5, 6, 7, 8, 9, 10, 11], .alc [.nl, (.sc (.int .i64 0)), .nl, .nl, (.sc (.bool false)), (.sc (.int .i64 0)), (.sc (.int .i64 0))]⟩,
 ⟨none, none, [(.t 6), (.t 34)], [11], .sto 7 (.t 6) (.t 34)⟩,
 ⟨some 7, none, [(.t 35)], [], .mv (.t 35)⟩] (some [2, 4, 6, 7]))
 (.seq
 (.reg [⟨some 36, none, [], [], .ld true 7 (.t 6)⟩,
 ⟨some 37, none, [], [], .fa 53 (.t 2)⟩,
 ⟨none, none, [], [], .sto 7 (.t 37) (.t 36)⟩] (some [2, 4, 7]))
 (.seq
 (.seq
 (.reg [⟨some 38, none, [], [], .mv (.t 7)⟩,
 ⟨some 39, none, [], [], .un .not (.t 38)⟩] (some [2, 4, 39]))
 (.cond (.t 39)
 (.keep [2, 4]
 (.seq
 (.reg [⟨some 40, none, [], [], .ld true 63 (.t 2)⟩,
 ⟨none, none, [], [], .sto 63 (.t 4) (.t 40)⟩,
 ⟨some 5, none, [], [], .mv (.k .nl)⟩] (some [4, 5]))
 .ret))
 (.keep [2, 4]
 .skip)))
 (.seq
 (.reg [⟨some 41, none, [], [], .ld true 63 (.t 2)⟩,
 ⟨some 42, none, [], [], .cal (.k (.fn 121 [])) [(.t 41)]⟩,
 ⟨some 43, none, [], [], .ext (.t 42) 0⟩,
 ⟨some 44, none, [], [], .ext (.t 42) 1⟩,
 ⟨none, none, [], [], .sto 63 (.t 4) (.t 43)⟩,
 ⟨some 5, none, [], [], .mv (.t 44)⟩] (some [4, 5]))
 .ret))))))
theorem b89 : cmpG Try.prog 89 = some (strip a89, r89, 45) := by kernel_rfl

abbrev r119 : List AR := [.t 4]
abbrev a119 : ACode :=
 (.seq
 (.reg [⟨some 2, none, [], [], .box (.t 0)⟩,
 ⟨some 4, none, [], [], .mv (.k .nl)⟩] (some [1, 2]))
 (.seq
 (.reg [⟨some 6, none, [], [], .ld true 63 (.t 2)⟩,
 ⟨some 7, none, [], [], .mv (.t 1)⟩,
 ⟨some 8, none, [], [], .cal (.k (.fn 120 [])) [(.t 6), (.t 7)]⟩,
 ⟨some 5, none, [], [], .alc zF2⟩,
 ⟨none, none, [], [], .sto 56 (.t 5) (.t 8)⟩] (some [2, 5]))
 (.seq
 (.regD [⟨some 9, none, [(.t 2)], [], .fa 2 (.t 2)⟩,
 ⟨some 10, none, [(.t 9)], [], .ld false 1 (.t 9)⟩,
 ⟨some 11, none, [(.t 10)], [], .lenL (.t 10)⟩,
 ⟨some 12, none, [(.t 11)], [], .cvi .u64 (.t 11)⟩,
 ⟨some 13, none, [(.t 2)], [0, 1, 2, 3], .fa 3 (.t 2)⟩,
 ⟨some 14, none, [(.t 13)], [0, 1, 2, 3], .ld true 32 (.t 13)⟩,
 ⟨some 15, none, [(.t 5)], [4, 5], .fa 20 (.t 5)⟩,
 ⟨none, none, [(.t 15), (.t 12)], [4, 5], .sto 1 (.t 15) (.t 12)⟩,
 ⟨some 16, none, [(.t 5)], [], .fa 21 (.t 5)⟩,
 ⟨none, none, [(.t 16), (.t 14)], [], .sto 32 (.t 16) (.t 14)⟩] (some [5]))
 (.seq
 (.reg [⟨some 17, none, [], [], .ld true 56 (.t 5)⟩,
 ⟨some 18, none, [], [], .bsl 1 56 zF2 [(0, 56, (.t 17))]⟩,
 ⟨some 4, none, [], [], .mv (.t 18)⟩] (some [4]))
 .ret))))
theorem b119 : cmpG Try.prog 119 = some (strip a119, r119, 19) := by kernel_rfl

abbrev r120 : List AR := [.c 4 true 56]
abbrev a120 : ACode :=
 (.seq
 (.reg [⟨some 2, none, [], [], .box (.t 0)⟩,
 ⟨some 4, none, [], [], .alc zF2⟩] (some [1, 2, 4]))
 (.seq
 (.reg [⟨some 5, none, [], [], .mv (.t 1)⟩,
 ⟨some 6, none, [], [], .fa 35 (.t 2)⟩,
 ⟨some 7, none, [], [], .ld true 16 (.t 6)⟩,
 ⟨some 8, none, [], [], .fa 51 (.t 2)⟩,
 ⟨some 9, none, [], [], .ld true 2 (.t 8)⟩,
 ⟨some 10, none, [], [], .bld zF2 [(0, 1, (.t 5)), (1, 16, (.t 7)), (17, 2, (.t 9))]⟩,
 ⟨none, none, [], [], .sto 56 (.t 4) (.t 10)⟩] (some [4]))
 .ret))
theorem b120 : cmpG Try.prog 120 = some (strip a120, r120, 11) := by kernel_rfl

abbrev r121 : List AR := [.c 2 true 63, .t 3]
abbrev a121 : ACode :=
 (.seq
 (.reg [⟨some 1, none, [], [], .box (.t 0)⟩,
 ⟨some 2, none, [], [], .alc zF1⟩,
 ⟨some 3, none, [], [], .mv (.k .nl)⟩] (some [1, 2]))
 (.seq
 (.seq
 (.reg [⟨some 4, none, [], [], .fa 53 (.t 1)⟩,
 ⟨some 5, none, [], [], .ld true 7 (.t 4)⟩,
 ⟨some 6, none, [], [], .cal (.k (.fn 36 [])) [(.t 5)]⟩,
 ⟨some 7, none, [], [], .un .not (.t 6)⟩] (some [1, 2, 7]))
 (.cond (.t 7)
 (.keep [1, 2]
 (.seq
 (.reg [⟨some 8, none, [], [], .ld true 63 (.t 1)⟩,
 ⟨some 9, none, [], [], .cal (.k (.fn 87 [])) [(.t 8)]⟩,
 ⟨some 10, none, [], [], .ext (.t 9) 0⟩,
 ⟨some 11, none, [], [], .ext (.t 9) 1⟩,
 ⟨none, none, [], [], .sto 63 (.t 2) (.t 10)⟩,
 ⟨some 3, none, [], [], .mv (.t 11)⟩] (some [2, 3]))
 .ret))
 (.keep [1, 2]
 .skip)))
 (.seq
 (.reg [⟨some 12, none, [], [], .fa 0 (.t 1)⟩,
 ⟨none, none, [], [], .sto 1 (.t 12) (.k (.sc (.int .i64 3)))⟩] (some [1, 2]))
 (.seq
 (.reg [⟨some 14, none, [], [], .cal (.k (.fn 67 [])) [(.k (.sc (.int .i64 1)))]⟩,
 ⟨some 13, none, [], [], .mv (.t 14)⟩,
 ⟨some 15, none, [], [], .ext (.t 13) 0⟩,
 ⟨some 16, none, [], [], .ext (.t 13) 1⟩,
 ⟨some 17, none, [], [], .fa 60 (.t 1)⟩,
 ⟨none, none, [], [], .sto 3 (.t 17) (.t 15)⟩] (some [1, 2]))
 (.seq
 (.regD [⟨some 18, none, [(.t 1)], [], .ld true 63 (.t 1)⟩,
 ⟨some 19, none, [(.t 1)], [0], .ld true 63 (.t 1)⟩,
 ⟨some 20, none, [(.k (.fn 119 [])), (.t 19), (.k (.sc (.int .i64 5)))], [0], .cal (.k (.fn 119 [])) [(.t 19), (.k (.sc (.int .i64 5)))]⟩,
 ⟨none, none, [(.t 2), (.t 18)], [], .sto 63 (.t 2) (.t 18)⟩,
 ⟨some 3, none, [(.t 20)], [], .mv (.t 20)⟩] (some [2, 3]))
 .ret)))))
theorem b121 : cmpG Try.prog 121 = some (strip a121, r121, 21) := by kernel_rfl

abbrev r12 : List AR := [.t 2]
abbrev a12 : ACode :=
 (.seq
 (.reg [⟨some 2, none, [], [], .mv (.k .nl)⟩] (some [0]))
 (.seq
 (.reg [⟨some 3, none, [], [], .mv (.k .nl)⟩] none)
 (.seq
 (.seq
 (.reg [⟨some 6, none, [], [], .mv (.t 0)⟩,
 ⟨some 7, none, [], [], .lenL (.t 6)⟩,
 ⟨some 8, none, [], [], .mv (.k (.sc (.int .i64 0)))⟩] (some [3, 6, 7, 8]))
 (.block 0
 (.loop
 (.seq
 (.reg [⟨some 9, none, [], [], .bin .lss false (.t 8) (.t 7)⟩] none)
 (.seq
 (.cond (.t 9)
 (.keep [3, 6, 7, 8]
 .skip)
 (.exit 0))
 (.seq
 (.block 1
 (.seq
 (.reg [⟨some 10, none, [], [], .ixaS 2 (.t 6) (.t 8)⟩,
 ⟨some 11, none, [], [], .ld true 2 (.t 10)⟩,
 ⟨some 5, none, [], [], .alc [(.sc (.int .u64 0)), (.sc (.int .u64 0))]⟩,
 ⟨none, none, [], [], .sto 2 (.t 5) (.t 11)⟩] (some [3, 5, 6, 7, 8]))
 (.seq
 (.reg [⟨some 12, none, [], [], .fa 0 (.t 5)⟩,
 ⟨some 13, none, [], [], .ld false 1 (.t 12)⟩,
 ⟨some 14, none, [], [], .fa 1 (.t 5)⟩,
 ⟨some 15, none, [], [], .ld false 1 (.t 14)⟩,
 ⟨some 16, none, [], [], .mx [(.t 13), (.t 15)]⟩,
 ⟨some 17, none, [], [], .bin .leq false (.t 16) (.k (.sc (.int .u64 4611686018427387904)))⟩] (some [3, 5, 6, 7, 8, 17]))
 (.cond (.t 17)
 (.keep [3, 5, 6, 7, 8]
 (.reg [⟨some 18, none, [], [], .mv (.t 3)⟩,
 ⟨some 19, none, [], [], .fa 0 (.t 5)⟩,
 ⟨some 20, none, [], [], .ld false 1 (.t 19)⟩,
 ⟨some 21, none, [], [], .cvi .i64 (.t 20)⟩,
 ⟨some 22, none, [], [], .fa 1 (.t 5)⟩,
 ⟨some 23, none, [], [], .ld false 1 (.t 22)⟩,
 ⟨some 24, none, [], [], .cvi .i64 (.t 23)⟩,
 ⟨some 25, none, [], [], .bld [(.sc (.int .i64 0)), (.sc (.int .i64 0))] [(0, 1, (.t 21)), (1, 1, (.t 24))]⟩,
 ⟨some 26, none, [], [], .bsl 1 2 [(.sc (.int .i64 0)), (.sc (.int .i64 0))] [(0, 2, (.t 25))]⟩,
 ⟨some 27, none, [], [], .app 2 16 (.t 18) (.t 26)⟩,
 ⟨some 3, none, [], [], .mv (.t 27)⟩] (some [3, 6, 7, 8])))
 (.keep [3, 6, 7, 8]
 .skip)))))
 (.reg [⟨some 28, none, [], [], .bin .add false (.t 8) (.k (.sc (.int .i64 1)))⟩,
 ⟨some 8, none, [], [], .mv (.t 28)⟩] (some [3, 6, 7, 8]))))))))
 (.seq
 (.reg [⟨some 29, none, [], [], .mv (.t 3)⟩,
 ⟨some 2, none, [], [], .mv (.t 29)⟩] (some [2]))
 .ret))))
theorem b12 : cmpG Try.prog 12 = some (strip a12, r12, 30) := by kernel_rfl


end Go.Proofs.Ytbmdahhhgpbchaa.Cod
