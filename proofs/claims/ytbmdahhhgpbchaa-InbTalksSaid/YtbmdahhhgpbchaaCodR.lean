import Derived.Test.YtbmdahhhgpbchaaProg
import Derived.Test.YtbmdahhhgpbchaaSimD
import Derived.KernelRfl
namespace Go.Proofs.Ytbmdahhhgpbchaa.Cod
open Go Go.Sim Go.Proofs
set_option maxRecDepth 100000
abbrev r97 : List AR := [.t 4]
abbrev a97 : ACode :=
 (.seq
 (.reg [⟨some 2, none, [], [], .box (.t 0)⟩,
 ⟨some 4, none, [], [], .mv (.k (.sc (.int .i64 0)))⟩] (some [1, 2]))
 (.seq
 (.seq
 (.reg [⟨some 5, none, [], [], .mv (.t 1)⟩,
 ⟨some 6, none, [], [], .fa 1 (.t 2)⟩,
 ⟨some 7, none, [], [], .ld false 1 (.t 6)⟩,
 ⟨some 8, none, [], [], .bin .lss false (.t 5) (.t 7)⟩,
 ⟨some 9, none, [], [], .mv (.t 8)⟩,
 ⟨some 10, (some (9, false)), [], [], .mv (.t 1)⟩,
 ⟨some 11, (some (9, false)), [], [], .fa 0 (.t 2)⟩,
 ⟨some 12, (some (9, false)), [], [], .ld false 1 (.t 11)⟩,
 ⟨some 13, (some (9, false)), [], [], .fa 1 (.t 2)⟩,
 ⟨some 14, (some (9, false)), [], [], .ld false 1 (.t 13)⟩,
 ⟨some 15, (some (9, false)), [], [], .bin .add false (.t 14) (.k (.sc (.int .i64 2048)))⟩,
 ⟨some 16, (some (9, false)), [], [], .mn [(.t 12), (.t 15)]⟩,
 ⟨some 17, (some (9, false)), [], [], .bin .geq false (.t 10) (.t 16)⟩,
 ⟨some 18, none, [], [], .pick (.t 9) (.k (.sc (.bool true))) (.t 17)⟩,
 ⟨some 19, none, [], [], .mv (.t 18)⟩,
 ⟨some 20, (some (19, false)), [], [], .mv (.t 1)⟩,
 ⟨some 21, (some (19, false)), [], [], .bin .rem false (.t 20) (.k (.sc (.int .i64 256)))⟩,
 ⟨some 22, (some (19, false)), [], [], .bin .neq false (.t 21) (.k (.sc (.int .i64 0)))⟩,
 ⟨some 23, none, [], [], .pick (.t 19) (.k (.sc (.bool true))) (.t 22)⟩] (some [1, 2, 23]))
 (.cond (.t 23)
 (.keep []
 (.seq
 (.reg [⟨some 4, none, [], [], .mv (.k (.sc (.int .i64 0)))⟩] none)
 .ret))
 (.keep [1, 2]
 .skip)))
 (.seq
 (.reg [⟨some 24, none, [], [], .fa 0 (.t 2)⟩,
 ⟨some 25, none, [], [], .ld false 1 (.t 24)⟩,
 ⟨some 26, none, [], [], .mv (.t 1)⟩,
 ⟨some 27, none, [], [], .bin .sub false (.t 25) (.t 26)⟩,
 ⟨some 28, none, [], [], .mn [(.k (.sc (.int .i64 256))), (.t 27)]⟩,
 ⟨some 4, none, [], [], .mv (.t 28)⟩] (some [4]))
 .ret)))
theorem b97 : cmpG Try.prog 97 = some (strip a97, r97, 29) := by kernel_rfl

abbrev r64 : List AR := [.c 2 true 1]
abbrev a64 : ACode :=
 (.seq
 (.reg [⟨some 1, none, [], [], .box (.t 0)⟩,
 ⟨some 2, none, [], [], .alc [.nl]⟩] (some [1, 2]))
 (.seq
 (.reg [⟨some 5, none, [], [], .bld [.nl] []⟩,
 ⟨some 3, none, [], [], .alc [.nl]⟩,
 ⟨none, none, [], [], .sto 1 (.t 3) (.t 5)⟩] (some [1, 2, 3]))
 (.seq
 (.seq
 (.reg [⟨some 6, none, [], [], .fa 1 (.t 1)⟩,
 ⟨some 7, none, [], [], .ld false 1 (.t 6)⟩,
 ⟨some 4, none, [], [], .mv (.t 7)⟩] (some [1, 2, 3, 4]))
 (.block 0
 (.loop
 (.seq
 (.seq
 (.reg [⟨some 8, none, [], [], .mv (.t 4)⟩,
 ⟨some 9, none, [], [], .fa 1 (.t 1)⟩,
 ⟨some 10, none, [], [], .ld false 1 (.t 9)⟩,
 ⟨some 11, none, [], [], .bin .add false (.t 10) (.k (.sc (.int .i64 2048)))⟩,
 ⟨some 12, none, [], [], .bin .lss false (.t 8) (.t 11)⟩] (some [1, 2, 3, 4, 12]))
 (.cond (.t 12)
 (.keep [1, 2, 3, 4]
 .skip)
 (.exit 0)))
 (.seq
 (.block 1
 (.reg [⟨some 15, none, [], [], .ld true 1 (.t 3)⟩,
 ⟨some 16, none, [], [], .mv (.t 4)⟩,
 ⟨some 17, none, [], [], .mv (.t 4)⟩,
 ⟨some 18, none, [], [], .fa 2 (.t 1)⟩,
 ⟨some 19, none, [], [], .ld false 1 (.t 18)⟩,
 ⟨some 20, none, [], [], .mv (.t 4)⟩,
 ⟨some 21, none, [], [], .mlk false (.t 19) (.t 20)⟩,
 ⟨some 22, none, [], [], .lenL (.t 21)⟩,
 ⟨some 23, none, [], [], .bin .add false (.t 17) (.t 22)⟩,
 ⟨some 24, none, [], [], .cal (.k (.fn 104 [])) [(.t 15), (.t 16), (.t 23)]⟩,
 ⟨none, none, [], [], .sto 1 (.t 3) (.t 24)⟩] (some [1, 2, 3, 4])))
 (.reg [⟨some 13, none, [], [], .mv (.t 4)⟩,
 ⟨some 14, none, [], [], .bin .add false (.t 13) (.k (.sc (.int .i64 256)))⟩,
 ⟨some 4, none, [], [], .mv (.t 14)⟩] (some [1, 2, 3, 4])))))))
 (.seq
 (.reg [⟨some 25, none, [], [], .ld true 1 (.t 3)⟩,
 ⟨none, none, [], [], .sto 1 (.t 2) (.t 25)⟩] (some [2]))
 .ret))))
theorem b64 : cmpG Try.prog 64 = some (strip a64, r64, 26) := by kernel_rfl

abbrev r28 : List AR := [.t 2]
abbrev a28 : ACode :=
 (.seq
 (.reg [⟨some 1, none, [], [], .box (.t 0)⟩,
 ⟨some 2, none, [], [], .mv (.k (.sc (.int .i64 0)))⟩] (some [1]))
 (.seq
 (.reg [⟨some 3, none, [], [], .ld true 3 (.t 1)⟩,
 ⟨some 4, none, [], [], .cal (.k (.fn 64 [])) [(.t 3)]⟩,
 ⟨some 5, none, [], [], .cal (.k (.fn 65 [])) [(.t 4)]⟩,
 ⟨some 2, none, [], [], .mv (.t 5)⟩] (some [2]))
 .ret))
theorem b28 : cmpG Try.prog 28 = some (strip a28, r28, 6) := by kernel_rfl

abbrev r62 : List AR := [.t 4]
abbrev a62 : ACode :=
 (.seq
 (.reg [⟨some 2, none, [], [], .box (.t 0)⟩,
 ⟨some 4, none, [], [], .mv (.k .nl)⟩] (some [1, 2]))
 (.seq
 (.reg [⟨some 5, none, [], [], .ld true 3 (.t 2)⟩,
 ⟨some 6, none, [], [], .cal (.k (.fn 64 [])) [(.t 5)]⟩,
 ⟨some 7, none, [], [], .mv (.t 1)⟩,
 ⟨some 8, none, [], [], .cal (.k (.fn 101 [])) [(.t 6), (.k (.sc (.int .i64 (-1)))), (.t 7)]⟩,
 ⟨some 4, none, [], [], .mv (.t 8)⟩] (some [4]))
 .ret))
theorem b62 : cmpG Try.prog 62 = some (strip a62, r62, 9) := by kernel_rfl

abbrev r26 : List AR := [.t 2]
abbrev a26 : ACode :=
 (.seq
 (.reg [⟨some 1, none, [], [], .box (.t 0)⟩,
 ⟨some 2, none, [], [], .mv (.k (.sc (.int .i64 0)))⟩] (some [1]))
 (.seq
 (.reg [⟨some 3, none, [], [], .fa 1 (.t 1)⟩,
 ⟨some 4, none, [], [], .ld false 1 (.t 3)⟩,
 ⟨some 2, none, [], [], .mv (.t 4)⟩] (some [2]))
 .ret))
theorem b26 : cmpG Try.prog 26 = some (strip a26, r26, 5) := by kernel_rfl

abbrev r27 : List AR := [.t 2]
abbrev a27 : ACode :=
 (.seq
 (.reg [⟨some 1, none, [], [], .box (.t 0)⟩,
 ⟨some 2, none, [], [], .mv (.k (.sc (.bool false)))⟩] (some [1]))
 (.seq
 (.reg [⟨some 3, none, [], [], .fa 1 (.t 1)⟩,
 ⟨some 4, none, [], [], .ld false 1 (.t 3)⟩,
 ⟨some 5, none, [], [], .fa 0 (.t 1)⟩,
 ⟨some 6, none, [], [], .ld false 1 (.t 5)⟩,
 ⟨some 7, none, [], [], .bin .eql false (.t 4) (.t 6)⟩,
 ⟨some 2, none, [], [], .mv (.t 7)⟩] (some [2]))
 .ret))
theorem b27 : cmpG Try.prog 27 = some (strip a27, r27, 8) := by kernel_rfl

abbrev r56 : List AR := [.c 4 true 3, .t 5]
abbrev a56 : ACode :=
 (.seq
 (.reg [⟨some 4, none, [], [], .alc [(.sc (.int .i64 0)), (.sc (.int .i64 0)), (.mp [] [])]⟩,
 ⟨some 5, none, [], [], .mv (.k (.sc (.int .i64 0)))⟩] (some [0, 1, 4]))
 (.seq
 (.block 0
 (.seq
 (.reg [⟨some 7, none, [], [], .mv (.t 0)⟩,
 ⟨some 8, none, [], [], .bin .lss false (.t 7) (.k (.sc (.int .i64 0)))⟩,
 ⟨some 9, none, [], [], .mv (.t 8)⟩,
 ⟨some 10, (some (9, false)), [], [], .mv (.t 0)⟩,
 ⟨some 11, (some (9, false)), [], [], .bin .gtr false (.t 10) (.k (.sc (.int .i64 1099511627776)))⟩,
 ⟨some 12, none, [], [], .pick (.t 9) (.k (.sc (.bool true))) (.t 11)⟩,
 ⟨some 13, none, [], [], .mv (.t 12)⟩,
 ⟨some 14, (some (13, false)), [], [], .mv (.t 1)⟩,
 ⟨some 15, (some (13, false)), [], [], .bin .lss false (.t 14) (.k (.sc (.int .i64 0)))⟩,
 ⟨some 16, none, [], [], .pick (.t 13) (.k (.sc (.bool true))) (.t 15)⟩,
 ⟨some 17, none, [], [], .mv (.t 16)⟩,
 ⟨some 18, (some (17, false)), [], [], .mv (.t 1)⟩,
 ⟨some 19, (some (17, false)), [], [], .mv (.t 0)⟩,
 ⟨some 20, (some (17, false)), [], [], .bin .gtr false (.t 18) (.t 19)⟩,
 ⟨some 21, none, [], [], .pick (.t 17) (.k (.sc (.bool true))) (.t 20)⟩,
 ⟨some 6, none, [], [], .mv (.t 21)⟩] (some [0, 1, 4, 6]))
 (.cond (.t 6)
 (.keep [4]
 (.seq
 (.reg [⟨some 22, none, [], [], .bld [(.sc (.int .i64 0)), (.sc (.int .i64 0)), (.mp [] [])] []⟩,
 ⟨none, none, [], [], .sto 3 (.t 4) (.t 22)⟩,
 ⟨some 5, none, [], [], .mv (.k (.sc (.int .i64 1)))⟩] (some [4, 5]))
 .ret))
 (.keep [0, 1, 4]
 (.seq
 (.reg [⟨some 24, none, [], [], .mv (.t 1)⟩,
 ⟨some 25, none, [], [], .bin .rem false (.t 24) (.k (.sc (.int .i64 256)))⟩,
 ⟨some 26, none, [], [], .bin .neq false (.t 25) (.k (.sc (.int .i64 0)))⟩,
 ⟨some 27, none, [], [], .mv (.t 26)⟩,
 ⟨some 28, (some (27, true)), [], [], .mv (.t 1)⟩,
 ⟨some 29, (some (27, true)), [], [], .mv (.t 0)⟩,
 ⟨some 30, (some (27, true)), [], [], .bin .neq false (.t 28) (.t 29)⟩,
 ⟨some 31, none, [], [], .pick (.t 27) (.t 30) (.k (.sc (.bool false)))⟩,
 ⟨some 23, none, [], [], .mv (.t 31)⟩] (some [0, 1, 4, 23]))
 (.cond (.t 23)
 (.keep [4]
 (.seq
 (.reg [⟨some 32, none, [], [], .bld [(.sc (.int .i64 0)), (.sc (.int .i64 0)), (.mp [] [])] []⟩,
 ⟨none, none, [], [], .sto 3 (.t 4) (.t 32)⟩,
 ⟨some 5, none, [], [], .mv (.k (.sc (.int .i64 1)))⟩] (some [4, 5]))
 .ret))
 (.keep [0, 1, 4]
 .skip)))))))
 (.seq
 (.reg [⟨some 33, none, [], [], .mv (.t 0)⟩,
 ⟨some 34, none, [], [], .mv (.t 1)⟩,
 ⟨some 35, none, [], [], .bld [(.sc (.int .i64 0)), (.sc (.int .i64 0)), (.mp [] [])] [(0, 1, (.t 33)), (1, 1, (.t 34))]⟩,
 ⟨none, none, [], [], .sto 3 (.t 4) (.t 35)⟩,
 ⟨some 5, none, [], [], .mv (.k (.sc (.int .i64 0)))⟩] (some [4, 5]))
 .ret)))
theorem b56 : cmpG Try.prog 56 = some (strip a56, r56, 36) := by kernel_rfl


end Go.Proofs.Ytbmdahhhgpbchaa.Cod
