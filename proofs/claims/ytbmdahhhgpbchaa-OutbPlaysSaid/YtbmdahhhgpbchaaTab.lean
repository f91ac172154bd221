import Derived.Test.YtbmdahhhgpbchaaProg
import Derived.Test.YtbmdahhhgpbchaaSimB
import Derived.KernelRfl
namespace Go.Proofs.Ytbmdahhhgpbchaa.Tab
open Go Go.Sim Go.RowKit
set_option linter.unusedVariables false

theorem callable_22 : callable Try.prog 22 = true := by kernel_rfl
theorem callable_30 : callable Try.prog 30 = true := by kernel_rfl
theorem callable_31 : callable Try.prog 31 = true := by kernel_rfl
theorem callable_32 : callable Try.prog 32 = true := by kernel_rfl
theorem callable_33 : callable Try.prog 33 = true := by kernel_rfl
theorem callable_34 : callable Try.prog 34 = true := by kernel_rfl
theorem callable_35 : callable Try.prog 35 = true := by kernel_rfl
theorem callable_36 : callable Try.prog 36 = true := by kernel_rfl
theorem callable_37 : callable Try.prog 37 = true := by kernel_rfl
theorem callable_38 : callable Try.prog 38 = true := by kernel_rfl
theorem callable_39 : callable Try.prog 39 = true := by kernel_rfl
theorem callable_40 : callable Try.prog 40 = true := by kernel_rfl
theorem callable_41 : callable Try.prog 41 = true := by kernel_rfl
theorem callable_42 : callable Try.prog 42 = true := by kernel_rfl
theorem callable_43 : callable Try.prog 43 = true := by kernel_rfl
theorem callable_44 : callable Try.prog 44 = true := by kernel_rfl
theorem callable_65 : callable Try.prog 65 = true := by kernel_rfl
theorem callable_66 : callable Try.prog 66 = true := by kernel_rfl
theorem callable_67 : callable Try.prog 67 = true := by kernel_rfl
theorem callable_68 : callable Try.prog 68 = true := by kernel_rfl
theorem callable_69 : callable Try.prog 69 = true := by kernel_rfl
theorem callable_70 : callable Try.prog 70 = true := by kernel_rfl
theorem callable_71 : callable Try.prog 71 = true := by kernel_rfl
theorem callable_72 : callable Try.prog 72 = true := by kernel_rfl
theorem callable_73 : callable Try.prog 73 = true := by kernel_rfl
theorem callable_74 : callable Try.prog 74 = true := by kernel_rfl
theorem callable_75 : callable Try.prog 75 = true := by kernel_rfl
theorem callable_76 : callable Try.prog 76 = true := by kernel_rfl
theorem callable_77 : callable Try.prog 77 = true := by kernel_rfl
theorem callable_78 : callable Try.prog 78 = true := by kernel_rfl
theorem callable_79 : callable Try.prog 79 = true := by kernel_rfl
theorem callable_80 : callable Try.prog 80 = true := by kernel_rfl
theorem callable_81 : callable Try.prog 81 = true := by kernel_rfl
theorem callable_82 : callable Try.prog 82 = true := by kernel_rfl
theorem callable_83 : callable Try.prog 83 = true := by kernel_rfl
theorem callable_84 : callable Try.prog 84 = true := by kernel_rfl
theorem callable_96 : callable Try.prog 96 = true := by kernel_rfl
theorem callable_104 : callable Try.prog 104 = true := by kernel_rfl
theorem callable_105 : callable Try.prog 105 = true := by kernel_rfl
theorem callable_106 : callable Try.prog 106 = true := by kernel_rfl
theorem callable_107 : callable Try.prog 107 = true := by kernel_rfl
theorem callable_108 : callable Try.prog 108 = true := by kernel_rfl
theorem callable_109 : callable Try.prog 109 = true := by kernel_rfl
theorem callable_110 : callable Try.prog 110 = true := by kernel_rfl
theorem callable_111 : callable Try.prog 111 = true := by kernel_rfl
theorem callable_112 : callable Try.prog 112 = true := by kernel_rfl
theorem callable_113 : callable Try.prog 113 = true := by kernel_rfl
theorem callable_114 : callable Try.prog 114 = true := by kernel_rfl
theorem callable_115 : callable Try.prog 115 = true := by kernel_rfl
theorem callable_130 : callable Try.prog 130 = true := by kernel_rfl
theorem callable_131 : callable Try.prog 131 = true := by kernel_rfl
theorem callable_132 : callable Try.prog 132 = true := by kernel_rfl
theorem callable_133 : callable Try.prog 133 = true := by kernel_rfl
theorem callable_134 : callable Try.prog 134 = true := by kernel_rfl
theorem callable_135 : callable Try.prog 135 = true := by kernel_rfl
theorem callable_143 : callable Try.prog 143 = true := by kernel_rfl
end Go.Proofs.Ytbmdahhhgpbchaa.Tab
