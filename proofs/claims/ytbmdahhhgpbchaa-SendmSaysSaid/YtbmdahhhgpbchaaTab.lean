import Derived.Test.YtbmdahhhgpbchaaProg
import Derived.Test.YtbmdahhhgpbchaaSimB
import Derived.KernelRfl
namespace Go.Proofs.Ytbmdahhhgpbchaa.Tab
open Go Go.Sim Go.RowKit
set_option linter.unusedVariables false

theorem callable_12 : callable Try.prog 12 = true := by kernel_rfl
theorem callable_22 : callable Try.prog 22 = true := by kernel_rfl
theorem callable_31 : callable Try.prog 31 = true := by kernel_rfl
theorem callable_32 : callable Try.prog 32 = true := by kernel_rfl
theorem callable_33 : callable Try.prog 33 = true := by kernel_rfl
theorem callable_34 : callable Try.prog 34 = true := by kernel_rfl
theorem callable_35 : callable Try.prog 35 = true := by kernel_rfl
theorem callable_36 : callable Try.prog 36 = true := by kernel_rfl
theorem callable_45 : callable Try.prog 45 = true := by kernel_rfl
theorem callable_46 : callable Try.prog 46 = true := by kernel_rfl
theorem callable_47 : callable Try.prog 47 = true := by kernel_rfl
theorem callable_48 : callable Try.prog 48 = true := by kernel_rfl
theorem callable_49 : callable Try.prog 49 = true := by kernel_rfl
theorem callable_50 : callable Try.prog 50 = true := by kernel_rfl
theorem callable_51 : callable Try.prog 51 = true := by kernel_rfl
theorem callable_52 : callable Try.prog 52 = true := by kernel_rfl
theorem callable_53 : callable Try.prog 53 = true := by kernel_rfl
theorem callable_54 : callable Try.prog 54 = true := by kernel_rfl
theorem callable_55 : callable Try.prog 55 = true := by kernel_rfl
theorem callable_65 : callable Try.prog 65 = true := by kernel_rfl
theorem callable_66 : callable Try.prog 66 = true := by kernel_rfl
theorem callable_67 : callable Try.prog 67 = true := by kernel_rfl
theorem callable_68 : callable Try.prog 68 = true := by kernel_rfl
theorem callable_69 : callable Try.prog 69 = true := by kernel_rfl
theorem callable_70 : callable Try.prog 70 = true := by kernel_rfl
theorem callable_71 : callable Try.prog 71 = true := by kernel_rfl
theorem callable_72 : callable Try.prog 72 = true := by kernel_rfl
theorem callable_73 : callable Try.prog 73 = true := by kernel_rfl
theorem callable_74 : callable Try.prog 74 = true := by kernel_rfl
theorem callable_75 : callable Try.prog 75 = true := by kernel_rfl
theorem callable_76 : callable Try.prog 76 = true := by kernel_rfl
theorem callable_85 : callable Try.prog 85 = true := by kernel_rfl
theorem callable_86 : callable Try.prog 86 = true := by kernel_rfl
theorem callable_87 : callable Try.prog 87 = true := by kernel_rfl
theorem callable_88 : callable Try.prog 88 = true := by kernel_rfl
theorem callable_89 : callable Try.prog 89 = true := by kernel_rfl
theorem callable_90 : callable Try.prog 90 = true := by kernel_rfl
theorem callable_91 : callable Try.prog 91 = true := by kernel_rfl
theorem callable_92 : callable Try.prog 92 = true := by kernel_rfl
theorem callable_93 : callable Try.prog 93 = true := by kernel_rfl
theorem callable_94 : callable Try.prog 94 = true := by kernel_rfl
theorem callable_95 : callable Try.prog 95 = true := by kernel_rfl
theorem callable_104 : callable Try.prog 104 = true := by kernel_rfl
theorem callable_105 : callable Try.prog 105 = true := by kernel_rfl
theorem callable_106 : callable Try.prog 106 = true := by kernel_rfl
theorem callable_107 : callable Try.prog 107 = true := by kernel_rfl
theorem callable_108 : callable Try.prog 108 = true := by kernel_rfl
theorem callable_109 : callable Try.prog 109 = true := by kernel_rfl
theorem callable_110 : callable Try.prog 110 = true := by kernel_rfl
theorem callable_111 : callable Try.prog 111 = true := by kernel_rfl
theorem callable_112 : callable Try.prog 112 = true := by kernel_rfl
theorem callable_116 : callable Try.prog 116 = true := by kernel_rfl
theorem callable_117 : callable Try.prog 117 = true := by kernel_rfl
theorem callable_118 : callable Try.prog 118 = true := by kernel_rfl
theorem callable_119 : callable Try.prog 119 = true := by kernel_rfl
theorem callable_120 : callable Try.prog 120 = true := by kernel_rfl
theorem callable_121 : callable Try.prog 121 = true := by kernel_rfl
theorem callable_122 : callable Try.prog 122 = true := by kernel_rfl
theorem callable_125 : callable Try.prog 125 = true := by kernel_rfl
theorem callable_126 : callable Try.prog 126 = true := by kernel_rfl
theorem callable_127 : callable Try.prog 127 = true := by kernel_rfl
theorem callable_130 : callable Try.prog 130 = true := by kernel_rfl
theorem callable_131 : callable Try.prog 131 = true := by kernel_rfl
theorem callable_132 : callable Try.prog 132 = true := by kernel_rfl
theorem callable_133 : callable Try.prog 133 = true := by kernel_rfl
theorem callable_134 : callable Try.prog 134 = true := by kernel_rfl
theorem callable_135 : callable Try.prog 135 = true := by kernel_rfl
theorem callable_136 : callable Try.prog 136 = true := by kernel_rfl
theorem callable_137 : callable Try.prog 137 = true := by kernel_rfl
theorem callable_138 : callable Try.prog 138 = true := by kernel_rfl
theorem callable_139 : callable Try.prog 139 = true := by kernel_rfl
theorem callable_141 : callable Try.prog 141 = true := by kernel_rfl
theorem callable_143 : callable Try.prog 143 = true := by kernel_rfl
theorem callable_144 : callable Try.prog 144 = true := by kernel_rfl
theorem callable_145 : callable Try.prog 145 = true := by kernel_rfl
theorem callable_146 : callable Try.prog 146 = true := by kernel_rfl
theorem callable_147 : callable Try.prog 147 = true := by kernel_rfl
theorem callable_150 : callable Try.prog 150 = true := by kernel_rfl

end Go.Proofs.Ytbmdahhhgpbchaa.Tab
