import Derived.Test.YthhccabdlajngaaProg
import Derived.Test.YthhccabdlajngaaSimB
import Derived.KernelRfl
namespace Go.Proofs.Ythhccabdlajngaa.Tab
open Go Go.Sim Go.RowKit
set_option linter.unusedVariables false

@[simp] theorem siz_2 : siz Try.prog 2 = 1 := by kernel_rfl
@[simp] theorem byt_2 : byt Try.prog 2 = 8 := by kernel_rfl
@[simp] theorem ags_2 : ags Try.prog 2 = false := by kernel_rfl
@[simp] theorem elm_2 : elm Try.prog 2 = none := by kernel_rfl
@[simp] theorem arr_2 : arr Try.prog 2 = none := by kernel_rfl
@[simp] theorem ikd_2 : ikd Try.prog 2 = some .i64 := by kernel_rfl
@[simp] theorem isStr_2 : isStr Try.prog 2 = false := by kernel_rfl
@[simp] theorem isBool_2 : isBool Try.prog 2 = false := by kernel_rfl
@[simp] theorem und_2 : (Try.prog.underlying 2).isSome = true := by kernel_rfl
@[simp] theorem good_2 : good Try.prog 2 = true := by kernel_rfl
@[simp] theorem zrc_2 : zrc Try.prog 2 = some [.sc (.int .i64 0)] := by kernel_rfl
@[simp] theorem siz_3 : siz Try.prog 3 = 1 := by kernel_rfl
@[simp] theorem byt_3 : byt Try.prog 3 = 8 := by kernel_rfl
@[simp] theorem ags_3 : ags Try.prog 3 = false := by kernel_rfl
@[simp] theorem elm_3 : elm Try.prog 3 = none := by kernel_rfl
@[simp] theorem arr_3 : arr Try.prog 3 = none := by kernel_rfl
@[simp] theorem ikd_3 : ikd Try.prog 3 = some .i64 := by kernel_rfl
@[simp] theorem isStr_3 : isStr Try.prog 3 = false := by kernel_rfl
@[simp] theorem isBool_3 : isBool Try.prog 3 = false := by kernel_rfl
@[simp] theorem und_3 : (Try.prog.underlying 3).isSome = true := by kernel_rfl
@[simp] theorem good_3 : good Try.prog 3 = true := by kernel_rfl
@[simp] theorem zrc_3 : zrc Try.prog 3 = some [.sc (.int .i64 0)] := by kernel_rfl
@[simp] theorem siz_4 : siz Try.prog 4 = 1 := by kernel_rfl
@[simp] theorem byt_4 : byt Try.prog 4 = 1 := by kernel_rfl
@[simp] theorem ags_4 : ags Try.prog 4 = false := by kernel_rfl
@[simp] theorem elm_4 : elm Try.prog 4 = none := by kernel_rfl
@[simp] theorem arr_4 : arr Try.prog 4 = none := by kernel_rfl
@[simp] theorem ikd_4 : ikd Try.prog 4 = none := by kernel_rfl
@[simp] theorem isStr_4 : isStr Try.prog 4 = false := by kernel_rfl
@[simp] theorem isBool_4 : isBool Try.prog 4 = true := by kernel_rfl
@[simp] theorem und_4 : (Try.prog.underlying 4).isSome = true := by kernel_rfl
@[simp] theorem good_4 : good Try.prog 4 = true := by kernel_rfl
@[simp] theorem zrc_4 : zrc Try.prog 4 = some [.sc (.bool false)] := by kernel_rfl
@[simp] theorem siz_5 : siz Try.prog 5 = 1 := by kernel_rfl
@[simp] theorem byt_5 : byt Try.prog 5 = 1 := by kernel_rfl
@[simp] theorem ags_5 : ags Try.prog 5 = false := by kernel_rfl
@[simp] theorem elm_5 : elm Try.prog 5 = none := by kernel_rfl
@[simp] theorem arr_5 : arr Try.prog 5 = none := by kernel_rfl
@[simp] theorem ikd_5 : ikd Try.prog 5 = some .u8 := by kernel_rfl
@[simp] theorem isStr_5 : isStr Try.prog 5 = false := by kernel_rfl
@[simp] theorem isBool_5 : isBool Try.prog 5 = false := by kernel_rfl
@[simp] theorem und_5 : (Try.prog.underlying 5).isSome = true := by kernel_rfl
@[simp] theorem good_5 : good Try.prog 5 = true := by kernel_rfl
@[simp] theorem zrc_5 : zrc Try.prog 5 = some [.sc (.int .u8 0)] := by kernel_rfl
@[simp] theorem siz_6 : siz Try.prog 6 = 1 := by kernel_rfl
@[simp] theorem byt_6 : byt Try.prog 6 = 1 := by kernel_rfl
@[simp] theorem ags_6 : ags Try.prog 6 = false := by kernel_rfl
@[simp] theorem elm_6 : elm Try.prog 6 = none := by kernel_rfl
@[simp] theorem arr_6 : arr Try.prog 6 = none := by kernel_rfl
@[simp] theorem ikd_6 : ikd Try.prog 6 = some .u8 := by kernel_rfl
@[simp] theorem isStr_6 : isStr Try.prog 6 = false := by kernel_rfl
@[simp] theorem isBool_6 : isBool Try.prog 6 = false := by kernel_rfl
@[simp] theorem und_6 : (Try.prog.underlying 6).isSome = true := by kernel_rfl
@[simp] theorem good_6 : good Try.prog 6 = true := by kernel_rfl
@[simp] theorem zrc_6 : zrc Try.prog 6 = some [.sc (.int .u8 0)] := by kernel_rfl
@[simp] theorem siz_7 : siz Try.prog 7 = 4 := by kernel_rfl
@[simp] theorem byt_7 : byt Try.prog 7 = 24 := by kernel_rfl
@[simp] theorem ags_7 : ags Try.prog 7 = true := by kernel_rfl
@[simp] theorem elm_7 : elm Try.prog 7 = none := by kernel_rfl
@[simp] theorem arr_7 : arr Try.prog 7 = none := by kernel_rfl
@[simp] theorem ikd_7 : ikd Try.prog 7 = none := by kernel_rfl
@[simp] theorem isStr_7 : isStr Try.prog 7 = false := by kernel_rfl
@[simp] theorem isBool_7 : isBool Try.prog 7 = false := by kernel_rfl
@[simp] theorem und_7 : (Try.prog.underlying 7).isSome = true := by kernel_rfl
@[simp] theorem good_7 : good Try.prog 7 = true := by kernel_rfl
@[simp] theorem zrc_7 : zrc Try.prog 7 = some [.sc (.int .i64 0), .sc (.int .i64 0), .sc (.bool false), .sc (.int .u8 0)] := by kernel_rfl
@[simp] theorem fld_7_0 : fld Try.prog 7 0 = some (0, 2) := by kernel_rfl
@[simp] theorem fld_7_1 : fld Try.prog 7 1 = some (1, 3) := by kernel_rfl
@[simp] theorem fld_7_2 : fld Try.prog 7 2 = some (2, 4) := by kernel_rfl
@[simp] theorem fld_7_3 : fld Try.prog 7 3 = some (3, 6) := by kernel_rfl
@[simp] theorem plc_7 : plc Try.prog 7 = some [(0, 1), (1, 1), (2, 1), (3, 1)] := by kernel_rfl
@[simp] theorem lks_7 : lks Try.prog 6 7 = some [.i, .i, .b, .i] := by kernel_rfl
@[simp] theorem egt_7 : Try.prog.eqGuardType Try.prog.depth 7 = false := by kernel_rfl
@[simp] theorem siz_8 : siz Try.prog 8 = 4 := by kernel_rfl
@[simp] theorem byt_8 : byt Try.prog 8 = 24 := by kernel_rfl
@[simp] theorem ags_8 : ags Try.prog 8 = true := by kernel_rfl
@[simp] theorem elm_8 : elm Try.prog 8 = none := by kernel_rfl
@[simp] theorem arr_8 : arr Try.prog 8 = none := by kernel_rfl
@[simp] theorem ikd_8 : ikd Try.prog 8 = none := by kernel_rfl
@[simp] theorem isStr_8 : isStr Try.prog 8 = false := by kernel_rfl
@[simp] theorem isBool_8 : isBool Try.prog 8 = false := by kernel_rfl
@[simp] theorem und_8 : (Try.prog.underlying 8).isSome = true := by kernel_rfl
@[simp] theorem good_8 : good Try.prog 8 = true := by kernel_rfl
@[simp] theorem zrc_8 : zrc Try.prog 8 = some [.sc (.int .i64 0), .sc (.int .i64 0), .sc (.bool false), .sc (.int .u8 0)] := by kernel_rfl
@[simp] theorem fld_8_0 : fld Try.prog 8 0 = some (0, 2) := by kernel_rfl
@[simp] theorem fld_8_1 : fld Try.prog 8 1 = some (1, 3) := by kernel_rfl
@[simp] theorem fld_8_2 : fld Try.prog 8 2 = some (2, 4) := by kernel_rfl
@[simp] theorem fld_8_3 : fld Try.prog 8 3 = some (3, 6) := by kernel_rfl
@[simp] theorem plc_8 : plc Try.prog 8 = some [(0, 1), (1, 1), (2, 1), (3, 1)] := by kernel_rfl
@[simp] theorem lks_8 : lks Try.prog 6 8 = some [.i, .i, .b, .i] := by kernel_rfl
@[simp] theorem egt_8 : Try.prog.eqGuardType Try.prog.depth 8 = false := by kernel_rfl
@[simp] theorem siz_9 : siz Try.prog 9 = 1 := by kernel_rfl
@[simp] theorem byt_9 : byt Try.prog 9 = 16 := by kernel_rfl
@[simp] theorem ags_9 : ags Try.prog 9 = false := by kernel_rfl
@[simp] theorem elm_9 : elm Try.prog 9 = none := by kernel_rfl
@[simp] theorem arr_9 : arr Try.prog 9 = none := by kernel_rfl
@[simp] theorem ikd_9 : ikd Try.prog 9 = none := by kernel_rfl
@[simp] theorem isStr_9 : isStr Try.prog 9 = true := by kernel_rfl
@[simp] theorem isBool_9 : isBool Try.prog 9 = false := by kernel_rfl
@[simp] theorem und_9 : (Try.prog.underlying 9).isSome = true := by kernel_rfl
@[simp] theorem good_9 : good Try.prog 9 = true := by kernel_rfl
@[simp] theorem zrc_9 : zrc Try.prog 9 = some [.sc (.string ⟨#[]⟩)] := by kernel_rfl
@[simp] theorem siz_10 : siz Try.prog 10 = 1 := by kernel_rfl
@[simp] theorem byt_10 : byt Try.prog 10 = 16 := by kernel_rfl
@[simp] theorem ags_10 : ags Try.prog 10 = false := by kernel_rfl
@[simp] theorem elm_10 : elm Try.prog 10 = none := by kernel_rfl
@[simp] theorem arr_10 : arr Try.prog 10 = none := by kernel_rfl
@[simp] theorem ikd_10 : ikd Try.prog 10 = none := by kernel_rfl
@[simp] theorem isStr_10 : isStr Try.prog 10 = true := by kernel_rfl
@[simp] theorem isBool_10 : isBool Try.prog 10 = false := by kernel_rfl
@[simp] theorem und_10 : (Try.prog.underlying 10).isSome = true := by kernel_rfl
@[simp] theorem good_10 : good Try.prog 10 = true := by kernel_rfl
@[simp] theorem zrc_10 : zrc Try.prog 10 = some [.sc (.string ⟨#[]⟩)] := by kernel_rfl
@[simp] theorem siz_11 : siz Try.prog 11 = 1 := by kernel_rfl
@[simp] theorem byt_11 : byt Try.prog 11 = 16 := by kernel_rfl
@[simp] theorem ags_11 : ags Try.prog 11 = false := by kernel_rfl
@[simp] theorem elm_11 : elm Try.prog 11 = none := by kernel_rfl
@[simp] theorem arr_11 : arr Try.prog 11 = none := by kernel_rfl
@[simp] theorem ikd_11 : ikd Try.prog 11 = none := by kernel_rfl
@[simp] theorem isStr_11 : isStr Try.prog 11 = true := by kernel_rfl
@[simp] theorem isBool_11 : isBool Try.prog 11 = false := by kernel_rfl
@[simp] theorem und_11 : (Try.prog.underlying 11).isSome = true := by kernel_rfl
@[simp] theorem good_11 : good Try.prog 11 = true := by kernel_rfl
@[simp] theorem zrc_11 : zrc Try.prog 11 = some [.sc (.string ⟨#[]⟩)] := by kernel_rfl
@[simp] theorem siz_12 : siz Try.prog 12 = 1 := by kernel_rfl
@[simp] theorem byt_12 : byt Try.prog 12 = 8 := by kernel_rfl
@[simp] theorem ags_12 : ags Try.prog 12 = false := by kernel_rfl
@[simp] theorem elm_12 : elm Try.prog 12 = none := by kernel_rfl
@[simp] theorem arr_12 : arr Try.prog 12 = none := by kernel_rfl
@[simp] theorem ikd_12 : ikd Try.prog 12 = some .u64 := by kernel_rfl
@[simp] theorem isStr_12 : isStr Try.prog 12 = false := by kernel_rfl
@[simp] theorem isBool_12 : isBool Try.prog 12 = false := by kernel_rfl
@[simp] theorem und_12 : (Try.prog.underlying 12).isSome = true := by kernel_rfl
@[simp] theorem good_12 : good Try.prog 12 = true := by kernel_rfl
@[simp] theorem zrc_12 : zrc Try.prog 12 = some [.sc (.int .u64 0)] := by kernel_rfl
@[simp] theorem siz_13 : siz Try.prog 13 = 2 := by kernel_rfl
@[simp] theorem byt_13 : byt Try.prog 13 = 24 := by kernel_rfl
@[simp] theorem ags_13 : ags Try.prog 13 = true := by kernel_rfl
@[simp] theorem elm_13 : elm Try.prog 13 = none := by kernel_rfl
@[simp] theorem arr_13 : arr Try.prog 13 = none := by kernel_rfl
@[simp] theorem ikd_13 : ikd Try.prog 13 = none := by kernel_rfl
@[simp] theorem isStr_13 : isStr Try.prog 13 = false := by kernel_rfl
@[simp] theorem isBool_13 : isBool Try.prog 13 = false := by kernel_rfl
@[simp] theorem und_13 : (Try.prog.underlying 13).isSome = true := by kernel_rfl
@[simp] theorem good_13 : good Try.prog 13 = true := by kernel_rfl
@[simp] theorem zrc_13 : zrc Try.prog 13 = some [.sc (.string ⟨#[]⟩), .sc (.int .u64 0)] := by kernel_rfl
@[simp] theorem fld_13_0 : fld Try.prog 13 0 = some (0, 9) := by kernel_rfl
@[simp] theorem fld_13_1 : fld Try.prog 13 1 = some (1, 12) := by kernel_rfl
@[simp] theorem plc_13 : plc Try.prog 13 = some [(0, 1), (1, 1)] := by kernel_rfl
@[simp] theorem egt_13 : Try.prog.eqGuardType Try.prog.depth 13 = false := by kernel_rfl
@[simp] theorem siz_14 : siz Try.prog 14 = 2 := by kernel_rfl
@[simp] theorem byt_14 : byt Try.prog 14 = 24 := by kernel_rfl
@[simp] theorem ags_14 : ags Try.prog 14 = true := by kernel_rfl
@[simp] theorem elm_14 : elm Try.prog 14 = none := by kernel_rfl
@[simp] theorem arr_14 : arr Try.prog 14 = none := by kernel_rfl
@[simp] theorem ikd_14 : ikd Try.prog 14 = none := by kernel_rfl
@[simp] theorem isStr_14 : isStr Try.prog 14 = false := by kernel_rfl
@[simp] theorem isBool_14 : isBool Try.prog 14 = false := by kernel_rfl
@[simp] theorem und_14 : (Try.prog.underlying 14).isSome = true := by kernel_rfl
@[simp] theorem good_14 : good Try.prog 14 = true := by kernel_rfl
@[simp] theorem zrc_14 : zrc Try.prog 14 = some [.sc (.string ⟨#[]⟩), .sc (.int .u64 0)] := by kernel_rfl
@[simp] theorem fld_14_0 : fld Try.prog 14 0 = some (0, 9) := by kernel_rfl
@[simp] theorem fld_14_1 : fld Try.prog 14 1 = some (1, 12) := by kernel_rfl
@[simp] theorem plc_14 : plc Try.prog 14 = some [(0, 1), (1, 1)] := by kernel_rfl
@[simp] theorem egt_14 : Try.prog.eqGuardType Try.prog.depth 14 = false := by kernel_rfl
@[simp] theorem siz_15 : siz Try.prog 15 = 1 := by kernel_rfl
@[simp] theorem byt_15 : byt Try.prog 15 = 8 := by kernel_rfl
@[simp] theorem ags_15 : ags Try.prog 15 = false := by kernel_rfl
@[simp] theorem elm_15 : elm Try.prog 15 = none := by kernel_rfl
@[simp] theorem arr_15 : arr Try.prog 15 = none := by kernel_rfl
@[simp] theorem ikd_15 : ikd Try.prog 15 = none := by kernel_rfl
@[simp] theorem isStr_15 : isStr Try.prog 15 = false := by kernel_rfl
@[simp] theorem isBool_15 : isBool Try.prog 15 = false := by kernel_rfl
@[simp] theorem und_15 : (Try.prog.underlying 15).isSome = true := by kernel_rfl
@[simp] theorem good_15 : good Try.prog 15 = true := by kernel_rfl
@[simp] theorem zrc_15 : zrc Try.prog 15 = some [.sc (.pointer none)] := by kernel_rfl
@[simp] theorem siz_16 : siz Try.prog 16 = 1 := by kernel_rfl
@[simp] theorem byt_16 : byt Try.prog 16 = 8 := by kernel_rfl
@[simp] theorem ags_16 : ags Try.prog 16 = false := by kernel_rfl
@[simp] theorem elm_16 : elm Try.prog 16 = none := by kernel_rfl
@[simp] theorem arr_16 : arr Try.prog 16 = none := by kernel_rfl
@[simp] theorem ikd_16 : ikd Try.prog 16 = none := by kernel_rfl
@[simp] theorem isStr_16 : isStr Try.prog 16 = false := by kernel_rfl
@[simp] theorem isBool_16 : isBool Try.prog 16 = false := by kernel_rfl
@[simp] theorem und_16 : (Try.prog.underlying 16).isSome = true := by kernel_rfl
@[simp] theorem good_16 : good Try.prog 16 = true := by kernel_rfl
@[simp] theorem zrc_16 : zrc Try.prog 16 = some [.sc (.pointer none)] := by kernel_rfl
@[simp] theorem siz_17 : siz Try.prog 17 = 1 := by kernel_rfl
@[simp] theorem byt_17 : byt Try.prog 17 = 8 := by kernel_rfl
@[simp] theorem ags_17 : ags Try.prog 17 = false := by kernel_rfl
@[simp] theorem elm_17 : elm Try.prog 17 = none := by kernel_rfl
@[simp] theorem arr_17 : arr Try.prog 17 = none := by kernel_rfl
@[simp] theorem ikd_17 : ikd Try.prog 17 = none := by kernel_rfl
@[simp] theorem isStr_17 : isStr Try.prog 17 = false := by kernel_rfl
@[simp] theorem isBool_17 : isBool Try.prog 17 = false := by kernel_rfl
@[simp] theorem und_17 : (Try.prog.underlying 17).isSome = true := by kernel_rfl
@[simp] theorem good_17 : good Try.prog 17 = true := by kernel_rfl
@[simp] theorem zrc_17 : zrc Try.prog 17 = some [.sc (.pointer none)] := by kernel_rfl
@[simp] theorem siz_18 : siz Try.prog 18 = 1 := by kernel_rfl
@[simp] theorem byt_18 : byt Try.prog 18 = 8 := by kernel_rfl
@[simp] theorem ags_18 : ags Try.prog 18 = true := by kernel_rfl
@[simp] theorem elm_18 : elm Try.prog 18 = none := by kernel_rfl
@[simp] theorem arr_18 : arr Try.prog 18 = none := by kernel_rfl
@[simp] theorem ikd_18 : ikd Try.prog 18 = none := by kernel_rfl
@[simp] theorem isStr_18 : isStr Try.prog 18 = false := by kernel_rfl
@[simp] theorem isBool_18 : isBool Try.prog 18 = false := by kernel_rfl
@[simp] theorem und_18 : (Try.prog.underlying 18).isSome = true := by kernel_rfl
@[simp] theorem good_18 : good Try.prog 18 = true := by kernel_rfl
@[simp] theorem zrc_18 : zrc Try.prog 18 = some [.sc (.pointer none)] := by kernel_rfl
@[simp] theorem fld_18_0 : fld Try.prog 18 0 = some (0, 17) := by kernel_rfl
@[simp] theorem plc_18 : plc Try.prog 18 = some [(0, 1)] := by kernel_rfl
@[simp] theorem siz_19 : siz Try.prog 19 = 1 := by kernel_rfl
@[simp] theorem byt_19 : byt Try.prog 19 = 8 := by kernel_rfl
@[simp] theorem ags_19 : ags Try.prog 19 = true := by kernel_rfl
@[simp] theorem elm_19 : elm Try.prog 19 = none := by kernel_rfl
@[simp] theorem arr_19 : arr Try.prog 19 = none := by kernel_rfl
@[simp] theorem ikd_19 : ikd Try.prog 19 = none := by kernel_rfl
@[simp] theorem isStr_19 : isStr Try.prog 19 = false := by kernel_rfl
@[simp] theorem isBool_19 : isBool Try.prog 19 = false := by kernel_rfl
@[simp] theorem und_19 : (Try.prog.underlying 19).isSome = true := by kernel_rfl
@[simp] theorem good_19 : good Try.prog 19 = true := by kernel_rfl
@[simp] theorem zrc_19 : zrc Try.prog 19 = some [.sc (.pointer none)] := by kernel_rfl
@[simp] theorem fld_19_0 : fld Try.prog 19 0 = some (0, 17) := by kernel_rfl
@[simp] theorem plc_19 : plc Try.prog 19 = some [(0, 1)] := by kernel_rfl
@[simp] theorem siz_21 : siz Try.prog 21 = 1 := by kernel_rfl
@[simp] theorem byt_21 : byt Try.prog 21 = 4 := by kernel_rfl
@[simp] theorem ags_21 : ags Try.prog 21 = false := by kernel_rfl
@[simp] theorem elm_21 : elm Try.prog 21 = none := by kernel_rfl
@[simp] theorem arr_21 : arr Try.prog 21 = none := by kernel_rfl
@[simp] theorem ikd_21 : ikd Try.prog 21 = some .i32 := by kernel_rfl
@[simp] theorem isStr_21 : isStr Try.prog 21 = false := by kernel_rfl
@[simp] theorem isBool_21 : isBool Try.prog 21 = false := by kernel_rfl
@[simp] theorem und_21 : (Try.prog.underlying 21).isSome = true := by kernel_rfl
@[simp] theorem good_21 : good Try.prog 21 = true := by kernel_rfl
@[simp] theorem zrc_21 : zrc Try.prog 21 = some [.sc (.int .i32 0)] := by kernel_rfl
@[simp] theorem siz_22 : siz Try.prog 22 = 16 := by kernel_rfl
@[simp] theorem byt_22 : byt Try.prog 22 = 16 := by kernel_rfl
@[simp] theorem ags_22 : ags Try.prog 22 = true := by kernel_rfl
@[simp] theorem elm_22 : elm Try.prog 22 = none := by kernel_rfl
@[simp] theorem arr_22 : arr Try.prog 22 = some (16, 5) := by kernel_rfl
@[simp] theorem ikd_22 : ikd Try.prog 22 = none := by kernel_rfl
@[simp] theorem isStr_22 : isStr Try.prog 22 = false := by kernel_rfl
@[simp] theorem isBool_22 : isBool Try.prog 22 = false := by kernel_rfl
@[simp] theorem und_22 : (Try.prog.underlying 22).isSome = true := by kernel_rfl
@[simp] theorem good_22 : good Try.prog 22 = true := by kernel_rfl
@[simp] theorem zrc_22 : zrc Try.prog 22 = some [.sc (.int .u8 0), .sc (.int .u8 0), .sc (.int .u8 0), .sc (.int .u8 0), .sc (.int .u8 0), .sc (.int .u8 0), .sc (.int .u8 0), .sc (.int .u8 0), .sc (.int .u8 0), .sc (.int .u8 0), .sc (.int .u8 0), .sc (.int .u8 0), .sc (.int .u8 0), .sc (.int .u8 0), .sc (.int .u8 0), .sc (.int .u8 0)] := by kernel_rfl
@[simp] theorem lks_22 : lks Try.prog 6 22 = some [.i, .i, .i, .i, .i, .i, .i, .i, .i, .i, .i, .i, .i, .i, .i, .i] := by kernel_rfl
@[simp] theorem egt_22 : Try.prog.eqGuardType Try.prog.depth 22 = false := by kernel_rfl
@[simp] theorem plc_22 : plc Try.prog 22 = some [(0, 1), (1, 1), (2, 1), (3, 1), (4, 1), (5, 1), (6, 1), (7, 1), (8, 1), (9, 1), (10, 1), (11, 1), (12, 1), (13, 1), (14, 1), (15, 1)] := by kernel_rfl
@[simp] theorem siz_23 : siz Try.prog 23 = 1 := by kernel_rfl
@[simp] theorem byt_23 : byt Try.prog 23 = 4 := by kernel_rfl
@[simp] theorem ags_23 : ags Try.prog 23 = false := by kernel_rfl
@[simp] theorem elm_23 : elm Try.prog 23 = none := by kernel_rfl
@[simp] theorem arr_23 : arr Try.prog 23 = none := by kernel_rfl
@[simp] theorem ikd_23 : ikd Try.prog 23 = some .u32 := by kernel_rfl
@[simp] theorem isStr_23 : isStr Try.prog 23 = false := by kernel_rfl
@[simp] theorem isBool_23 : isBool Try.prog 23 = false := by kernel_rfl
@[simp] theorem und_23 : (Try.prog.underlying 23).isSome = true := by kernel_rfl
@[simp] theorem good_23 : good Try.prog 23 = true := by kernel_rfl
@[simp] theorem zrc_23 : zrc Try.prog 23 = some [.sc (.int .u32 0)] := by kernel_rfl
@[simp] theorem siz_24 : siz Try.prog 24 = 2 := by kernel_rfl
@[simp] theorem byt_24 : byt Try.prog 24 = 8 := by kernel_rfl
@[simp] theorem ags_24 : ags Try.prog 24 = true := by kernel_rfl
@[simp] theorem elm_24 : elm Try.prog 24 = none := by kernel_rfl
@[simp] theorem arr_24 : arr Try.prog 24 = none := by kernel_rfl
@[simp] theorem ikd_24 : ikd Try.prog 24 = none := by kernel_rfl
@[simp] theorem isStr_24 : isStr Try.prog 24 = false := by kernel_rfl
@[simp] theorem isBool_24 : isBool Try.prog 24 = false := by kernel_rfl
@[simp] theorem und_24 : (Try.prog.underlying 24).isSome = true := by kernel_rfl
@[simp] theorem good_24 : good Try.prog 24 = true := by kernel_rfl
@[simp] theorem zrc_24 : zrc Try.prog 24 = some [.sc (.int .u32 0), .sc (.int .u32 0)] := by kernel_rfl
@[simp] theorem fld_24_0 : fld Try.prog 24 0 = some (0, 23) := by kernel_rfl
@[simp] theorem fld_24_1 : fld Try.prog 24 1 = some (1, 23) := by kernel_rfl
@[simp] theorem plc_24 : plc Try.prog 24 = some [(0, 1), (1, 1)] := by kernel_rfl
@[simp] theorem lks_24 : lks Try.prog 6 24 = some [.i, .i] := by kernel_rfl
@[simp] theorem egt_24 : Try.prog.eqGuardType Try.prog.depth 24 = false := by kernel_rfl
@[simp] theorem siz_25 : siz Try.prog 25 = 2 := by kernel_rfl
@[simp] theorem byt_25 : byt Try.prog 25 = 8 := by kernel_rfl
@[simp] theorem ags_25 : ags Try.prog 25 = true := by kernel_rfl
@[simp] theorem elm_25 : elm Try.prog 25 = none := by kernel_rfl
@[simp] theorem arr_25 : arr Try.prog 25 = none := by kernel_rfl
@[simp] theorem ikd_25 : ikd Try.prog 25 = none := by kernel_rfl
@[simp] theorem isStr_25 : isStr Try.prog 25 = false := by kernel_rfl
@[simp] theorem isBool_25 : isBool Try.prog 25 = false := by kernel_rfl
@[simp] theorem und_25 : (Try.prog.underlying 25).isSome = true := by kernel_rfl
@[simp] theorem good_25 : good Try.prog 25 = true := by kernel_rfl
@[simp] theorem zrc_25 : zrc Try.prog 25 = some [.sc (.int .u32 0), .sc (.int .u32 0)] := by kernel_rfl
@[simp] theorem fld_25_0 : fld Try.prog 25 0 = some (0, 23) := by kernel_rfl
@[simp] theorem fld_25_1 : fld Try.prog 25 1 = some (1, 23) := by kernel_rfl
@[simp] theorem plc_25 : plc Try.prog 25 = some [(0, 1), (1, 1)] := by kernel_rfl
@[simp] theorem lks_25 : lks Try.prog 6 25 = some [.i, .i] := by kernel_rfl
@[simp] theorem egt_25 : Try.prog.eqGuardType Try.prog.depth 25 = false := by kernel_rfl
@[simp] theorem siz_26 : siz Try.prog 26 = 1 := by kernel_rfl
@[simp] theorem byt_26 : byt Try.prog 26 = 8 := by kernel_rfl
@[simp] theorem ags_26 : ags Try.prog 26 = false := by kernel_rfl
@[simp] theorem elm_26 : elm Try.prog 26 = none := by kernel_rfl
@[simp] theorem arr_26 : arr Try.prog 26 = none := by kernel_rfl
@[simp] theorem ikd_26 : ikd Try.prog 26 = some .u64 := by kernel_rfl
@[simp] theorem isStr_26 : isStr Try.prog 26 = false := by kernel_rfl
@[simp] theorem isBool_26 : isBool Try.prog 26 = false := by kernel_rfl
@[simp] theorem und_26 : (Try.prog.underlying 26).isSome = true := by kernel_rfl
@[simp] theorem good_26 : good Try.prog 26 = true := by kernel_rfl
@[simp] theorem zrc_26 : zrc Try.prog 26 = some [.sc (.int .u64 0)] := by kernel_rfl
@[simp] theorem siz_27 : siz Try.prog 27 = 32 := by kernel_rfl
@[simp] theorem byt_27 : byt Try.prog 27 = 32 := by kernel_rfl
@[simp] theorem ags_27 : ags Try.prog 27 = true := by kernel_rfl
@[simp] theorem elm_27 : elm Try.prog 27 = none := by kernel_rfl
@[simp] theorem arr_27 : arr Try.prog 27 = some (32, 5) := by kernel_rfl
@[simp] theorem ikd_27 : ikd Try.prog 27 = none := by kernel_rfl
@[simp] theorem isStr_27 : isStr Try.prog 27 = false := by kernel_rfl
@[simp] theorem isBool_27 : isBool Try.prog 27 = false := by kernel_rfl
@[simp] theorem und_27 : (Try.prog.underlying 27).isSome = true := by kernel_rfl
@[simp] theorem good_27 : good Try.prog 27 = true := by kernel_rfl
@[simp] theorem zrc_27 : zrc Try.prog 27 = some [.sc (.int .u8 0), .sc (.int .u8 0), .sc (.int .u8 0), .sc (.int .u8 0), .sc (.int .u8 0), .sc (.int .u8 0), .sc (.int .u8 0), .sc (.int .u8 0), .sc (.int .u8 0), .sc (.int .u8 0), .sc (.int .u8 0), .sc (.int .u8 0), .sc (.int .u8 0), .sc (.int .u8 0), .sc (.int .u8 0), .sc (.int .u8 0), .sc (.int .u8 0), .sc (.int .u8 0), .sc (.int .u8 0), .sc (.int .u8 0), .sc (.int .u8 0), .sc (.int .u8 0), .sc (.int .u8 0), .sc (.int .u8 0), .sc (.int .u8 0), .sc (.int .u8 0), .sc (.int .u8 0), .sc (.int .u8 0), .sc (.int .u8 0), .sc (.int .u8 0), .sc (.int .u8 0), .sc (.int .u8 0)] := by kernel_rfl
@[simp] theorem lks_27 : lks Try.prog 6 27 = some [.i, .i, .i, .i, .i, .i, .i, .i, .i, .i, .i, .i, .i, .i, .i, .i, .i, .i, .i, .i, .i, .i, .i, .i, .i, .i, .i, .i, .i, .i, .i, .i] := by kernel_rfl
@[simp] theorem egt_27 : Try.prog.eqGuardType Try.prog.depth 27 = false := by kernel_rfl
@[simp] theorem plc_27 : plc Try.prog 27 = some [(0, 1), (1, 1), (2, 1), (3, 1), (4, 1), (5, 1), (6, 1), (7, 1), (8, 1), (9, 1), (10, 1), (11, 1), (12, 1), (13, 1), (14, 1), (15, 1), (16, 1), (17, 1), (18, 1), (19, 1), (20, 1), (21, 1), (22, 1), (23, 1), (24, 1), (25, 1), (26, 1), (27, 1), (28, 1), (29, 1), (30, 1), (31, 1)] := by kernel_rfl
@[simp] theorem siz_28 : siz Try.prog 28 = 1 := by kernel_rfl
@[simp] theorem byt_28 : byt Try.prog 28 = 24 := by kernel_rfl
@[simp] theorem ags_28 : ags Try.prog 28 = false := by kernel_rfl
@[simp] theorem elm_28 : elm Try.prog 28 = some 5 := by kernel_rfl
@[simp] theorem arr_28 : arr Try.prog 28 = none := by kernel_rfl
@[simp] theorem ikd_28 : ikd Try.prog 28 = none := by kernel_rfl
@[simp] theorem isStr_28 : isStr Try.prog 28 = false := by kernel_rfl
@[simp] theorem isBool_28 : isBool Try.prog 28 = false := by kernel_rfl
@[simp] theorem und_28 : (Try.prog.underlying 28).isSome = true := by kernel_rfl
@[simp] theorem good_28 : good Try.prog 28 = true := by kernel_rfl
@[simp] theorem zrc_28 : zrc Try.prog 28 = some [.nl] := by kernel_rfl
@[simp] theorem siz_29 : siz Try.prog 29 = 1 := by kernel_rfl
@[simp] theorem byt_29 : byt Try.prog 29 = 24 := by kernel_rfl
@[simp] theorem ags_29 : ags Try.prog 29 = false := by kernel_rfl
@[simp] theorem elm_29 : elm Try.prog 29 = some 69 := by kernel_rfl
@[simp] theorem arr_29 : arr Try.prog 29 = none := by kernel_rfl
@[simp] theorem ikd_29 : ikd Try.prog 29 = none := by kernel_rfl
@[simp] theorem isStr_29 : isStr Try.prog 29 = false := by kernel_rfl
@[simp] theorem isBool_29 : isBool Try.prog 29 = false := by kernel_rfl
@[simp] theorem und_29 : (Try.prog.underlying 29).isSome = true := by kernel_rfl
@[simp] theorem good_29 : good Try.prog 29 = true := by kernel_rfl
@[simp] theorem zrc_29 : zrc Try.prog 29 = some [.nl] := by kernel_rfl
@[simp] theorem siz_30 : siz Try.prog 30 = 56 := by kernel_rfl
@[simp] theorem byt_30 : byt Try.prog 30 = 136 := by kernel_rfl
@[simp] theorem ags_30 : ags Try.prog 30 = true := by kernel_rfl
@[simp] theorem elm_30 : elm Try.prog 30 = none := by kernel_rfl
@[simp] theorem arr_30 : arr Try.prog 30 = none := by kernel_rfl
@[simp] theorem ikd_30 : ikd Try.prog 30 = none := by kernel_rfl
@[simp] theorem isStr_30 : isStr Try.prog 30 = false := by kernel_rfl
@[simp] theorem isBool_30 : isBool Try.prog 30 = false := by kernel_rfl
@[simp] theorem und_30 : (Try.prog.underlying 30).isSome = true := by kernel_rfl
@[simp] theorem good_30 : good Try.prog 30 = true := by kernel_rfl
@[simp] theorem zrc_30 : zrc Try.prog 30 = some [.sc (.int .i64 0), .sc (.int .u8 0), .sc (.int .u8 0), .sc (.int .u8 0), .sc (.int .u8 0), .sc (.int .u8 0), .sc (.int .u8 0), .sc (.int .u8 0), .sc (.int .u8 0), .sc (.int .u8 0), .sc (.int .u8 0), .sc (.int .u8 0), .sc (.int .u8 0), .sc (.int .u8 0), .sc (.int .u8 0), .sc (.int .u8 0), .sc (.int .u8 0), .sc (.int .u32 0), .sc (.int .u32 0), .sc (.int .u64 0), .sc (.int .u64 0), .sc (.int .u8 0), .sc (.int .u8 0), .sc (.int .u8 0), .sc (.int .u8 0), .sc (.int .u8 0), .sc (.int .u8 0), .sc (.int .u8 0), .sc (.int .u8 0), .sc (.int .u8 0), .sc (.int .u8 0), .sc (.int .u8 0), .sc (.int .u8 0), .sc (.int .u8 0), .sc (.int .u8 0), .sc (.int .u8 0), .sc (.int .u8 0), .sc (.int .u8 0), .sc (.int .u8 0), .sc (.int .u8 0), .sc (.int .u8 0), .sc (.int .u8 0), .sc (.int .u8 0), .sc (.int .u8 0), .sc (.int .u8 0), .sc (.int .u8 0), .sc (.int .u8 0), .sc (.int .u8 0), .sc (.int .u8 0), .sc (.int .u8 0), .sc (.int .u8 0), .sc (.int .u8 0), .sc (.int .u8 0), .nl, .nl, .sc (.int .i64 0)] := by kernel_rfl
@[simp] theorem fld_30_0 : fld Try.prog 30 0 = some (0, 3) := by kernel_rfl
@[simp] theorem fld_30_1 : fld Try.prog 30 1 = some (1, 22) := by kernel_rfl
@[simp] theorem fld_30_2 : fld Try.prog 30 2 = some (17, 25) := by kernel_rfl
@[simp] theorem fld_30_3 : fld Try.prog 30 3 = some (19, 26) := by kernel_rfl
@[simp] theorem fld_30_4 : fld Try.prog 30 4 = some (20, 26) := by kernel_rfl
@[simp] theorem fld_30_5 : fld Try.prog 30 5 = some (21, 27) := by kernel_rfl
@[simp] theorem fld_30_6 : fld Try.prog 30 6 = some (53, 28) := by kernel_rfl
@[simp] theorem fld_30_7 : fld Try.prog 30 7 = some (54, 29) := by kernel_rfl
@[simp] theorem fld_30_8 : fld Try.prog 30 8 = some (55, 3) := by kernel_rfl
@[simp] theorem plc_30 : plc Try.prog 30 = some [(0, 1), (1, 16), (17, 2), (19, 1), (20, 1), (21, 32), (53, 1), (54, 1), (55, 1)] := by kernel_rfl
@[simp] theorem siz_31 : siz Try.prog 31 = 56 := by kernel_rfl
@[simp] theorem byt_31 : byt Try.prog 31 = 136 := by kernel_rfl
@[simp] theorem ags_31 : ags Try.prog 31 = true := by kernel_rfl
@[simp] theorem elm_31 : elm Try.prog 31 = none := by kernel_rfl
@[simp] theorem arr_31 : arr Try.prog 31 = none := by kernel_rfl
@[simp] theorem ikd_31 : ikd Try.prog 31 = none := by kernel_rfl
@[simp] theorem isStr_31 : isStr Try.prog 31 = false := by kernel_rfl
@[simp] theorem isBool_31 : isBool Try.prog 31 = false := by kernel_rfl
@[simp] theorem und_31 : (Try.prog.underlying 31).isSome = true := by kernel_rfl
@[simp] theorem good_31 : good Try.prog 31 = true := by kernel_rfl
@[simp] theorem zrc_31 : zrc Try.prog 31 = some [.sc (.int .i64 0), .sc (.int .u8 0), .sc (.int .u8 0), .sc (.int .u8 0), .sc (.int .u8 0), .sc (.int .u8 0), .sc (.int .u8 0), .sc (.int .u8 0), .sc (.int .u8 0), .sc (.int .u8 0), .sc (.int .u8 0), .sc (.int .u8 0), .sc (.int .u8 0), .sc (.int .u8 0), .sc (.int .u8 0), .sc (.int .u8 0), .sc (.int .u8 0), .sc (.int .u32 0), .sc (.int .u32 0), .sc (.int .u64 0), .sc (.int .u64 0), .sc (.int .u8 0), .sc (.int .u8 0), .sc (.int .u8 0), .sc (.int .u8 0), .sc (.int .u8 0), .sc (.int .u8 0), .sc (.int .u8 0), .sc (.int .u8 0), .sc (.int .u8 0), .sc (.int .u8 0), .sc (.int .u8 0), .sc (.int .u8 0), .sc (.int .u8 0), .sc (.int .u8 0), .sc (.int .u8 0), .sc (.int .u8 0), .sc (.int .u8 0), .sc (.int .u8 0), .sc (.int .u8 0), .sc (.int .u8 0), .sc (.int .u8 0), .sc (.int .u8 0), .sc (.int .u8 0), .sc (.int .u8 0), .sc (.int .u8 0), .sc (.int .u8 0), .sc (.int .u8 0), .sc (.int .u8 0), .sc (.int .u8 0), .sc (.int .u8 0), .sc (.int .u8 0), .sc (.int .u8 0), .nl, .nl, .sc (.int .i64 0)] := by kernel_rfl
@[simp] theorem fld_31_0 : fld Try.prog 31 0 = some (0, 3) := by kernel_rfl
@[simp] theorem fld_31_1 : fld Try.prog 31 1 = some (1, 22) := by kernel_rfl
@[simp] theorem fld_31_2 : fld Try.prog 31 2 = some (17, 25) := by kernel_rfl
@[simp] theorem fld_31_3 : fld Try.prog 31 3 = some (19, 26) := by kernel_rfl
@[simp] theorem fld_31_4 : fld Try.prog 31 4 = some (20, 26) := by kernel_rfl
@[simp] theorem fld_31_5 : fld Try.prog 31 5 = some (21, 27) := by kernel_rfl
@[simp] theorem fld_31_6 : fld Try.prog 31 6 = some (53, 28) := by kernel_rfl
@[simp] theorem fld_31_7 : fld Try.prog 31 7 = some (54, 29) := by kernel_rfl
@[simp] theorem fld_31_8 : fld Try.prog 31 8 = some (55, 3) := by kernel_rfl
@[simp] theorem plc_31 : plc Try.prog 31 = some [(0, 1), (1, 16), (17, 2), (19, 1), (20, 1), (21, 32), (53, 1), (54, 1), (55, 1)] := by kernel_rfl
@[simp] theorem siz_34 : siz Try.prog 34 = 1 := by kernel_rfl
@[simp] theorem byt_34 : byt Try.prog 34 = 8 := by kernel_rfl
@[simp] theorem ags_34 : ags Try.prog 34 = false := by kernel_rfl
@[simp] theorem elm_34 : elm Try.prog 34 = none := by kernel_rfl
@[simp] theorem arr_34 : arr Try.prog 34 = none := by kernel_rfl
@[simp] theorem ikd_34 : ikd Try.prog 34 = some .i64 := by kernel_rfl
@[simp] theorem isStr_34 : isStr Try.prog 34 = false := by kernel_rfl
@[simp] theorem isBool_34 : isBool Try.prog 34 = false := by kernel_rfl
@[simp] theorem und_34 : (Try.prog.underlying 34).isSome = true := by kernel_rfl
@[simp] theorem good_34 : good Try.prog 34 = true := by kernel_rfl
@[simp] theorem zrc_34 : zrc Try.prog 34 = some [.sc (.int .i64 0)] := by kernel_rfl
@[simp] theorem siz_37 : siz Try.prog 37 = 16 := by kernel_rfl
@[simp] theorem byt_37 : byt Try.prog 37 = 16 := by kernel_rfl
@[simp] theorem ags_37 : ags Try.prog 37 = true := by kernel_rfl
@[simp] theorem elm_37 : elm Try.prog 37 = none := by kernel_rfl
@[simp] theorem arr_37 : arr Try.prog 37 = some (16, 5) := by kernel_rfl
@[simp] theorem ikd_37 : ikd Try.prog 37 = none := by kernel_rfl
@[simp] theorem isStr_37 : isStr Try.prog 37 = false := by kernel_rfl
@[simp] theorem isBool_37 : isBool Try.prog 37 = false := by kernel_rfl
@[simp] theorem und_37 : (Try.prog.underlying 37).isSome = true := by kernel_rfl
@[simp] theorem good_37 : good Try.prog 37 = true := by kernel_rfl
@[simp] theorem zrc_37 : zrc Try.prog 37 = some [.sc (.int .u8 0), .sc (.int .u8 0), .sc (.int .u8 0), .sc (.int .u8 0), .sc (.int .u8 0), .sc (.int .u8 0), .sc (.int .u8 0), .sc (.int .u8 0), .sc (.int .u8 0), .sc (.int .u8 0), .sc (.int .u8 0), .sc (.int .u8 0), .sc (.int .u8 0), .sc (.int .u8 0), .sc (.int .u8 0), .sc (.int .u8 0)] := by kernel_rfl
@[simp] theorem lks_37 : lks Try.prog 6 37 = some [.i, .i, .i, .i, .i, .i, .i, .i, .i, .i, .i, .i, .i, .i, .i, .i] := by kernel_rfl
@[simp] theorem egt_37 : Try.prog.eqGuardType Try.prog.depth 37 = false := by kernel_rfl
@[simp] theorem plc_37 : plc Try.prog 37 = some [(0, 1), (1, 1), (2, 1), (3, 1), (4, 1), (5, 1), (6, 1), (7, 1), (8, 1), (9, 1), (10, 1), (11, 1), (12, 1), (13, 1), (14, 1), (15, 1)] := by kernel_rfl
@[simp] theorem siz_38 : siz Try.prog 38 = 2 := by kernel_rfl
@[simp] theorem byt_38 : byt Try.prog 38 = 8 := by kernel_rfl
@[simp] theorem ags_38 : ags Try.prog 38 = true := by kernel_rfl
@[simp] theorem elm_38 : elm Try.prog 38 = none := by kernel_rfl
@[simp] theorem arr_38 : arr Try.prog 38 = none := by kernel_rfl
@[simp] theorem ikd_38 : ikd Try.prog 38 = none := by kernel_rfl
@[simp] theorem isStr_38 : isStr Try.prog 38 = false := by kernel_rfl
@[simp] theorem isBool_38 : isBool Try.prog 38 = false := by kernel_rfl
@[simp] theorem und_38 : (Try.prog.underlying 38).isSome = true := by kernel_rfl
@[simp] theorem good_38 : good Try.prog 38 = true := by kernel_rfl
@[simp] theorem zrc_38 : zrc Try.prog 38 = some [.sc (.int .u32 0), .sc (.int .u32 0)] := by kernel_rfl
@[simp] theorem fld_38_0 : fld Try.prog 38 0 = some (0, 23) := by kernel_rfl
@[simp] theorem fld_38_1 : fld Try.prog 38 1 = some (1, 23) := by kernel_rfl
@[simp] theorem plc_38 : plc Try.prog 38 = some [(0, 1), (1, 1)] := by kernel_rfl
@[simp] theorem lks_38 : lks Try.prog 6 38 = some [.i, .i] := by kernel_rfl
@[simp] theorem egt_38 : Try.prog.eqGuardType Try.prog.depth 38 = false := by kernel_rfl
@[simp] theorem siz_39 : siz Try.prog 39 = 32 := by kernel_rfl
@[simp] theorem byt_39 : byt Try.prog 39 = 32 := by kernel_rfl
@[simp] theorem ags_39 : ags Try.prog 39 = true := by kernel_rfl
@[simp] theorem elm_39 : elm Try.prog 39 = none := by kernel_rfl
@[simp] theorem arr_39 : arr Try.prog 39 = some (32, 5) := by kernel_rfl
@[simp] theorem ikd_39 : ikd Try.prog 39 = none := by kernel_rfl
@[simp] theorem isStr_39 : isStr Try.prog 39 = false := by kernel_rfl
@[simp] theorem isBool_39 : isBool Try.prog 39 = false := by kernel_rfl
@[simp] theorem und_39 : (Try.prog.underlying 39).isSome = true := by kernel_rfl
@[simp] theorem good_39 : good Try.prog 39 = true := by kernel_rfl
@[simp] theorem zrc_39 : zrc Try.prog 39 = some [.sc (.int .u8 0), .sc (.int .u8 0), .sc (.int .u8 0), .sc (.int .u8 0), .sc (.int .u8 0), .sc (.int .u8 0), .sc (.int .u8 0), .sc (.int .u8 0), .sc (.int .u8 0), .sc (.int .u8 0), .sc (.int .u8 0), .sc (.int .u8 0), .sc (.int .u8 0), .sc (.int .u8 0), .sc (.int .u8 0), .sc (.int .u8 0), .sc (.int .u8 0), .sc (.int .u8 0), .sc (.int .u8 0), .sc (.int .u8 0), .sc (.int .u8 0), .sc (.int .u8 0), .sc (.int .u8 0), .sc (.int .u8 0), .sc (.int .u8 0), .sc (.int .u8 0), .sc (.int .u8 0), .sc (.int .u8 0), .sc (.int .u8 0), .sc (.int .u8 0), .sc (.int .u8 0), .sc (.int .u8 0)] := by kernel_rfl
@[simp] theorem lks_39 : lks Try.prog 6 39 = some [.i, .i, .i, .i, .i, .i, .i, .i, .i, .i, .i, .i, .i, .i, .i, .i, .i, .i, .i, .i, .i, .i, .i, .i, .i, .i, .i, .i, .i, .i, .i, .i] := by kernel_rfl
@[simp] theorem egt_39 : Try.prog.eqGuardType Try.prog.depth 39 = false := by kernel_rfl
@[simp] theorem plc_39 : plc Try.prog 39 = some [(0, 1), (1, 1), (2, 1), (3, 1), (4, 1), (5, 1), (6, 1), (7, 1), (8, 1), (9, 1), (10, 1), (11, 1), (12, 1), (13, 1), (14, 1), (15, 1), (16, 1), (17, 1), (18, 1), (19, 1), (20, 1), (21, 1), (22, 1), (23, 1), (24, 1), (25, 1), (26, 1), (27, 1), (28, 1), (29, 1), (30, 1), (31, 1)] := by kernel_rfl
@[simp] theorem siz_40 : siz Try.prog 40 = 1 := by kernel_rfl
@[simp] theorem byt_40 : byt Try.prog 40 = 24 := by kernel_rfl
@[simp] theorem ags_40 : ags Try.prog 40 = false := by kernel_rfl
@[simp] theorem elm_40 : elm Try.prog 40 = some 64 := by kernel_rfl
@[simp] theorem arr_40 : arr Try.prog 40 = none := by kernel_rfl
@[simp] theorem ikd_40 : ikd Try.prog 40 = none := by kernel_rfl
@[simp] theorem isStr_40 : isStr Try.prog 40 = false := by kernel_rfl
@[simp] theorem isBool_40 : isBool Try.prog 40 = false := by kernel_rfl
@[simp] theorem und_40 : (Try.prog.underlying 40).isSome = true := by kernel_rfl
@[simp] theorem good_40 : good Try.prog 40 = true := by kernel_rfl
@[simp] theorem zrc_40 : zrc Try.prog 40 = some [.nl] := by kernel_rfl
@[simp] theorem siz_41 : siz Try.prog 41 = 56 := by kernel_rfl
@[simp] theorem byt_41 : byt Try.prog 41 = 136 := by kernel_rfl
@[simp] theorem ags_41 : ags Try.prog 41 = true := by kernel_rfl
@[simp] theorem elm_41 : elm Try.prog 41 = none := by kernel_rfl
@[simp] theorem arr_41 : arr Try.prog 41 = none := by kernel_rfl
@[simp] theorem ikd_41 : ikd Try.prog 41 = none := by kernel_rfl
@[simp] theorem isStr_41 : isStr Try.prog 41 = false := by kernel_rfl
@[simp] theorem isBool_41 : isBool Try.prog 41 = false := by kernel_rfl
@[simp] theorem und_41 : (Try.prog.underlying 41).isSome = true := by kernel_rfl
@[simp] theorem good_41 : good Try.prog 41 = true := by kernel_rfl
@[simp] theorem zrc_41 : zrc Try.prog 41 = some [.sc (.int .i64 0), .sc (.int .u8 0), .sc (.int .u8 0), .sc (.int .u8 0), .sc (.int .u8 0), .sc (.int .u8 0), .sc (.int .u8 0), .sc (.int .u8 0), .sc (.int .u8 0), .sc (.int .u8 0), .sc (.int .u8 0), .sc (.int .u8 0), .sc (.int .u8 0), .sc (.int .u8 0), .sc (.int .u8 0), .sc (.int .u8 0), .sc (.int .u8 0), .sc (.int .u32 0), .sc (.int .u32 0), .sc (.int .u64 0), .sc (.int .u64 0), .sc (.int .u8 0), .sc (.int .u8 0), .sc (.int .u8 0), .sc (.int .u8 0), .sc (.int .u8 0), .sc (.int .u8 0), .sc (.int .u8 0), .sc (.int .u8 0), .sc (.int .u8 0), .sc (.int .u8 0), .sc (.int .u8 0), .sc (.int .u8 0), .sc (.int .u8 0), .sc (.int .u8 0), .sc (.int .u8 0), .sc (.int .u8 0), .sc (.int .u8 0), .sc (.int .u8 0), .sc (.int .u8 0), .sc (.int .u8 0), .sc (.int .u8 0), .sc (.int .u8 0), .sc (.int .u8 0), .sc (.int .u8 0), .sc (.int .u8 0), .sc (.int .u8 0), .sc (.int .u8 0), .sc (.int .u8 0), .sc (.int .u8 0), .sc (.int .u8 0), .sc (.int .u8 0), .sc (.int .u8 0), .nl, .nl, .sc (.int .i64 0)] := by kernel_rfl
@[simp] theorem fld_41_0 : fld Try.prog 41 0 = some (0, 3) := by kernel_rfl
@[simp] theorem fld_41_1 : fld Try.prog 41 1 = some (1, 37) := by kernel_rfl
@[simp] theorem fld_41_2 : fld Try.prog 41 2 = some (17, 38) := by kernel_rfl
@[simp] theorem fld_41_3 : fld Try.prog 41 3 = some (19, 26) := by kernel_rfl
@[simp] theorem fld_41_4 : fld Try.prog 41 4 = some (20, 26) := by kernel_rfl
@[simp] theorem fld_41_5 : fld Try.prog 41 5 = some (21, 39) := by kernel_rfl
@[simp] theorem fld_41_6 : fld Try.prog 41 6 = some (53, 28) := by kernel_rfl
@[simp] theorem fld_41_7 : fld Try.prog 41 7 = some (54, 40) := by kernel_rfl
@[simp] theorem fld_41_8 : fld Try.prog 41 8 = some (55, 3) := by kernel_rfl
@[simp] theorem plc_41 : plc Try.prog 41 = some [(0, 1), (1, 16), (17, 2), (19, 1), (20, 1), (21, 32), (53, 1), (54, 1), (55, 1)] := by kernel_rfl
@[simp] theorem siz_42 : siz Try.prog 42 = 56 := by kernel_rfl
@[simp] theorem byt_42 : byt Try.prog 42 = 136 := by kernel_rfl
@[simp] theorem ags_42 : ags Try.prog 42 = true := by kernel_rfl
@[simp] theorem elm_42 : elm Try.prog 42 = none := by kernel_rfl
@[simp] theorem arr_42 : arr Try.prog 42 = none := by kernel_rfl
@[simp] theorem ikd_42 : ikd Try.prog 42 = none := by kernel_rfl
@[simp] theorem isStr_42 : isStr Try.prog 42 = false := by kernel_rfl
@[simp] theorem isBool_42 : isBool Try.prog 42 = false := by kernel_rfl
@[simp] theorem und_42 : (Try.prog.underlying 42).isSome = true := by kernel_rfl
@[simp] theorem good_42 : good Try.prog 42 = true := by kernel_rfl
@[simp] theorem zrc_42 : zrc Try.prog 42 = some [.sc (.int .i64 0), .sc (.int .u8 0), .sc (.int .u8 0), .sc (.int .u8 0), .sc (.int .u8 0), .sc (.int .u8 0), .sc (.int .u8 0), .sc (.int .u8 0), .sc (.int .u8 0), .sc (.int .u8 0), .sc (.int .u8 0), .sc (.int .u8 0), .sc (.int .u8 0), .sc (.int .u8 0), .sc (.int .u8 0), .sc (.int .u8 0), .sc (.int .u8 0), .sc (.int .u32 0), .sc (.int .u32 0), .sc (.int .u64 0), .sc (.int .u64 0), .sc (.int .u8 0), .sc (.int .u8 0), .sc (.int .u8 0), .sc (.int .u8 0), .sc (.int .u8 0), .sc (.int .u8 0), .sc (.int .u8 0), .sc (.int .u8 0), .sc (.int .u8 0), .sc (.int .u8 0), .sc (.int .u8 0), .sc (.int .u8 0), .sc (.int .u8 0), .sc (.int .u8 0), .sc (.int .u8 0), .sc (.int .u8 0), .sc (.int .u8 0), .sc (.int .u8 0), .sc (.int .u8 0), .sc (.int .u8 0), .sc (.int .u8 0), .sc (.int .u8 0), .sc (.int .u8 0), .sc (.int .u8 0), .sc (.int .u8 0), .sc (.int .u8 0), .sc (.int .u8 0), .sc (.int .u8 0), .sc (.int .u8 0), .sc (.int .u8 0), .sc (.int .u8 0), .sc (.int .u8 0), .nl, .nl, .sc (.int .i64 0)] := by kernel_rfl
@[simp] theorem fld_42_0 : fld Try.prog 42 0 = some (0, 3) := by kernel_rfl
@[simp] theorem fld_42_1 : fld Try.prog 42 1 = some (1, 37) := by kernel_rfl
@[simp] theorem fld_42_2 : fld Try.prog 42 2 = some (17, 38) := by kernel_rfl
@[simp] theorem fld_42_3 : fld Try.prog 42 3 = some (19, 26) := by kernel_rfl
@[simp] theorem fld_42_4 : fld Try.prog 42 4 = some (20, 26) := by kernel_rfl
@[simp] theorem fld_42_5 : fld Try.prog 42 5 = some (21, 39) := by kernel_rfl
@[simp] theorem fld_42_6 : fld Try.prog 42 6 = some (53, 28) := by kernel_rfl
@[simp] theorem fld_42_7 : fld Try.prog 42 7 = some (54, 40) := by kernel_rfl
@[simp] theorem fld_42_8 : fld Try.prog 42 8 = some (55, 3) := by kernel_rfl
@[simp] theorem plc_42 : plc Try.prog 42 = some [(0, 1), (1, 16), (17, 2), (19, 1), (20, 1), (21, 32), (53, 1), (54, 1), (55, 1)] := by kernel_rfl
@[simp] theorem siz_60 : siz Try.prog 60 = 1 := by kernel_rfl
@[simp] theorem byt_60 : byt Try.prog 60 = 2 := by kernel_rfl
@[simp] theorem ags_60 : ags Try.prog 60 = false := by kernel_rfl
@[simp] theorem elm_60 : elm Try.prog 60 = none := by kernel_rfl
@[simp] theorem arr_60 : arr Try.prog 60 = none := by kernel_rfl
@[simp] theorem ikd_60 : ikd Try.prog 60 = some .u16 := by kernel_rfl
@[simp] theorem isStr_60 : isStr Try.prog 60 = false := by kernel_rfl
@[simp] theorem isBool_60 : isBool Try.prog 60 = false := by kernel_rfl
@[simp] theorem und_60 : (Try.prog.underlying 60).isSome = true := by kernel_rfl
@[simp] theorem good_60 : good Try.prog 60 = true := by kernel_rfl
@[simp] theorem zrc_60 : zrc Try.prog 60 = some [.sc (.int .u16 0)] := by kernel_rfl
@[simp] theorem siz_61 : siz Try.prog 61 = 4 := by kernel_rfl
@[simp] theorem byt_61 : byt Try.prog 61 = 4 := by kernel_rfl
@[simp] theorem ags_61 : ags Try.prog 61 = true := by kernel_rfl
@[simp] theorem elm_61 : elm Try.prog 61 = none := by kernel_rfl
@[simp] theorem arr_61 : arr Try.prog 61 = some (4, 5) := by kernel_rfl
@[simp] theorem ikd_61 : ikd Try.prog 61 = none := by kernel_rfl
@[simp] theorem isStr_61 : isStr Try.prog 61 = false := by kernel_rfl
@[simp] theorem isBool_61 : isBool Try.prog 61 = false := by kernel_rfl
@[simp] theorem und_61 : (Try.prog.underlying 61).isSome = true := by kernel_rfl
@[simp] theorem good_61 : good Try.prog 61 = true := by kernel_rfl
@[simp] theorem zrc_61 : zrc Try.prog 61 = some [.sc (.int .u8 0), .sc (.int .u8 0), .sc (.int .u8 0), .sc (.int .u8 0)] := by kernel_rfl
@[simp] theorem lks_61 : lks Try.prog 6 61 = some [.i, .i, .i, .i] := by kernel_rfl
@[simp] theorem egt_61 : Try.prog.eqGuardType Try.prog.depth 61 = false := by kernel_rfl
@[simp] theorem plc_61 : plc Try.prog 61 = some [(0, 1), (1, 1), (2, 1), (3, 1)] := by kernel_rfl
@[simp] theorem siz_63 : siz Try.prog 63 = 2 := by kernel_rfl
@[simp] theorem byt_63 : byt Try.prog 63 = 16 := by kernel_rfl
@[simp] theorem ags_63 : ags Try.prog 63 = true := by kernel_rfl
@[simp] theorem elm_63 : elm Try.prog 63 = none := by kernel_rfl
@[simp] theorem arr_63 : arr Try.prog 63 = none := by kernel_rfl
@[simp] theorem ikd_63 : ikd Try.prog 63 = none := by kernel_rfl
@[simp] theorem isStr_63 : isStr Try.prog 63 = false := by kernel_rfl
@[simp] theorem isBool_63 : isBool Try.prog 63 = false := by kernel_rfl
@[simp] theorem und_63 : (Try.prog.underlying 63).isSome = true := by kernel_rfl
@[simp] theorem good_63 : good Try.prog 63 = true := by kernel_rfl
@[simp] theorem zrc_63 : zrc Try.prog 63 = some [.sc (.int .u64 0), .sc (.int .u64 0)] := by kernel_rfl
@[simp] theorem fld_63_0 : fld Try.prog 63 0 = some (0, 26) := by kernel_rfl
@[simp] theorem fld_63_1 : fld Try.prog 63 1 = some (1, 26) := by kernel_rfl
@[simp] theorem plc_63 : plc Try.prog 63 = some [(0, 1), (1, 1)] := by kernel_rfl
@[simp] theorem lks_63 : lks Try.prog 6 63 = some [.i, .i] := by kernel_rfl
@[simp] theorem egt_63 : Try.prog.eqGuardType Try.prog.depth 63 = false := by kernel_rfl
@[simp] theorem siz_64 : siz Try.prog 64 = 2 := by kernel_rfl
@[simp] theorem byt_64 : byt Try.prog 64 = 16 := by kernel_rfl
@[simp] theorem ags_64 : ags Try.prog 64 = true := by kernel_rfl
@[simp] theorem elm_64 : elm Try.prog 64 = none := by kernel_rfl
@[simp] theorem arr_64 : arr Try.prog 64 = none := by kernel_rfl
@[simp] theorem ikd_64 : ikd Try.prog 64 = none := by kernel_rfl
@[simp] theorem isStr_64 : isStr Try.prog 64 = false := by kernel_rfl
@[simp] theorem isBool_64 : isBool Try.prog 64 = false := by kernel_rfl
@[simp] theorem und_64 : (Try.prog.underlying 64).isSome = true := by kernel_rfl
@[simp] theorem good_64 : good Try.prog 64 = true := by kernel_rfl
@[simp] theorem zrc_64 : zrc Try.prog 64 = some [.sc (.int .u64 0), .sc (.int .u64 0)] := by kernel_rfl
@[simp] theorem fld_64_0 : fld Try.prog 64 0 = some (0, 26) := by kernel_rfl
@[simp] theorem fld_64_1 : fld Try.prog 64 1 = some (1, 26) := by kernel_rfl
@[simp] theorem plc_64 : plc Try.prog 64 = some [(0, 1), (1, 1)] := by kernel_rfl
@[simp] theorem lks_64 : lks Try.prog 6 64 = some [.i, .i] := by kernel_rfl
@[simp] theorem egt_64 : Try.prog.eqGuardType Try.prog.depth 64 = false := by kernel_rfl
@[simp] theorem siz_69 : siz Try.prog 69 = 2 := by kernel_rfl
@[simp] theorem byt_69 : byt Try.prog 69 = 16 := by kernel_rfl
@[simp] theorem ags_69 : ags Try.prog 69 = true := by kernel_rfl
@[simp] theorem elm_69 : elm Try.prog 69 = none := by kernel_rfl
@[simp] theorem arr_69 : arr Try.prog 69 = none := by kernel_rfl
@[simp] theorem ikd_69 : ikd Try.prog 69 = none := by kernel_rfl
@[simp] theorem isStr_69 : isStr Try.prog 69 = false := by kernel_rfl
@[simp] theorem isBool_69 : isBool Try.prog 69 = false := by kernel_rfl
@[simp] theorem und_69 : (Try.prog.underlying 69).isSome = true := by kernel_rfl
@[simp] theorem good_69 : good Try.prog 69 = true := by kernel_rfl
@[simp] theorem zrc_69 : zrc Try.prog 69 = some [.sc (.int .u64 0), .sc (.int .u64 0)] := by kernel_rfl
@[simp] theorem fld_69_0 : fld Try.prog 69 0 = some (0, 26) := by kernel_rfl
@[simp] theorem fld_69_1 : fld Try.prog 69 1 = some (1, 26) := by kernel_rfl
@[simp] theorem plc_69 : plc Try.prog 69 = some [(0, 1), (1, 1)] := by kernel_rfl
@[simp] theorem lks_69 : lks Try.prog 6 69 = some [.i, .i] := by kernel_rfl
@[simp] theorem egt_69 : Try.prog.eqGuardType Try.prog.depth 69 = false := by kernel_rfl
@[simp] theorem siz_77 : siz Try.prog 77 = 1 := by kernel_rfl
@[simp] theorem byt_77 : byt Try.prog 77 = 8 := by kernel_rfl
@[simp] theorem ags_77 : ags Try.prog 77 = false := by kernel_rfl
@[simp] theorem elm_77 : elm Try.prog 77 = none := by kernel_rfl
@[simp] theorem arr_77 : arr Try.prog 77 = none := by kernel_rfl
@[simp] theorem ikd_77 : ikd Try.prog 77 = none := by kernel_rfl
@[simp] theorem isStr_77 : isStr Try.prog 77 = false := by kernel_rfl
@[simp] theorem isBool_77 : isBool Try.prog 77 = false := by kernel_rfl
@[simp] theorem und_77 : (Try.prog.underlying 77).isSome = true := by kernel_rfl
@[simp] theorem good_77 : good Try.prog 77 = true := by kernel_rfl
@[simp] theorem zrc_77 : zrc Try.prog 77 = some [.sc (.pointer none)] := by kernel_rfl
@[simp] theorem siz_78 : siz Try.prog 78 = 2 := by kernel_rfl
@[simp] theorem byt_78 : byt Try.prog 78 = 32 := by kernel_rfl
@[simp] theorem ags_78 : ags Try.prog 78 = true := by kernel_rfl
@[simp] theorem elm_78 : elm Try.prog 78 = none := by kernel_rfl
@[simp] theorem arr_78 : arr Try.prog 78 = none := by kernel_rfl
@[simp] theorem ikd_78 : ikd Try.prog 78 = none := by kernel_rfl
@[simp] theorem isStr_78 : isStr Try.prog 78 = false := by kernel_rfl
@[simp] theorem isBool_78 : isBool Try.prog 78 = false := by kernel_rfl
@[simp] theorem und_78 : (Try.prog.underlying 78).isSome = true := by kernel_rfl
@[simp] theorem good_78 : good Try.prog 78 = true := by kernel_rfl
@[simp] theorem zrc_78 : zrc Try.prog 78 = some [.nl, .sc (.bool false)] := by kernel_rfl
@[simp] theorem fld_78_0 : fld Try.prog 78 0 = some (0, 28) := by kernel_rfl
@[simp] theorem fld_78_1 : fld Try.prog 78 1 = some (1, 4) := by kernel_rfl
@[simp] theorem plc_78 : plc Try.prog 78 = some [(0, 1), (1, 1)] := by kernel_rfl
@[simp] theorem siz_79 : siz Try.prog 79 = 2 := by kernel_rfl
@[simp] theorem byt_79 : byt Try.prog 79 = 32 := by kernel_rfl
@[simp] theorem ags_79 : ags Try.prog 79 = true := by kernel_rfl
@[simp] theorem elm_79 : elm Try.prog 79 = none := by kernel_rfl
@[simp] theorem arr_79 : arr Try.prog 79 = none := by kernel_rfl
@[simp] theorem ikd_79 : ikd Try.prog 79 = none := by kernel_rfl
@[simp] theorem isStr_79 : isStr Try.prog 79 = false := by kernel_rfl
@[simp] theorem isBool_79 : isBool Try.prog 79 = false := by kernel_rfl
@[simp] theorem und_79 : (Try.prog.underlying 79).isSome = true := by kernel_rfl
@[simp] theorem good_79 : good Try.prog 79 = true := by kernel_rfl
@[simp] theorem zrc_79 : zrc Try.prog 79 = some [.nl, .sc (.bool false)] := by kernel_rfl
@[simp] theorem fld_79_0 : fld Try.prog 79 0 = some (0, 28) := by kernel_rfl
@[simp] theorem fld_79_1 : fld Try.prog 79 1 = some (1, 4) := by kernel_rfl
@[simp] theorem plc_79 : plc Try.prog 79 = some [(0, 1), (1, 1)] := by kernel_rfl
@[simp] theorem siz_83 : siz Try.prog 83 = 1 := by kernel_rfl
@[simp] theorem byt_83 : byt Try.prog 83 = 8 := by kernel_rfl
@[simp] theorem ags_83 : ags Try.prog 83 = false := by kernel_rfl
@[simp] theorem elm_83 : elm Try.prog 83 = none := by kernel_rfl
@[simp] theorem arr_83 : arr Try.prog 83 = none := by kernel_rfl
@[simp] theorem ikd_83 : ikd Try.prog 83 = none := by kernel_rfl
@[simp] theorem isStr_83 : isStr Try.prog 83 = false := by kernel_rfl
@[simp] theorem isBool_83 : isBool Try.prog 83 = false := by kernel_rfl
@[simp] theorem und_83 : (Try.prog.underlying 83).isSome = true := by kernel_rfl
@[simp] theorem good_83 : good Try.prog 83 = true := by kernel_rfl
@[simp] theorem zrc_83 : zrc Try.prog 83 = some [.sc (.pointer none)] := by kernel_rfl
@[simp] theorem siz_93 : siz Try.prog 93 = 1 := by kernel_rfl
@[simp] theorem byt_93 : byt Try.prog 93 = 8 := by kernel_rfl
@[simp] theorem ags_93 : ags Try.prog 93 = false := by kernel_rfl
@[simp] theorem elm_93 : elm Try.prog 93 = none := by kernel_rfl
@[simp] theorem arr_93 : arr Try.prog 93 = none := by kernel_rfl
@[simp] theorem ikd_93 : ikd Try.prog 93 = some .u64 := by kernel_rfl
@[simp] theorem isStr_93 : isStr Try.prog 93 = false := by kernel_rfl
@[simp] theorem isBool_93 : isBool Try.prog 93 = false := by kernel_rfl
@[simp] theorem und_93 : (Try.prog.underlying 93).isSome = true := by kernel_rfl
@[simp] theorem good_93 : good Try.prog 93 = true := by kernel_rfl
@[simp] theorem zrc_93 : zrc Try.prog 93 = some [.sc (.int .u64 0)] := by kernel_rfl
@[simp] theorem siz_94 : siz Try.prog 94 = 1 := by kernel_rfl
@[simp] theorem byt_94 : byt Try.prog 94 = 24 := by kernel_rfl
@[simp] theorem ags_94 : ags Try.prog 94 = false := by kernel_rfl
@[simp] theorem elm_94 : elm Try.prog 94 = some 3 := by kernel_rfl
@[simp] theorem arr_94 : arr Try.prog 94 = none := by kernel_rfl
@[simp] theorem ikd_94 : ikd Try.prog 94 = none := by kernel_rfl
@[simp] theorem isStr_94 : isStr Try.prog 94 = false := by kernel_rfl
@[simp] theorem isBool_94 : isBool Try.prog 94 = false := by kernel_rfl
@[simp] theorem und_94 : (Try.prog.underlying 94).isSome = true := by kernel_rfl
@[simp] theorem good_94 : good Try.prog 94 = true := by kernel_rfl
@[simp] theorem zrc_94 : zrc Try.prog 94 = some [.nl] := by kernel_rfl
@[simp] theorem siz_95 : siz Try.prog 95 = 4 := by kernel_rfl
@[simp] theorem byt_95 : byt Try.prog 95 = 64 := by kernel_rfl
@[simp] theorem ags_95 : ags Try.prog 95 = true := by kernel_rfl
@[simp] theorem elm_95 : elm Try.prog 95 = none := by kernel_rfl
@[simp] theorem arr_95 : arr Try.prog 95 = some (4, 89) := by kernel_rfl
@[simp] theorem ikd_95 : ikd Try.prog 95 = none := by kernel_rfl
@[simp] theorem isStr_95 : isStr Try.prog 95 = false := by kernel_rfl
@[simp] theorem isBool_95 : isBool Try.prog 95 = false := by kernel_rfl
@[simp] theorem und_95 : (Try.prog.underlying 95).isSome = true := by kernel_rfl
@[simp] theorem good_95 : good Try.prog 95 = true := by kernel_rfl
@[simp] theorem siz_98 : siz Try.prog 98 = 1 := by kernel_rfl
@[simp] theorem byt_98 : byt Try.prog 98 = 24 := by kernel_rfl
@[simp] theorem ags_98 : ags Try.prog 98 = false := by kernel_rfl
@[simp] theorem elm_98 : elm Try.prog 98 = some 28 := by kernel_rfl
@[simp] theorem arr_98 : arr Try.prog 98 = none := by kernel_rfl
@[simp] theorem ikd_98 : ikd Try.prog 98 = none := by kernel_rfl
@[simp] theorem isStr_98 : isStr Try.prog 98 = false := by kernel_rfl
@[simp] theorem isBool_98 : isBool Try.prog 98 = false := by kernel_rfl
@[simp] theorem und_98 : (Try.prog.underlying 98).isSome = true := by kernel_rfl
@[simp] theorem good_98 : good Try.prog 98 = true := by kernel_rfl
@[simp] theorem zrc_98 : zrc Try.prog 98 = some [.nl] := by kernel_rfl
@[simp] theorem siz_100 : siz Try.prog 100 = 4 := by kernel_rfl
@[simp] theorem byt_100 : byt Try.prog 100 = 40 := by kernel_rfl
@[simp] theorem ags_100 : ags Try.prog 100 = true := by kernel_rfl
@[simp] theorem elm_100 : elm Try.prog 100 = none := by kernel_rfl
@[simp] theorem arr_100 : arr Try.prog 100 = none := by kernel_rfl
@[simp] theorem ikd_100 : ikd Try.prog 100 = none := by kernel_rfl
@[simp] theorem isStr_100 : isStr Try.prog 100 = false := by kernel_rfl
@[simp] theorem isBool_100 : isBool Try.prog 100 = false := by kernel_rfl
@[simp] theorem und_100 : (Try.prog.underlying 100).isSome = true := by kernel_rfl
@[simp] theorem good_100 : good Try.prog 100 = true := by kernel_rfl
@[simp] theorem zrc_100 : zrc Try.prog 100 = some [.sc (.pointer none), .sc (.pointer none), .sc (.pointer none), .sc (.string ⟨#[]⟩)] := by kernel_rfl
@[simp] theorem fld_100_0 : fld Try.prog 100 0 = some (0, 17) := by kernel_rfl
@[simp] theorem fld_100_1 : fld Try.prog 100 1 = some (1, 17) := by kernel_rfl
@[simp] theorem fld_100_2 : fld Try.prog 100 2 = some (2, 17) := by kernel_rfl
@[simp] theorem fld_100_3 : fld Try.prog 100 3 = some (3, 9) := by kernel_rfl
@[simp] theorem plc_100 : plc Try.prog 100 = some [(0, 1), (1, 1), (2, 1), (3, 1)] := by kernel_rfl
@[simp] theorem siz_101 : siz Try.prog 101 = 4 := by kernel_rfl
@[simp] theorem byt_101 : byt Try.prog 101 = 40 := by kernel_rfl
@[simp] theorem ags_101 : ags Try.prog 101 = true := by kernel_rfl
@[simp] theorem elm_101 : elm Try.prog 101 = none := by kernel_rfl
@[simp] theorem arr_101 : arr Try.prog 101 = none := by kernel_rfl
@[simp] theorem ikd_101 : ikd Try.prog 101 = none := by kernel_rfl
@[simp] theorem isStr_101 : isStr Try.prog 101 = false := by kernel_rfl
@[simp] theorem isBool_101 : isBool Try.prog 101 = false := by kernel_rfl
@[simp] theorem und_101 : (Try.prog.underlying 101).isSome = true := by kernel_rfl
@[simp] theorem good_101 : good Try.prog 101 = true := by kernel_rfl
@[simp] theorem zrc_101 : zrc Try.prog 101 = some [.sc (.pointer none), .sc (.pointer none), .sc (.pointer none), .sc (.string ⟨#[]⟩)] := by kernel_rfl
@[simp] theorem fld_101_0 : fld Try.prog 101 0 = some (0, 17) := by kernel_rfl
@[simp] theorem fld_101_1 : fld Try.prog 101 1 = some (1, 17) := by kernel_rfl
@[simp] theorem fld_101_2 : fld Try.prog 101 2 = some (2, 17) := by kernel_rfl
@[simp] theorem fld_101_3 : fld Try.prog 101 3 = some (3, 9) := by kernel_rfl
@[simp] theorem plc_101 : plc Try.prog 101 = some [(0, 1), (1, 1), (2, 1), (3, 1)] := by kernel_rfl
@[simp] theorem siz_102 : siz Try.prog 102 = 0 := by kernel_rfl
@[simp] theorem byt_102 : byt Try.prog 102 = 0 := by kernel_rfl
@[simp] theorem ags_102 : ags Try.prog 102 = true := by kernel_rfl
@[simp] theorem elm_102 : elm Try.prog 102 = none := by kernel_rfl
@[simp] theorem arr_102 : arr Try.prog 102 = some (0, 16) := by kernel_rfl
@[simp] theorem ikd_102 : ikd Try.prog 102 = none := by kernel_rfl
@[simp] theorem isStr_102 : isStr Try.prog 102 = false := by kernel_rfl
@[simp] theorem isBool_102 : isBool Try.prog 102 = false := by kernel_rfl
@[simp] theorem und_102 : (Try.prog.underlying 102).isSome = true := by kernel_rfl
@[simp] theorem zrc_102 : zrc Try.prog 102 = some [] := by kernel_rfl
@[simp] theorem egt_102 : Try.prog.eqGuardType Try.prog.depth 102 = false := by kernel_rfl
@[simp] theorem plc_102 : plc Try.prog 102 = some [] := by kernel_rfl
@[simp] theorem siz_103 : siz Try.prog 103 = 0 := by kernel_rfl
@[simp] theorem byt_103 : byt Try.prog 103 = 0 := by kernel_rfl
@[simp] theorem ags_103 : ags Try.prog 103 = true := by kernel_rfl
@[simp] theorem elm_103 : elm Try.prog 103 = none := by kernel_rfl
@[simp] theorem arr_103 : arr Try.prog 103 = none := by kernel_rfl
@[simp] theorem ikd_103 : ikd Try.prog 103 = none := by kernel_rfl
@[simp] theorem isStr_103 : isStr Try.prog 103 = false := by kernel_rfl
@[simp] theorem isBool_103 : isBool Try.prog 103 = false := by kernel_rfl
@[simp] theorem und_103 : (Try.prog.underlying 103).isSome = true := by kernel_rfl
@[simp] theorem zrc_103 : zrc Try.prog 103 = some [] := by kernel_rfl
@[simp] theorem fld_103_0 : fld Try.prog 103 0 = some (0, 102) := by kernel_rfl
@[simp] theorem plc_103 : plc Try.prog 103 = some [(0, 0)] := by kernel_rfl
@[simp] theorem egt_103 : Try.prog.eqGuardType Try.prog.depth 103 = false := by kernel_rfl
@[simp] theorem siz_104 : siz Try.prog 104 = 0 := by kernel_rfl
@[simp] theorem byt_104 : byt Try.prog 104 = 0 := by kernel_rfl
@[simp] theorem ags_104 : ags Try.prog 104 = true := by kernel_rfl
@[simp] theorem elm_104 : elm Try.prog 104 = none := by kernel_rfl
@[simp] theorem arr_104 : arr Try.prog 104 = none := by kernel_rfl
@[simp] theorem ikd_104 : ikd Try.prog 104 = none := by kernel_rfl
@[simp] theorem isStr_104 : isStr Try.prog 104 = false := by kernel_rfl
@[simp] theorem isBool_104 : isBool Try.prog 104 = false := by kernel_rfl
@[simp] theorem und_104 : (Try.prog.underlying 104).isSome = true := by kernel_rfl
@[simp] theorem zrc_104 : zrc Try.prog 104 = some [] := by kernel_rfl
@[simp] theorem fld_104_0 : fld Try.prog 104 0 = some (0, 102) := by kernel_rfl
@[simp] theorem plc_104 : plc Try.prog 104 = some [(0, 0)] := by kernel_rfl
@[simp] theorem egt_104 : Try.prog.eqGuardType Try.prog.depth 104 = false := by kernel_rfl
@[simp] theorem siz_106 : siz Try.prog 106 = 1 := by kernel_rfl
@[simp] theorem byt_106 : byt Try.prog 106 = 1 := by kernel_rfl
@[simp] theorem ags_106 : ags Try.prog 106 = false := by kernel_rfl
@[simp] theorem elm_106 : elm Try.prog 106 = none := by kernel_rfl
@[simp] theorem arr_106 : arr Try.prog 106 = none := by kernel_rfl
@[simp] theorem ikd_106 : ikd Try.prog 106 = some .u8 := by kernel_rfl
@[simp] theorem isStr_106 : isStr Try.prog 106 = false := by kernel_rfl
@[simp] theorem isBool_106 : isBool Try.prog 106 = false := by kernel_rfl
@[simp] theorem und_106 : (Try.prog.underlying 106).isSome = true := by kernel_rfl
@[simp] theorem good_106 : good Try.prog 106 = true := by kernel_rfl
@[simp] theorem zrc_106 : zrc Try.prog 106 = some [.sc (.int .u8 0)] := by kernel_rfl
@[simp] theorem siz_107 : siz Try.prog 107 = 1 := by kernel_rfl
@[simp] theorem byt_107 : byt Try.prog 107 = 1 := by kernel_rfl
@[simp] theorem ags_107 : ags Try.prog 107 = false := by kernel_rfl
@[simp] theorem elm_107 : elm Try.prog 107 = none := by kernel_rfl
@[simp] theorem arr_107 : arr Try.prog 107 = none := by kernel_rfl
@[simp] theorem ikd_107 : ikd Try.prog 107 = some .u8 := by kernel_rfl
@[simp] theorem isStr_107 : isStr Try.prog 107 = false := by kernel_rfl
@[simp] theorem isBool_107 : isBool Try.prog 107 = false := by kernel_rfl
@[simp] theorem und_107 : (Try.prog.underlying 107).isSome = true := by kernel_rfl
@[simp] theorem good_107 : good Try.prog 107 = true := by kernel_rfl
@[simp] theorem zrc_107 : zrc Try.prog 107 = some [.sc (.int .u8 0)] := by kernel_rfl
@[simp] theorem siz_109 : siz Try.prog 109 = 1 := by kernel_rfl
@[simp] theorem byt_109 : byt Try.prog 109 = 8 := by kernel_rfl
@[simp] theorem ags_109 : ags Try.prog 109 = false := by kernel_rfl
@[simp] theorem elm_109 : elm Try.prog 109 = none := by kernel_rfl
@[simp] theorem arr_109 : arr Try.prog 109 = none := by kernel_rfl
@[simp] theorem ikd_109 : ikd Try.prog 109 = none := by kernel_rfl
@[simp] theorem isStr_109 : isStr Try.prog 109 = false := by kernel_rfl
@[simp] theorem isBool_109 : isBool Try.prog 109 = false := by kernel_rfl
@[simp] theorem und_109 : (Try.prog.underlying 109).isSome = true := by kernel_rfl
@[simp] theorem good_109 : good Try.prog 109 = true := by kernel_rfl
@[simp] theorem zrc_109 : zrc Try.prog 109 = some [.sc (.pointer none)] := by kernel_rfl
@[simp] theorem siz_110 : siz Try.prog 110 = 1 := by kernel_rfl
@[simp] theorem byt_110 : byt Try.prog 110 = 4 := by kernel_rfl
@[simp] theorem ags_110 : ags Try.prog 110 = false := by kernel_rfl
@[simp] theorem elm_110 : elm Try.prog 110 = none := by kernel_rfl
@[simp] theorem arr_110 : arr Try.prog 110 = none := by kernel_rfl
@[simp] theorem ikd_110 : ikd Try.prog 110 = some .i32 := by kernel_rfl
@[simp] theorem isStr_110 : isStr Try.prog 110 = false := by kernel_rfl
@[simp] theorem isBool_110 : isBool Try.prog 110 = false := by kernel_rfl
@[simp] theorem und_110 : (Try.prog.underlying 110).isSome = true := by kernel_rfl
@[simp] theorem good_110 : good Try.prog 110 = true := by kernel_rfl
@[simp] theorem zrc_110 : zrc Try.prog 110 = some [.sc (.int .i32 0)] := by kernel_rfl
@[simp] theorem siz_111 : siz Try.prog 111 = 1 := by kernel_rfl
@[simp] theorem byt_111 : byt Try.prog 111 = 4 := by kernel_rfl
@[simp] theorem ags_111 : ags Try.prog 111 = false := by kernel_rfl
@[simp] theorem elm_111 : elm Try.prog 111 = none := by kernel_rfl
@[simp] theorem arr_111 : arr Try.prog 111 = none := by kernel_rfl
@[simp] theorem ikd_111 : ikd Try.prog 111 = some .i32 := by kernel_rfl
@[simp] theorem isStr_111 : isStr Try.prog 111 = false := by kernel_rfl
@[simp] theorem isBool_111 : isBool Try.prog 111 = false := by kernel_rfl
@[simp] theorem und_111 : (Try.prog.underlying 111).isSome = true := by kernel_rfl
@[simp] theorem good_111 : good Try.prog 111 = true := by kernel_rfl
@[simp] theorem zrc_111 : zrc Try.prog 111 = some [.sc (.int .i32 0)] := by kernel_rfl
@[simp] theorem siz_112 : siz Try.prog 112 = 11 := by kernel_rfl
@[simp] theorem byt_112 : byt Try.prog 112 = 48 := by kernel_rfl
@[simp] theorem ags_112 : ags Try.prog 112 = true := by kernel_rfl
@[simp] theorem elm_112 : elm Try.prog 112 = none := by kernel_rfl
@[simp] theorem arr_112 : arr Try.prog 112 = none := by kernel_rfl
@[simp] theorem ikd_112 : ikd Try.prog 112 = none := by kernel_rfl
@[simp] theorem isStr_112 : isStr Try.prog 112 = false := by kernel_rfl
@[simp] theorem isBool_112 : isBool Try.prog 112 = false := by kernel_rfl
@[simp] theorem und_112 : (Try.prog.underlying 112).isSome = true := by kernel_rfl
@[simp] theorem good_112 : good Try.prog 112 = true := by kernel_rfl
@[simp] theorem zrc_112 : zrc Try.prog 112 = some [.sc (.int .u64 0), .sc (.int .u64 0), .sc (.int .u32 0), .sc (.int .u8 0), .sc (.int .u8 0), .sc (.int .u8 0), .sc (.int .u8 0), .sc .nilFunc, .sc (.pointer none), .sc (.int .i32 0), .sc (.int .i32 0)] := by kernel_rfl
@[simp] theorem fld_112_0 : fld Try.prog 112 0 = some (0, 12) := by kernel_rfl
@[simp] theorem fld_112_1 : fld Try.prog 112 1 = some (1, 12) := by kernel_rfl
@[simp] theorem fld_112_2 : fld Try.prog 112 2 = some (2, 23) := by kernel_rfl
@[simp] theorem fld_112_3 : fld Try.prog 112 3 = some (3, 106) := by kernel_rfl
@[simp] theorem fld_112_4 : fld Try.prog 112 4 = some (4, 5) := by kernel_rfl
@[simp] theorem fld_112_5 : fld Try.prog 112 5 = some (5, 5) := by kernel_rfl
@[simp] theorem fld_112_6 : fld Try.prog 112 6 = some (6, 107) := by kernel_rfl
@[simp] theorem fld_112_7 : fld Try.prog 112 7 = some (7, 108) := by kernel_rfl
@[simp] theorem fld_112_8 : fld Try.prog 112 8 = some (8, 109) := by kernel_rfl
@[simp] theorem fld_112_9 : fld Try.prog 112 9 = some (9, 110) := by kernel_rfl
@[simp] theorem fld_112_10 : fld Try.prog 112 10 = some (10, 111) := by kernel_rfl
@[simp] theorem siz_113 : siz Try.prog 113 = 11 := by kernel_rfl
@[simp] theorem byt_113 : byt Try.prog 113 = 48 := by kernel_rfl
@[simp] theorem ags_113 : ags Try.prog 113 = true := by kernel_rfl
@[simp] theorem elm_113 : elm Try.prog 113 = none := by kernel_rfl
@[simp] theorem arr_113 : arr Try.prog 113 = none := by kernel_rfl
@[simp] theorem ikd_113 : ikd Try.prog 113 = none := by kernel_rfl
@[simp] theorem isStr_113 : isStr Try.prog 113 = false := by kernel_rfl
@[simp] theorem isBool_113 : isBool Try.prog 113 = false := by kernel_rfl
@[simp] theorem und_113 : (Try.prog.underlying 113).isSome = true := by kernel_rfl
@[simp] theorem good_113 : good Try.prog 113 = true := by kernel_rfl
@[simp] theorem zrc_113 : zrc Try.prog 113 = some [.sc (.int .u64 0), .sc (.int .u64 0), .sc (.int .u32 0), .sc (.int .u8 0), .sc (.int .u8 0), .sc (.int .u8 0), .sc (.int .u8 0), .sc .nilFunc, .sc (.pointer none), .sc (.int .i32 0), .sc (.int .i32 0)] := by kernel_rfl
@[simp] theorem fld_113_0 : fld Try.prog 113 0 = some (0, 12) := by kernel_rfl
@[simp] theorem fld_113_1 : fld Try.prog 113 1 = some (1, 12) := by kernel_rfl
@[simp] theorem fld_113_2 : fld Try.prog 113 2 = some (2, 23) := by kernel_rfl
@[simp] theorem fld_113_3 : fld Try.prog 113 3 = some (3, 106) := by kernel_rfl
@[simp] theorem fld_113_4 : fld Try.prog 113 4 = some (4, 5) := by kernel_rfl
@[simp] theorem fld_113_5 : fld Try.prog 113 5 = some (5, 5) := by kernel_rfl
@[simp] theorem fld_113_6 : fld Try.prog 113 6 = some (6, 107) := by kernel_rfl
@[simp] theorem fld_113_7 : fld Try.prog 113 7 = some (7, 108) := by kernel_rfl
@[simp] theorem fld_113_8 : fld Try.prog 113 8 = some (8, 109) := by kernel_rfl
@[simp] theorem fld_113_9 : fld Try.prog 113 9 = some (9, 110) := by kernel_rfl
@[simp] theorem fld_113_10 : fld Try.prog 113 10 = some (10, 111) := by kernel_rfl
@[simp] theorem follows_ok : Try.prog.follows .mixedOrders = true := by kernel_rfl
@[simp] theorem callable_3 : callable Try.prog 3 = true := by kernel_rfl
@[simp] theorem callable_4 : callable Try.prog 4 = true := by kernel_rfl
@[simp] theorem callable_5 : callable Try.prog 5 = true := by kernel_rfl
@[simp] theorem callable_6 : callable Try.prog 6 = true := by kernel_rfl
@[simp] theorem callable_7 : callable Try.prog 7 = true := by kernel_rfl
@[simp] theorem callable_8 : callable Try.prog 8 = true := by kernel_rfl
@[simp] theorem callable_9 : callable Try.prog 9 = true := by kernel_rfl
@[simp] theorem callable_10 : callable Try.prog 10 = true := by kernel_rfl
@[simp] theorem callable_11 : callable Try.prog 11 = true := by kernel_rfl
@[simp] theorem callable_12 : callable Try.prog 12 = true := by kernel_rfl
@[simp] theorem callable_13 : callable Try.prog 13 = true := by kernel_rfl
@[simp] theorem callable_14 : callable Try.prog 14 = true := by kernel_rfl
@[simp] theorem callable_15 : callable Try.prog 15 = true := by kernel_rfl
@[simp] theorem callable_16 : callable Try.prog 16 = true := by kernel_rfl
@[simp] theorem callable_17 : callable Try.prog 17 = true := by kernel_rfl
@[simp] theorem callable_18 : callable Try.prog 18 = true := by kernel_rfl
@[simp] theorem callable_19 : callable Try.prog 19 = true := by kernel_rfl
@[simp] theorem callable_20 : callable Try.prog 20 = true := by kernel_rfl
@[simp] theorem callable_21 : callable Try.prog 21 = true := by kernel_rfl
@[simp] theorem callable_22 : callable Try.prog 22 = true := by kernel_rfl
@[simp] theorem callable_23 : callable Try.prog 23 = true := by kernel_rfl
@[simp] theorem callable_24 : callable Try.prog 24 = true := by kernel_rfl
@[simp] theorem callable_25 : callable Try.prog 25 = true := by kernel_rfl
@[simp] theorem callable_26 : callable Try.prog 26 = true := by kernel_rfl
@[simp] theorem callable_27 : callable Try.prog 27 = true := by kernel_rfl
@[simp] theorem callable_28 : callable Try.prog 28 = true := by kernel_rfl
@[simp] theorem callable_29 : callable Try.prog 29 = true := by kernel_rfl
@[simp] theorem callable_30 : callable Try.prog 30 = true := by kernel_rfl
@[simp] theorem callable_31 : callable Try.prog 31 = true := by kernel_rfl
@[simp] theorem callable_32 : callable Try.prog 32 = true := by kernel_rfl
@[simp] theorem callable_33 : callable Try.prog 33 = true := by kernel_rfl
@[simp] theorem callable_34 : callable Try.prog 34 = true := by kernel_rfl
@[simp] theorem callable_35 : callable Try.prog 35 = true := by kernel_rfl
@[simp] theorem callable_36 : callable Try.prog 36 = true := by kernel_rfl
@[simp] theorem callable_37 : callable Try.prog 37 = true := by kernel_rfl
@[simp] theorem callable_38 : callable Try.prog 38 = true := by kernel_rfl
@[simp] theorem callable_39 : callable Try.prog 39 = true := by kernel_rfl
@[simp] theorem callable_40 : callable Try.prog 40 = true := by kernel_rfl
@[simp] theorem callable_41 : callable Try.prog 41 = true := by kernel_rfl
@[simp] theorem callable_42 : callable Try.prog 42 = true := by kernel_rfl
@[simp] theorem callable_43 : callable Try.prog 43 = true := by kernel_rfl
@[simp] theorem callable_44 : callable Try.prog 44 = true := by kernel_rfl
@[simp] theorem callable_45 : callable Try.prog 45 = true := by kernel_rfl
@[simp] theorem callable_46 : callable Try.prog 46 = true := by kernel_rfl
@[simp] theorem callable_47 : callable Try.prog 47 = true := by kernel_rfl
@[simp] theorem callable_48 : callable Try.prog 48 = true := by kernel_rfl
@[simp] theorem callable_49 : callable Try.prog 49 = true := by kernel_rfl
@[simp] theorem callable_50 : callable Try.prog 50 = true := by kernel_rfl

end Go.Proofs.Ythhccabdlajngaa.Tab
