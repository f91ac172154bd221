import Derived.Test.YtbmdahhhgpbchaaProg
import Derived.Test.YtbmdahhhgpbchaaSimB
import Derived.KernelRfl
namespace Go.Proofs.Ytbmdahhhgpbchaa.Tab
open Go Go.Sim Go.RowKit
set_option linter.unusedVariables false

@[simp] theorem siz_2 : siz Try.prog 2 = 1 := by kernel_rfl
@[simp] theorem byt_2 : byt Try.prog 2 = 8 := by kernel_rfl
@[simp] theorem ags_2 : ags Try.prog 2 = false := by kernel_rfl
@[simp] theorem elm_2 : elm Try.prog 2 = none := by kernel_rfl
@[simp] theorem arr_2 : arr Try.prog 2 = none := by kernel_rfl
@[simp] theorem ikd_2 : ikd Try.prog 2 = some .i64 := by kernel_rfl
@[simp] theorem isStr_2 : isStr Try.prog 2 = false := by kernel_rfl
@[simp] theorem isBool_2 : isBool Try.prog 2 = false := by kernel_rfl
@[simp] theorem und_2 : (Try.prog.underlying 2).isSome = true := by kernel_rfl
@[simp] theorem good_2 : good Try.prog 2 = true := by kernel_rfl
@[simp] theorem zrc_2 : zrc Try.prog 2 = some [.sc (.int .i64 0)] := by kernel_rfl
@[simp] theorem siz_3 : siz Try.prog 3 = 1 := by kernel_rfl
@[simp] theorem byt_3 : byt Try.prog 3 = 8 := by kernel_rfl
@[simp] theorem ags_3 : ags Try.prog 3 = false := by kernel_rfl
@[simp] theorem elm_3 : elm Try.prog 3 = none := by kernel_rfl
@[simp] theorem arr_3 : arr Try.prog 3 = none := by kernel_rfl
@[simp] theorem ikd_3 : ikd Try.prog 3 = some .i64 := by kernel_rfl
@[simp] theorem isStr_3 : isStr Try.prog 3 = false := by kernel_rfl
@[simp] theorem isBool_3 : isBool Try.prog 3 = false := by kernel_rfl
@[simp] theorem und_3 : (Try.prog.underlying 3).isSome = true := by kernel_rfl
@[simp] theorem good_3 : good Try.prog 3 = true := by kernel_rfl
@[simp] theorem zrc_3 : zrc Try.prog 3 = some [.sc (.int .i64 0)] := by kernel_rfl
@[simp] theorem siz_4 : siz Try.prog 4 = 1 := by kernel_rfl
@[simp] theorem byt_4 : byt Try.prog 4 = 1 := by kernel_rfl
@[simp] theorem ags_4 : ags Try.prog 4 = false := by kernel_rfl
@[simp] theorem elm_4 : elm Try.prog 4 = none := by kernel_rfl
@[simp] theorem arr_4 : arr Try.prog 4 = none := by kernel_rfl
@[simp] theorem ikd_4 : ikd Try.prog 4 = none := by kernel_rfl
@[simp] theorem isStr_4 : isStr Try.prog 4 = false := by kernel_rfl
@[simp] theorem isBool_4 : isBool Try.prog 4 = true := by kernel_rfl
@[simp] theorem und_4 : (Try.prog.underlying 4).isSome = true := by kernel_rfl
@[simp] theorem good_4 : good Try.prog 4 = true := by kernel_rfl
@[simp] theorem zrc_4 : zrc Try.prog 4 = some [.sc (.bool false)] := by kernel_rfl
@[simp] theorem siz_5 : siz Try.prog 5 = 1 := by kernel_rfl
@[simp] theorem byt_5 : byt Try.prog 5 = 1 := by kernel_rfl
@[simp] theorem ags_5 : ags Try.prog 5 = false := by kernel_rfl
@[simp] theorem elm_5 : elm Try.prog 5 = none := by kernel_rfl
@[simp] theorem arr_5 : arr Try.prog 5 = none := by kernel_rfl
@[simp] theorem ikd_5 : ikd Try.prog 5 = some .u8 := by kernel_rfl
@[simp] theorem isStr_5 : isStr Try.prog 5 = false := by kernel_rfl
@[simp] theorem isBool_5 : isBool Try.prog 5 = false := by kernel_rfl
@[simp] theorem und_5 : (Try.prog.underlying 5).isSome = true := by kernel_rfl
@[simp] theorem good_5 : good Try.prog 5 = true := by kernel_rfl
@[simp] theorem zrc_5 : zrc Try.prog 5 = some [.sc (.int .u8 0)] := by kernel_rfl
@[simp] theorem siz_6 : siz Try.prog 6 = 1 := by kernel_rfl
@[simp] theorem byt_6 : byt Try.prog 6 = 1 := by kernel_rfl
@[simp] theorem ags_6 : ags Try.prog 6 = false := by kernel_rfl
@[simp] theorem elm_6 : elm Try.prog 6 = none := by kernel_rfl
@[simp] theorem arr_6 : arr Try.prog 6 = none := by kernel_rfl
@[simp] theorem ikd_6 : ikd Try.prog 6 = some .u8 := by kernel_rfl
@[simp] theorem isStr_6 : isStr Try.prog 6 = false := by kernel_rfl
@[simp] theorem isBool_6 : isBool Try.prog 6 = false := by kernel_rfl
@[simp] theorem und_6 : (Try.prog.underlying 6).isSome = true := by kernel_rfl
@[simp] theorem good_6 : good Try.prog 6 = true := by kernel_rfl
@[simp] theorem zrc_6 : zrc Try.prog 6 = some [.sc (.int .u8 0)] := by kernel_rfl
@[simp] theorem siz_7 : siz Try.prog 7 = 4 := by kernel_rfl
@[simp] theorem byt_7 : byt Try.prog 7 = 24 := by kernel_rfl
@[simp] theorem ags_7 : ags Try.prog 7 = true := by kernel_rfl
@[simp] theorem elm_7 : elm Try.prog 7 = none := by kernel_rfl
@[simp] theorem arr_7 : arr Try.prog 7 = none := by kernel_rfl
@[simp] theorem ikd_7 : ikd Try.prog 7 = none := by kernel_rfl
@[simp] theorem isStr_7 : isStr Try.prog 7 = false := by kernel_rfl
@[simp] theorem isBool_7 : isBool Try.prog 7 = false := by kernel_rfl
@[simp] theorem und_7 : (Try.prog.underlying 7).isSome = true := by kernel_rfl
@[simp] theorem good_7 : good Try.prog 7 = true := by kernel_rfl
@[simp] theorem zrc_7 : zrc Try.prog 7 = some [.sc (.int .i64 0), .sc (.int .i64 0), .sc (.bool false), .sc (.int .u8 0)] := by kernel_rfl
@[simp] theorem fld_7_0 : fld Try.prog 7 0 = some (0, 2) := by kernel_rfl
@[simp] theorem fld_7_1 : fld Try.prog 7 1 = some (1, 3) := by kernel_rfl
@[simp] theorem fld_7_2 : fld Try.prog 7 2 = some (2, 4) := by kernel_rfl
@[simp] theorem fld_7_3 : fld Try.prog 7 3 = some (3, 6) := by kernel_rfl
@[simp] theorem plc_7 : plc Try.prog 7 = some [(0, 1), (1, 1), (2, 1), (3, 1)] := by kernel_rfl
@[simp] theorem lks_7 : lks Try.prog 6 7 = some [.i, .i, .b, .i] := by kernel_rfl
@[simp] theorem egt_7 : Try.prog.eqGuardType Try.prog.depth 7 = false := by kernel_rfl
@[simp] theorem siz_8 : siz Try.prog 8 = 4 := by kernel_rfl
@[simp] theorem byt_8 : byt Try.prog 8 = 24 := by kernel_rfl
@[simp] theorem ags_8 : ags Try.prog 8 = true := by kernel_rfl
@[simp] theorem elm_8 : elm Try.prog 8 = none := by kernel_rfl
@[simp] theorem arr_8 : arr Try.prog 8 = none := by kernel_rfl
@[simp] theorem ikd_8 : ikd Try.prog 8 = none := by kernel_rfl
@[simp] theorem isStr_8 : isStr Try.prog 8 = false := by kernel_rfl
@[simp] theorem isBool_8 : isBool Try.prog 8 = false := by kernel_rfl
@[simp] theorem und_8 : (Try.prog.underlying 8).isSome = true := by kernel_rfl
@[simp] theorem good_8 : good Try.prog 8 = true := by kernel_rfl
@[simp] theorem zrc_8 : zrc Try.prog 8 = some [.sc (.int .i64 0), .sc (.int .i64 0), .sc (.bool false), .sc (.int .u8 0)] := by kernel_rfl
@[simp] theorem fld_8_0 : fld Try.prog 8 0 = some (0, 2) := by kernel_rfl
@[simp] theorem fld_8_1 : fld Try.prog 8 1 = some (1, 3) := by kernel_rfl
@[simp] theorem fld_8_2 : fld Try.prog 8 2 = some (2, 4) := by kernel_rfl
@[simp] theorem fld_8_3 : fld Try.prog 8 3 = some (3, 6) := by kernel_rfl
@[simp] theorem plc_8 : plc Try.prog 8 = some [(0, 1), (1, 1), (2, 1), (3, 1)] := by kernel_rfl
@[simp] theorem lks_8 : lks Try.prog 6 8 = some [.i, .i, .b, .i] := by kernel_rfl
@[simp] theorem egt_8 : Try.prog.eqGuardType Try.prog.depth 8 = false := by kernel_rfl
@[simp] theorem siz_9 : siz Try.prog 9 = 1 := by kernel_rfl
@[simp] theorem byt_9 : byt Try.prog 9 = 16 := by kernel_rfl
@[simp] theorem ags_9 : ags Try.prog 9 = false := by kernel_rfl
@[simp] theorem elm_9 : elm Try.prog 9 = none := by kernel_rfl
@[simp] theorem arr_9 : arr Try.prog 9 = none := by kernel_rfl
@[simp] theorem ikd_9 : ikd Try.prog 9 = none := by kernel_rfl
@[simp] theorem isStr_9 : isStr Try.prog 9 = true := by kernel_rfl
@[simp] theorem isBool_9 : isBool Try.prog 9 = false := by kernel_rfl
@[simp] theorem und_9 : (Try.prog.underlying 9).isSome = true := by kernel_rfl
@[simp] theorem good_9 : good Try.prog 9 = true := by kernel_rfl
@[simp] theorem zrc_9 : zrc Try.prog 9 = some [.sc (.string ⟨#[]⟩)] := by kernel_rfl
@[simp] theorem siz_10 : siz Try.prog 10 = 1 := by kernel_rfl
@[simp] theorem byt_10 : byt Try.prog 10 = 16 := by kernel_rfl
@[simp] theorem ags_10 : ags Try.prog 10 = false := by kernel_rfl
@[simp] theorem elm_10 : elm Try.prog 10 = none := by kernel_rfl
@[simp] theorem arr_10 : arr Try.prog 10 = none := by kernel_rfl
@[simp] theorem ikd_10 : ikd Try.prog 10 = none := by kernel_rfl
@[simp] theorem isStr_10 : isStr Try.prog 10 = true := by kernel_rfl
@[simp] theorem isBool_10 : isBool Try.prog 10 = false := by kernel_rfl
@[simp] theorem und_10 : (Try.prog.underlying 10).isSome = true := by kernel_rfl
@[simp] theorem good_10 : good Try.prog 10 = true := by kernel_rfl
@[simp] theorem zrc_10 : zrc Try.prog 10 = some [.sc (.string ⟨#[]⟩)] := by kernel_rfl
@[simp] theorem siz_11 : siz Try.prog 11 = 1 := by kernel_rfl
@[simp] theorem byt_11 : byt Try.prog 11 = 16 := by kernel_rfl
@[simp] theorem ags_11 : ags Try.prog 11 = false := by kernel_rfl
@[simp] theorem elm_11 : elm Try.prog 11 = none := by kernel_rfl
@[simp] theorem arr_11 : arr Try.prog 11 = none := by kernel_rfl
@[simp] theorem ikd_11 : ikd Try.prog 11 = none := by kernel_rfl
@[simp] theorem isStr_11 : isStr Try.prog 11 = true := by kernel_rfl
@[simp] theorem isBool_11 : isBool Try.prog 11 = false := by kernel_rfl
@[simp] theorem und_11 : (Try.prog.underlying 11).isSome = true := by kernel_rfl
@[simp] theorem good_11 : good Try.prog 11 = true := by kernel_rfl
@[simp] theorem zrc_11 : zrc Try.prog 11 = some [.sc (.string ⟨#[]⟩)] := by kernel_rfl
@[simp] theorem siz_12 : siz Try.prog 12 = 1 := by kernel_rfl
@[simp] theorem byt_12 : byt Try.prog 12 = 8 := by kernel_rfl
@[simp] theorem ags_12 : ags Try.prog 12 = false := by kernel_rfl
@[simp] theorem elm_12 : elm Try.prog 12 = none := by kernel_rfl
@[simp] theorem arr_12 : arr Try.prog 12 = none := by kernel_rfl
@[simp] theorem ikd_12 : ikd Try.prog 12 = some .u64 := by kernel_rfl
@[simp] theorem isStr_12 : isStr Try.prog 12 = false := by kernel_rfl
@[simp] theorem isBool_12 : isBool Try.prog 12 = false := by kernel_rfl
@[simp] theorem und_12 : (Try.prog.underlying 12).isSome = true := by kernel_rfl
@[simp] theorem good_12 : good Try.prog 12 = true := by kernel_rfl
@[simp] theorem zrc_12 : zrc Try.prog 12 = some [.sc (.int .u64 0)] := by kernel_rfl
@[simp] theorem siz_13 : siz Try.prog 13 = 2 := by kernel_rfl
@[simp] theorem byt_13 : byt Try.prog 13 = 24 := by kernel_rfl
@[simp] theorem ags_13 : ags Try.prog 13 = true := by kernel_rfl
@[simp] theorem elm_13 : elm Try.prog 13 = none := by kernel_rfl
@[simp] theorem arr_13 : arr Try.prog 13 = none := by kernel_rfl
@[simp] theorem ikd_13 : ikd Try.prog 13 = none := by kernel_rfl
@[simp] theorem isStr_13 : isStr Try.prog 13 = false := by kernel_rfl
@[simp] theorem isBool_13 : isBool Try.prog 13 = false := by kernel_rfl
@[simp] theorem und_13 : (Try.prog.underlying 13).isSome = true := by kernel_rfl
@[simp] theorem good_13 : good Try.prog 13 = true := by kernel_rfl
@[simp] theorem zrc_13 : zrc Try.prog 13 = some [.sc (.string ⟨#[]⟩), .sc (.int .u64 0)] := by kernel_rfl
@[simp] theorem fld_13_0 : fld Try.prog 13 0 = some (0, 9) := by kernel_rfl
@[simp] theorem fld_13_1 : fld Try.prog 13 1 = some (1, 12) := by kernel_rfl
@[simp] theorem plc_13 : plc Try.prog 13 = some [(0, 1), (1, 1)] := by kernel_rfl
@[simp] theorem egt_13 : Try.prog.eqGuardType Try.prog.depth 13 = false := by kernel_rfl
@[simp] theorem siz_14 : siz Try.prog 14 = 2 := by kernel_rfl
@[simp] theorem byt_14 : byt Try.prog 14 = 24 := by kernel_rfl
@[simp] theorem ags_14 : ags Try.prog 14 = true := by kernel_rfl
@[simp] theorem elm_14 : elm Try.prog 14 = none := by kernel_rfl
@[simp] theorem arr_14 : arr Try.prog 14 = none := by kernel_rfl
@[simp] theorem ikd_14 : ikd Try.prog 14 = none := by kernel_rfl
@[simp] theorem isStr_14 : isStr Try.prog 14 = false := by kernel_rfl
@[simp] theorem isBool_14 : isBool Try.prog 14 = false := by kernel_rfl
@[simp] theorem und_14 : (Try.prog.underlying 14).isSome = true := by kernel_rfl
@[simp] theorem good_14 : good Try.prog 14 = true := by kernel_rfl
@[simp] theorem zrc_14 : zrc Try.prog 14 = some [.sc (.string ⟨#[]⟩), .sc (.int .u64 0)] := by kernel_rfl
@[simp] theorem fld_14_0 : fld Try.prog 14 0 = some (0, 9) := by kernel_rfl
@[simp] theorem fld_14_1 : fld Try.prog 14 1 = some (1, 12) := by kernel_rfl
@[simp] theorem plc_14 : plc Try.prog 14 = some [(0, 1), (1, 1)] := by kernel_rfl
@[simp] theorem egt_14 : Try.prog.eqGuardType Try.prog.depth 14 = false := by kernel_rfl
@[simp] theorem siz_15 : siz Try.prog 15 = 1 := by kernel_rfl
@[simp] theorem byt_15 : byt Try.prog 15 = 8 := by kernel_rfl
@[simp] theorem ags_15 : ags Try.prog 15 = false := by kernel_rfl
@[simp] theorem elm_15 : elm Try.prog 15 = none := by kernel_rfl
@[simp] theorem arr_15 : arr Try.prog 15 = none := by kernel_rfl
@[simp] theorem ikd_15 : ikd Try.prog 15 = none := by kernel_rfl
@[simp] theorem isStr_15 : isStr Try.prog 15 = false := by kernel_rfl
@[simp] theorem isBool_15 : isBool Try.prog 15 = false := by kernel_rfl
@[simp] theorem und_15 : (Try.prog.underlying 15).isSome = true := by kernel_rfl
@[simp] theorem good_15 : good Try.prog 15 = true := by kernel_rfl
@[simp] theorem zrc_15 : zrc Try.prog 15 = some [.sc (.pointer none)] := by kernel_rfl
@[simp] theorem siz_16 : siz Try.prog 16 = 1 := by kernel_rfl
@[simp] theorem byt_16 : byt Try.prog 16 = 8 := by kernel_rfl
@[simp] theorem ags_16 : ags Try.prog 16 = false := by kernel_rfl
@[simp] theorem elm_16 : elm Try.prog 16 = none := by kernel_rfl
@[simp] theorem arr_16 : arr Try.prog 16 = none := by kernel_rfl
@[simp] theorem ikd_16 : ikd Try.prog 16 = none := by kernel_rfl
@[simp] theorem isStr_16 : isStr Try.prog 16 = false := by kernel_rfl
@[simp] theorem isBool_16 : isBool Try.prog 16 = false := by kernel_rfl
@[simp] theorem und_16 : (Try.prog.underlying 16).isSome = true := by kernel_rfl
@[simp] theorem good_16 : good Try.prog 16 = true := by kernel_rfl
@[simp] theorem zrc_16 : zrc Try.prog 16 = some [.sc (.pointer none)] := by kernel_rfl
@[simp] theorem siz_17 : siz Try.prog 17 = 1 := by kernel_rfl
@[simp] theorem byt_17 : byt Try.prog 17 = 8 := by kernel_rfl
@[simp] theorem ags_17 : ags Try.prog 17 = false := by kernel_rfl
@[simp] theorem elm_17 : elm Try.prog 17 = none := by kernel_rfl
@[simp] theorem arr_17 : arr Try.prog 17 = none := by kernel_rfl
@[simp] theorem ikd_17 : ikd Try.prog 17 = none := by kernel_rfl
@[simp] theorem isStr_17 : isStr Try.prog 17 = false := by kernel_rfl
@[simp] theorem isBool_17 : isBool Try.prog 17 = false := by kernel_rfl
@[simp] theorem und_17 : (Try.prog.underlying 17).isSome = true := by kernel_rfl
@[simp] theorem good_17 : good Try.prog 17 = true := by kernel_rfl
@[simp] theorem zrc_17 : zrc Try.prog 17 = some [.sc (.pointer none)] := by kernel_rfl
@[simp] theorem siz_18 : siz Try.prog 18 = 1 := by kernel_rfl
@[simp] theorem byt_18 : byt Try.prog 18 = 8 := by kernel_rfl
@[simp] theorem ags_18 : ags Try.prog 18 = true := by kernel_rfl
@[simp] theorem elm_18 : elm Try.prog 18 = none := by kernel_rfl
@[simp] theorem arr_18 : arr Try.prog 18 = none := by kernel_rfl
@[simp] theorem ikd_18 : ikd Try.prog 18 = none := by kernel_rfl
@[simp] theorem isStr_18 : isStr Try.prog 18 = false := by kernel_rfl
@[simp] theorem isBool_18 : isBool Try.prog 18 = false := by kernel_rfl
@[simp] theorem und_18 : (Try.prog.underlying 18).isSome = true := by kernel_rfl
@[simp] theorem good_18 : good Try.prog 18 = true := by kernel_rfl
@[simp] theorem zrc_18 : zrc Try.prog 18 = some [.sc (.pointer none)] := by kernel_rfl
@[simp] theorem fld_18_0 : fld Try.prog 18 0 = some (0, 17) := by kernel_rfl
@[simp] theorem plc_18 : plc Try.prog 18 = some [(0, 1)] := by kernel_rfl
@[simp] theorem siz_19 : siz Try.prog 19 = 1 := by kernel_rfl
@[simp] theorem byt_19 : byt Try.prog 19 = 8 := by kernel_rfl
@[simp] theorem ags_19 : ags Try.prog 19 = true := by kernel_rfl
@[simp] theorem elm_19 : elm Try.prog 19 = none := by kernel_rfl
@[simp] theorem arr_19 : arr Try.prog 19 = none := by kernel_rfl
@[simp] theorem ikd_19 : ikd Try.prog 19 = none := by kernel_rfl
@[simp] theorem isStr_19 : isStr Try.prog 19 = false := by kernel_rfl
@[simp] theorem isBool_19 : isBool Try.prog 19 = false := by kernel_rfl
@[simp] theorem und_19 : (Try.prog.underlying 19).isSome = true := by kernel_rfl
@[simp] theorem good_19 : good Try.prog 19 = true := by kernel_rfl
@[simp] theorem zrc_19 : zrc Try.prog 19 = some [.sc (.pointer none)] := by kernel_rfl
@[simp] theorem fld_19_0 : fld Try.prog 19 0 = some (0, 17) := by kernel_rfl
@[simp] theorem plc_19 : plc Try.prog 19 = some [(0, 1)] := by kernel_rfl
@[simp] theorem siz_21 : siz Try.prog 21 = 1 := by kernel_rfl
@[simp] theorem byt_21 : byt Try.prog 21 = 4 := by kernel_rfl
@[simp] theorem ags_21 : ags Try.prog 21 = false := by kernel_rfl
@[simp] theorem elm_21 : elm Try.prog 21 = none := by kernel_rfl
@[simp] theorem arr_21 : arr Try.prog 21 = none := by kernel_rfl
@[simp] theorem ikd_21 : ikd Try.prog 21 = some .i32 := by kernel_rfl
@[simp] theorem isStr_21 : isStr Try.prog 21 = false := by kernel_rfl
@[simp] theorem isBool_21 : isBool Try.prog 21 = false := by kernel_rfl
@[simp] theorem und_21 : (Try.prog.underlying 21).isSome = true := by kernel_rfl
@[simp] theorem good_21 : good Try.prog 21 = true := by kernel_rfl
@[simp] theorem zrc_21 : zrc Try.prog 21 = some [.sc (.int .i32 0)] := by kernel_rfl
@[simp] theorem siz_22 : siz Try.prog 22 = 1 := by kernel_rfl
@[simp] theorem byt_22 : byt Try.prog 22 = 24 := by kernel_rfl
@[simp] theorem ags_22 : ags Try.prog 22 = false := by kernel_rfl
@[simp] theorem elm_22 : elm Try.prog 22 = some 29 := by kernel_rfl
@[simp] theorem arr_22 : arr Try.prog 22 = none := by kernel_rfl
@[simp] theorem ikd_22 : ikd Try.prog 22 = none := by kernel_rfl
@[simp] theorem isStr_22 : isStr Try.prog 22 = false := by kernel_rfl
@[simp] theorem isBool_22 : isBool Try.prog 22 = false := by kernel_rfl
@[simp] theorem und_22 : (Try.prog.underlying 22).isSome = true := by kernel_rfl
@[simp] theorem good_22 : good Try.prog 22 = true := by kernel_rfl
@[simp] theorem zrc_22 : zrc Try.prog 22 = some [.nl] := by kernel_rfl
@[simp] theorem siz_23 : siz Try.prog 23 = 1 := by kernel_rfl
@[simp] theorem byt_23 : byt Try.prog 23 = 24 := by kernel_rfl
@[simp] theorem ags_23 : ags Try.prog 23 = false := by kernel_rfl
@[simp] theorem elm_23 : elm Try.prog 23 = some 32 := by kernel_rfl
@[simp] theorem arr_23 : arr Try.prog 23 = none := by kernel_rfl
@[simp] theorem ikd_23 : ikd Try.prog 23 = none := by kernel_rfl
@[simp] theorem isStr_23 : isStr Try.prog 23 = false := by kernel_rfl
@[simp] theorem isBool_23 : isBool Try.prog 23 = false := by kernel_rfl
@[simp] theorem und_23 : (Try.prog.underlying 23).isSome = true := by kernel_rfl
@[simp] theorem good_23 : good Try.prog 23 = true := by kernel_rfl
@[simp] theorem zrc_23 : zrc Try.prog 23 = some [.nl] := by kernel_rfl
@[simp] theorem siz_25 : siz Try.prog 25 = 1 := by kernel_rfl
@[simp] theorem byt_25 : byt Try.prog 25 = 24 := by kernel_rfl
@[simp] theorem ags_25 : ags Try.prog 25 = false := by kernel_rfl
@[simp] theorem elm_25 : elm Try.prog 25 = some 30 := by kernel_rfl
@[simp] theorem arr_25 : arr Try.prog 25 = none := by kernel_rfl
@[simp] theorem ikd_25 : ikd Try.prog 25 = none := by kernel_rfl
@[simp] theorem isStr_25 : isStr Try.prog 25 = false := by kernel_rfl
@[simp] theorem isBool_25 : isBool Try.prog 25 = false := by kernel_rfl
@[simp] theorem und_25 : (Try.prog.underlying 25).isSome = true := by kernel_rfl
@[simp] theorem good_25 : good Try.prog 25 = true := by kernel_rfl
@[simp] theorem zrc_25 : zrc Try.prog 25 = some [.nl] := by kernel_rfl
@[simp] theorem siz_26 : siz Try.prog 26 = 1 := by kernel_rfl
@[simp] theorem byt_26 : byt Try.prog 26 = 24 := by kernel_rfl
@[simp] theorem ags_26 : ags Try.prog 26 = false := by kernel_rfl
@[simp] theorem elm_26 : elm Try.prog 26 = some 33 := by kernel_rfl
@[simp] theorem arr_26 : arr Try.prog 26 = none := by kernel_rfl
@[simp] theorem ikd_26 : ikd Try.prog 26 = none := by kernel_rfl
@[simp] theorem isStr_26 : isStr Try.prog 26 = false := by kernel_rfl
@[simp] theorem isBool_26 : isBool Try.prog 26 = false := by kernel_rfl
@[simp] theorem und_26 : (Try.prog.underlying 26).isSome = true := by kernel_rfl
@[simp] theorem good_26 : good Try.prog 26 = true := by kernel_rfl
@[simp] theorem zrc_26 : zrc Try.prog 26 = some [.nl] := by kernel_rfl
@[simp] theorem siz_27 : siz Try.prog 27 = 1 := by kernel_rfl
@[simp] theorem byt_27 : byt Try.prog 27 = 8 := by kernel_rfl
@[simp] theorem ags_27 : ags Try.prog 27 = false := by kernel_rfl
@[simp] theorem elm_27 : elm Try.prog 27 = none := by kernel_rfl
@[simp] theorem arr_27 : arr Try.prog 27 = none := by kernel_rfl
@[simp] theorem ikd_27 : ikd Try.prog 27 = some .u64 := by kernel_rfl
@[simp] theorem isStr_27 : isStr Try.prog 27 = false := by kernel_rfl
@[simp] theorem isBool_27 : isBool Try.prog 27 = false := by kernel_rfl
@[simp] theorem und_27 : (Try.prog.underlying 27).isSome = true := by kernel_rfl
@[simp] theorem good_27 : good Try.prog 27 = true := by kernel_rfl
@[simp] theorem zrc_27 : zrc Try.prog 27 = some [.sc (.int .u64 0)] := by kernel_rfl
@[simp] theorem siz_28 : siz Try.prog 28 = 2 := by kernel_rfl
@[simp] theorem byt_28 : byt Try.prog 28 = 16 := by kernel_rfl
@[simp] theorem ags_28 : ags Try.prog 28 = true := by kernel_rfl
@[simp] theorem elm_28 : elm Try.prog 28 = none := by kernel_rfl
@[simp] theorem arr_28 : arr Try.prog 28 = none := by kernel_rfl
@[simp] theorem ikd_28 : ikd Try.prog 28 = none := by kernel_rfl
@[simp] theorem isStr_28 : isStr Try.prog 28 = false := by kernel_rfl
@[simp] theorem isBool_28 : isBool Try.prog 28 = false := by kernel_rfl
@[simp] theorem und_28 : (Try.prog.underlying 28).isSome = true := by kernel_rfl
@[simp] theorem good_28 : good Try.prog 28 = true := by kernel_rfl
@[simp] theorem zrc_28 : zrc Try.prog 28 = some [.sc (.int .u64 0), .sc (.int .u64 0)] := by kernel_rfl
@[simp] theorem fld_28_0 : fld Try.prog 28 0 = some (0, 27) := by kernel_rfl
@[simp] theorem fld_28_1 : fld Try.prog 28 1 = some (1, 27) := by kernel_rfl
@[simp] theorem plc_28 : plc Try.prog 28 = some [(0, 1), (1, 1)] := by kernel_rfl
@[simp] theorem lks_28 : lks Try.prog 6 28 = some [.i, .i] := by kernel_rfl
@[simp] theorem egt_28 : Try.prog.eqGuardType Try.prog.depth 28 = false := by kernel_rfl
@[simp] theorem siz_29 : siz Try.prog 29 = 2 := by kernel_rfl
@[simp] theorem byt_29 : byt Try.prog 29 = 16 := by kernel_rfl
@[simp] theorem ags_29 : ags Try.prog 29 = true := by kernel_rfl
@[simp] theorem elm_29 : elm Try.prog 29 = none := by kernel_rfl
@[simp] theorem arr_29 : arr Try.prog 29 = none := by kernel_rfl
@[simp] theorem ikd_29 : ikd Try.prog 29 = none := by kernel_rfl
@[simp] theorem isStr_29 : isStr Try.prog 29 = false := by kernel_rfl
@[simp] theorem isBool_29 : isBool Try.prog 29 = false := by kernel_rfl
@[simp] theorem und_29 : (Try.prog.underlying 29).isSome = true := by kernel_rfl
@[simp] theorem good_29 : good Try.prog 29 = true := by kernel_rfl
@[simp] theorem zrc_29 : zrc Try.prog 29 = some [.sc (.int .u64 0), .sc (.int .u64 0)] := by kernel_rfl
@[simp] theorem fld_29_0 : fld Try.prog 29 0 = some (0, 27) := by kernel_rfl
@[simp] theorem fld_29_1 : fld Try.prog 29 1 = some (1, 27) := by kernel_rfl
@[simp] theorem plc_29 : plc Try.prog 29 = some [(0, 1), (1, 1)] := by kernel_rfl
@[simp] theorem lks_29 : lks Try.prog 6 29 = some [.i, .i] := by kernel_rfl
@[simp] theorem egt_29 : Try.prog.eqGuardType Try.prog.depth 29 = false := by kernel_rfl
@[simp] theorem siz_30 : siz Try.prog 30 = 2 := by kernel_rfl
@[simp] theorem byt_30 : byt Try.prog 30 = 16 := by kernel_rfl
@[simp] theorem ags_30 : ags Try.prog 30 = true := by kernel_rfl
@[simp] theorem elm_30 : elm Try.prog 30 = none := by kernel_rfl
@[simp] theorem arr_30 : arr Try.prog 30 = none := by kernel_rfl
@[simp] theorem ikd_30 : ikd Try.prog 30 = none := by kernel_rfl
@[simp] theorem isStr_30 : isStr Try.prog 30 = false := by kernel_rfl
@[simp] theorem isBool_30 : isBool Try.prog 30 = false := by kernel_rfl
@[simp] theorem und_30 : (Try.prog.underlying 30).isSome = true := by kernel_rfl
@[simp] theorem good_30 : good Try.prog 30 = true := by kernel_rfl
@[simp] theorem zrc_30 : zrc Try.prog 30 = some [.sc (.int .u64 0), .sc (.int .u64 0)] := by kernel_rfl
@[simp] theorem fld_30_0 : fld Try.prog 30 0 = some (0, 27) := by kernel_rfl
@[simp] theorem fld_30_1 : fld Try.prog 30 1 = some (1, 27) := by kernel_rfl
@[simp] theorem plc_30 : plc Try.prog 30 = some [(0, 1), (1, 1)] := by kernel_rfl
@[simp] theorem lks_30 : lks Try.prog 6 30 = some [.i, .i] := by kernel_rfl
@[simp] theorem egt_30 : Try.prog.eqGuardType Try.prog.depth 30 = false := by kernel_rfl
@[simp] theorem siz_31 : siz Try.prog 31 = 2 := by kernel_rfl
@[simp] theorem byt_31 : byt Try.prog 31 = 16 := by kernel_rfl
@[simp] theorem ags_31 : ags Try.prog 31 = true := by kernel_rfl
@[simp] theorem elm_31 : elm Try.prog 31 = none := by kernel_rfl
@[simp] theorem arr_31 : arr Try.prog 31 = none := by kernel_rfl
@[simp] theorem ikd_31 : ikd Try.prog 31 = none := by kernel_rfl
@[simp] theorem isStr_31 : isStr Try.prog 31 = false := by kernel_rfl
@[simp] theorem isBool_31 : isBool Try.prog 31 = false := by kernel_rfl
@[simp] theorem und_31 : (Try.prog.underlying 31).isSome = true := by kernel_rfl
@[simp] theorem good_31 : good Try.prog 31 = true := by kernel_rfl
@[simp] theorem zrc_31 : zrc Try.prog 31 = some [.sc (.int .i64 0), .sc (.int .i64 0)] := by kernel_rfl
@[simp] theorem fld_31_0 : fld Try.prog 31 0 = some (0, 2) := by kernel_rfl
@[simp] theorem fld_31_1 : fld Try.prog 31 1 = some (1, 2) := by kernel_rfl
@[simp] theorem plc_31 : plc Try.prog 31 = some [(0, 1), (1, 1)] := by kernel_rfl
@[simp] theorem lks_31 : lks Try.prog 6 31 = some [.i, .i] := by kernel_rfl
@[simp] theorem egt_31 : Try.prog.eqGuardType Try.prog.depth 31 = false := by kernel_rfl
@[simp] theorem siz_32 : siz Try.prog 32 = 2 := by kernel_rfl
@[simp] theorem byt_32 : byt Try.prog 32 = 16 := by kernel_rfl
@[simp] theorem ags_32 : ags Try.prog 32 = true := by kernel_rfl
@[simp] theorem elm_32 : elm Try.prog 32 = none := by kernel_rfl
@[simp] theorem arr_32 : arr Try.prog 32 = none := by kernel_rfl
@[simp] theorem ikd_32 : ikd Try.prog 32 = none := by kernel_rfl
@[simp] theorem isStr_32 : isStr Try.prog 32 = false := by kernel_rfl
@[simp] theorem isBool_32 : isBool Try.prog 32 = false := by kernel_rfl
@[simp] theorem und_32 : (Try.prog.underlying 32).isSome = true := by kernel_rfl
@[simp] theorem good_32 : good Try.prog 32 = true := by kernel_rfl
@[simp] theorem zrc_32 : zrc Try.prog 32 = some [.sc (.int .i64 0), .sc (.int .i64 0)] := by kernel_rfl
@[simp] theorem fld_32_0 : fld Try.prog 32 0 = some (0, 2) := by kernel_rfl
@[simp] theorem fld_32_1 : fld Try.prog 32 1 = some (1, 2) := by kernel_rfl
@[simp] theorem plc_32 : plc Try.prog 32 = some [(0, 1), (1, 1)] := by kernel_rfl
@[simp] theorem lks_32 : lks Try.prog 6 32 = some [.i, .i] := by kernel_rfl
@[simp] theorem egt_32 : Try.prog.eqGuardType Try.prog.depth 32 = false := by kernel_rfl
@[simp] theorem siz_33 : siz Try.prog 33 = 2 := by kernel_rfl
@[simp] theorem byt_33 : byt Try.prog 33 = 16 := by kernel_rfl
@[simp] theorem ags_33 : ags Try.prog 33 = true := by kernel_rfl
@[simp] theorem elm_33 : elm Try.prog 33 = none := by kernel_rfl
@[simp] theorem arr_33 : arr Try.prog 33 = none := by kernel_rfl
@[simp] theorem ikd_33 : ikd Try.prog 33 = none := by kernel_rfl
@[simp] theorem isStr_33 : isStr Try.prog 33 = false := by kernel_rfl
@[simp] theorem isBool_33 : isBool Try.prog 33 = false := by kernel_rfl
@[simp] theorem und_33 : (Try.prog.underlying 33).isSome = true := by kernel_rfl
@[simp] theorem good_33 : good Try.prog 33 = true := by kernel_rfl
@[simp] theorem zrc_33 : zrc Try.prog 33 = some [.sc (.int .i64 0), .sc (.int .i64 0)] := by kernel_rfl
@[simp] theorem fld_33_0 : fld Try.prog 33 0 = some (0, 2) := by kernel_rfl
@[simp] theorem fld_33_1 : fld Try.prog 33 1 = some (1, 2) := by kernel_rfl
@[simp] theorem plc_33 : plc Try.prog 33 = some [(0, 1), (1, 1)] := by kernel_rfl
@[simp] theorem lks_33 : lks Try.prog 6 33 = some [.i, .i] := by kernel_rfl
@[simp] theorem egt_33 : Try.prog.eqGuardType Try.prog.depth 33 = false := by kernel_rfl
@[simp] theorem siz_39 : siz Try.prog 39 = 1 := by kernel_rfl
@[simp] theorem byt_39 : byt Try.prog 39 = 24 := by kernel_rfl
@[simp] theorem ags_39 : ags Try.prog 39 = false := by kernel_rfl
@[simp] theorem elm_39 : elm Try.prog 39 = some 64 := by kernel_rfl
@[simp] theorem arr_39 : arr Try.prog 39 = none := by kernel_rfl
@[simp] theorem ikd_39 : ikd Try.prog 39 = none := by kernel_rfl
@[simp] theorem isStr_39 : isStr Try.prog 39 = false := by kernel_rfl
@[simp] theorem isBool_39 : isBool Try.prog 39 = false := by kernel_rfl
@[simp] theorem und_39 : (Try.prog.underlying 39).isSome = true := by kernel_rfl
@[simp] theorem good_39 : good Try.prog 39 = true := by kernel_rfl
@[simp] theorem zrc_39 : zrc Try.prog 39 = some [.nl] := by kernel_rfl
@[simp] theorem siz_40 : siz Try.prog 40 = 1 := by kernel_rfl
@[simp] theorem byt_40 : byt Try.prog 40 = 8 := by kernel_rfl
@[simp] theorem ags_40 : ags Try.prog 40 = false := by kernel_rfl
@[simp] theorem elm_40 : elm Try.prog 40 = none := by kernel_rfl
@[simp] theorem arr_40 : arr Try.prog 40 = none := by kernel_rfl
@[simp] theorem ikd_40 : ikd Try.prog 40 = none := by kernel_rfl
@[simp] theorem isStr_40 : isStr Try.prog 40 = false := by kernel_rfl
@[simp] theorem isBool_40 : isBool Try.prog 40 = false := by kernel_rfl
@[simp] theorem und_40 : (Try.prog.underlying 40).isSome = true := by kernel_rfl
@[simp] theorem good_40 : good Try.prog 40 = true := by kernel_rfl
@[simp] theorem zrc_40 : zrc Try.prog 40 = some [.sc (.map none)] := by kernel_rfl
@[simp] theorem siz_41 : siz Try.prog 41 = 3 := by kernel_rfl
@[simp] theorem byt_41 : byt Try.prog 41 = 24 := by kernel_rfl
@[simp] theorem ags_41 : ags Try.prog 41 = true := by kernel_rfl
@[simp] theorem elm_41 : elm Try.prog 41 = none := by kernel_rfl
@[simp] theorem arr_41 : arr Try.prog 41 = none := by kernel_rfl
@[simp] theorem ikd_41 : ikd Try.prog 41 = none := by kernel_rfl
@[simp] theorem isStr_41 : isStr Try.prog 41 = false := by kernel_rfl
@[simp] theorem isBool_41 : isBool Try.prog 41 = false := by kernel_rfl
@[simp] theorem und_41 : (Try.prog.underlying 41).isSome = true := by kernel_rfl
@[simp] theorem good_41 : good Try.prog 41 = true := by kernel_rfl
@[simp] theorem zrc_41 : zrc Try.prog 41 = some [.sc (.int .i64 0), .sc (.int .i64 0), .sc (.map none)] := by kernel_rfl
@[simp] theorem fld_41_0 : fld Try.prog 41 0 = some (0, 2) := by kernel_rfl
@[simp] theorem fld_41_1 : fld Try.prog 41 1 = some (1, 2) := by kernel_rfl
@[simp] theorem fld_41_2 : fld Try.prog 41 2 = some (2, 40) := by kernel_rfl
@[simp] theorem plc_41 : plc Try.prog 41 = some [(0, 1), (1, 1), (2, 1)] := by kernel_rfl
@[simp] theorem siz_42 : siz Try.prog 42 = 3 := by kernel_rfl
@[simp] theorem byt_42 : byt Try.prog 42 = 24 := by kernel_rfl
@[simp] theorem ags_42 : ags Try.prog 42 = true := by kernel_rfl
@[simp] theorem elm_42 : elm Try.prog 42 = none := by kernel_rfl
@[simp] theorem arr_42 : arr Try.prog 42 = none := by kernel_rfl
@[simp] theorem ikd_42 : ikd Try.prog 42 = none := by kernel_rfl
@[simp] theorem isStr_42 : isStr Try.prog 42 = false := by kernel_rfl
@[simp] theorem isBool_42 : isBool Try.prog 42 = false := by kernel_rfl
@[simp] theorem und_42 : (Try.prog.underlying 42).isSome = true := by kernel_rfl
@[simp] theorem good_42 : good Try.prog 42 = true := by kernel_rfl
@[simp] theorem zrc_42 : zrc Try.prog 42 = some [.sc (.int .i64 0), .sc (.int .i64 0), .sc (.map none)] := by kernel_rfl
@[simp] theorem fld_42_0 : fld Try.prog 42 0 = some (0, 2) := by kernel_rfl
@[simp] theorem fld_42_1 : fld Try.prog 42 1 = some (1, 2) := by kernel_rfl
@[simp] theorem fld_42_2 : fld Try.prog 42 2 = some (2, 40) := by kernel_rfl
@[simp] theorem plc_42 : plc Try.prog 42 = some [(0, 1), (1, 1), (2, 1)] := by kernel_rfl
@[simp] theorem siz_43 : siz Try.prog 43 = 3 := by kernel_rfl
@[simp] theorem byt_43 : byt Try.prog 43 = 24 := by kernel_rfl
@[simp] theorem ags_43 : ags Try.prog 43 = true := by kernel_rfl
@[simp] theorem elm_43 : elm Try.prog 43 = none := by kernel_rfl
@[simp] theorem arr_43 : arr Try.prog 43 = none := by kernel_rfl
@[simp] theorem ikd_43 : ikd Try.prog 43 = none := by kernel_rfl
@[simp] theorem isStr_43 : isStr Try.prog 43 = false := by kernel_rfl
@[simp] theorem isBool_43 : isBool Try.prog 43 = false := by kernel_rfl
@[simp] theorem und_43 : (Try.prog.underlying 43).isSome = true := by kernel_rfl
@[simp] theorem good_43 : good Try.prog 43 = true := by kernel_rfl
@[simp] theorem zrc_43 : zrc Try.prog 43 = some [.sc (.int .i64 0), .sc (.int .i64 0), .sc (.map none)] := by kernel_rfl
@[simp] theorem fld_43_0 : fld Try.prog 43 0 = some (0, 42) := by kernel_rfl
@[simp] theorem plc_43 : plc Try.prog 43 = some [(0, 3)] := by kernel_rfl
@[simp] theorem siz_44 : siz Try.prog 44 = 3 := by kernel_rfl
@[simp] theorem byt_44 : byt Try.prog 44 = 24 := by kernel_rfl
@[simp] theorem ags_44 : ags Try.prog 44 = true := by kernel_rfl
@[simp] theorem elm_44 : elm Try.prog 44 = none := by kernel_rfl
@[simp] theorem arr_44 : arr Try.prog 44 = none := by kernel_rfl
@[simp] theorem ikd_44 : ikd Try.prog 44 = none := by kernel_rfl
@[simp] theorem isStr_44 : isStr Try.prog 44 = false := by kernel_rfl
@[simp] theorem isBool_44 : isBool Try.prog 44 = false := by kernel_rfl
@[simp] theorem und_44 : (Try.prog.underlying 44).isSome = true := by kernel_rfl
@[simp] theorem good_44 : good Try.prog 44 = true := by kernel_rfl
@[simp] theorem zrc_44 : zrc Try.prog 44 = some [.sc (.int .i64 0), .sc (.int .i64 0), .sc (.map none)] := by kernel_rfl
@[simp] theorem fld_44_0 : fld Try.prog 44 0 = some (0, 42) := by kernel_rfl
@[simp] theorem plc_44 : plc Try.prog 44 = some [(0, 3)] := by kernel_rfl
@[simp] theorem siz_45 : siz Try.prog 45 = 5 := by kernel_rfl
@[simp] theorem byt_45 : byt Try.prog 45 = 40 := by kernel_rfl
@[simp] theorem ags_45 : ags Try.prog 45 = true := by kernel_rfl
@[simp] theorem elm_45 : elm Try.prog 45 = none := by kernel_rfl
@[simp] theorem arr_45 : arr Try.prog 45 = none := by kernel_rfl
@[simp] theorem ikd_45 : ikd Try.prog 45 = none := by kernel_rfl
@[simp] theorem isStr_45 : isStr Try.prog 45 = false := by kernel_rfl
@[simp] theorem isBool_45 : isBool Try.prog 45 = false := by kernel_rfl
@[simp] theorem und_45 : (Try.prog.underlying 45).isSome = true := by kernel_rfl
@[simp] theorem good_45 : good Try.prog 45 = true := by kernel_rfl
@[simp] theorem zrc_45 : zrc Try.prog 45 = some [.sc (.int .i64 0), .sc (.int .i64 0), .sc (.map none), .sc (.int .i64 0), .sc (.int .i64 0)] := by kernel_rfl
@[simp] theorem fld_45_0 : fld Try.prog 45 0 = some (0, 44) := by kernel_rfl
@[simp] theorem fld_45_1 : fld Try.prog 45 1 = some (3, 3) := by kernel_rfl
@[simp] theorem fld_45_2 : fld Try.prog 45 2 = some (4, 3) := by kernel_rfl
@[simp] theorem plc_45 : plc Try.prog 45 = some [(0, 3), (3, 1), (4, 1)] := by kernel_rfl
@[simp] theorem siz_46 : siz Try.prog 46 = 5 := by kernel_rfl
@[simp] theorem byt_46 : byt Try.prog 46 = 40 := by kernel_rfl
@[simp] theorem ags_46 : ags Try.prog 46 = true := by kernel_rfl
@[simp] theorem elm_46 : elm Try.prog 46 = none := by kernel_rfl
@[simp] theorem arr_46 : arr Try.prog 46 = none := by kernel_rfl
@[simp] theorem ikd_46 : ikd Try.prog 46 = none := by kernel_rfl
@[simp] theorem isStr_46 : isStr Try.prog 46 = false := by kernel_rfl
@[simp] theorem isBool_46 : isBool Try.prog 46 = false := by kernel_rfl
@[simp] theorem und_46 : (Try.prog.underlying 46).isSome = true := by kernel_rfl
@[simp] theorem good_46 : good Try.prog 46 = true := by kernel_rfl
@[simp] theorem zrc_46 : zrc Try.prog 46 = some [.sc (.int .i64 0), .sc (.int .i64 0), .sc (.map none), .sc (.int .i64 0), .sc (.int .i64 0)] := by kernel_rfl
@[simp] theorem fld_46_0 : fld Try.prog 46 0 = some (0, 44) := by kernel_rfl
@[simp] theorem fld_46_1 : fld Try.prog 46 1 = some (3, 3) := by kernel_rfl
@[simp] theorem fld_46_2 : fld Try.prog 46 2 = some (4, 3) := by kernel_rfl
@[simp] theorem plc_46 : plc Try.prog 46 = some [(0, 3), (3, 1), (4, 1)] := by kernel_rfl
@[simp] theorem siz_47 : siz Try.prog 47 = 1 := by kernel_rfl
@[simp] theorem byt_47 : byt Try.prog 47 = 8 := by kernel_rfl
@[simp] theorem ags_47 : ags Try.prog 47 = false := by kernel_rfl
@[simp] theorem elm_47 : elm Try.prog 47 = none := by kernel_rfl
@[simp] theorem arr_47 : arr Try.prog 47 = none := by kernel_rfl
@[simp] theorem ikd_47 : ikd Try.prog 47 = some .i64 := by kernel_rfl
@[simp] theorem isStr_47 : isStr Try.prog 47 = false := by kernel_rfl
@[simp] theorem isBool_47 : isBool Try.prog 47 = false := by kernel_rfl
@[simp] theorem und_47 : (Try.prog.underlying 47).isSome = true := by kernel_rfl
@[simp] theorem good_47 : good Try.prog 47 = true := by kernel_rfl
@[simp] theorem zrc_47 : zrc Try.prog 47 = some [.sc (.int .i64 0)] := by kernel_rfl
@[simp] theorem siz_50 : siz Try.prog 50 = 1 := by kernel_rfl
@[simp] theorem byt_50 : byt Try.prog 50 = 24 := by kernel_rfl
@[simp] theorem ags_50 : ags Try.prog 50 = false := by kernel_rfl
@[simp] theorem elm_50 : elm Try.prog 50 = some 158 := by kernel_rfl
@[simp] theorem arr_50 : arr Try.prog 50 = none := by kernel_rfl
@[simp] theorem ikd_50 : ikd Try.prog 50 = none := by kernel_rfl
@[simp] theorem isStr_50 : isStr Try.prog 50 = false := by kernel_rfl
@[simp] theorem isBool_50 : isBool Try.prog 50 = false := by kernel_rfl
@[simp] theorem und_50 : (Try.prog.underlying 50).isSome = true := by kernel_rfl
@[simp] theorem good_50 : good Try.prog 50 = true := by kernel_rfl
@[simp] theorem zrc_50 : zrc Try.prog 50 = some [.nl] := by kernel_rfl
@[simp] theorem siz_51 : siz Try.prog 51 = 3 := by kernel_rfl
@[simp] theorem byt_51 : byt Try.prog 51 = 40 := by kernel_rfl
@[simp] theorem ags_51 : ags Try.prog 51 = true := by kernel_rfl
@[simp] theorem elm_51 : elm Try.prog 51 = none := by kernel_rfl
@[simp] theorem arr_51 : arr Try.prog 51 = none := by kernel_rfl
@[simp] theorem ikd_51 : ikd Try.prog 51 = none := by kernel_rfl
@[simp] theorem isStr_51 : isStr Try.prog 51 = false := by kernel_rfl
@[simp] theorem isBool_51 : isBool Try.prog 51 = false := by kernel_rfl
@[simp] theorem und_51 : (Try.prog.underlying 51).isSome = true := by kernel_rfl
@[simp] theorem good_51 : good Try.prog 51 = true := by kernel_rfl
@[simp] theorem zrc_51 : zrc Try.prog 51 = some [.sc (.int .i64 0), .sc (.int .i64 0), .nl] := by kernel_rfl
@[simp] theorem fld_51_0 : fld Try.prog 51 0 = some (0, 2) := by kernel_rfl
@[simp] theorem fld_51_1 : fld Try.prog 51 1 = some (1, 2) := by kernel_rfl
@[simp] theorem fld_51_2 : fld Try.prog 51 2 = some (2, 50) := by kernel_rfl
@[simp] theorem plc_51 : plc Try.prog 51 = some [(0, 1), (1, 1), (2, 1)] := by kernel_rfl
@[simp] theorem siz_52 : siz Try.prog 52 = 3 := by kernel_rfl
@[simp] theorem byt_52 : byt Try.prog 52 = 40 := by kernel_rfl
@[simp] theorem ags_52 : ags Try.prog 52 = true := by kernel_rfl
@[simp] theorem elm_52 : elm Try.prog 52 = none := by kernel_rfl
@[simp] theorem arr_52 : arr Try.prog 52 = none := by kernel_rfl
@[simp] theorem ikd_52 : ikd Try.prog 52 = none := by kernel_rfl
@[simp] theorem isStr_52 : isStr Try.prog 52 = false := by kernel_rfl
@[simp] theorem isBool_52 : isBool Try.prog 52 = false := by kernel_rfl
@[simp] theorem und_52 : (Try.prog.underlying 52).isSome = true := by kernel_rfl
@[simp] theorem good_52 : good Try.prog 52 = true := by kernel_rfl
@[simp] theorem zrc_52 : zrc Try.prog 52 = some [.sc (.int .i64 0), .sc (.int .i64 0), .nl] := by kernel_rfl
@[simp] theorem fld_52_0 : fld Try.prog 52 0 = some (0, 2) := by kernel_rfl
@[simp] theorem fld_52_1 : fld Try.prog 52 1 = some (1, 2) := by kernel_rfl
@[simp] theorem fld_52_2 : fld Try.prog 52 2 = some (2, 50) := by kernel_rfl
@[simp] theorem plc_52 : plc Try.prog 52 = some [(0, 1), (1, 1), (2, 1)] := by kernel_rfl
@[simp] theorem siz_53 : siz Try.prog 53 = 5 := by kernel_rfl
@[simp] theorem byt_53 : byt Try.prog 53 = 56 := by kernel_rfl
@[simp] theorem ags_53 : ags Try.prog 53 = true := by kernel_rfl
@[simp] theorem elm_53 : elm Try.prog 53 = none := by kernel_rfl
@[simp] theorem arr_53 : arr Try.prog 53 = none := by kernel_rfl
@[simp] theorem ikd_53 : ikd Try.prog 53 = none := by kernel_rfl
@[simp] theorem isStr_53 : isStr Try.prog 53 = false := by kernel_rfl
@[simp] theorem isBool_53 : isBool Try.prog 53 = false := by kernel_rfl
@[simp] theorem und_53 : (Try.prog.underlying 53).isSome = true := by kernel_rfl
@[simp] theorem good_53 : good Try.prog 53 = true := by kernel_rfl
@[simp] theorem zrc_53 : zrc Try.prog 53 = some [.sc (.int .i64 0), .sc (.int .i64 0), .nl, .sc (.int .i64 0), .sc (.int .i64 0)] := by kernel_rfl
@[simp] theorem fld_53_0 : fld Try.prog 53 0 = some (0, 52) := by kernel_rfl
@[simp] theorem fld_53_1 : fld Try.prog 53 1 = some (3, 3) := by kernel_rfl
@[simp] theorem fld_53_2 : fld Try.prog 53 2 = some (4, 3) := by kernel_rfl
@[simp] theorem plc_53 : plc Try.prog 53 = some [(0, 3), (3, 1), (4, 1)] := by kernel_rfl
@[simp] theorem siz_54 : siz Try.prog 54 = 5 := by kernel_rfl
@[simp] theorem byt_54 : byt Try.prog 54 = 56 := by kernel_rfl
@[simp] theorem ags_54 : ags Try.prog 54 = true := by kernel_rfl
@[simp] theorem elm_54 : elm Try.prog 54 = none := by kernel_rfl
@[simp] theorem arr_54 : arr Try.prog 54 = none := by kernel_rfl
@[simp] theorem ikd_54 : ikd Try.prog 54 = none := by kernel_rfl
@[simp] theorem isStr_54 : isStr Try.prog 54 = false := by kernel_rfl
@[simp] theorem isBool_54 : isBool Try.prog 54 = false := by kernel_rfl
@[simp] theorem und_54 : (Try.prog.underlying 54).isSome = true := by kernel_rfl
@[simp] theorem good_54 : good Try.prog 54 = true := by kernel_rfl
@[simp] theorem zrc_54 : zrc Try.prog 54 = some [.sc (.int .i64 0), .sc (.int .i64 0), .nl, .sc (.int .i64 0), .sc (.int .i64 0)] := by kernel_rfl
@[simp] theorem fld_54_0 : fld Try.prog 54 0 = some (0, 52) := by kernel_rfl
@[simp] theorem fld_54_1 : fld Try.prog 54 1 = some (3, 3) := by kernel_rfl
@[simp] theorem fld_54_2 : fld Try.prog 54 2 = some (4, 3) := by kernel_rfl
@[simp] theorem plc_54 : plc Try.prog 54 = some [(0, 3), (3, 1), (4, 1)] := by kernel_rfl
@[simp] theorem siz_57 : siz Try.prog 57 = 16 := by kernel_rfl
@[simp] theorem byt_57 : byt Try.prog 57 = 16 := by kernel_rfl
@[simp] theorem ags_57 : ags Try.prog 57 = true := by kernel_rfl
@[simp] theorem elm_57 : elm Try.prog 57 = none := by kernel_rfl
@[simp] theorem arr_57 : arr Try.prog 57 = some (16, 5) := by kernel_rfl
@[simp] theorem ikd_57 : ikd Try.prog 57 = none := by kernel_rfl
@[simp] theorem isStr_57 : isStr Try.prog 57 = false := by kernel_rfl
@[simp] theorem isBool_57 : isBool Try.prog 57 = false := by kernel_rfl
@[simp] theorem und_57 : (Try.prog.underlying 57).isSome = true := by kernel_rfl
@[simp] theorem good_57 : good Try.prog 57 = true := by kernel_rfl
@[simp] theorem zrc_57 : zrc Try.prog 57 = some [.sc (.int .u8 0), .sc (.int .u8 0), .sc (.int .u8 0), .sc (.int .u8 0), .sc (.int .u8 0), .sc (.int .u8 0), .sc (.int .u8 0), .sc (.int .u8 0), .sc (.int .u8 0), .sc (.int .u8 0), .sc (.int .u8 0), .sc (.int .u8 0), .sc (.int .u8 0), .sc (.int .u8 0), .sc (.int .u8 0), .sc (.int .u8 0)] := by kernel_rfl
@[simp] theorem lks_57 : lks Try.prog 6 57 = some [.i, .i, .i, .i, .i, .i, .i, .i, .i, .i, .i, .i, .i, .i, .i, .i] := by kernel_rfl
@[simp] theorem egt_57 : Try.prog.eqGuardType Try.prog.depth 57 = false := by kernel_rfl
@[simp] theorem plc_57 : plc Try.prog 57 = some [(0, 1), (1, 1), (2, 1), (3, 1), (4, 1), (5, 1), (6, 1), (7, 1), (8, 1), (9, 1), (10, 1), (11, 1), (12, 1), (13, 1), (14, 1), (15, 1)] := by kernel_rfl
@[simp] theorem siz_58 : siz Try.prog 58 = 1 := by kernel_rfl
@[simp] theorem byt_58 : byt Try.prog 58 = 4 := by kernel_rfl
@[simp] theorem ags_58 : ags Try.prog 58 = false := by kernel_rfl
@[simp] theorem elm_58 : elm Try.prog 58 = none := by kernel_rfl
@[simp] theorem arr_58 : arr Try.prog 58 = none := by kernel_rfl
@[simp] theorem ikd_58 : ikd Try.prog 58 = some .u32 := by kernel_rfl
@[simp] theorem isStr_58 : isStr Try.prog 58 = false := by kernel_rfl
@[simp] theorem isBool_58 : isBool Try.prog 58 = false := by kernel_rfl
@[simp] theorem und_58 : (Try.prog.underlying 58).isSome = true := by kernel_rfl
@[simp] theorem good_58 : good Try.prog 58 = true := by kernel_rfl
@[simp] theorem zrc_58 : zrc Try.prog 58 = some [.sc (.int .u32 0)] := by kernel_rfl
@[simp] theorem siz_59 : siz Try.prog 59 = 2 := by kernel_rfl
@[simp] theorem byt_59 : byt Try.prog 59 = 8 := by kernel_rfl
@[simp] theorem ags_59 : ags Try.prog 59 = true := by kernel_rfl
@[simp] theorem elm_59 : elm Try.prog 59 = none := by kernel_rfl
@[simp] theorem arr_59 : arr Try.prog 59 = none := by kernel_rfl
@[simp] theorem ikd_59 : ikd Try.prog 59 = none := by kernel_rfl
@[simp] theorem isStr_59 : isStr Try.prog 59 = false := by kernel_rfl
@[simp] theorem isBool_59 : isBool Try.prog 59 = false := by kernel_rfl
@[simp] theorem und_59 : (Try.prog.underlying 59).isSome = true := by kernel_rfl
@[simp] theorem good_59 : good Try.prog 59 = true := by kernel_rfl
@[simp] theorem zrc_59 : zrc Try.prog 59 = some [.sc (.int .u32 0), .sc (.int .u32 0)] := by kernel_rfl
@[simp] theorem fld_59_0 : fld Try.prog 59 0 = some (0, 58) := by kernel_rfl
@[simp] theorem fld_59_1 : fld Try.prog 59 1 = some (1, 58) := by kernel_rfl
@[simp] theorem plc_59 : plc Try.prog 59 = some [(0, 1), (1, 1)] := by kernel_rfl
@[simp] theorem lks_59 : lks Try.prog 6 59 = some [.i, .i] := by kernel_rfl
@[simp] theorem egt_59 : Try.prog.eqGuardType Try.prog.depth 59 = false := by kernel_rfl
@[simp] theorem siz_60 : siz Try.prog 60 = 2 := by kernel_rfl
@[simp] theorem byt_60 : byt Try.prog 60 = 8 := by kernel_rfl
@[simp] theorem ags_60 : ags Try.prog 60 = true := by kernel_rfl
@[simp] theorem elm_60 : elm Try.prog 60 = none := by kernel_rfl
@[simp] theorem arr_60 : arr Try.prog 60 = none := by kernel_rfl
@[simp] theorem ikd_60 : ikd Try.prog 60 = none := by kernel_rfl
@[simp] theorem isStr_60 : isStr Try.prog 60 = false := by kernel_rfl
@[simp] theorem isBool_60 : isBool Try.prog 60 = false := by kernel_rfl
@[simp] theorem und_60 : (Try.prog.underlying 60).isSome = true := by kernel_rfl
@[simp] theorem good_60 : good Try.prog 60 = true := by kernel_rfl
@[simp] theorem zrc_60 : zrc Try.prog 60 = some [.sc (.int .u32 0), .sc (.int .u32 0)] := by kernel_rfl
@[simp] theorem fld_60_0 : fld Try.prog 60 0 = some (0, 58) := by kernel_rfl
@[simp] theorem fld_60_1 : fld Try.prog 60 1 = some (1, 58) := by kernel_rfl
@[simp] theorem plc_60 : plc Try.prog 60 = some [(0, 1), (1, 1)] := by kernel_rfl
@[simp] theorem lks_60 : lks Try.prog 6 60 = some [.i, .i] := by kernel_rfl
@[simp] theorem egt_60 : Try.prog.eqGuardType Try.prog.depth 60 = false := by kernel_rfl
@[simp] theorem siz_61 : siz Try.prog 61 = 32 := by kernel_rfl
@[simp] theorem byt_61 : byt Try.prog 61 = 32 := by kernel_rfl
@[simp] theorem ags_61 : ags Try.prog 61 = true := by kernel_rfl
@[simp] theorem elm_61 : elm Try.prog 61 = none := by kernel_rfl
@[simp] theorem arr_61 : arr Try.prog 61 = some (32, 5) := by kernel_rfl
@[simp] theorem ikd_61 : ikd Try.prog 61 = none := by kernel_rfl
@[simp] theorem isStr_61 : isStr Try.prog 61 = false := by kernel_rfl
@[simp] theorem isBool_61 : isBool Try.prog 61 = false := by kernel_rfl
@[simp] theorem und_61 : (Try.prog.underlying 61).isSome = true := by kernel_rfl
@[simp] theorem good_61 : good Try.prog 61 = true := by kernel_rfl
@[simp] theorem zrc_61 : zrc Try.prog 61 = some [.sc (.int .u8 0), .sc (.int .u8 0), .sc (.int .u8 0), .sc (.int .u8 0), .sc (.int .u8 0), .sc (.int .u8 0), .sc (.int .u8 0), .sc (.int .u8 0), .sc (.int .u8 0), .sc (.int .u8 0), .sc (.int .u8 0), .sc (.int .u8 0), .sc (.int .u8 0), .sc (.int .u8 0), .sc (.int .u8 0), .sc (.int .u8 0), .sc (.int .u8 0), .sc (.int .u8 0), .sc (.int .u8 0), .sc (.int .u8 0), .sc (.int .u8 0), .sc (.int .u8 0), .sc (.int .u8 0), .sc (.int .u8 0), .sc (.int .u8 0), .sc (.int .u8 0), .sc (.int .u8 0), .sc (.int .u8 0), .sc (.int .u8 0), .sc (.int .u8 0), .sc (.int .u8 0), .sc (.int .u8 0)] := by kernel_rfl
@[simp] theorem lks_61 : lks Try.prog 6 61 = some [.i, .i, .i, .i, .i, .i, .i, .i, .i, .i, .i, .i, .i, .i, .i, .i, .i, .i, .i, .i, .i, .i, .i, .i, .i, .i, .i, .i, .i, .i, .i, .i] := by kernel_rfl
@[simp] theorem egt_61 : Try.prog.eqGuardType Try.prog.depth 61 = false := by kernel_rfl
@[simp] theorem plc_61 : plc Try.prog 61 = some [(0, 1), (1, 1), (2, 1), (3, 1), (4, 1), (5, 1), (6, 1), (7, 1), (8, 1), (9, 1), (10, 1), (11, 1), (12, 1), (13, 1), (14, 1), (15, 1), (16, 1), (17, 1), (18, 1), (19, 1), (20, 1), (21, 1), (22, 1), (23, 1), (24, 1), (25, 1), (26, 1), (27, 1), (28, 1), (29, 1), (30, 1), (31, 1)] := by kernel_rfl
@[simp] theorem siz_62 : siz Try.prog 62 = 1 := by kernel_rfl
@[simp] theorem byt_62 : byt Try.prog 62 = 24 := by kernel_rfl
@[simp] theorem ags_62 : ags Try.prog 62 = false := by kernel_rfl
@[simp] theorem elm_62 : elm Try.prog 62 = some 5 := by kernel_rfl
@[simp] theorem arr_62 : arr Try.prog 62 = none := by kernel_rfl
@[simp] theorem ikd_62 : ikd Try.prog 62 = none := by kernel_rfl
@[simp] theorem isStr_62 : isStr Try.prog 62 = false := by kernel_rfl
@[simp] theorem isBool_62 : isBool Try.prog 62 = false := by kernel_rfl
@[simp] theorem und_62 : (Try.prog.underlying 62).isSome = true := by kernel_rfl
@[simp] theorem good_62 : good Try.prog 62 = true := by kernel_rfl
@[simp] theorem zrc_62 : zrc Try.prog 62 = some [.nl] := by kernel_rfl
@[simp] theorem siz_63 : siz Try.prog 63 = 56 := by kernel_rfl
@[simp] theorem byt_63 : byt Try.prog 63 = 136 := by kernel_rfl
@[simp] theorem ags_63 : ags Try.prog 63 = true := by kernel_rfl
@[simp] theorem elm_63 : elm Try.prog 63 = none := by kernel_rfl
@[simp] theorem arr_63 : arr Try.prog 63 = none := by kernel_rfl
@[simp] theorem ikd_63 : ikd Try.prog 63 = none := by kernel_rfl
@[simp] theorem isStr_63 : isStr Try.prog 63 = false := by kernel_rfl
@[simp] theorem isBool_63 : isBool Try.prog 63 = false := by kernel_rfl
@[simp] theorem und_63 : (Try.prog.underlying 63).isSome = true := by kernel_rfl
@[simp] theorem good_63 : good Try.prog 63 = true := by kernel_rfl
@[simp] theorem zrc_63 : zrc Try.prog 63 = some [.sc (.int .i64 0), .sc (.int .u8 0), .sc (.int .u8 0), .sc (.int .u8 0), .sc (.int .u8 0), .sc (.int .u8 0), .sc (.int .u8 0), .sc (.int .u8 0), .sc (.int .u8 0), .sc (.int .u8 0), .sc (.int .u8 0), .sc (.int .u8 0), .sc (.int .u8 0), .sc (.int .u8 0), .sc (.int .u8 0), .sc (.int .u8 0), .sc (.int .u8 0), .sc (.int .u32 0), .sc (.int .u32 0), .sc (.int .u64 0), .sc (.int .u64 0), .sc (.int .u8 0), .sc (.int .u8 0), .sc (.int .u8 0), .sc (.int .u8 0), .sc (.int .u8 0), .sc (.int .u8 0), .sc (.int .u8 0), .sc (.int .u8 0), .sc (.int .u8 0), .sc (.int .u8 0), .sc (.int .u8 0), .sc (.int .u8 0), .sc (.int .u8 0), .sc (.int .u8 0), .sc (.int .u8 0), .sc (.int .u8 0), .sc (.int .u8 0), .sc (.int .u8 0), .sc (.int .u8 0), .sc (.int .u8 0), .sc (.int .u8 0), .sc (.int .u8 0), .sc (.int .u8 0), .sc (.int .u8 0), .sc (.int .u8 0), .sc (.int .u8 0), .sc (.int .u8 0), .sc (.int .u8 0), .sc (.int .u8 0), .sc (.int .u8 0), .sc (.int .u8 0), .sc (.int .u8 0), .nl, .nl, .sc (.int .i64 0)] := by kernel_rfl
@[simp] theorem fld_63_0 : fld Try.prog 63 0 = some (0, 3) := by kernel_rfl
@[simp] theorem fld_63_1 : fld Try.prog 63 1 = some (1, 57) := by kernel_rfl
@[simp] theorem fld_63_2 : fld Try.prog 63 2 = some (17, 60) := by kernel_rfl
@[simp] theorem fld_63_3 : fld Try.prog 63 3 = some (19, 27) := by kernel_rfl
@[simp] theorem fld_63_4 : fld Try.prog 63 4 = some (20, 27) := by kernel_rfl
@[simp] theorem fld_63_5 : fld Try.prog 63 5 = some (21, 61) := by kernel_rfl
@[simp] theorem fld_63_6 : fld Try.prog 63 6 = some (53, 62) := by kernel_rfl
@[simp] theorem fld_63_7 : fld Try.prog 63 7 = some (54, 22) := by kernel_rfl
@[simp] theorem fld_63_8 : fld Try.prog 63 8 = some (55, 3) := by kernel_rfl
@[simp] theorem plc_63 : plc Try.prog 63 = some [(0, 1), (1, 16), (17, 2), (19, 1), (20, 1), (21, 32), (53, 1), (54, 1), (55, 1)] := by kernel_rfl
@[simp] theorem siz_64 : siz Try.prog 64 = 56 := by kernel_rfl
@[simp] theorem byt_64 : byt Try.prog 64 = 136 := by kernel_rfl
@[simp] theorem ags_64 : ags Try.prog 64 = true := by kernel_rfl
@[simp] theorem elm_64 : elm Try.prog 64 = none := by kernel_rfl
@[simp] theorem arr_64 : arr Try.prog 64 = none := by kernel_rfl
@[simp] theorem ikd_64 : ikd Try.prog 64 = none := by kernel_rfl
@[simp] theorem isStr_64 : isStr Try.prog 64 = false := by kernel_rfl
@[simp] theorem isBool_64 : isBool Try.prog 64 = false := by kernel_rfl
@[simp] theorem und_64 : (Try.prog.underlying 64).isSome = true := by kernel_rfl
@[simp] theorem good_64 : good Try.prog 64 = true := by kernel_rfl
@[simp] theorem zrc_64 : zrc Try.prog 64 = some [.sc (.int .i64 0), .sc (.int .u8 0), .sc (.int .u8 0), .sc (.int .u8 0), .sc (.int .u8 0), .sc (.int .u8 0), .sc (.int .u8 0), .sc (.int .u8 0), .sc (.int .u8 0), .sc (.int .u8 0), .sc (.int .u8 0), .sc (.int .u8 0), .sc (.int .u8 0), .sc (.int .u8 0), .sc (.int .u8 0), .sc (.int .u8 0), .sc (.int .u8 0), .sc (.int .u32 0), .sc (.int .u32 0), .sc (.int .u64 0), .sc (.int .u64 0), .sc (.int .u8 0), .sc (.int .u8 0), .sc (.int .u8 0), .sc (.int .u8 0), .sc (.int .u8 0), .sc (.int .u8 0), .sc (.int .u8 0), .sc (.int .u8 0), .sc (.int .u8 0), .sc (.int .u8 0), .sc (.int .u8 0), .sc (.int .u8 0), .sc (.int .u8 0), .sc (.int .u8 0), .sc (.int .u8 0), .sc (.int .u8 0), .sc (.int .u8 0), .sc (.int .u8 0), .sc (.int .u8 0), .sc (.int .u8 0), .sc (.int .u8 0), .sc (.int .u8 0), .sc (.int .u8 0), .sc (.int .u8 0), .sc (.int .u8 0), .sc (.int .u8 0), .sc (.int .u8 0), .sc (.int .u8 0), .sc (.int .u8 0), .sc (.int .u8 0), .sc (.int .u8 0), .sc (.int .u8 0), .nl, .nl, .sc (.int .i64 0)] := by kernel_rfl
@[simp] theorem fld_64_0 : fld Try.prog 64 0 = some (0, 3) := by kernel_rfl
@[simp] theorem fld_64_1 : fld Try.prog 64 1 = some (1, 57) := by kernel_rfl
@[simp] theorem fld_64_2 : fld Try.prog 64 2 = some (17, 60) := by kernel_rfl
@[simp] theorem fld_64_3 : fld Try.prog 64 3 = some (19, 27) := by kernel_rfl
@[simp] theorem fld_64_4 : fld Try.prog 64 4 = some (20, 27) := by kernel_rfl
@[simp] theorem fld_64_5 : fld Try.prog 64 5 = some (21, 61) := by kernel_rfl
@[simp] theorem fld_64_6 : fld Try.prog 64 6 = some (53, 62) := by kernel_rfl
@[simp] theorem fld_64_7 : fld Try.prog 64 7 = some (54, 22) := by kernel_rfl
@[simp] theorem fld_64_8 : fld Try.prog 64 8 = some (55, 3) := by kernel_rfl
@[simp] theorem plc_64 : plc Try.prog 64 = some [(0, 1), (1, 16), (17, 2), (19, 1), (20, 1), (21, 32), (53, 1), (54, 1), (55, 1)] := by kernel_rfl
@[simp] theorem siz_67 : siz Try.prog 67 = 16 := by kernel_rfl
@[simp] theorem byt_67 : byt Try.prog 67 = 16 := by kernel_rfl
@[simp] theorem ags_67 : ags Try.prog 67 = true := by kernel_rfl
@[simp] theorem elm_67 : elm Try.prog 67 = none := by kernel_rfl
@[simp] theorem arr_67 : arr Try.prog 67 = some (16, 5) := by kernel_rfl
@[simp] theorem ikd_67 : ikd Try.prog 67 = none := by kernel_rfl
@[simp] theorem isStr_67 : isStr Try.prog 67 = false := by kernel_rfl
@[simp] theorem isBool_67 : isBool Try.prog 67 = false := by kernel_rfl
@[simp] theorem und_67 : (Try.prog.underlying 67).isSome = true := by kernel_rfl
@[simp] theorem good_67 : good Try.prog 67 = true := by kernel_rfl
@[simp] theorem zrc_67 : zrc Try.prog 67 = some [.sc (.int .u8 0), .sc (.int .u8 0), .sc (.int .u8 0), .sc (.int .u8 0), .sc (.int .u8 0), .sc (.int .u8 0), .sc (.int .u8 0), .sc (.int .u8 0), .sc (.int .u8 0), .sc (.int .u8 0), .sc (.int .u8 0), .sc (.int .u8 0), .sc (.int .u8 0), .sc (.int .u8 0), .sc (.int .u8 0), .sc (.int .u8 0)] := by kernel_rfl
@[simp] theorem lks_67 : lks Try.prog 6 67 = some [.i, .i, .i, .i, .i, .i, .i, .i, .i, .i, .i, .i, .i, .i, .i, .i] := by kernel_rfl
@[simp] theorem egt_67 : Try.prog.eqGuardType Try.prog.depth 67 = false := by kernel_rfl
@[simp] theorem plc_67 : plc Try.prog 67 = some [(0, 1), (1, 1), (2, 1), (3, 1), (4, 1), (5, 1), (6, 1), (7, 1), (8, 1), (9, 1), (10, 1), (11, 1), (12, 1), (13, 1), (14, 1), (15, 1)] := by kernel_rfl
@[simp] theorem siz_68 : siz Try.prog 68 = 2 := by kernel_rfl
@[simp] theorem byt_68 : byt Try.prog 68 = 8 := by kernel_rfl
@[simp] theorem ags_68 : ags Try.prog 68 = true := by kernel_rfl
@[simp] theorem elm_68 : elm Try.prog 68 = none := by kernel_rfl
@[simp] theorem arr_68 : arr Try.prog 68 = none := by kernel_rfl
@[simp] theorem ikd_68 : ikd Try.prog 68 = none := by kernel_rfl
@[simp] theorem isStr_68 : isStr Try.prog 68 = false := by kernel_rfl
@[simp] theorem isBool_68 : isBool Try.prog 68 = false := by kernel_rfl
@[simp] theorem und_68 : (Try.prog.underlying 68).isSome = true := by kernel_rfl
@[simp] theorem good_68 : good Try.prog 68 = true := by kernel_rfl
@[simp] theorem zrc_68 : zrc Try.prog 68 = some [.sc (.int .u32 0), .sc (.int .u32 0)] := by kernel_rfl
@[simp] theorem fld_68_0 : fld Try.prog 68 0 = some (0, 58) := by kernel_rfl
@[simp] theorem fld_68_1 : fld Try.prog 68 1 = some (1, 58) := by kernel_rfl
@[simp] theorem plc_68 : plc Try.prog 68 = some [(0, 1), (1, 1)] := by kernel_rfl
@[simp] theorem lks_68 : lks Try.prog 6 68 = some [.i, .i] := by kernel_rfl
@[simp] theorem egt_68 : Try.prog.eqGuardType Try.prog.depth 68 = false := by kernel_rfl
@[simp] theorem siz_69 : siz Try.prog 69 = 32 := by kernel_rfl
@[simp] theorem byt_69 : byt Try.prog 69 = 32 := by kernel_rfl
@[simp] theorem ags_69 : ags Try.prog 69 = true := by kernel_rfl
@[simp] theorem elm_69 : elm Try.prog 69 = none := by kernel_rfl
@[simp] theorem arr_69 : arr Try.prog 69 = some (32, 5) := by kernel_rfl
@[simp] theorem ikd_69 : ikd Try.prog 69 = none := by kernel_rfl
@[simp] theorem isStr_69 : isStr Try.prog 69 = false := by kernel_rfl
@[simp] theorem isBool_69 : isBool Try.prog 69 = false := by kernel_rfl
@[simp] theorem und_69 : (Try.prog.underlying 69).isSome = true := by kernel_rfl
@[simp] theorem good_69 : good Try.prog 69 = true := by kernel_rfl
@[simp] theorem zrc_69 : zrc Try.prog 69 = some [.sc (.int .u8 0), .sc (.int .u8 0), .sc (.int .u8 0), .sc (.int .u8 0), .sc (.int .u8 0), .sc (.int .u8 0), .sc (.int .u8 0), .sc (.int .u8 0), .sc (.int .u8 0), .sc (.int .u8 0), .sc (.int .u8 0), .sc (.int .u8 0), .sc (.int .u8 0), .sc (.int .u8 0), .sc (.int .u8 0), .sc (.int .u8 0), .sc (.int .u8 0), .sc (.int .u8 0), .sc (.int .u8 0), .sc (.int .u8 0), .sc (.int .u8 0), .sc (.int .u8 0), .sc (.int .u8 0), .sc (.int .u8 0), .sc (.int .u8 0), .sc (.int .u8 0), .sc (.int .u8 0), .sc (.int .u8 0), .sc (.int .u8 0), .sc (.int .u8 0), .sc (.int .u8 0), .sc (.int .u8 0)] := by kernel_rfl
@[simp] theorem lks_69 : lks Try.prog 6 69 = some [.i, .i, .i, .i, .i, .i, .i, .i, .i, .i, .i, .i, .i, .i, .i, .i, .i, .i, .i, .i, .i, .i, .i, .i, .i, .i, .i, .i, .i, .i, .i, .i] := by kernel_rfl
@[simp] theorem egt_69 : Try.prog.eqGuardType Try.prog.depth 69 = false := by kernel_rfl
@[simp] theorem plc_69 : plc Try.prog 69 = some [(0, 1), (1, 1), (2, 1), (3, 1), (4, 1), (5, 1), (6, 1), (7, 1), (8, 1), (9, 1), (10, 1), (11, 1), (12, 1), (13, 1), (14, 1), (15, 1), (16, 1), (17, 1), (18, 1), (19, 1), (20, 1), (21, 1), (22, 1), (23, 1), (24, 1), (25, 1), (26, 1), (27, 1), (28, 1), (29, 1), (30, 1), (31, 1)] := by kernel_rfl
@[simp] theorem siz_70 : siz Try.prog 70 = 56 := by kernel_rfl
@[simp] theorem byt_70 : byt Try.prog 70 = 136 := by kernel_rfl
@[simp] theorem ags_70 : ags Try.prog 70 = true := by kernel_rfl
@[simp] theorem elm_70 : elm Try.prog 70 = none := by kernel_rfl
@[simp] theorem arr_70 : arr Try.prog 70 = none := by kernel_rfl
@[simp] theorem ikd_70 : ikd Try.prog 70 = none := by kernel_rfl
@[simp] theorem isStr_70 : isStr Try.prog 70 = false := by kernel_rfl
@[simp] theorem isBool_70 : isBool Try.prog 70 = false := by kernel_rfl
@[simp] theorem und_70 : (Try.prog.underlying 70).isSome = true := by kernel_rfl
@[simp] theorem good_70 : good Try.prog 70 = true := by kernel_rfl
@[simp] theorem zrc_70 : zrc Try.prog 70 = some [.sc (.int .i64 0), .sc (.int .u8 0), .sc (.int .u8 0), .sc (.int .u8 0), .sc (.int .u8 0), .sc (.int .u8 0), .sc (.int .u8 0), .sc (.int .u8 0), .sc (.int .u8 0), .sc (.int .u8 0), .sc (.int .u8 0), .sc (.int .u8 0), .sc (.int .u8 0), .sc (.int .u8 0), .sc (.int .u8 0), .sc (.int .u8 0), .sc (.int .u8 0), .sc (.int .u32 0), .sc (.int .u32 0), .sc (.int .u64 0), .sc (.int .u64 0), .sc (.int .u8 0), .sc (.int .u8 0), .sc (.int .u8 0), .sc (.int .u8 0), .sc (.int .u8 0), .sc (.int .u8 0), .sc (.int .u8 0), .sc (.int .u8 0), .sc (.int .u8 0), .sc (.int .u8 0), .sc (.int .u8 0), .sc (.int .u8 0), .sc (.int .u8 0), .sc (.int .u8 0), .sc (.int .u8 0), .sc (.int .u8 0), .sc (.int .u8 0), .sc (.int .u8 0), .sc (.int .u8 0), .sc (.int .u8 0), .sc (.int .u8 0), .sc (.int .u8 0), .sc (.int .u8 0), .sc (.int .u8 0), .sc (.int .u8 0), .sc (.int .u8 0), .sc (.int .u8 0), .sc (.int .u8 0), .sc (.int .u8 0), .sc (.int .u8 0), .sc (.int .u8 0), .sc (.int .u8 0), .nl, .nl, .sc (.int .i64 0)] := by kernel_rfl
@[simp] theorem fld_70_0 : fld Try.prog 70 0 = some (0, 3) := by kernel_rfl
@[simp] theorem fld_70_1 : fld Try.prog 70 1 = some (1, 67) := by kernel_rfl
@[simp] theorem fld_70_2 : fld Try.prog 70 2 = some (17, 68) := by kernel_rfl
@[simp] theorem fld_70_3 : fld Try.prog 70 3 = some (19, 27) := by kernel_rfl
@[simp] theorem fld_70_4 : fld Try.prog 70 4 = some (20, 27) := by kernel_rfl
@[simp] theorem fld_70_5 : fld Try.prog 70 5 = some (21, 69) := by kernel_rfl
@[simp] theorem fld_70_6 : fld Try.prog 70 6 = some (53, 62) := by kernel_rfl
@[simp] theorem fld_70_7 : fld Try.prog 70 7 = some (54, 25) := by kernel_rfl
@[simp] theorem fld_70_8 : fld Try.prog 70 8 = some (55, 3) := by kernel_rfl
@[simp] theorem plc_70 : plc Try.prog 70 = some [(0, 1), (1, 16), (17, 2), (19, 1), (20, 1), (21, 32), (53, 1), (54, 1), (55, 1)] := by kernel_rfl
@[simp] theorem siz_71 : siz Try.prog 71 = 56 := by kernel_rfl
@[simp] theorem byt_71 : byt Try.prog 71 = 136 := by kernel_rfl
@[simp] theorem ags_71 : ags Try.prog 71 = true := by kernel_rfl
@[simp] theorem elm_71 : elm Try.prog 71 = none := by kernel_rfl
@[simp] theorem arr_71 : arr Try.prog 71 = none := by kernel_rfl
@[simp] theorem ikd_71 : ikd Try.prog 71 = none := by kernel_rfl
@[simp] theorem isStr_71 : isStr Try.prog 71 = false := by kernel_rfl
@[simp] theorem isBool_71 : isBool Try.prog 71 = false := by kernel_rfl
@[simp] theorem und_71 : (Try.prog.underlying 71).isSome = true := by kernel_rfl
@[simp] theorem good_71 : good Try.prog 71 = true := by kernel_rfl
@[simp] theorem zrc_71 : zrc Try.prog 71 = some [.sc (.int .i64 0), .sc (.int .u8 0), .sc (.int .u8 0), .sc (.int .u8 0), .sc (.int .u8 0), .sc (.int .u8 0), .sc (.int .u8 0), .sc (.int .u8 0), .sc (.int .u8 0), .sc (.int .u8 0), .sc (.int .u8 0), .sc (.int .u8 0), .sc (.int .u8 0), .sc (.int .u8 0), .sc (.int .u8 0), .sc (.int .u8 0), .sc (.int .u8 0), .sc (.int .u32 0), .sc (.int .u32 0), .sc (.int .u64 0), .sc (.int .u64 0), .sc (.int .u8 0), .sc (.int .u8 0), .sc (.int .u8 0), .sc (.int .u8 0), .sc (.int .u8 0), .sc (.int .u8 0), .sc (.int .u8 0), .sc (.int .u8 0), .sc (.int .u8 0), .sc (.int .u8 0), .sc (.int .u8 0), .sc (.int .u8 0), .sc (.int .u8 0), .sc (.int .u8 0), .sc (.int .u8 0), .sc (.int .u8 0), .sc (.int .u8 0), .sc (.int .u8 0), .sc (.int .u8 0), .sc (.int .u8 0), .sc (.int .u8 0), .sc (.int .u8 0), .sc (.int .u8 0), .sc (.int .u8 0), .sc (.int .u8 0), .sc (.int .u8 0), .sc (.int .u8 0), .sc (.int .u8 0), .sc (.int .u8 0), .sc (.int .u8 0), .sc (.int .u8 0), .sc (.int .u8 0), .nl, .nl, .sc (.int .i64 0)] := by kernel_rfl
@[simp] theorem fld_71_0 : fld Try.prog 71 0 = some (0, 3) := by kernel_rfl
@[simp] theorem fld_71_1 : fld Try.prog 71 1 = some (1, 67) := by kernel_rfl
@[simp] theorem fld_71_2 : fld Try.prog 71 2 = some (17, 68) := by kernel_rfl
@[simp] theorem fld_71_3 : fld Try.prog 71 3 = some (19, 27) := by kernel_rfl
@[simp] theorem fld_71_4 : fld Try.prog 71 4 = some (20, 27) := by kernel_rfl
@[simp] theorem fld_71_5 : fld Try.prog 71 5 = some (21, 69) := by kernel_rfl
@[simp] theorem fld_71_6 : fld Try.prog 71 6 = some (53, 62) := by kernel_rfl
@[simp] theorem fld_71_7 : fld Try.prog 71 7 = some (54, 25) := by kernel_rfl
@[simp] theorem fld_71_8 : fld Try.prog 71 8 = some (55, 3) := by kernel_rfl
@[simp] theorem plc_71 : plc Try.prog 71 = some [(0, 1), (1, 16), (17, 2), (19, 1), (20, 1), (21, 32), (53, 1), (54, 1), (55, 1)] := by kernel_rfl
@[simp] theorem siz_84 : siz Try.prog 84 = 1 := by kernel_rfl
@[simp] theorem byt_84 : byt Try.prog 84 = 24 := by kernel_rfl
@[simp] theorem ags_84 : ags Try.prog 84 = true := by kernel_rfl
@[simp] theorem elm_84 : elm Try.prog 84 = none := by kernel_rfl
@[simp] theorem arr_84 : arr Try.prog 84 = none := by kernel_rfl
@[simp] theorem ikd_84 : ikd Try.prog 84 = none := by kernel_rfl
@[simp] theorem isStr_84 : isStr Try.prog 84 = false := by kernel_rfl
@[simp] theorem isBool_84 : isBool Try.prog 84 = false := by kernel_rfl
@[simp] theorem und_84 : (Try.prog.underlying 84).isSome = true := by kernel_rfl
@[simp] theorem good_84 : good Try.prog 84 = true := by kernel_rfl
@[simp] theorem zrc_84 : zrc Try.prog 84 = some [.nl] := by kernel_rfl
@[simp] theorem fld_84_0 : fld Try.prog 84 0 = some (0, 26) := by kernel_rfl
@[simp] theorem plc_84 : plc Try.prog 84 = some [(0, 1)] := by kernel_rfl
@[simp] theorem siz_85 : siz Try.prog 85 = 1 := by kernel_rfl
@[simp] theorem byt_85 : byt Try.prog 85 = 24 := by kernel_rfl
@[simp] theorem ags_85 : ags Try.prog 85 = true := by kernel_rfl
@[simp] theorem elm_85 : elm Try.prog 85 = none := by kernel_rfl
@[simp] theorem arr_85 : arr Try.prog 85 = none := by kernel_rfl
@[simp] theorem ikd_85 : ikd Try.prog 85 = none := by kernel_rfl
@[simp] theorem isStr_85 : isStr Try.prog 85 = false := by kernel_rfl
@[simp] theorem isBool_85 : isBool Try.prog 85 = false := by kernel_rfl
@[simp] theorem und_85 : (Try.prog.underlying 85).isSome = true := by kernel_rfl
@[simp] theorem good_85 : good Try.prog 85 = true := by kernel_rfl
@[simp] theorem zrc_85 : zrc Try.prog 85 = some [.nl] := by kernel_rfl
@[simp] theorem fld_85_0 : fld Try.prog 85 0 = some (0, 26) := by kernel_rfl
@[simp] theorem plc_85 : plc Try.prog 85 = some [(0, 1)] := by kernel_rfl
@[simp] theorem siz_86 : siz Try.prog 86 = 3 := by kernel_rfl
@[simp] theorem byt_86 : byt Try.prog 86 = 56 := by kernel_rfl
@[simp] theorem ags_86 : ags Try.prog 86 = true := by kernel_rfl
@[simp] theorem elm_86 : elm Try.prog 86 = none := by kernel_rfl
@[simp] theorem arr_86 : arr Try.prog 86 = none := by kernel_rfl
@[simp] theorem ikd_86 : ikd Try.prog 86 = none := by kernel_rfl
@[simp] theorem isStr_86 : isStr Try.prog 86 = false := by kernel_rfl
@[simp] theorem isBool_86 : isBool Try.prog 86 = false := by kernel_rfl
@[simp] theorem und_86 : (Try.prog.underlying 86).isSome = true := by kernel_rfl
@[simp] theorem good_86 : good Try.prog 86 = true := by kernel_rfl
@[simp] theorem zrc_86 : zrc Try.prog 86 = some [.sc (.int .i64 0), .nl, .nl] := by kernel_rfl
@[simp] theorem fld_86_0 : fld Try.prog 86 0 = some (0, 2) := by kernel_rfl
@[simp] theorem fld_86_1 : fld Try.prog 86 1 = some (1, 85) := by kernel_rfl
@[simp] theorem fld_86_2 : fld Try.prog 86 2 = some (2, 85) := by kernel_rfl
@[simp] theorem plc_86 : plc Try.prog 86 = some [(0, 1), (1, 1), (2, 1)] := by kernel_rfl
@[simp] theorem siz_87 : siz Try.prog 87 = 3 := by kernel_rfl
@[simp] theorem byt_87 : byt Try.prog 87 = 56 := by kernel_rfl
@[simp] theorem ags_87 : ags Try.prog 87 = true := by kernel_rfl
@[simp] theorem elm_87 : elm Try.prog 87 = none := by kernel_rfl
@[simp] theorem arr_87 : arr Try.prog 87 = none := by kernel_rfl
@[simp] theorem ikd_87 : ikd Try.prog 87 = none := by kernel_rfl
@[simp] theorem isStr_87 : isStr Try.prog 87 = false := by kernel_rfl
@[simp] theorem isBool_87 : isBool Try.prog 87 = false := by kernel_rfl
@[simp] theorem und_87 : (Try.prog.underlying 87).isSome = true := by kernel_rfl
@[simp] theorem good_87 : good Try.prog 87 = true := by kernel_rfl
@[simp] theorem zrc_87 : zrc Try.prog 87 = some [.sc (.int .i64 0), .nl, .nl] := by kernel_rfl
@[simp] theorem fld_87_0 : fld Try.prog 87 0 = some (0, 2) := by kernel_rfl
@[simp] theorem fld_87_1 : fld Try.prog 87 1 = some (1, 85) := by kernel_rfl
@[simp] theorem fld_87_2 : fld Try.prog 87 2 = some (2, 85) := by kernel_rfl
@[simp] theorem plc_87 : plc Try.prog 87 = some [(0, 1), (1, 1), (2, 1)] := by kernel_rfl
@[simp] theorem siz_88 : siz Try.prog 88 = 3 := by kernel_rfl
@[simp] theorem byt_88 : byt Try.prog 88 = 24 := by kernel_rfl
@[simp] theorem ags_88 : ags Try.prog 88 = true := by kernel_rfl
@[simp] theorem elm_88 : elm Try.prog 88 = none := by kernel_rfl
@[simp] theorem arr_88 : arr Try.prog 88 = none := by kernel_rfl
@[simp] theorem ikd_88 : ikd Try.prog 88 = none := by kernel_rfl
@[simp] theorem isStr_88 : isStr Try.prog 88 = false := by kernel_rfl
@[simp] theorem isBool_88 : isBool Try.prog 88 = false := by kernel_rfl
@[simp] theorem und_88 : (Try.prog.underlying 88).isSome = true := by kernel_rfl
@[simp] theorem good_88 : good Try.prog 88 = true := by kernel_rfl
@[simp] theorem zrc_88 : zrc Try.prog 88 = some [.sc (.bool false), .sc (.int .i64 0), .sc (.int .i64 0)] := by kernel_rfl
@[simp] theorem fld_88_0 : fld Try.prog 88 0 = some (0, 4) := by kernel_rfl
@[simp] theorem fld_88_1 : fld Try.prog 88 1 = some (1, 3) := by kernel_rfl
@[simp] theorem fld_88_2 : fld Try.prog 88 2 = some (2, 3) := by kernel_rfl
@[simp] theorem plc_88 : plc Try.prog 88 = some [(0, 1), (1, 1), (2, 1)] := by kernel_rfl
@[simp] theorem lks_88 : lks Try.prog 6 88 = some [.b, .i, .i] := by kernel_rfl
@[simp] theorem egt_88 : Try.prog.eqGuardType Try.prog.depth 88 = false := by kernel_rfl
@[simp] theorem siz_89 : siz Try.prog 89 = 3 := by kernel_rfl
@[simp] theorem byt_89 : byt Try.prog 89 = 24 := by kernel_rfl
@[simp] theorem ags_89 : ags Try.prog 89 = true := by kernel_rfl
@[simp] theorem elm_89 : elm Try.prog 89 = none := by kernel_rfl
@[simp] theorem arr_89 : arr Try.prog 89 = none := by kernel_rfl
@[simp] theorem ikd_89 : ikd Try.prog 89 = none := by kernel_rfl
@[simp] theorem isStr_89 : isStr Try.prog 89 = false := by kernel_rfl
@[simp] theorem isBool_89 : isBool Try.prog 89 = false := by kernel_rfl
@[simp] theorem und_89 : (Try.prog.underlying 89).isSome = true := by kernel_rfl
@[simp] theorem good_89 : good Try.prog 89 = true := by kernel_rfl
@[simp] theorem zrc_89 : zrc Try.prog 89 = some [.sc (.bool false), .sc (.int .i64 0), .sc (.int .i64 0)] := by kernel_rfl
@[simp] theorem fld_89_0 : fld Try.prog 89 0 = some (0, 4) := by kernel_rfl
@[simp] theorem fld_89_1 : fld Try.prog 89 1 = some (1, 3) := by kernel_rfl
@[simp] theorem fld_89_2 : fld Try.prog 89 2 = some (2, 3) := by kernel_rfl
@[simp] theorem plc_89 : plc Try.prog 89 = some [(0, 1), (1, 1), (2, 1)] := by kernel_rfl
@[simp] theorem lks_89 : lks Try.prog 6 89 = some [.b, .i, .i] := by kernel_rfl
@[simp] theorem egt_89 : Try.prog.eqGuardType Try.prog.depth 89 = false := by kernel_rfl
@[simp] theorem siz_90 : siz Try.prog 90 = 7 := by kernel_rfl
@[simp] theorem byt_90 : byt Try.prog 90 = 104 := by kernel_rfl
@[simp] theorem ags_90 : ags Try.prog 90 = true := by kernel_rfl
@[simp] theorem elm_90 : elm Try.prog 90 = none := by kernel_rfl
@[simp] theorem arr_90 : arr Try.prog 90 = none := by kernel_rfl
@[simp] theorem ikd_90 : ikd Try.prog 90 = none := by kernel_rfl
@[simp] theorem isStr_90 : isStr Try.prog 90 = false := by kernel_rfl
@[simp] theorem isBool_90 : isBool Try.prog 90 = false := by kernel_rfl
@[simp] theorem und_90 : (Try.prog.underlying 90).isSome = true := by kernel_rfl
@[simp] theorem good_90 : good Try.prog 90 = true := by kernel_rfl
@[simp] theorem zrc_90 : zrc Try.prog 90 = some [.nl, .sc (.int .i64 0), .nl, .nl, .sc (.bool false), .sc (.int .i64 0), .sc (.int .i64 0)] := by kernel_rfl
@[simp] theorem fld_90_0 : fld Try.prog 90 0 = some (0, 62) := by kernel_rfl
@[simp] theorem fld_90_1 : fld Try.prog 90 1 = some (1, 87) := by kernel_rfl
@[simp] theorem fld_90_2 : fld Try.prog 90 2 = some (4, 89) := by kernel_rfl
@[simp] theorem plc_90 : plc Try.prog 90 = some [(0, 1), (1, 3), (4, 3)] := by kernel_rfl
@[simp] theorem siz_91 : siz Try.prog 91 = 7 := by kernel_rfl
@[simp] theorem byt_91 : byt Try.prog 91 = 104 := by kernel_rfl
@[simp] theorem ags_91 : ags Try.prog 91 = true := by kernel_rfl
@[simp] theorem elm_91 : elm Try.prog 91 = none := by kernel_rfl
@[simp] theorem arr_91 : arr Try.prog 91 = none := by kernel_rfl
@[simp] theorem ikd_91 : ikd Try.prog 91 = none := by kernel_rfl
@[simp] theorem isStr_91 : isStr Try.prog 91 = false := by kernel_rfl
@[simp] theorem isBool_91 : isBool Try.prog 91 = false := by kernel_rfl
@[simp] theorem und_91 : (Try.prog.underlying 91).isSome = true := by kernel_rfl
@[simp] theorem good_91 : good Try.prog 91 = true := by kernel_rfl
@[simp] theorem zrc_91 : zrc Try.prog 91 = some [.nl, .sc (.int .i64 0), .nl, .nl, .sc (.bool false), .sc (.int .i64 0), .sc (.int .i64 0)] := by kernel_rfl
@[simp] theorem fld_91_0 : fld Try.prog 91 0 = some (0, 62) := by kernel_rfl
@[simp] theorem fld_91_1 : fld Try.prog 91 1 = some (1, 87) := by kernel_rfl
@[simp] theorem fld_91_2 : fld Try.prog 91 2 = some (4, 89) := by kernel_rfl
@[simp] theorem plc_91 : plc Try.prog 91 = some [(0, 1), (1, 3), (4, 3)] := by kernel_rfl
@[simp] theorem siz_94 : siz Try.prog 94 = 1 := by kernel_rfl
@[simp] theorem byt_94 : byt Try.prog 94 = 24 := by kernel_rfl
@[simp] theorem ags_94 : ags Try.prog 94 = false := by kernel_rfl
@[simp] theorem elm_94 : elm Try.prog 94 = some 98 := by kernel_rfl
@[simp] theorem arr_94 : arr Try.prog 94 = none := by kernel_rfl
@[simp] theorem ikd_94 : ikd Try.prog 94 = none := by kernel_rfl
@[simp] theorem isStr_94 : isStr Try.prog 94 = false := by kernel_rfl
@[simp] theorem isBool_94 : isBool Try.prog 94 = false := by kernel_rfl
@[simp] theorem und_94 : (Try.prog.underlying 94).isSome = true := by kernel_rfl
@[simp] theorem good_94 : good Try.prog 94 = true := by kernel_rfl
@[simp] theorem zrc_94 : zrc Try.prog 94 = some [.nl] := by kernel_rfl
@[simp] theorem siz_97 : siz Try.prog 97 = 2 := by kernel_rfl
@[simp] theorem byt_97 : byt Try.prog 97 = 32 := by kernel_rfl
@[simp] theorem ags_97 : ags Try.prog 97 = true := by kernel_rfl
@[simp] theorem elm_97 : elm Try.prog 97 = none := by kernel_rfl
@[simp] theorem arr_97 : arr Try.prog 97 = none := by kernel_rfl
@[simp] theorem ikd_97 : ikd Try.prog 97 = none := by kernel_rfl
@[simp] theorem isStr_97 : isStr Try.prog 97 = false := by kernel_rfl
@[simp] theorem isBool_97 : isBool Try.prog 97 = false := by kernel_rfl
@[simp] theorem und_97 : (Try.prog.underlying 97).isSome = true := by kernel_rfl
@[simp] theorem good_97 : good Try.prog 97 = true := by kernel_rfl
@[simp] theorem zrc_97 : zrc Try.prog 97 = some [.sc (.int .i64 0), .nl] := by kernel_rfl
@[simp] theorem fld_97_0 : fld Try.prog 97 0 = some (0, 2) := by kernel_rfl
@[simp] theorem fld_97_1 : fld Try.prog 97 1 = some (1, 62) := by kernel_rfl
@[simp] theorem plc_97 : plc Try.prog 97 = some [(0, 1), (1, 1)] := by kernel_rfl
@[simp] theorem siz_98 : siz Try.prog 98 = 2 := by kernel_rfl
@[simp] theorem byt_98 : byt Try.prog 98 = 32 := by kernel_rfl
@[simp] theorem ags_98 : ags Try.prog 98 = true := by kernel_rfl
@[simp] theorem elm_98 : elm Try.prog 98 = none := by kernel_rfl
@[simp] theorem arr_98 : arr Try.prog 98 = none := by kernel_rfl
@[simp] theorem ikd_98 : ikd Try.prog 98 = none := by kernel_rfl
@[simp] theorem isStr_98 : isStr Try.prog 98 = false := by kernel_rfl
@[simp] theorem isBool_98 : isBool Try.prog 98 = false := by kernel_rfl
@[simp] theorem und_98 : (Try.prog.underlying 98).isSome = true := by kernel_rfl
@[simp] theorem good_98 : good Try.prog 98 = true := by kernel_rfl
@[simp] theorem zrc_98 : zrc Try.prog 98 = some [.sc (.int .i64 0), .nl] := by kernel_rfl
@[simp] theorem fld_98_0 : fld Try.prog 98 0 = some (0, 2) := by kernel_rfl
@[simp] theorem fld_98_1 : fld Try.prog 98 1 = some (1, 62) := by kernel_rfl
@[simp] theorem plc_98 : plc Try.prog 98 = some [(0, 1), (1, 1)] := by kernel_rfl
@[simp] theorem siz_103 : siz Try.prog 103 = 1 := by kernel_rfl
@[simp] theorem byt_103 : byt Try.prog 103 = 24 := by kernel_rfl
@[simp] theorem ags_103 : ags Try.prog 103 = false := by kernel_rfl
@[simp] theorem elm_103 : elm Try.prog 103 = some 105 := by kernel_rfl
@[simp] theorem arr_103 : arr Try.prog 103 = none := by kernel_rfl
@[simp] theorem ikd_103 : ikd Try.prog 103 = none := by kernel_rfl
@[simp] theorem isStr_103 : isStr Try.prog 103 = false := by kernel_rfl
@[simp] theorem isBool_103 : isBool Try.prog 103 = false := by kernel_rfl
@[simp] theorem und_103 : (Try.prog.underlying 103).isSome = true := by kernel_rfl
@[simp] theorem good_103 : good Try.prog 103 = true := by kernel_rfl
@[simp] theorem zrc_103 : zrc Try.prog 103 = some [.nl] := by kernel_rfl
@[simp] theorem siz_104 : siz Try.prog 104 = 3 := by kernel_rfl
@[simp] theorem byt_104 : byt Try.prog 104 = 40 := by kernel_rfl
@[simp] theorem ags_104 : ags Try.prog 104 = true := by kernel_rfl
@[simp] theorem elm_104 : elm Try.prog 104 = none := by kernel_rfl
@[simp] theorem arr_104 : arr Try.prog 104 = none := by kernel_rfl
@[simp] theorem ikd_104 : ikd Try.prog 104 = none := by kernel_rfl
@[simp] theorem isStr_104 : isStr Try.prog 104 = false := by kernel_rfl
@[simp] theorem isBool_104 : isBool Try.prog 104 = false := by kernel_rfl
@[simp] theorem und_104 : (Try.prog.underlying 104).isSome = true := by kernel_rfl
@[simp] theorem good_104 : good Try.prog 104 = true := by kernel_rfl
@[simp] theorem zrc_104 : zrc Try.prog 104 = some [.sc (.int .u8 0), .sc (.int .i64 0), .nl] := by kernel_rfl
@[simp] theorem fld_104_0 : fld Try.prog 104 0 = some (0, 5) := by kernel_rfl
@[simp] theorem fld_104_1 : fld Try.prog 104 1 = some (1, 2) := by kernel_rfl
@[simp] theorem fld_104_2 : fld Try.prog 104 2 = some (2, 23) := by kernel_rfl
@[simp] theorem plc_104 : plc Try.prog 104 = some [(0, 1), (1, 1), (2, 1)] := by kernel_rfl
@[simp] theorem siz_105 : siz Try.prog 105 = 3 := by kernel_rfl
@[simp] theorem byt_105 : byt Try.prog 105 = 40 := by kernel_rfl
@[simp] theorem ags_105 : ags Try.prog 105 = true := by kernel_rfl
@[simp] theorem elm_105 : elm Try.prog 105 = none := by kernel_rfl
@[simp] theorem arr_105 : arr Try.prog 105 = none := by kernel_rfl
@[simp] theorem ikd_105 : ikd Try.prog 105 = none := by kernel_rfl
@[simp] theorem isStr_105 : isStr Try.prog 105 = false := by kernel_rfl
@[simp] theorem isBool_105 : isBool Try.prog 105 = false := by kernel_rfl
@[simp] theorem und_105 : (Try.prog.underlying 105).isSome = true := by kernel_rfl
@[simp] theorem good_105 : good Try.prog 105 = true := by kernel_rfl
@[simp] theorem zrc_105 : zrc Try.prog 105 = some [.sc (.int .u8 0), .sc (.int .i64 0), .nl] := by kernel_rfl
@[simp] theorem fld_105_0 : fld Try.prog 105 0 = some (0, 5) := by kernel_rfl
@[simp] theorem fld_105_1 : fld Try.prog 105 1 = some (1, 2) := by kernel_rfl
@[simp] theorem fld_105_2 : fld Try.prog 105 2 = some (2, 23) := by kernel_rfl
@[simp] theorem plc_105 : plc Try.prog 105 = some [(0, 1), (1, 1), (2, 1)] := by kernel_rfl
@[simp] theorem siz_107 : siz Try.prog 107 = 1 := by kernel_rfl
@[simp] theorem byt_107 : byt Try.prog 107 = 24 := by kernel_rfl
@[simp] theorem ags_107 : ags Try.prog 107 = false := by kernel_rfl
@[simp] theorem elm_107 : elm Try.prog 107 = some 2 := by kernel_rfl
@[simp] theorem arr_107 : arr Try.prog 107 = none := by kernel_rfl
@[simp] theorem ikd_107 : ikd Try.prog 107 = none := by kernel_rfl
@[simp] theorem isStr_107 : isStr Try.prog 107 = false := by kernel_rfl
@[simp] theorem isBool_107 : isBool Try.prog 107 = false := by kernel_rfl
@[simp] theorem und_107 : (Try.prog.underlying 107).isSome = true := by kernel_rfl
@[simp] theorem good_107 : good Try.prog 107 = true := by kernel_rfl
@[simp] theorem zrc_107 : zrc Try.prog 107 = some [.nl] := by kernel_rfl
@[simp] theorem siz_108 : siz Try.prog 108 = 4 := by kernel_rfl
@[simp] theorem byt_108 : byt Try.prog 108 = 64 := by kernel_rfl
@[simp] theorem ags_108 : ags Try.prog 108 = true := by kernel_rfl
@[simp] theorem elm_108 : elm Try.prog 108 = none := by kernel_rfl
@[simp] theorem arr_108 : arr Try.prog 108 = none := by kernel_rfl
@[simp] theorem ikd_108 : ikd Try.prog 108 = none := by kernel_rfl
@[simp] theorem isStr_108 : isStr Try.prog 108 = false := by kernel_rfl
@[simp] theorem isBool_108 : isBool Try.prog 108 = false := by kernel_rfl
@[simp] theorem und_108 : (Try.prog.underlying 108).isSome = true := by kernel_rfl
@[simp] theorem good_108 : good Try.prog 108 = true := by kernel_rfl
@[simp] theorem zrc_108 : zrc Try.prog 108 = some [.sc (.int .i64 0), .sc (.int .i64 0), .nl, .nl] := by kernel_rfl
@[simp] theorem fld_108_0 : fld Try.prog 108 0 = some (0, 2) := by kernel_rfl
@[simp] theorem fld_108_1 : fld Try.prog 108 1 = some (1, 2) := by kernel_rfl
@[simp] theorem fld_108_2 : fld Try.prog 108 2 = some (2, 107) := by kernel_rfl
@[simp] theorem fld_108_3 : fld Try.prog 108 3 = some (3, 107) := by kernel_rfl
@[simp] theorem plc_108 : plc Try.prog 108 = some [(0, 1), (1, 1), (2, 1), (3, 1)] := by kernel_rfl
@[simp] theorem siz_109 : siz Try.prog 109 = 4 := by kernel_rfl
@[simp] theorem byt_109 : byt Try.prog 109 = 64 := by kernel_rfl
@[simp] theorem ags_109 : ags Try.prog 109 = true := by kernel_rfl
@[simp] theorem elm_109 : elm Try.prog 109 = none := by kernel_rfl
@[simp] theorem arr_109 : arr Try.prog 109 = none := by kernel_rfl
@[simp] theorem ikd_109 : ikd Try.prog 109 = none := by kernel_rfl
@[simp] theorem isStr_109 : isStr Try.prog 109 = false := by kernel_rfl
@[simp] theorem isBool_109 : isBool Try.prog 109 = false := by kernel_rfl
@[simp] theorem und_109 : (Try.prog.underlying 109).isSome = true := by kernel_rfl
@[simp] theorem good_109 : good Try.prog 109 = true := by kernel_rfl
@[simp] theorem zrc_109 : zrc Try.prog 109 = some [.sc (.int .i64 0), .sc (.int .i64 0), .nl, .nl] := by kernel_rfl
@[simp] theorem fld_109_0 : fld Try.prog 109 0 = some (0, 2) := by kernel_rfl
@[simp] theorem fld_109_1 : fld Try.prog 109 1 = some (1, 2) := by kernel_rfl
@[simp] theorem fld_109_2 : fld Try.prog 109 2 = some (2, 107) := by kernel_rfl
@[simp] theorem fld_109_3 : fld Try.prog 109 3 = some (3, 107) := by kernel_rfl
@[simp] theorem plc_109 : plc Try.prog 109 = some [(0, 1), (1, 1), (2, 1), (3, 1)] := by kernel_rfl
@[simp] theorem siz_110 : siz Try.prog 110 = 3 := by kernel_rfl
@[simp] theorem byt_110 : byt Try.prog 110 = 24 := by kernel_rfl
@[simp] theorem ags_110 : ags Try.prog 110 = true := by kernel_rfl
@[simp] theorem elm_110 : elm Try.prog 110 = none := by kernel_rfl
@[simp] theorem arr_110 : arr Try.prog 110 = none := by kernel_rfl
@[simp] theorem ikd_110 : ikd Try.prog 110 = none := by kernel_rfl
@[simp] theorem isStr_110 : isStr Try.prog 110 = false := by kernel_rfl
@[simp] theorem isBool_110 : isBool Try.prog 110 = false := by kernel_rfl
@[simp] theorem und_110 : (Try.prog.underlying 110).isSome = true := by kernel_rfl
@[simp] theorem good_110 : good Try.prog 110 = true := by kernel_rfl
@[simp] theorem zrc_110 : zrc Try.prog 110 = some [.sc (.bool false), .sc (.int .i64 0), .sc (.int .i64 0)] := by kernel_rfl
@[simp] theorem fld_110_0 : fld Try.prog 110 0 = some (0, 4) := by kernel_rfl
@[simp] theorem fld_110_1 : fld Try.prog 110 1 = some (1, 3) := by kernel_rfl
@[simp] theorem fld_110_2 : fld Try.prog 110 2 = some (2, 3) := by kernel_rfl
@[simp] theorem plc_110 : plc Try.prog 110 = some [(0, 1), (1, 1), (2, 1)] := by kernel_rfl
@[simp] theorem lks_110 : lks Try.prog 6 110 = some [.b, .i, .i] := by kernel_rfl
@[simp] theorem egt_110 : Try.prog.eqGuardType Try.prog.depth 110 = false := by kernel_rfl
@[simp] theorem siz_111 : siz Try.prog 111 = 8 := by kernel_rfl
@[simp] theorem byt_111 : byt Try.prog 111 = 112 := by kernel_rfl
@[simp] theorem ags_111 : ags Try.prog 111 = true := by kernel_rfl
@[simp] theorem elm_111 : elm Try.prog 111 = none := by kernel_rfl
@[simp] theorem arr_111 : arr Try.prog 111 = none := by kernel_rfl
@[simp] theorem ikd_111 : ikd Try.prog 111 = none := by kernel_rfl
@[simp] theorem isStr_111 : isStr Try.prog 111 = false := by kernel_rfl
@[simp] theorem isBool_111 : isBool Try.prog 111 = false := by kernel_rfl
@[simp] theorem und_111 : (Try.prog.underlying 111).isSome = true := by kernel_rfl
@[simp] theorem good_111 : good Try.prog 111 = true := by kernel_rfl
@[simp] theorem zrc_111 : zrc Try.prog 111 = some [.nl, .sc (.int .i64 0), .sc (.int .i64 0), .nl, .nl, .sc (.bool false), .sc (.int .i64 0), .sc (.int .i64 0)] := by kernel_rfl
@[simp] theorem fld_111_0 : fld Try.prog 111 0 = some (0, 62) := by kernel_rfl
@[simp] theorem fld_111_1 : fld Try.prog 111 1 = some (1, 109) := by kernel_rfl
@[simp] theorem fld_111_2 : fld Try.prog 111 2 = some (5, 110) := by kernel_rfl
@[simp] theorem plc_111 : plc Try.prog 111 = some [(0, 1), (1, 4), (5, 3)] := by kernel_rfl
@[simp] theorem siz_112 : siz Try.prog 112 = 8 := by kernel_rfl
@[simp] theorem byt_112 : byt Try.prog 112 = 112 := by kernel_rfl
@[simp] theorem ags_112 : ags Try.prog 112 = true := by kernel_rfl
@[simp] theorem elm_112 : elm Try.prog 112 = none := by kernel_rfl
@[simp] theorem arr_112 : arr Try.prog 112 = none := by kernel_rfl
@[simp] theorem ikd_112 : ikd Try.prog 112 = none := by kernel_rfl
@[simp] theorem isStr_112 : isStr Try.prog 112 = false := by kernel_rfl
@[simp] theorem isBool_112 : isBool Try.prog 112 = false := by kernel_rfl
@[simp] theorem und_112 : (Try.prog.underlying 112).isSome = true := by kernel_rfl
@[simp] theorem good_112 : good Try.prog 112 = true := by kernel_rfl
@[simp] theorem zrc_112 : zrc Try.prog 112 = some [.nl, .sc (.int .i64 0), .sc (.int .i64 0), .nl, .nl, .sc (.bool false), .sc (.int .i64 0), .sc (.int .i64 0)] := by kernel_rfl
@[simp] theorem fld_112_0 : fld Try.prog 112 0 = some (0, 62) := by kernel_rfl
@[simp] theorem fld_112_1 : fld Try.prog 112 1 = some (1, 109) := by kernel_rfl
@[simp] theorem fld_112_2 : fld Try.prog 112 2 = some (5, 110) := by kernel_rfl
@[simp] theorem plc_112 : plc Try.prog 112 = some [(0, 1), (1, 4), (5, 3)] := by kernel_rfl
@[simp] theorem siz_115 : siz Try.prog 115 = 1 := by kernel_rfl
@[simp] theorem byt_115 : byt Try.prog 115 = 24 := by kernel_rfl
@[simp] theorem ags_115 : ags Try.prog 115 = false := by kernel_rfl
@[simp] theorem elm_115 : elm Try.prog 115 = some 118 := by kernel_rfl
@[simp] theorem arr_115 : arr Try.prog 115 = none := by kernel_rfl
@[simp] theorem ikd_115 : ikd Try.prog 115 = none := by kernel_rfl
@[simp] theorem isStr_115 : isStr Try.prog 115 = false := by kernel_rfl
@[simp] theorem isBool_115 : isBool Try.prog 115 = false := by kernel_rfl
@[simp] theorem und_115 : (Try.prog.underlying 115).isSome = true := by kernel_rfl
@[simp] theorem good_115 : good Try.prog 115 = true := by kernel_rfl
@[simp] theorem zrc_115 : zrc Try.prog 115 = some [.nl] := by kernel_rfl
@[simp] theorem siz_118 : siz Try.prog 118 = 2 := by kernel_rfl
@[simp] theorem byt_118 : byt Try.prog 118 = 32 := by kernel_rfl
@[simp] theorem ags_118 : ags Try.prog 118 = true := by kernel_rfl
@[simp] theorem elm_118 : elm Try.prog 118 = none := by kernel_rfl
@[simp] theorem arr_118 : arr Try.prog 118 = none := by kernel_rfl
@[simp] theorem ikd_118 : ikd Try.prog 118 = none := by kernel_rfl
@[simp] theorem isStr_118 : isStr Try.prog 118 = false := by kernel_rfl
@[simp] theorem isBool_118 : isBool Try.prog 118 = false := by kernel_rfl
@[simp] theorem und_118 : (Try.prog.underlying 118).isSome = true := by kernel_rfl
@[simp] theorem good_118 : good Try.prog 118 = true := by kernel_rfl
@[simp] theorem zrc_118 : zrc Try.prog 118 = some [.sc (.int .i64 0), .nl] := by kernel_rfl
@[simp] theorem fld_118_0 : fld Try.prog 118 0 = some (0, 2) := by kernel_rfl
@[simp] theorem fld_118_1 : fld Try.prog 118 1 = some (1, 62) := by kernel_rfl
@[simp] theorem plc_118 : plc Try.prog 118 = some [(0, 1), (1, 1)] := by kernel_rfl
@[simp] theorem siz_123 : siz Try.prog 123 = 1 := by kernel_rfl
@[simp] theorem byt_123 : byt Try.prog 123 = 24 := by kernel_rfl
@[simp] theorem ags_123 : ags Try.prog 123 = false := by kernel_rfl
@[simp] theorem elm_123 : elm Try.prog 123 = some 130 := by kernel_rfl
@[simp] theorem arr_123 : arr Try.prog 123 = none := by kernel_rfl
@[simp] theorem ikd_123 : ikd Try.prog 123 = none := by kernel_rfl
@[simp] theorem isStr_123 : isStr Try.prog 123 = false := by kernel_rfl
@[simp] theorem isBool_123 : isBool Try.prog 123 = false := by kernel_rfl
@[simp] theorem und_123 : (Try.prog.underlying 123).isSome = true := by kernel_rfl
@[simp] theorem good_123 : good Try.prog 123 = true := by kernel_rfl
@[simp] theorem zrc_123 : zrc Try.prog 123 = some [.nl] := by kernel_rfl
@[simp] theorem siz_125 : siz Try.prog 125 = 63 := by kernel_rfl
@[simp] theorem byt_125 : byt Try.prog 125 = 224 := by kernel_rfl
@[simp] theorem ags_125 : ags Try.prog 125 = true := by kernel_rfl
@[simp] theorem elm_125 : elm Try.prog 125 = none := by kernel_rfl
@[simp] theorem arr_125 : arr Try.prog 125 = none := by kernel_rfl
@[simp] theorem ikd_125 : ikd Try.prog 125 = none := by kernel_rfl
@[simp] theorem isStr_125 : isStr Try.prog 125 = false := by kernel_rfl
@[simp] theorem isBool_125 : isBool Try.prog 125 = false := by kernel_rfl
@[simp] theorem und_125 : (Try.prog.underlying 125).isSome = true := by kernel_rfl
@[simp] theorem good_125 : good Try.prog 125 = true := by kernel_rfl
@[simp] theorem zrc_125 : zrc Try.prog 125 = some [.sc (.int .i64 0), .sc (.int .i64 0), .nl, .sc (.int .u8 0), .sc (.int .u8 0), .sc (.int .u8 0), .sc (.int .u8 0), .sc (.int .u8 0), .sc (.int .u8 0), .sc (.int .u8 0), .sc (.int .u8 0), .sc (.int .u8 0), .sc (.int .u8 0), .sc (.int .u8 0), .sc (.int .u8 0), .sc (.int .u8 0), .sc (.int .u8 0), .sc (.int .u8 0), .sc (.int .u8 0), .sc (.int .u8 0), .sc (.int .u8 0), .sc (.int .u8 0), .sc (.int .u8 0), .sc (.int .u8 0), .sc (.int .u8 0), .sc (.int .u8 0), .sc (.int .u8 0), .sc (.int .u8 0), .sc (.int .u8 0), .sc (.int .u8 0), .sc (.int .u8 0), .sc (.int .u8 0), .sc (.int .u8 0), .sc (.int .u8 0), .sc (.int .u8 0), .sc (.int .u8 0), .sc (.int .u8 0), .sc (.int .u8 0), .sc (.int .u8 0), .sc (.int .u8 0), .sc (.int .u8 0), .sc (.int .u8 0), .sc (.int .u8 0), .sc (.int .u8 0), .sc (.int .u8 0), .sc (.int .u8 0), .sc (.int .u8 0), .sc (.int .u8 0), .sc (.int .u8 0), .sc (.int .u8 0), .sc (.int .u8 0), .sc (.int .u32 0), .sc (.int .u32 0), .nl, .sc (.int .i64 0), .nl, .nl, .sc (.bool false), .sc (.int .i64 0), .sc (.int .i64 0), .sc (.bool false), .sc (.int .i64 0), .sc (.int .i64 0)] := by kernel_rfl
@[simp] theorem fld_125_0 : fld Try.prog 125 0 = some (0, 3) := by kernel_rfl
@[simp] theorem fld_125_1 : fld Try.prog 125 1 = some (1, 3) := by kernel_rfl
@[simp] theorem fld_125_2 : fld Try.prog 125 2 = some (2, 62) := by kernel_rfl
@[simp] theorem fld_125_3 : fld Try.prog 125 3 = some (3, 69) := by kernel_rfl
@[simp] theorem fld_125_4 : fld Try.prog 125 4 = some (35, 67) := by kernel_rfl
@[simp] theorem fld_125_5 : fld Try.prog 125 5 = some (51, 68) := by kernel_rfl
@[simp] theorem fld_125_6 : fld Try.prog 125 6 = some (53, 91) := by kernel_rfl
@[simp] theorem fld_125_7 : fld Try.prog 125 7 = some (60, 89) := by kernel_rfl
@[simp] theorem plc_125 : plc Try.prog 125 = some [(0, 1), (1, 1), (2, 1), (3, 32), (35, 16), (51, 2), (53, 7), (60, 3)] := by kernel_rfl
@[simp] theorem siz_126 : siz Try.prog 126 = 63 := by kernel_rfl
@[simp] theorem byt_126 : byt Try.prog 126 = 224 := by kernel_rfl
@[simp] theorem ags_126 : ags Try.prog 126 = true := by kernel_rfl
@[simp] theorem elm_126 : elm Try.prog 126 = none := by kernel_rfl
@[simp] theorem arr_126 : arr Try.prog 126 = none := by kernel_rfl
@[simp] theorem ikd_126 : ikd Try.prog 126 = none := by kernel_rfl
@[simp] theorem isStr_126 : isStr Try.prog 126 = false := by kernel_rfl
@[simp] theorem isBool_126 : isBool Try.prog 126 = false := by kernel_rfl
@[simp] theorem und_126 : (Try.prog.underlying 126).isSome = true := by kernel_rfl
@[simp] theorem good_126 : good Try.prog 126 = true := by kernel_rfl
@[simp] theorem zrc_126 : zrc Try.prog 126 = some [.sc (.int .i64 0), .sc (.int .i64 0), .nl, .sc (.int .u8 0), .sc (.int .u8 0), .sc (.int .u8 0), .sc (.int .u8 0), .sc (.int .u8 0), .sc (.int .u8 0), .sc (.int .u8 0), .sc (.int .u8 0), .sc (.int .u8 0), .sc (.int .u8 0), .sc (.int .u8 0), .sc (.int .u8 0), .sc (.int .u8 0), .sc (.int .u8 0), .sc (.int .u8 0), .sc (.int .u8 0), .sc (.int .u8 0), .sc (.int .u8 0), .sc (.int .u8 0), .sc (.int .u8 0), .sc (.int .u8 0), .sc (.int .u8 0), .sc (.int .u8 0), .sc (.int .u8 0), .sc (.int .u8 0), .sc (.int .u8 0), .sc (.int .u8 0), .sc (.int .u8 0), .sc (.int .u8 0), .sc (.int .u8 0), .sc (.int .u8 0), .sc (.int .u8 0), .sc (.int .u8 0), .sc (.int .u8 0), .sc (.int .u8 0), .sc (.int .u8 0), .sc (.int .u8 0), .sc (.int .u8 0), .sc (.int .u8 0), .sc (.int .u8 0), .sc (.int .u8 0), .sc (.int .u8 0), .sc (.int .u8 0), .sc (.int .u8 0), .sc (.int .u8 0), .sc (.int .u8 0), .sc (.int .u8 0), .sc (.int .u8 0), .sc (.int .u32 0), .sc (.int .u32 0), .nl, .sc (.int .i64 0), .nl, .nl, .sc (.bool false), .sc (.int .i64 0), .sc (.int .i64 0), .sc (.bool false), .sc (.int .i64 0), .sc (.int .i64 0)] := by kernel_rfl
@[simp] theorem fld_126_0 : fld Try.prog 126 0 = some (0, 3) := by kernel_rfl
@[simp] theorem fld_126_1 : fld Try.prog 126 1 = some (1, 3) := by kernel_rfl
@[simp] theorem fld_126_2 : fld Try.prog 126 2 = some (2, 62) := by kernel_rfl
@[simp] theorem fld_126_3 : fld Try.prog 126 3 = some (3, 69) := by kernel_rfl
@[simp] theorem fld_126_4 : fld Try.prog 126 4 = some (35, 67) := by kernel_rfl
@[simp] theorem fld_126_5 : fld Try.prog 126 5 = some (51, 68) := by kernel_rfl
@[simp] theorem fld_126_6 : fld Try.prog 126 6 = some (53, 91) := by kernel_rfl
@[simp] theorem fld_126_7 : fld Try.prog 126 7 = some (60, 89) := by kernel_rfl
@[simp] theorem plc_126 : plc Try.prog 126 = some [(0, 1), (1, 1), (2, 1), (3, 32), (35, 16), (51, 2), (53, 7), (60, 3)] := by kernel_rfl
@[simp] theorem siz_129 : siz Try.prog 129 = 59 := by kernel_rfl
@[simp] theorem byt_129 : byt Try.prog 129 = 144 := by kernel_rfl
@[simp] theorem ags_129 : ags Try.prog 129 = true := by kernel_rfl
@[simp] theorem elm_129 : elm Try.prog 129 = none := by kernel_rfl
@[simp] theorem arr_129 : arr Try.prog 129 = none := by kernel_rfl
@[simp] theorem ikd_129 : ikd Try.prog 129 = none := by kernel_rfl
@[simp] theorem isStr_129 : isStr Try.prog 129 = false := by kernel_rfl
@[simp] theorem isBool_129 : isBool Try.prog 129 = false := by kernel_rfl
@[simp] theorem und_129 : (Try.prog.underlying 129).isSome = true := by kernel_rfl
@[simp] theorem good_129 : good Try.prog 129 = true := by kernel_rfl
@[simp] theorem zrc_129 : zrc Try.prog 129 = some [.sc (.bool false), .sc (.bool false), .sc (.bool false), .sc (.int .i64 0), .sc (.int .u8 0), .sc (.int .u8 0), .sc (.int .u8 0), .sc (.int .u8 0), .sc (.int .u8 0), .sc (.int .u8 0), .sc (.int .u8 0), .sc (.int .u8 0), .sc (.int .u8 0), .sc (.int .u8 0), .sc (.int .u8 0), .sc (.int .u8 0), .sc (.int .u8 0), .sc (.int .u8 0), .sc (.int .u8 0), .sc (.int .u8 0), .sc (.int .u32 0), .sc (.int .u32 0), .sc (.int .u64 0), .sc (.int .u64 0), .sc (.int .u8 0), .sc (.int .u8 0), .sc (.int .u8 0), .sc (.int .u8 0), .sc (.int .u8 0), .sc (.int .u8 0), .sc (.int .u8 0), .sc (.int .u8 0), .sc (.int .u8 0), .sc (.int .u8 0), .sc (.int .u8 0), .sc (.int .u8 0), .sc (.int .u8 0), .sc (.int .u8 0), .sc (.int .u8 0), .sc (.int .u8 0), .sc (.int .u8 0), .sc (.int .u8 0), .sc (.int .u8 0), .sc (.int .u8 0), .sc (.int .u8 0), .sc (.int .u8 0), .sc (.int .u8 0), .sc (.int .u8 0), .sc (.int .u8 0), .sc (.int .u8 0), .sc (.int .u8 0), .sc (.int .u8 0), .sc (.int .u8 0), .sc (.int .u8 0), .sc (.int .u8 0), .sc (.int .u8 0), .nl, .nl, .sc (.int .i64 0)] := by kernel_rfl
@[simp] theorem fld_129_0 : fld Try.prog 129 0 = some (0, 4) := by kernel_rfl
@[simp] theorem fld_129_1 : fld Try.prog 129 1 = some (1, 4) := by kernel_rfl
@[simp] theorem fld_129_2 : fld Try.prog 129 2 = some (2, 4) := by kernel_rfl
@[simp] theorem fld_129_3 : fld Try.prog 129 3 = some (3, 64) := by kernel_rfl
@[simp] theorem plc_129 : plc Try.prog 129 = some [(0, 1), (1, 1), (2, 1), (3, 56)] := by kernel_rfl
@[simp] theorem siz_130 : siz Try.prog 130 = 59 := by kernel_rfl
@[simp] theorem byt_130 : byt Try.prog 130 = 144 := by kernel_rfl
@[simp] theorem ags_130 : ags Try.prog 130 = true := by kernel_rfl
@[simp] theorem elm_130 : elm Try.prog 130 = none := by kernel_rfl
@[simp] theorem arr_130 : arr Try.prog 130 = none := by kernel_rfl
@[simp] theorem ikd_130 : ikd Try.prog 130 = none := by kernel_rfl
@[simp] theorem isStr_130 : isStr Try.prog 130 = false := by kernel_rfl
@[simp] theorem isBool_130 : isBool Try.prog 130 = false := by kernel_rfl
@[simp] theorem und_130 : (Try.prog.underlying 130).isSome = true := by kernel_rfl
@[simp] theorem good_130 : good Try.prog 130 = true := by kernel_rfl
@[simp] theorem zrc_130 : zrc Try.prog 130 = some [.sc (.bool false), .sc (.bool false), .sc (.bool false), .sc (.int .i64 0), .sc (.int .u8 0), .sc (.int .u8 0), .sc (.int .u8 0), .sc (.int .u8 0), .sc (.int .u8 0), .sc (.int .u8 0), .sc (.int .u8 0), .sc (.int .u8 0), .sc (.int .u8 0), .sc (.int .u8 0), .sc (.int .u8 0), .sc (.int .u8 0), .sc (.int .u8 0), .sc (.int .u8 0), .sc (.int .u8 0), .sc (.int .u8 0), .sc (.int .u32 0), .sc (.int .u32 0), .sc (.int .u64 0), .sc (.int .u64 0), .sc (.int .u8 0), .sc (.int .u8 0), .sc (.int .u8 0), .sc (.int .u8 0), .sc (.int .u8 0), .sc (.int .u8 0), .sc (.int .u8 0), .sc (.int .u8 0), .sc (.int .u8 0), .sc (.int .u8 0), .sc (.int .u8 0), .sc (.int .u8 0), .sc (.int .u8 0), .sc (.int .u8 0), .sc (.int .u8 0), .sc (.int .u8 0), .sc (.int .u8 0), .sc (.int .u8 0), .sc (.int .u8 0), .sc (.int .u8 0), .sc (.int .u8 0), .sc (.int .u8 0), .sc (.int .u8 0), .sc (.int .u8 0), .sc (.int .u8 0), .sc (.int .u8 0), .sc (.int .u8 0), .sc (.int .u8 0), .sc (.int .u8 0), .sc (.int .u8 0), .sc (.int .u8 0), .sc (.int .u8 0), .nl, .nl, .sc (.int .i64 0)] := by kernel_rfl
@[simp] theorem fld_130_0 : fld Try.prog 130 0 = some (0, 4) := by kernel_rfl
@[simp] theorem fld_130_1 : fld Try.prog 130 1 = some (1, 4) := by kernel_rfl
@[simp] theorem fld_130_2 : fld Try.prog 130 2 = some (2, 4) := by kernel_rfl
@[simp] theorem fld_130_3 : fld Try.prog 130 3 = some (3, 64) := by kernel_rfl
@[simp] theorem plc_130 : plc Try.prog 130 = some [(0, 1), (1, 1), (2, 1), (3, 56)] := by kernel_rfl
@[simp] theorem siz_131 : siz Try.prog 131 = 1 := by kernel_rfl
@[simp] theorem byt_131 : byt Try.prog 131 = 24 := by kernel_rfl
@[simp] theorem ags_131 : ags Try.prog 131 = false := by kernel_rfl
@[simp] theorem elm_131 : elm Try.prog 131 = some 71 := by kernel_rfl
@[simp] theorem arr_131 : arr Try.prog 131 = none := by kernel_rfl
@[simp] theorem ikd_131 : ikd Try.prog 131 = none := by kernel_rfl
@[simp] theorem isStr_131 : isStr Try.prog 131 = false := by kernel_rfl
@[simp] theorem isBool_131 : isBool Try.prog 131 = false := by kernel_rfl
@[simp] theorem und_131 : (Try.prog.underlying 131).isSome = true := by kernel_rfl
@[simp] theorem good_131 : good Try.prog 131 = true := by kernel_rfl
@[simp] theorem zrc_131 : zrc Try.prog 131 = some [.nl] := by kernel_rfl
@[simp] theorem siz_138 : siz Try.prog 138 = 1 := by kernel_rfl
@[simp] theorem byt_138 : byt Try.prog 138 = 24 := by kernel_rfl
@[simp] theorem ags_138 : ags Try.prog 138 = false := by kernel_rfl
@[simp] theorem elm_138 : elm Try.prog 138 = some 139 := by kernel_rfl
@[simp] theorem arr_138 : arr Try.prog 138 = none := by kernel_rfl
@[simp] theorem ikd_138 : ikd Try.prog 138 = none := by kernel_rfl
@[simp] theorem isStr_138 : isStr Try.prog 138 = false := by kernel_rfl
@[simp] theorem isBool_138 : isBool Try.prog 138 = false := by kernel_rfl
@[simp] theorem und_138 : (Try.prog.underlying 138).isSome = true := by kernel_rfl
@[simp] theorem good_138 : good Try.prog 138 = true := by kernel_rfl
@[simp] theorem zrc_138 : zrc Try.prog 138 = some [.nl] := by kernel_rfl
@[simp] theorem siz_139 : siz Try.prog 139 = 1 := by kernel_rfl
@[simp] theorem byt_139 : byt Try.prog 139 = 2 := by kernel_rfl
@[simp] theorem ags_139 : ags Try.prog 139 = false := by kernel_rfl
@[simp] theorem elm_139 : elm Try.prog 139 = none := by kernel_rfl
@[simp] theorem arr_139 : arr Try.prog 139 = none := by kernel_rfl
@[simp] theorem ikd_139 : ikd Try.prog 139 = some .u16 := by kernel_rfl
@[simp] theorem isStr_139 : isStr Try.prog 139 = false := by kernel_rfl
@[simp] theorem isBool_139 : isBool Try.prog 139 = false := by kernel_rfl
@[simp] theorem und_139 : (Try.prog.underlying 139).isSome = true := by kernel_rfl
@[simp] theorem good_139 : good Try.prog 139 = true := by kernel_rfl
@[simp] theorem zrc_139 : zrc Try.prog 139 = some [.sc (.int .u16 0)] := by kernel_rfl
@[simp] theorem siz_142 : siz Try.prog 142 = 1 := by kernel_rfl
@[simp] theorem byt_142 : byt Try.prog 142 = 8 := by kernel_rfl
@[simp] theorem ags_142 : ags Try.prog 142 = false := by kernel_rfl
@[simp] theorem elm_142 : elm Try.prog 142 = none := by kernel_rfl
@[simp] theorem arr_142 : arr Try.prog 142 = none := by kernel_rfl
@[simp] theorem ikd_142 : ikd Try.prog 142 = some .u64 := by kernel_rfl
@[simp] theorem isStr_142 : isStr Try.prog 142 = false := by kernel_rfl
@[simp] theorem isBool_142 : isBool Try.prog 142 = false := by kernel_rfl
@[simp] theorem und_142 : (Try.prog.underlying 142).isSome = true := by kernel_rfl
@[simp] theorem good_142 : good Try.prog 142 = true := by kernel_rfl
@[simp] theorem zrc_142 : zrc Try.prog 142 = some [.sc (.int .u64 0)] := by kernel_rfl
@[simp] theorem siz_157 : siz Try.prog 157 = 2 := by kernel_rfl
@[simp] theorem byt_157 : byt Try.prog 157 = 32 := by kernel_rfl
@[simp] theorem ags_157 : ags Try.prog 157 = true := by kernel_rfl
@[simp] theorem elm_157 : elm Try.prog 157 = none := by kernel_rfl
@[simp] theorem arr_157 : arr Try.prog 157 = none := by kernel_rfl
@[simp] theorem ikd_157 : ikd Try.prog 157 = none := by kernel_rfl
@[simp] theorem isStr_157 : isStr Try.prog 157 = false := by kernel_rfl
@[simp] theorem isBool_157 : isBool Try.prog 157 = false := by kernel_rfl
@[simp] theorem und_157 : (Try.prog.underlying 157).isSome = true := by kernel_rfl
@[simp] theorem good_157 : good Try.prog 157 = true := by kernel_rfl
@[simp] theorem zrc_157 : zrc Try.prog 157 = some [.sc (.int .i64 0), .nl] := by kernel_rfl
@[simp] theorem fld_157_0 : fld Try.prog 157 0 = some (0, 2) := by kernel_rfl
@[simp] theorem fld_157_1 : fld Try.prog 157 1 = some (1, 62) := by kernel_rfl
@[simp] theorem plc_157 : plc Try.prog 157 = some [(0, 1), (1, 1)] := by kernel_rfl
@[simp] theorem siz_158 : siz Try.prog 158 = 2 := by kernel_rfl
@[simp] theorem byt_158 : byt Try.prog 158 = 32 := by kernel_rfl
@[simp] theorem ags_158 : ags Try.prog 158 = true := by kernel_rfl
@[simp] theorem elm_158 : elm Try.prog 158 = none := by kernel_rfl
@[simp] theorem arr_158 : arr Try.prog 158 = none := by kernel_rfl
@[simp] theorem ikd_158 : ikd Try.prog 158 = none := by kernel_rfl
@[simp] theorem isStr_158 : isStr Try.prog 158 = false := by kernel_rfl
@[simp] theorem isBool_158 : isBool Try.prog 158 = false := by kernel_rfl
@[simp] theorem und_158 : (Try.prog.underlying 158).isSome = true := by kernel_rfl
@[simp] theorem good_158 : good Try.prog 158 = true := by kernel_rfl
@[simp] theorem zrc_158 : zrc Try.prog 158 = some [.sc (.int .i64 0), .nl] := by kernel_rfl
@[simp] theorem fld_158_0 : fld Try.prog 158 0 = some (0, 2) := by kernel_rfl
@[simp] theorem fld_158_1 : fld Try.prog 158 1 = some (1, 62) := by kernel_rfl
@[simp] theorem plc_158 : plc Try.prog 158 = some [(0, 1), (1, 1)] := by kernel_rfl
@[simp] theorem siz_195 : siz Try.prog 195 = 2 := by kernel_rfl
@[simp] theorem byt_195 : byt Try.prog 195 = 32 := by kernel_rfl
@[simp] theorem ags_195 : ags Try.prog 195 = true := by kernel_rfl
@[simp] theorem elm_195 : elm Try.prog 195 = none := by kernel_rfl
@[simp] theorem arr_195 : arr Try.prog 195 = none := by kernel_rfl
@[simp] theorem ikd_195 : ikd Try.prog 195 = none := by kernel_rfl
@[simp] theorem isStr_195 : isStr Try.prog 195 = false := by kernel_rfl
@[simp] theorem isBool_195 : isBool Try.prog 195 = false := by kernel_rfl
@[simp] theorem und_195 : (Try.prog.underlying 195).isSome = true := by kernel_rfl
@[simp] theorem good_195 : good Try.prog 195 = true := by kernel_rfl
@[simp] theorem zrc_195 : zrc Try.prog 195 = some [.nl, .sc (.int .i64 0)] := by kernel_rfl
@[simp] theorem fld_195_0 : fld Try.prog 195 0 = some (0, 23) := by kernel_rfl
@[simp] theorem fld_195_1 : fld Try.prog 195 1 = some (1, 2) := by kernel_rfl
@[simp] theorem plc_195 : plc Try.prog 195 = some [(0, 1), (1, 1)] := by kernel_rfl
@[simp] theorem siz_196 : siz Try.prog 196 = 2 := by kernel_rfl
@[simp] theorem byt_196 : byt Try.prog 196 = 32 := by kernel_rfl
@[simp] theorem ags_196 : ags Try.prog 196 = true := by kernel_rfl
@[simp] theorem elm_196 : elm Try.prog 196 = none := by kernel_rfl
@[simp] theorem arr_196 : arr Try.prog 196 = none := by kernel_rfl
@[simp] theorem ikd_196 : ikd Try.prog 196 = none := by kernel_rfl
@[simp] theorem isStr_196 : isStr Try.prog 196 = false := by kernel_rfl
@[simp] theorem isBool_196 : isBool Try.prog 196 = false := by kernel_rfl
@[simp] theorem und_196 : (Try.prog.underlying 196).isSome = true := by kernel_rfl
@[simp] theorem good_196 : good Try.prog 196 = true := by kernel_rfl
@[simp] theorem zrc_196 : zrc Try.prog 196 = some [.nl, .sc (.int .i64 0)] := by kernel_rfl
@[simp] theorem fld_196_0 : fld Try.prog 196 0 = some (0, 23) := by kernel_rfl
@[simp] theorem fld_196_1 : fld Try.prog 196 1 = some (1, 2) := by kernel_rfl
@[simp] theorem plc_196 : plc Try.prog 196 = some [(0, 1), (1, 1)] := by kernel_rfl
@[simp] theorem siz_207 : siz Try.prog 207 = 1 := by kernel_rfl
@[simp] theorem byt_207 : byt Try.prog 207 = 8 := by kernel_rfl
@[simp] theorem ags_207 : ags Try.prog 207 = false := by kernel_rfl
@[simp] theorem elm_207 : elm Try.prog 207 = none := by kernel_rfl
@[simp] theorem arr_207 : arr Try.prog 207 = none := by kernel_rfl
@[simp] theorem ikd_207 : ikd Try.prog 207 = none := by kernel_rfl
@[simp] theorem isStr_207 : isStr Try.prog 207 = false := by kernel_rfl
@[simp] theorem isBool_207 : isBool Try.prog 207 = false := by kernel_rfl
@[simp] theorem und_207 : (Try.prog.underlying 207).isSome = true := by kernel_rfl
@[simp] theorem good_207 : good Try.prog 207 = true := by kernel_rfl
@[simp] theorem zrc_207 : zrc Try.prog 207 = some [.sc (.pointer none)] := by kernel_rfl
@[simp] theorem siz_225 : siz Try.prog 225 = 8 := by kernel_rfl
@[simp] theorem byt_225 : byt Try.prog 225 = 32 := by kernel_rfl
@[simp] theorem ags_225 : ags Try.prog 225 = true := by kernel_rfl
@[simp] theorem elm_225 : elm Try.prog 225 = none := by kernel_rfl
@[simp] theorem arr_225 : arr Try.prog 225 = some (8, 58) := by kernel_rfl
@[simp] theorem ikd_225 : ikd Try.prog 225 = none := by kernel_rfl
@[simp] theorem isStr_225 : isStr Try.prog 225 = false := by kernel_rfl
@[simp] theorem isBool_225 : isBool Try.prog 225 = false := by kernel_rfl
@[simp] theorem und_225 : (Try.prog.underlying 225).isSome = true := by kernel_rfl
@[simp] theorem good_225 : good Try.prog 225 = true := by kernel_rfl
@[simp] theorem zrc_225 : zrc Try.prog 225 = some [.sc (.int .u32 0), .sc (.int .u32 0), .sc (.int .u32 0), .sc (.int .u32 0), .sc (.int .u32 0), .sc (.int .u32 0), .sc (.int .u32 0), .sc (.int .u32 0)] := by kernel_rfl
@[simp] theorem lks_225 : lks Try.prog 6 225 = some [.i, .i, .i, .i, .i, .i, .i, .i] := by kernel_rfl
@[simp] theorem egt_225 : Try.prog.eqGuardType Try.prog.depth 225 = false := by kernel_rfl
@[simp] theorem plc_225 : plc Try.prog 225 = some [(0, 1), (1, 1), (2, 1), (3, 1), (4, 1), (5, 1), (6, 1), (7, 1)] := by kernel_rfl
@[simp] theorem siz_226 : siz Try.prog 226 = 8 := by kernel_rfl
@[simp] theorem byt_226 : byt Try.prog 226 = 32 := by kernel_rfl
@[simp] theorem ags_226 : ags Try.prog 226 = true := by kernel_rfl
@[simp] theorem elm_226 : elm Try.prog 226 = none := by kernel_rfl
@[simp] theorem arr_226 : arr Try.prog 226 = some (8, 58) := by kernel_rfl
@[simp] theorem ikd_226 : ikd Try.prog 226 = none := by kernel_rfl
@[simp] theorem isStr_226 : isStr Try.prog 226 = false := by kernel_rfl
@[simp] theorem isBool_226 : isBool Try.prog 226 = false := by kernel_rfl
@[simp] theorem und_226 : (Try.prog.underlying 226).isSome = true := by kernel_rfl
@[simp] theorem good_226 : good Try.prog 226 = true := by kernel_rfl
@[simp] theorem zrc_226 : zrc Try.prog 226 = some [.sc (.int .u32 0), .sc (.int .u32 0), .sc (.int .u32 0), .sc (.int .u32 0), .sc (.int .u32 0), .sc (.int .u32 0), .sc (.int .u32 0), .sc (.int .u32 0)] := by kernel_rfl
@[simp] theorem lks_226 : lks Try.prog 6 226 = some [.i, .i, .i, .i, .i, .i, .i, .i] := by kernel_rfl
@[simp] theorem egt_226 : Try.prog.eqGuardType Try.prog.depth 226 = false := by kernel_rfl
@[simp] theorem plc_226 : plc Try.prog 226 = some [(0, 1), (1, 1), (2, 1), (3, 1), (4, 1), (5, 1), (6, 1), (7, 1)] := by kernel_rfl
@[simp] theorem siz_228 : siz Try.prog 228 = 11 := by kernel_rfl
@[simp] theorem byt_228 : byt Try.prog 228 = 72 := by kernel_rfl
@[simp] theorem ags_228 : ags Try.prog 228 = true := by kernel_rfl
@[simp] theorem elm_228 : elm Try.prog 228 = none := by kernel_rfl
@[simp] theorem arr_228 : arr Try.prog 228 = none := by kernel_rfl
@[simp] theorem ikd_228 : ikd Try.prog 228 = none := by kernel_rfl
@[simp] theorem isStr_228 : isStr Try.prog 228 = false := by kernel_rfl
@[simp] theorem isBool_228 : isBool Try.prog 228 = false := by kernel_rfl
@[simp] theorem und_228 : (Try.prog.underlying 228).isSome = true := by kernel_rfl
@[simp] theorem good_228 : good Try.prog 228 = true := by kernel_rfl
@[simp] theorem zrc_228 : zrc Try.prog 228 = some [.sc (.bool false), .sc (.int .u32 0), .sc (.int .u32 0), .sc (.int .u32 0), .sc (.int .u32 0), .sc (.int .u32 0), .sc (.int .u32 0), .sc (.int .u32 0), .sc (.int .u32 0), .nl, .sc (.int .u64 0)] := by kernel_rfl
@[simp] theorem fld_228_0 : fld Try.prog 228 0 = some (0, 4) := by kernel_rfl
@[simp] theorem fld_228_1 : fld Try.prog 228 1 = some (1, 226) := by kernel_rfl
@[simp] theorem fld_228_2 : fld Try.prog 228 2 = some (9, 62) := by kernel_rfl
@[simp] theorem fld_228_3 : fld Try.prog 228 3 = some (10, 27) := by kernel_rfl
@[simp] theorem plc_228 : plc Try.prog 228 = some [(0, 1), (1, 8), (9, 1), (10, 1)] := by kernel_rfl
@[simp] theorem siz_229 : siz Try.prog 229 = 11 := by kernel_rfl
@[simp] theorem byt_229 : byt Try.prog 229 = 72 := by kernel_rfl
@[simp] theorem ags_229 : ags Try.prog 229 = true := by kernel_rfl
@[simp] theorem elm_229 : elm Try.prog 229 = none := by kernel_rfl
@[simp] theorem arr_229 : arr Try.prog 229 = none := by kernel_rfl
@[simp] theorem ikd_229 : ikd Try.prog 229 = none := by kernel_rfl
@[simp] theorem isStr_229 : isStr Try.prog 229 = false := by kernel_rfl
@[simp] theorem isBool_229 : isBool Try.prog 229 = false := by kernel_rfl
@[simp] theorem und_229 : (Try.prog.underlying 229).isSome = true := by kernel_rfl
@[simp] theorem good_229 : good Try.prog 229 = true := by kernel_rfl
@[simp] theorem zrc_229 : zrc Try.prog 229 = some [.sc (.bool false), .sc (.int .u32 0), .sc (.int .u32 0), .sc (.int .u32 0), .sc (.int .u32 0), .sc (.int .u32 0), .sc (.int .u32 0), .sc (.int .u32 0), .sc (.int .u32 0), .nl, .sc (.int .u64 0)] := by kernel_rfl
@[simp] theorem fld_229_0 : fld Try.prog 229 0 = some (0, 4) := by kernel_rfl
@[simp] theorem fld_229_1 : fld Try.prog 229 1 = some (1, 226) := by kernel_rfl
@[simp] theorem fld_229_2 : fld Try.prog 229 2 = some (9, 62) := by kernel_rfl
@[simp] theorem fld_229_3 : fld Try.prog 229 3 = some (10, 27) := by kernel_rfl
@[simp] theorem plc_229 : plc Try.prog 229 = some [(0, 1), (1, 8), (9, 1), (10, 1)] := by kernel_rfl
@[simp] theorem siz_232 : siz Try.prog 232 = 4 := by kernel_rfl
@[simp] theorem byt_232 : byt Try.prog 232 = 64 := by kernel_rfl
@[simp] theorem ags_232 : ags Try.prog 232 = true := by kernel_rfl
@[simp] theorem elm_232 : elm Try.prog 232 = none := by kernel_rfl
@[simp] theorem arr_232 : arr Try.prog 232 = some (4, 216) := by kernel_rfl
@[simp] theorem ikd_232 : ikd Try.prog 232 = none := by kernel_rfl
@[simp] theorem isStr_232 : isStr Try.prog 232 = false := by kernel_rfl
@[simp] theorem isBool_232 : isBool Try.prog 232 = false := by kernel_rfl
@[simp] theorem und_232 : (Try.prog.underlying 232).isSome = true := by kernel_rfl
@[simp] theorem good_232 : good Try.prog 232 = true := by kernel_rfl
@[simp] theorem siz_237 : siz Try.prog 237 = 64 := by kernel_rfl
@[simp] theorem byt_237 : byt Try.prog 237 = 256 := by kernel_rfl
@[simp] theorem ags_237 : ags Try.prog 237 = true := by kernel_rfl
@[simp] theorem elm_237 : elm Try.prog 237 = none := by kernel_rfl
@[simp] theorem arr_237 : arr Try.prog 237 = some (64, 58) := by kernel_rfl
@[simp] theorem ikd_237 : ikd Try.prog 237 = none := by kernel_rfl
@[simp] theorem isStr_237 : isStr Try.prog 237 = false := by kernel_rfl
@[simp] theorem isBool_237 : isBool Try.prog 237 = false := by kernel_rfl
@[simp] theorem und_237 : (Try.prog.underlying 237).isSome = true := by kernel_rfl
@[simp] theorem good_237 : good Try.prog 237 = true := by kernel_rfl
@[simp] theorem zrc_237 : zrc Try.prog 237 = some [.sc (.int .u32 0), .sc (.int .u32 0), .sc (.int .u32 0), .sc (.int .u32 0), .sc (.int .u32 0), .sc (.int .u32 0), .sc (.int .u32 0), .sc (.int .u32 0), .sc (.int .u32 0), .sc (.int .u32 0), .sc (.int .u32 0), .sc (.int .u32 0), .sc (.int .u32 0), .sc (.int .u32 0), .sc (.int .u32 0), .sc (.int .u32 0), .sc (.int .u32 0), .sc (.int .u32 0), .sc (.int .u32 0), .sc (.int .u32 0), .sc (.int .u32 0), .sc (.int .u32 0), .sc (.int .u32 0), .sc (.int .u32 0), .sc (.int .u32 0), .sc (.int .u32 0), .sc (.int .u32 0), .sc (.int .u32 0), .sc (.int .u32 0), .sc (.int .u32 0), .sc (.int .u32 0), .sc (.int .u32 0), .sc (.int .u32 0), .sc (.int .u32 0), .sc (.int .u32 0), .sc (.int .u32 0), .sc (.int .u32 0), .sc (.int .u32 0), .sc (.int .u32 0), .sc (.int .u32 0), .sc (.int .u32 0), .sc (.int .u32 0), .sc (.int .u32 0), .sc (.int .u32 0), .sc (.int .u32 0), .sc (.int .u32 0), .sc (.int .u32 0), .sc (.int .u32 0), .sc (.int .u32 0), .sc (.int .u32 0), .sc (.int .u32 0), .sc (.int .u32 0), .sc (.int .u32 0), .sc (.int .u32 0), .sc (.int .u32 0), .sc (.int .u32 0), .sc (.int .u32 0), .sc (.int .u32 0), .sc (.int .u32 0), .sc (.int .u32 0), .sc (.int .u32 0), .sc (.int .u32 0), .sc (.int .u32 0), .sc (.int .u32 0)] := by kernel_rfl
@[simp] theorem lks_237 : lks Try.prog 6 237 = some [.i, .i, .i, .i, .i, .i, .i, .i, .i, .i, .i, .i, .i, .i, .i, .i, .i, .i, .i, .i, .i, .i, .i, .i, .i, .i, .i, .i, .i, .i, .i, .i, .i, .i, .i, .i, .i, .i, .i, .i, .i, .i, .i, .i, .i, .i, .i, .i, .i, .i, .i, .i, .i, .i, .i, .i, .i, .i, .i, .i, .i, .i, .i, .i] := by kernel_rfl
@[simp] theorem egt_237 : Try.prog.eqGuardType Try.prog.depth 237 = false := by kernel_rfl
@[simp] theorem plc_237 : plc Try.prog 237 = some [(0, 1), (1, 1), (2, 1), (3, 1), (4, 1), (5, 1), (6, 1), (7, 1), (8, 1), (9, 1), (10, 1), (11, 1), (12, 1), (13, 1), (14, 1), (15, 1), (16, 1), (17, 1), (18, 1), (19, 1), (20, 1), (21, 1), (22, 1), (23, 1), (24, 1), (25, 1), (26, 1), (27, 1), (28, 1), (29, 1), (30, 1), (31, 1), (32, 1), (33, 1), (34, 1), (35, 1), (36, 1), (37, 1), (38, 1), (39, 1), (40, 1), (41, 1), (42, 1), (43, 1), (44, 1), (45, 1), (46, 1), (47, 1), (48, 1), (49, 1), (50, 1), (51, 1), (52, 1), (53, 1), (54, 1), (55, 1), (56, 1), (57, 1), (58, 1), (59, 1), (60, 1), (61, 1), (62, 1), (63, 1)] := by kernel_rfl
@[simp] theorem siz_241 : siz Try.prog 241 = 1 := by kernel_rfl
@[simp] theorem byt_241 : byt Try.prog 241 = 24 := by kernel_rfl
@[simp] theorem ags_241 : ags Try.prog 241 = false := by kernel_rfl
@[simp] theorem elm_241 : elm Try.prog 241 = some 62 := by kernel_rfl
@[simp] theorem arr_241 : arr Try.prog 241 = none := by kernel_rfl
@[simp] theorem ikd_241 : ikd Try.prog 241 = none := by kernel_rfl
@[simp] theorem isStr_241 : isStr Try.prog 241 = false := by kernel_rfl
@[simp] theorem isBool_241 : isBool Try.prog 241 = false := by kernel_rfl
@[simp] theorem und_241 : (Try.prog.underlying 241).isSome = true := by kernel_rfl
@[simp] theorem good_241 : good Try.prog 241 = true := by kernel_rfl
@[simp] theorem zrc_241 : zrc Try.prog 241 = some [.nl] := by kernel_rfl
@[simp] theorem siz_247 : siz Try.prog 247 = 4 := by kernel_rfl
@[simp] theorem byt_247 : byt Try.prog 247 = 40 := by kernel_rfl
@[simp] theorem ags_247 : ags Try.prog 247 = true := by kernel_rfl
@[simp] theorem elm_247 : elm Try.prog 247 = none := by kernel_rfl
@[simp] theorem arr_247 : arr Try.prog 247 = none := by kernel_rfl
@[simp] theorem ikd_247 : ikd Try.prog 247 = none := by kernel_rfl
@[simp] theorem isStr_247 : isStr Try.prog 247 = false := by kernel_rfl
@[simp] theorem isBool_247 : isBool Try.prog 247 = false := by kernel_rfl
@[simp] theorem und_247 : (Try.prog.underlying 247).isSome = true := by kernel_rfl
@[simp] theorem good_247 : good Try.prog 247 = true := by kernel_rfl
@[simp] theorem zrc_247 : zrc Try.prog 247 = some [.sc (.pointer none), .sc (.pointer none), .sc (.pointer none), .sc (.string ⟨#[]⟩)] := by kernel_rfl
@[simp] theorem fld_247_0 : fld Try.prog 247 0 = some (0, 17) := by kernel_rfl
@[simp] theorem fld_247_1 : fld Try.prog 247 1 = some (1, 17) := by kernel_rfl
@[simp] theorem fld_247_2 : fld Try.prog 247 2 = some (2, 17) := by kernel_rfl
@[simp] theorem fld_247_3 : fld Try.prog 247 3 = some (3, 9) := by kernel_rfl
@[simp] theorem plc_247 : plc Try.prog 247 = some [(0, 1), (1, 1), (2, 1), (3, 1)] := by kernel_rfl
@[simp] theorem siz_248 : siz Try.prog 248 = 4 := by kernel_rfl
@[simp] theorem byt_248 : byt Try.prog 248 = 40 := by kernel_rfl
@[simp] theorem ags_248 : ags Try.prog 248 = true := by kernel_rfl
@[simp] theorem elm_248 : elm Try.prog 248 = none := by kernel_rfl
@[simp] theorem arr_248 : arr Try.prog 248 = none := by kernel_rfl
@[simp] theorem ikd_248 : ikd Try.prog 248 = none := by kernel_rfl
@[simp] theorem isStr_248 : isStr Try.prog 248 = false := by kernel_rfl
@[simp] theorem isBool_248 : isBool Try.prog 248 = false := by kernel_rfl
@[simp] theorem und_248 : (Try.prog.underlying 248).isSome = true := by kernel_rfl
@[simp] theorem good_248 : good Try.prog 248 = true := by kernel_rfl
@[simp] theorem zrc_248 : zrc Try.prog 248 = some [.sc (.pointer none), .sc (.pointer none), .sc (.pointer none), .sc (.string ⟨#[]⟩)] := by kernel_rfl
@[simp] theorem fld_248_0 : fld Try.prog 248 0 = some (0, 17) := by kernel_rfl
@[simp] theorem fld_248_1 : fld Try.prog 248 1 = some (1, 17) := by kernel_rfl
@[simp] theorem fld_248_2 : fld Try.prog 248 2 = some (2, 17) := by kernel_rfl
@[simp] theorem fld_248_3 : fld Try.prog 248 3 = some (3, 9) := by kernel_rfl
@[simp] theorem plc_248 : plc Try.prog 248 = some [(0, 1), (1, 1), (2, 1), (3, 1)] := by kernel_rfl
@[simp] theorem siz_249 : siz Try.prog 249 = 0 := by kernel_rfl
@[simp] theorem byt_249 : byt Try.prog 249 = 0 := by kernel_rfl
@[simp] theorem ags_249 : ags Try.prog 249 = true := by kernel_rfl
@[simp] theorem elm_249 : elm Try.prog 249 = none := by kernel_rfl
@[simp] theorem arr_249 : arr Try.prog 249 = some (0, 16) := by kernel_rfl
@[simp] theorem ikd_249 : ikd Try.prog 249 = none := by kernel_rfl
@[simp] theorem isStr_249 : isStr Try.prog 249 = false := by kernel_rfl
@[simp] theorem isBool_249 : isBool Try.prog 249 = false := by kernel_rfl
@[simp] theorem und_249 : (Try.prog.underlying 249).isSome = true := by kernel_rfl
@[simp] theorem zrc_249 : zrc Try.prog 249 = some [] := by kernel_rfl
@[simp] theorem egt_249 : Try.prog.eqGuardType Try.prog.depth 249 = false := by kernel_rfl
@[simp] theorem plc_249 : plc Try.prog 249 = some [] := by kernel_rfl
@[simp] theorem siz_250 : siz Try.prog 250 = 0 := by kernel_rfl
@[simp] theorem byt_250 : byt Try.prog 250 = 0 := by kernel_rfl
@[simp] theorem ags_250 : ags Try.prog 250 = true := by kernel_rfl
@[simp] theorem elm_250 : elm Try.prog 250 = none := by kernel_rfl
@[simp] theorem arr_250 : arr Try.prog 250 = none := by kernel_rfl
@[simp] theorem ikd_250 : ikd Try.prog 250 = none := by kernel_rfl
@[simp] theorem isStr_250 : isStr Try.prog 250 = false := by kernel_rfl
@[simp] theorem isBool_250 : isBool Try.prog 250 = false := by kernel_rfl
@[simp] theorem und_250 : (Try.prog.underlying 250).isSome = true := by kernel_rfl
@[simp] theorem zrc_250 : zrc Try.prog 250 = some [] := by kernel_rfl
@[simp] theorem fld_250_0 : fld Try.prog 250 0 = some (0, 249) := by kernel_rfl
@[simp] theorem plc_250 : plc Try.prog 250 = some [(0, 0)] := by kernel_rfl
@[simp] theorem egt_250 : Try.prog.eqGuardType Try.prog.depth 250 = false := by kernel_rfl
@[simp] theorem siz_251 : siz Try.prog 251 = 0 := by kernel_rfl
@[simp] theorem byt_251 : byt Try.prog 251 = 0 := by kernel_rfl
@[simp] theorem ags_251 : ags Try.prog 251 = true := by kernel_rfl
@[simp] theorem elm_251 : elm Try.prog 251 = none := by kernel_rfl
@[simp] theorem arr_251 : arr Try.prog 251 = none := by kernel_rfl
@[simp] theorem ikd_251 : ikd Try.prog 251 = none := by kernel_rfl
@[simp] theorem isStr_251 : isStr Try.prog 251 = false := by kernel_rfl
@[simp] theorem isBool_251 : isBool Try.prog 251 = false := by kernel_rfl
@[simp] theorem und_251 : (Try.prog.underlying 251).isSome = true := by kernel_rfl
@[simp] theorem zrc_251 : zrc Try.prog 251 = some [] := by kernel_rfl
@[simp] theorem fld_251_0 : fld Try.prog 251 0 = some (0, 249) := by kernel_rfl
@[simp] theorem plc_251 : plc Try.prog 251 = some [(0, 0)] := by kernel_rfl
@[simp] theorem egt_251 : Try.prog.eqGuardType Try.prog.depth 251 = false := by kernel_rfl
@[simp] theorem siz_252 : siz Try.prog 252 = 1 := by kernel_rfl
@[simp] theorem byt_252 : byt Try.prog 252 = 1 := by kernel_rfl
@[simp] theorem ags_252 : ags Try.prog 252 = false := by kernel_rfl
@[simp] theorem elm_252 : elm Try.prog 252 = none := by kernel_rfl
@[simp] theorem arr_252 : arr Try.prog 252 = none := by kernel_rfl
@[simp] theorem ikd_252 : ikd Try.prog 252 = some .u8 := by kernel_rfl
@[simp] theorem isStr_252 : isStr Try.prog 252 = false := by kernel_rfl
@[simp] theorem isBool_252 : isBool Try.prog 252 = false := by kernel_rfl
@[simp] theorem und_252 : (Try.prog.underlying 252).isSome = true := by kernel_rfl
@[simp] theorem good_252 : good Try.prog 252 = true := by kernel_rfl
@[simp] theorem zrc_252 : zrc Try.prog 252 = some [.sc (.int .u8 0)] := by kernel_rfl
@[simp] theorem siz_253 : siz Try.prog 253 = 1 := by kernel_rfl
@[simp] theorem byt_253 : byt Try.prog 253 = 1 := by kernel_rfl
@[simp] theorem ags_253 : ags Try.prog 253 = false := by kernel_rfl
@[simp] theorem elm_253 : elm Try.prog 253 = none := by kernel_rfl
@[simp] theorem arr_253 : arr Try.prog 253 = none := by kernel_rfl
@[simp] theorem ikd_253 : ikd Try.prog 253 = some .u8 := by kernel_rfl
@[simp] theorem isStr_253 : isStr Try.prog 253 = false := by kernel_rfl
@[simp] theorem isBool_253 : isBool Try.prog 253 = false := by kernel_rfl
@[simp] theorem und_253 : (Try.prog.underlying 253).isSome = true := by kernel_rfl
@[simp] theorem good_253 : good Try.prog 253 = true := by kernel_rfl
@[simp] theorem zrc_253 : zrc Try.prog 253 = some [.sc (.int .u8 0)] := by kernel_rfl
@[simp] theorem siz_255 : siz Try.prog 255 = 1 := by kernel_rfl
@[simp] theorem byt_255 : byt Try.prog 255 = 8 := by kernel_rfl
@[simp] theorem ags_255 : ags Try.prog 255 = false := by kernel_rfl
@[simp] theorem elm_255 : elm Try.prog 255 = none := by kernel_rfl
@[simp] theorem arr_255 : arr Try.prog 255 = none := by kernel_rfl
@[simp] theorem ikd_255 : ikd Try.prog 255 = none := by kernel_rfl
@[simp] theorem isStr_255 : isStr Try.prog 255 = false := by kernel_rfl
@[simp] theorem isBool_255 : isBool Try.prog 255 = false := by kernel_rfl
@[simp] theorem und_255 : (Try.prog.underlying 255).isSome = true := by kernel_rfl
@[simp] theorem good_255 : good Try.prog 255 = true := by kernel_rfl
@[simp] theorem zrc_255 : zrc Try.prog 255 = some [.sc (.pointer none)] := by kernel_rfl
@[simp] theorem siz_256 : siz Try.prog 256 = 1 := by kernel_rfl
@[simp] theorem byt_256 : byt Try.prog 256 = 4 := by kernel_rfl
@[simp] theorem ags_256 : ags Try.prog 256 = false := by kernel_rfl
@[simp] theorem elm_256 : elm Try.prog 256 = none := by kernel_rfl
@[simp] theorem arr_256 : arr Try.prog 256 = none := by kernel_rfl
@[simp] theorem ikd_256 : ikd Try.prog 256 = some .i32 := by kernel_rfl
@[simp] theorem isStr_256 : isStr Try.prog 256 = false := by kernel_rfl
@[simp] theorem isBool_256 : isBool Try.prog 256 = false := by kernel_rfl
@[simp] theorem und_256 : (Try.prog.underlying 256).isSome = true := by kernel_rfl
@[simp] theorem good_256 : good Try.prog 256 = true := by kernel_rfl
@[simp] theorem zrc_256 : zrc Try.prog 256 = some [.sc (.int .i32 0)] := by kernel_rfl
@[simp] theorem siz_257 : siz Try.prog 257 = 1 := by kernel_rfl
@[simp] theorem byt_257 : byt Try.prog 257 = 4 := by kernel_rfl
@[simp] theorem ags_257 : ags Try.prog 257 = false := by kernel_rfl
@[simp] theorem elm_257 : elm Try.prog 257 = none := by kernel_rfl
@[simp] theorem arr_257 : arr Try.prog 257 = none := by kernel_rfl
@[simp] theorem ikd_257 : ikd Try.prog 257 = some .i32 := by kernel_rfl
@[simp] theorem isStr_257 : isStr Try.prog 257 = false := by kernel_rfl
@[simp] theorem isBool_257 : isBool Try.prog 257 = false := by kernel_rfl
@[simp] theorem und_257 : (Try.prog.underlying 257).isSome = true := by kernel_rfl
@[simp] theorem good_257 : good Try.prog 257 = true := by kernel_rfl
@[simp] theorem zrc_257 : zrc Try.prog 257 = some [.sc (.int .i32 0)] := by kernel_rfl
@[simp] theorem siz_258 : siz Try.prog 258 = 11 := by kernel_rfl
@[simp] theorem byt_258 : byt Try.prog 258 = 48 := by kernel_rfl
@[simp] theorem ags_258 : ags Try.prog 258 = true := by kernel_rfl
@[simp] theorem elm_258 : elm Try.prog 258 = none := by kernel_rfl
@[simp] theorem arr_258 : arr Try.prog 258 = none := by kernel_rfl
@[simp] theorem ikd_258 : ikd Try.prog 258 = none := by kernel_rfl
@[simp] theorem isStr_258 : isStr Try.prog 258 = false := by kernel_rfl
@[simp] theorem isBool_258 : isBool Try.prog 258 = false := by kernel_rfl
@[simp] theorem und_258 : (Try.prog.underlying 258).isSome = true := by kernel_rfl
@[simp] theorem good_258 : good Try.prog 258 = true := by kernel_rfl
@[simp] theorem zrc_258 : zrc Try.prog 258 = some [.sc (.int .u64 0), .sc (.int .u64 0), .sc (.int .u32 0), .sc (.int .u8 0), .sc (.int .u8 0), .sc (.int .u8 0), .sc (.int .u8 0), .sc .nilFunc, .sc (.pointer none), .sc (.int .i32 0), .sc (.int .i32 0)] := by kernel_rfl
@[simp] theorem fld_258_0 : fld Try.prog 258 0 = some (0, 12) := by kernel_rfl
@[simp] theorem fld_258_1 : fld Try.prog 258 1 = some (1, 12) := by kernel_rfl
@[simp] theorem fld_258_2 : fld Try.prog 258 2 = some (2, 58) := by kernel_rfl
@[simp] theorem fld_258_3 : fld Try.prog 258 3 = some (3, 252) := by kernel_rfl
@[simp] theorem fld_258_4 : fld Try.prog 258 4 = some (4, 5) := by kernel_rfl
@[simp] theorem fld_258_5 : fld Try.prog 258 5 = some (5, 5) := by kernel_rfl
@[simp] theorem fld_258_6 : fld Try.prog 258 6 = some (6, 253) := by kernel_rfl
@[simp] theorem fld_258_7 : fld Try.prog 258 7 = some (7, 254) := by kernel_rfl
@[simp] theorem fld_258_8 : fld Try.prog 258 8 = some (8, 255) := by kernel_rfl
@[simp] theorem fld_258_9 : fld Try.prog 258 9 = some (9, 256) := by kernel_rfl
@[simp] theorem fld_258_10 : fld Try.prog 258 10 = some (10, 257) := by kernel_rfl
@[simp] theorem siz_259 : siz Try.prog 259 = 11 := by kernel_rfl
@[simp] theorem byt_259 : byt Try.prog 259 = 48 := by kernel_rfl
@[simp] theorem ags_259 : ags Try.prog 259 = true := by kernel_rfl
@[simp] theorem elm_259 : elm Try.prog 259 = none := by kernel_rfl
@[simp] theorem arr_259 : arr Try.prog 259 = none := by kernel_rfl
@[simp] theorem ikd_259 : ikd Try.prog 259 = none := by kernel_rfl
@[simp] theorem isStr_259 : isStr Try.prog 259 = false := by kernel_rfl
@[simp] theorem isBool_259 : isBool Try.prog 259 = false := by kernel_rfl
@[simp] theorem und_259 : (Try.prog.underlying 259).isSome = true := by kernel_rfl
@[simp] theorem good_259 : good Try.prog 259 = true := by kernel_rfl
@[simp] theorem zrc_259 : zrc Try.prog 259 = some [.sc (.int .u64 0), .sc (.int .u64 0), .sc (.int .u32 0), .sc (.int .u8 0), .sc (.int .u8 0), .sc (.int .u8 0), .sc (.int .u8 0), .sc .nilFunc, .sc (.pointer none), .sc (.int .i32 0), .sc (.int .i32 0)] := by kernel_rfl
@[simp] theorem fld_259_0 : fld Try.prog 259 0 = some (0, 12) := by kernel_rfl
@[simp] theorem fld_259_1 : fld Try.prog 259 1 = some (1, 12) := by kernel_rfl
@[simp] theorem fld_259_2 : fld Try.prog 259 2 = some (2, 58) := by kernel_rfl
@[simp] theorem fld_259_3 : fld Try.prog 259 3 = some (3, 252) := by kernel_rfl
@[simp] theorem fld_259_4 : fld Try.prog 259 4 = some (4, 5) := by kernel_rfl
@[simp] theorem fld_259_5 : fld Try.prog 259 5 = some (5, 5) := by kernel_rfl
@[simp] theorem fld_259_6 : fld Try.prog 259 6 = some (6, 253) := by kernel_rfl
@[simp] theorem fld_259_7 : fld Try.prog 259 7 = some (7, 254) := by kernel_rfl
@[simp] theorem fld_259_8 : fld Try.prog 259 8 = some (8, 255) := by kernel_rfl
@[simp] theorem fld_259_9 : fld Try.prog 259 9 = some (9, 256) := by kernel_rfl
@[simp] theorem fld_259_10 : fld Try.prog 259 10 = some (10, 257) := by kernel_rfl
@[simp] theorem follows_ok : Try.prog.follows .mixedOrders = true := by kernel_rfl
@[simp] theorem callable_3 : callable Try.prog 3 = true := by kernel_rfl
@[simp] theorem callable_4 : callable Try.prog 4 = true := by kernel_rfl
@[simp] theorem callable_5 : callable Try.prog 5 = true := by kernel_rfl
@[simp] theorem callable_6 : callable Try.prog 6 = true := by kernel_rfl
@[simp] theorem callable_7 : callable Try.prog 7 = true := by kernel_rfl
@[simp] theorem callable_8 : callable Try.prog 8 = true := by kernel_rfl
@[simp] theorem callable_9 : callable Try.prog 9 = true := by kernel_rfl
@[simp] theorem callable_10 : callable Try.prog 10 = true := by kernel_rfl
@[simp] theorem callable_11 : callable Try.prog 11 = true := by kernel_rfl
@[simp] theorem callable_12 : callable Try.prog 12 = true := by kernel_rfl
@[simp] theorem callable_13 : callable Try.prog 13 = true := by kernel_rfl
@[simp] theorem callable_14 : callable Try.prog 14 = true := by kernel_rfl
@[simp] theorem callable_15 : callable Try.prog 15 = true := by kernel_rfl
@[simp] theorem callable_16 : callable Try.prog 16 = true := by kernel_rfl
@[simp] theorem callable_17 : callable Try.prog 17 = true := by kernel_rfl
@[simp] theorem callable_18 : callable Try.prog 18 = true := by kernel_rfl
@[simp] theorem callable_19 : callable Try.prog 19 = true := by kernel_rfl
@[simp] theorem callable_20 : callable Try.prog 20 = true := by kernel_rfl
@[simp] theorem callable_21 : callable Try.prog 21 = true := by kernel_rfl
@[simp] theorem callable_22 : callable Try.prog 22 = true := by kernel_rfl
@[simp] theorem callable_23 : callable Try.prog 23 = true := by kernel_rfl
@[simp] theorem callable_24 : callable Try.prog 24 = true := by kernel_rfl
@[simp] theorem callable_25 : callable Try.prog 25 = true := by kernel_rfl
@[simp] theorem callable_26 : callable Try.prog 26 = true := by kernel_rfl
@[simp] theorem callable_27 : callable Try.prog 27 = true := by kernel_rfl
@[simp] theorem callable_28 : callable Try.prog 28 = true := by kernel_rfl
@[simp] theorem callable_29 : callable Try.prog 29 = true := by kernel_rfl
@[simp] theorem callable_30 : callable Try.prog 30 = true := by kernel_rfl
@[simp] theorem callable_31 : callable Try.prog 31 = true := by kernel_rfl
@[simp] theorem callable_32 : callable Try.prog 32 = true := by kernel_rfl
@[simp] theorem callable_33 : callable Try.prog 33 = true := by kernel_rfl
@[simp] theorem callable_34 : callable Try.prog 34 = true := by kernel_rfl
@[simp] theorem callable_35 : callable Try.prog 35 = true := by kernel_rfl
@[simp] theorem callable_36 : callable Try.prog 36 = true := by kernel_rfl
@[simp] theorem callable_37 : callable Try.prog 37 = true := by kernel_rfl
@[simp] theorem callable_38 : callable Try.prog 38 = true := by kernel_rfl
@[simp] theorem callable_39 : callable Try.prog 39 = true := by kernel_rfl
@[simp] theorem callable_40 : callable Try.prog 40 = true := by kernel_rfl
@[simp] theorem callable_41 : callable Try.prog 41 = true := by kernel_rfl
@[simp] theorem callable_42 : callable Try.prog 42 = true := by kernel_rfl
@[simp] theorem callable_43 : callable Try.prog 43 = true := by kernel_rfl
@[simp] theorem callable_44 : callable Try.prog 44 = true := by kernel_rfl
@[simp] theorem callable_45 : callable Try.prog 45 = true := by kernel_rfl
@[simp] theorem callable_46 : callable Try.prog 46 = true := by kernel_rfl
@[simp] theorem callable_47 : callable Try.prog 47 = true := by kernel_rfl
@[simp] theorem callable_48 : callable Try.prog 48 = true := by kernel_rfl
@[simp] theorem callable_49 : callable Try.prog 49 = true := by kernel_rfl
@[simp] theorem callable_50 : callable Try.prog 50 = true := by kernel_rfl
@[simp] theorem callable_51 : callable Try.prog 51 = true := by kernel_rfl
@[simp] theorem callable_52 : callable Try.prog 52 = true := by kernel_rfl
@[simp] theorem callable_53 : callable Try.prog 53 = true := by kernel_rfl
@[simp] theorem callable_54 : callable Try.prog 54 = true := by kernel_rfl
@[simp] theorem callable_55 : callable Try.prog 55 = true := by kernel_rfl
@[simp] theorem callable_56 : callable Try.prog 56 = true := by kernel_rfl
@[simp] theorem callable_57 : callable Try.prog 57 = true := by kernel_rfl
@[simp] theorem callable_58 : callable Try.prog 58 = true := by kernel_rfl
@[simp] theorem callable_59 : callable Try.prog 59 = true := by kernel_rfl
@[simp] theorem callable_60 : callable Try.prog 60 = true := by kernel_rfl
@[simp] theorem callable_61 : callable Try.prog 61 = true := by kernel_rfl
@[simp] theorem callable_62 : callable Try.prog 62 = true := by kernel_rfl
@[simp] theorem callable_63 : callable Try.prog 63 = true := by kernel_rfl
@[simp] theorem callable_64 : callable Try.prog 64 = true := by kernel_rfl
@[simp] theorem callable_65 : callable Try.prog 65 = true := by kernel_rfl
@[simp] theorem callable_66 : callable Try.prog 66 = true := by kernel_rfl
@[simp] theorem callable_67 : callable Try.prog 67 = true := by kernel_rfl
@[simp] theorem callable_68 : callable Try.prog 68 = true := by kernel_rfl
@[simp] theorem callable_69 : callable Try.prog 69 = true := by kernel_rfl
@[simp] theorem callable_70 : callable Try.prog 70 = true := by kernel_rfl
@[simp] theorem callable_71 : callable Try.prog 71 = true := by kernel_rfl
@[simp] theorem callable_72 : callable Try.prog 72 = true := by kernel_rfl
@[simp] theorem callable_73 : callable Try.prog 73 = true := by kernel_rfl
@[simp] theorem callable_74 : callable Try.prog 74 = true := by kernel_rfl
@[simp] theorem callable_75 : callable Try.prog 75 = true := by kernel_rfl
@[simp] theorem callable_76 : callable Try.prog 76 = true := by kernel_rfl
@[simp] theorem callable_77 : callable Try.prog 77 = true := by kernel_rfl
@[simp] theorem callable_78 : callable Try.prog 78 = true := by kernel_rfl
@[simp] theorem callable_79 : callable Try.prog 79 = true := by kernel_rfl
@[simp] theorem callable_80 : callable Try.prog 80 = true := by kernel_rfl
@[simp] theorem callable_81 : callable Try.prog 81 = true := by kernel_rfl
@[simp] theorem callable_82 : callable Try.prog 82 = true := by kernel_rfl
@[simp] theorem callable_83 : callable Try.prog 83 = true := by kernel_rfl
@[simp] theorem callable_84 : callable Try.prog 84 = true := by kernel_rfl
@[simp] theorem callable_85 : callable Try.prog 85 = true := by kernel_rfl
@[simp] theorem callable_86 : callable Try.prog 86 = true := by kernel_rfl
@[simp] theorem callable_87 : callable Try.prog 87 = true := by kernel_rfl
@[simp] theorem callable_88 : callable Try.prog 88 = true := by kernel_rfl
@[simp] theorem callable_89 : callable Try.prog 89 = true := by kernel_rfl
@[simp] theorem callable_90 : callable Try.prog 90 = true := by kernel_rfl
@[simp] theorem callable_91 : callable Try.prog 91 = true := by kernel_rfl
@[simp] theorem callable_92 : callable Try.prog 92 = true := by kernel_rfl
@[simp] theorem callable_93 : callable Try.prog 93 = true := by kernel_rfl
@[simp] theorem callable_94 : callable Try.prog 94 = true := by kernel_rfl
@[simp] theorem callable_95 : callable Try.prog 95 = true := by kernel_rfl
@[simp] theorem callable_96 : callable Try.prog 96 = true := by kernel_rfl
@[simp] theorem callable_97 : callable Try.prog 97 = true := by kernel_rfl
@[simp] theorem callable_98 : callable Try.prog 98 = true := by kernel_rfl
@[simp] theorem callable_99 : callable Try.prog 99 = true := by kernel_rfl
@[simp] theorem callable_100 : callable Try.prog 100 = true := by kernel_rfl
@[simp] theorem callable_101 : callable Try.prog 101 = true := by kernel_rfl
@[simp] theorem callable_102 : callable Try.prog 102 = true := by kernel_rfl
@[simp] theorem callable_103 : callable Try.prog 103 = true := by kernel_rfl
@[simp] theorem callable_104 : callable Try.prog 104 = true := by kernel_rfl
@[simp] theorem callable_105 : callable Try.prog 105 = true := by kernel_rfl
@[simp] theorem callable_106 : callable Try.prog 106 = true := by kernel_rfl
@[simp] theorem callable_107 : callable Try.prog 107 = true := by kernel_rfl
@[simp] theorem callable_108 : callable Try.prog 108 = true := by kernel_rfl
@[simp] theorem callable_109 : callable Try.prog 109 = true := by kernel_rfl
@[simp] theorem callable_110 : callable Try.prog 110 = true := by kernel_rfl
@[simp] theorem callable_111 : callable Try.prog 111 = true := by kernel_rfl
@[simp] theorem callable_112 : callable Try.prog 112 = true := by kernel_rfl
@[simp] theorem callable_113 : callable Try.prog 113 = true := by kernel_rfl
@[simp] theorem callable_114 : callable Try.prog 114 = true := by kernel_rfl
@[simp] theorem callable_115 : callable Try.prog 115 = true := by kernel_rfl
@[simp] theorem callable_116 : callable Try.prog 116 = true := by kernel_rfl
@[simp] theorem callable_117 : callable Try.prog 117 = true := by kernel_rfl
@[simp] theorem callable_118 : callable Try.prog 118 = true := by kernel_rfl
@[simp] theorem callable_119 : callable Try.prog 119 = true := by kernel_rfl
@[simp] theorem callable_120 : callable Try.prog 120 = true := by kernel_rfl
@[simp] theorem callable_121 : callable Try.prog 121 = true := by kernel_rfl
@[simp] theorem callable_122 : callable Try.prog 122 = true := by kernel_rfl
@[simp] theorem callable_123 : callable Try.prog 123 = true := by kernel_rfl
@[simp] theorem callable_124 : callable Try.prog 124 = true := by kernel_rfl
@[simp] theorem callable_125 : callable Try.prog 125 = true := by kernel_rfl
@[simp] theorem callable_126 : callable Try.prog 126 = true := by kernel_rfl
@[simp] theorem callable_127 : callable Try.prog 127 = true := by kernel_rfl
@[simp] theorem callable_128 : callable Try.prog 128 = true := by kernel_rfl
@[simp] theorem callable_129 : callable Try.prog 129 = true := by kernel_rfl
@[simp] theorem callable_130 : callable Try.prog 130 = true := by kernel_rfl
@[simp] theorem callable_131 : callable Try.prog 131 = true := by kernel_rfl
@[simp] theorem callable_132 : callable Try.prog 132 = true := by kernel_rfl
@[simp] theorem callable_133 : callable Try.prog 133 = true := by kernel_rfl
@[simp] theorem callable_134 : callable Try.prog 134 = true := by kernel_rfl
@[simp] theorem callable_135 : callable Try.prog 135 = true := by kernel_rfl
@[simp] theorem callable_136 : callable Try.prog 136 = true := by kernel_rfl
@[simp] theorem callable_137 : callable Try.prog 137 = true := by kernel_rfl
@[simp] theorem callable_138 : callable Try.prog 138 = true := by kernel_rfl
@[simp] theorem callable_139 : callable Try.prog 139 = true := by kernel_rfl
@[simp] theorem callable_140 : callable Try.prog 140 = true := by kernel_rfl
@[simp] theorem callable_141 : callable Try.prog 141 = true := by kernel_rfl
@[simp] theorem callable_142 : callable Try.prog 142 = true := by kernel_rfl
@[simp] theorem callable_143 : callable Try.prog 143 = true := by kernel_rfl
@[simp] theorem callable_144 : callable Try.prog 144 = true := by kernel_rfl
@[simp] theorem callable_145 : callable Try.prog 145 = true := by kernel_rfl
@[simp] theorem callable_146 : callable Try.prog 146 = true := by kernel_rfl
@[simp] theorem callable_147 : callable Try.prog 147 = true := by kernel_rfl
@[simp] theorem callable_148 : callable Try.prog 148 = true := by kernel_rfl
@[simp] theorem callable_149 : callable Try.prog 149 = true := by kernel_rfl
@[simp] theorem callable_150 : callable Try.prog 150 = true := by kernel_rfl

end Go.Proofs.Ytbmdahhhgpbchaa.Tab
