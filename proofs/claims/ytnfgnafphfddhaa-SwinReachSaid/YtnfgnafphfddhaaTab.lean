import Derived.Test.YtnfgnafphfddhaaProg
import Derived.Test.YtnfgnafphfddhaaSimB
import Derived.KernelRfl
namespace Go.Proofs.Ytnfgnafphfddhaa.Tab
open Go Go.Sim Go.RowKit
set_option linter.unusedVariables false

@[simp] theorem siz_2 : siz Try.prog 2 = 1 := by kernel_rfl
@[simp] theorem byt_2 : byt Try.prog 2 = 8 := by kernel_rfl
@[simp] theorem ags_2 : ags Try.prog 2 = false := by kernel_rfl
@[simp] theorem elm_2 : elm Try.prog 2 = none := by kernel_rfl
@[simp] theorem arr_2 : arr Try.prog 2 = none := by kernel_rfl
@[simp] theorem ikd_2 : ikd Try.prog 2 = some .i64 := by kernel_rfl
@[simp] theorem isStr_2 : isStr Try.prog 2 = false := by kernel_rfl
@[simp] theorem isBool_2 : isBool Try.prog 2 = false := by kernel_rfl
@[simp] theorem und_2 : (Try.prog.underlying 2).isSome = true := by kernel_rfl
@[simp] theorem good_2 : good Try.prog 2 = true := by kernel_rfl
@[simp] theorem zrc_2 : zrc Try.prog 2 = some [.sc (.int .i64 0)] := by kernel_rfl
@[simp] theorem siz_3 : siz Try.prog 3 = 1 := by kernel_rfl
@[simp] theorem byt_3 : byt Try.prog 3 = 8 := by kernel_rfl
@[simp] theorem ags_3 : ags Try.prog 3 = false := by kernel_rfl
@[simp] theorem elm_3 : elm Try.prog 3 = none := by kernel_rfl
@[simp] theorem arr_3 : arr Try.prog 3 = none := by kernel_rfl
@[simp] theorem ikd_3 : ikd Try.prog 3 = some .i64 := by kernel_rfl
@[simp] theorem isStr_3 : isStr Try.prog 3 = false := by kernel_rfl
@[simp] theorem isBool_3 : isBool Try.prog 3 = false := by kernel_rfl
@[simp] theorem und_3 : (Try.prog.underlying 3).isSome = true := by kernel_rfl
@[simp] theorem good_3 : good Try.prog 3 = true := by kernel_rfl
@[simp] theorem zrc_3 : zrc Try.prog 3 = some [.sc (.int .i64 0)] := by kernel_rfl
@[simp] theorem siz_4 : siz Try.prog 4 = 1 := by kernel_rfl
@[simp] theorem byt_4 : byt Try.prog 4 = 1 := by kernel_rfl
@[simp] theorem ags_4 : ags Try.prog 4 = false := by kernel_rfl
@[simp] theorem elm_4 : elm Try.prog 4 = none := by kernel_rfl
@[simp] theorem arr_4 : arr Try.prog 4 = none := by kernel_rfl
@[simp] theorem ikd_4 : ikd Try.prog 4 = none := by kernel_rfl
@[simp] theorem isStr_4 : isStr Try.prog 4 = false := by kernel_rfl
@[simp] theorem isBool_4 : isBool Try.prog 4 = true := by kernel_rfl
@[simp] theorem und_4 : (Try.prog.underlying 4).isSome = true := by kernel_rfl
@[simp] theorem good_4 : good Try.prog 4 = true := by kernel_rfl
@[simp] theorem zrc_4 : zrc Try.prog 4 = some [.sc (.bool false)] := by kernel_rfl
@[simp] theorem siz_5 : siz Try.prog 5 = 1 := by kernel_rfl
@[simp] theorem byt_5 : byt Try.prog 5 = 1 := by kernel_rfl
@[simp] theorem ags_5 : ags Try.prog 5 = false := by kernel_rfl
@[simp] theorem elm_5 : elm Try.prog 5 = none := by kernel_rfl
@[simp] theorem arr_5 : arr Try.prog 5 = none := by kernel_rfl
@[simp] theorem ikd_5 : ikd Try.prog 5 = some .u8 := by kernel_rfl
@[simp] theorem isStr_5 : isStr Try.prog 5 = false := by kernel_rfl
@[simp] theorem isBool_5 : isBool Try.prog 5 = false := by kernel_rfl
@[simp] theorem und_5 : (Try.prog.underlying 5).isSome = true := by kernel_rfl
@[simp] theorem good_5 : good Try.prog 5 = true := by kernel_rfl
@[simp] theorem zrc_5 : zrc Try.prog 5 = some [.sc (.int .u8 0)] := by kernel_rfl
@[simp] theorem siz_6 : siz Try.prog 6 = 1 := by kernel_rfl
@[simp] theorem byt_6 : byt Try.prog 6 = 1 := by kernel_rfl
@[simp] theorem ags_6 : ags Try.prog 6 = false := by kernel_rfl
@[simp] theorem elm_6 : elm Try.prog 6 = none := by kernel_rfl
@[simp] theorem arr_6 : arr Try.prog 6 = none := by kernel_rfl
@[simp] theorem ikd_6 : ikd Try.prog 6 = some .u8 := by kernel_rfl
@[simp] theorem isStr_6 : isStr Try.prog 6 = false := by kernel_rfl
@[simp] theorem isBool_6 : isBool Try.prog 6 = false := by kernel_rfl
@[simp] theorem und_6 : (Try.prog.underlying 6).isSome = true := by kernel_rfl
@[simp] theorem good_6 : good Try.prog 6 = true := by kernel_rfl
@[simp] theorem zrc_6 : zrc Try.prog 6 = some [.sc (.int .u8 0)] := by kernel_rfl
@[simp] theorem siz_7 : siz Try.prog 7 = 4 := by kernel_rfl
@[simp] theorem byt_7 : byt Try.prog 7 = 24 := by kernel_rfl
@[simp] theorem ags_7 : ags Try.prog 7 = true := by kernel_rfl
@[simp] theorem elm_7 : elm Try.prog 7 = none := by kernel_rfl
@[simp] theorem arr_7 : arr Try.prog 7 = none := by kernel_rfl
@[simp] theorem ikd_7 : ikd Try.prog 7 = none := by kernel_rfl
@[simp] theorem isStr_7 : isStr Try.prog 7 = false := by kernel_rfl
@[simp] theorem isBool_7 : isBool Try.prog 7 = false := by kernel_rfl
@[simp] theorem und_7 : (Try.prog.underlying 7).isSome = true := by kernel_rfl
@[simp] theorem good_7 : good Try.prog 7 = true := by kernel_rfl
@[simp] theorem zrc_7 : zrc Try.prog 7 = some [.sc (.int .i64 0), .sc (.int .i64 0), .sc (.bool false), .sc (.int .u8 0)] := by kernel_rfl
@[simp] theorem fld_7_0 : fld Try.prog 7 0 = some (0, 2) := by kernel_rfl
@[simp] theorem fld_7_1 : fld Try.prog 7 1 = some (1, 3) := by kernel_rfl
@[simp] theorem fld_7_2 : fld Try.prog 7 2 = some (2, 4) := by kernel_rfl
@[simp] theorem fld_7_3 : fld Try.prog 7 3 = some (3, 6) := by kernel_rfl
@[simp] theorem plc_7 : plc Try.prog 7 = some [(0, 1), (1, 1), (2, 1), (3, 1)] := by kernel_rfl
@[simp] theorem lks_7 : lks Try.prog 6 7 = some [.i, .i, .b, .i] := by kernel_rfl
@[simp] theorem egt_7 : Try.prog.eqGuardType Try.prog.depth 7 = false := by kernel_rfl
@[simp] theorem siz_8 : siz Try.prog 8 = 4 := by kernel_rfl
@[simp] theorem byt_8 : byt Try.prog 8 = 24 := by kernel_rfl
@[simp] theorem ags_8 : ags Try.prog 8 = true := by kernel_rfl
@[simp] theorem elm_8 : elm Try.prog 8 = none := by kernel_rfl
@[simp] theorem arr_8 : arr Try.prog 8 = none := by kernel_rfl
@[simp] theorem ikd_8 : ikd Try.prog 8 = none := by kernel_rfl
@[simp] theorem isStr_8 : isStr Try.prog 8 = false := by kernel_rfl
@[simp] theorem isBool_8 : isBool Try.prog 8 = false := by kernel_rfl
@[simp] theorem und_8 : (Try.prog.underlying 8).isSome = true := by kernel_rfl
@[simp] theorem good_8 : good Try.prog 8 = true := by kernel_rfl
@[simp] theorem zrc_8 : zrc Try.prog 8 = some [.sc (.int .i64 0), .sc (.int .i64 0), .sc (.bool false), .sc (.int .u8 0)] := by kernel_rfl
@[simp] theorem fld_8_0 : fld Try.prog 8 0 = some (0, 2) := by kernel_rfl
@[simp] theorem fld_8_1 : fld Try.prog 8 1 = some (1, 3) := by kernel_rfl
@[simp] theorem fld_8_2 : fld Try.prog 8 2 = some (2, 4) := by kernel_rfl
@[simp] theorem fld_8_3 : fld Try.prog 8 3 = some (3, 6) := by kernel_rfl
@[simp] theorem plc_8 : plc Try.prog 8 = some [(0, 1), (1, 1), (2, 1), (3, 1)] := by kernel_rfl
@[simp] theorem lks_8 : lks Try.prog 6 8 = some [.i, .i, .b, .i] := by kernel_rfl
@[simp] theorem egt_8 : Try.prog.eqGuardType Try.prog.depth 8 = false := by kernel_rfl
@[simp] theorem siz_9 : siz Try.prog 9 = 1 := by kernel_rfl
@[simp] theorem byt_9 : byt Try.prog 9 = 16 := by kernel_rfl
@[simp] theorem ags_9 : ags Try.prog 9 = false := by kernel_rfl
@[simp] theorem elm_9 : elm Try.prog 9 = none := by kernel_rfl
@[simp] theorem arr_9 : arr Try.prog 9 = none := by kernel_rfl
@[simp] theorem ikd_9 : ikd Try.prog 9 = none := by kernel_rfl
@[simp] theorem isStr_9 : isStr Try.prog 9 = true := by kernel_rfl
@[simp] theorem isBool_9 : isBool Try.prog 9 = false := by kernel_rfl
@[simp] theorem und_9 : (Try.prog.underlying 9).isSome = true := by kernel_rfl
@[simp] theorem good_9 : good Try.prog 9 = true := by kernel_rfl
@[simp] theorem zrc_9 : zrc Try.prog 9 = some [.sc (.string ⟨#[]⟩)] := by kernel_rfl
@[simp] theorem siz_10 : siz Try.prog 10 = 1 := by kernel_rfl
@[simp] theorem byt_10 : byt Try.prog 10 = 16 := by kernel_rfl
@[simp] theorem ags_10 : ags Try.prog 10 = false := by kernel_rfl
@[simp] theorem elm_10 : elm Try.prog 10 = none := by kernel_rfl
@[simp] theorem arr_10 : arr Try.prog 10 = none := by kernel_rfl
@[simp] theorem ikd_10 : ikd Try.prog 10 = none := by kernel_rfl
@[simp] theorem isStr_10 : isStr Try.prog 10 = true := by kernel_rfl
@[simp] theorem isBool_10 : isBool Try.prog 10 = false := by kernel_rfl
@[simp] theorem und_10 : (Try.prog.underlying 10).isSome = true := by kernel_rfl
@[simp] theorem good_10 : good Try.prog 10 = true := by kernel_rfl
@[simp] theorem zrc_10 : zrc Try.prog 10 = some [.sc (.string ⟨#[]⟩)] := by kernel_rfl
@[simp] theorem siz_11 : siz Try.prog 11 = 1 := by kernel_rfl
@[simp] theorem byt_11 : byt Try.prog 11 = 16 := by kernel_rfl
@[simp] theorem ags_11 : ags Try.prog 11 = false := by kernel_rfl
@[simp] theorem elm_11 : elm Try.prog 11 = none := by kernel_rfl
@[simp] theorem arr_11 : arr Try.prog 11 = none := by kernel_rfl
@[simp] theorem ikd_11 : ikd Try.prog 11 = none := by kernel_rfl
@[simp] theorem isStr_11 : isStr Try.prog 11 = true := by kernel_rfl
@[simp] theorem isBool_11 : isBool Try.prog 11 = false := by kernel_rfl
@[simp] theorem und_11 : (Try.prog.underlying 11).isSome = true := by kernel_rfl
@[simp] theorem good_11 : good Try.prog 11 = true := by kernel_rfl
@[simp] theorem zrc_11 : zrc Try.prog 11 = some [.sc (.string ⟨#[]⟩)] := by kernel_rfl
@[simp] theorem siz_12 : siz Try.prog 12 = 1 := by kernel_rfl
@[simp] theorem byt_12 : byt Try.prog 12 = 8 := by kernel_rfl
@[simp] theorem ags_12 : ags Try.prog 12 = false := by kernel_rfl
@[simp] theorem elm_12 : elm Try.prog 12 = none := by kernel_rfl
@[simp] theorem arr_12 : arr Try.prog 12 = none := by kernel_rfl
@[simp] theorem ikd_12 : ikd Try.prog 12 = some .u64 := by kernel_rfl
@[simp] theorem isStr_12 : isStr Try.prog 12 = false := by kernel_rfl
@[simp] theorem isBool_12 : isBool Try.prog 12 = false := by kernel_rfl
@[simp] theorem und_12 : (Try.prog.underlying 12).isSome = true := by kernel_rfl
@[simp] theorem good_12 : good Try.prog 12 = true := by kernel_rfl
@[simp] theorem zrc_12 : zrc Try.prog 12 = some [.sc (.int .u64 0)] := by kernel_rfl
@[simp] theorem siz_13 : siz Try.prog 13 = 2 := by kernel_rfl
@[simp] theorem byt_13 : byt Try.prog 13 = 24 := by kernel_rfl
@[simp] theorem ags_13 : ags Try.prog 13 = true := by kernel_rfl
@[simp] theorem elm_13 : elm Try.prog 13 = none := by kernel_rfl
@[simp] theorem arr_13 : arr Try.prog 13 = none := by kernel_rfl
@[simp] theorem ikd_13 : ikd Try.prog 13 = none := by kernel_rfl
@[simp] theorem isStr_13 : isStr Try.prog 13 = false := by kernel_rfl
@[simp] theorem isBool_13 : isBool Try.prog 13 = false := by kernel_rfl
@[simp] theorem und_13 : (Try.prog.underlying 13).isSome = true := by kernel_rfl
@[simp] theorem good_13 : good Try.prog 13 = true := by kernel_rfl
@[simp] theorem zrc_13 : zrc Try.prog 13 = some [.sc (.string ⟨#[]⟩), .sc (.int .u64 0)] := by kernel_rfl
@[simp] theorem fld_13_0 : fld Try.prog 13 0 = some (0, 9) := by kernel_rfl
@[simp] theorem fld_13_1 : fld Try.prog 13 1 = some (1, 12) := by kernel_rfl
@[simp] theorem plc_13 : plc Try.prog 13 = some [(0, 1), (1, 1)] := by kernel_rfl
@[simp] theorem egt_13 : Try.prog.eqGuardType Try.prog.depth 13 = false := by kernel_rfl
@[simp] theorem siz_14 : siz Try.prog 14 = 2 := by kernel_rfl
@[simp] theorem byt_14 : byt Try.prog 14 = 24 := by kernel_rfl
@[simp] theorem ags_14 : ags Try.prog 14 = true := by kernel_rfl
@[simp] theorem elm_14 : elm Try.prog 14 = none := by kernel_rfl
@[simp] theorem arr_14 : arr Try.prog 14 = none := by kernel_rfl
@[simp] theorem ikd_14 : ikd Try.prog 14 = none := by kernel_rfl
@[simp] theorem isStr_14 : isStr Try.prog 14 = false := by kernel_rfl
@[simp] theorem isBool_14 : isBool Try.prog 14 = false := by kernel_rfl
@[simp] theorem und_14 : (Try.prog.underlying 14).isSome = true := by kernel_rfl
@[simp] theorem good_14 : good Try.prog 14 = true := by kernel_rfl
@[simp] theorem zrc_14 : zrc Try.prog 14 = some [.sc (.string ⟨#[]⟩), .sc (.int .u64 0)] := by kernel_rfl
@[simp] theorem fld_14_0 : fld Try.prog 14 0 = some (0, 9) := by kernel_rfl
@[simp] theorem fld_14_1 : fld Try.prog 14 1 = some (1, 12) := by kernel_rfl
@[simp] theorem plc_14 : plc Try.prog 14 = some [(0, 1), (1, 1)] := by kernel_rfl
@[simp] theorem egt_14 : Try.prog.eqGuardType Try.prog.depth 14 = false := by kernel_rfl
@[simp] theorem siz_15 : siz Try.prog 15 = 1 := by kernel_rfl
@[simp] theorem byt_15 : byt Try.prog 15 = 8 := by kernel_rfl
@[simp] theorem ags_15 : ags Try.prog 15 = false := by kernel_rfl
@[simp] theorem elm_15 : elm Try.prog 15 = none := by kernel_rfl
@[simp] theorem arr_15 : arr Try.prog 15 = none := by kernel_rfl
@[simp] theorem ikd_15 : ikd Try.prog 15 = none := by kernel_rfl
@[simp] theorem isStr_15 : isStr Try.prog 15 = false := by kernel_rfl
@[simp] theorem isBool_15 : isBool Try.prog 15 = false := by kernel_rfl
@[simp] theorem und_15 : (Try.prog.underlying 15).isSome = true := by kernel_rfl
@[simp] theorem good_15 : good Try.prog 15 = true := by kernel_rfl
@[simp] theorem zrc_15 : zrc Try.prog 15 = some [.sc (.pointer none)] := by kernel_rfl
@[simp] theorem siz_16 : siz Try.prog 16 = 1 := by kernel_rfl
@[simp] theorem byt_16 : byt Try.prog 16 = 8 := by kernel_rfl
@[simp] theorem ags_16 : ags Try.prog 16 = false := by kernel_rfl
@[simp] theorem elm_16 : elm Try.prog 16 = none := by kernel_rfl
@[simp] theorem arr_16 : arr Try.prog 16 = none := by kernel_rfl
@[simp] theorem ikd_16 : ikd Try.prog 16 = none := by kernel_rfl
@[simp] theorem isStr_16 : isStr Try.prog 16 = false := by kernel_rfl
@[simp] theorem isBool_16 : isBool Try.prog 16 = false := by kernel_rfl
@[simp] theorem und_16 : (Try.prog.underlying 16).isSome = true := by kernel_rfl
@[simp] theorem good_16 : good Try.prog 16 = true := by kernel_rfl
@[simp] theorem zrc_16 : zrc Try.prog 16 = some [.sc (.pointer none)] := by kernel_rfl
@[simp] theorem siz_17 : siz Try.prog 17 = 1 := by kernel_rfl
@[simp] theorem byt_17 : byt Try.prog 17 = 8 := by kernel_rfl
@[simp] theorem ags_17 : ags Try.prog 17 = false := by kernel_rfl
@[simp] theorem elm_17 : elm Try.prog 17 = none := by kernel_rfl
@[simp] theorem arr_17 : arr Try.prog 17 = none := by kernel_rfl
@[simp] theorem ikd_17 : ikd Try.prog 17 = none := by kernel_rfl
@[simp] theorem isStr_17 : isStr Try.prog 17 = false := by kernel_rfl
@[simp] theorem isBool_17 : isBool Try.prog 17 = false := by kernel_rfl
@[simp] theorem und_17 : (Try.prog.underlying 17).isSome = true := by kernel_rfl
@[simp] theorem good_17 : good Try.prog 17 = true := by kernel_rfl
@[simp] theorem zrc_17 : zrc Try.prog 17 = some [.sc (.pointer none)] := by kernel_rfl
@[simp] theorem siz_18 : siz Try.prog 18 = 1 := by kernel_rfl
@[simp] theorem byt_18 : byt Try.prog 18 = 8 := by kernel_rfl
@[simp] theorem ags_18 : ags Try.prog 18 = true := by kernel_rfl
@[simp] theorem elm_18 : elm Try.prog 18 = none := by kernel_rfl
@[simp] theorem arr_18 : arr Try.prog 18 = none := by kernel_rfl
@[simp] theorem ikd_18 : ikd Try.prog 18 = none := by kernel_rfl
@[simp] theorem isStr_18 : isStr Try.prog 18 = false := by kernel_rfl
@[simp] theorem isBool_18 : isBool Try.prog 18 = false := by kernel_rfl
@[simp] theorem und_18 : (Try.prog.underlying 18).isSome = true := by kernel_rfl
@[simp] theorem good_18 : good Try.prog 18 = true := by kernel_rfl
@[simp] theorem zrc_18 : zrc Try.prog 18 = some [.sc (.pointer none)] := by kernel_rfl
@[simp] theorem fld_18_0 : fld Try.prog 18 0 = some (0, 17) := by kernel_rfl
@[simp] theorem plc_18 : plc Try.prog 18 = some [(0, 1)] := by kernel_rfl
@[simp] theorem siz_19 : siz Try.prog 19 = 1 := by kernel_rfl
@[simp] theorem byt_19 : byt Try.prog 19 = 8 := by kernel_rfl
@[simp] theorem ags_19 : ags Try.prog 19 = true := by kernel_rfl
@[simp] theorem elm_19 : elm Try.prog 19 = none := by kernel_rfl
@[simp] theorem arr_19 : arr Try.prog 19 = none := by kernel_rfl
@[simp] theorem ikd_19 : ikd Try.prog 19 = none := by kernel_rfl
@[simp] theorem isStr_19 : isStr Try.prog 19 = false := by kernel_rfl
@[simp] theorem isBool_19 : isBool Try.prog 19 = false := by kernel_rfl
@[simp] theorem und_19 : (Try.prog.underlying 19).isSome = true := by kernel_rfl
@[simp] theorem good_19 : good Try.prog 19 = true := by kernel_rfl
@[simp] theorem zrc_19 : zrc Try.prog 19 = some [.sc (.pointer none)] := by kernel_rfl
@[simp] theorem fld_19_0 : fld Try.prog 19 0 = some (0, 17) := by kernel_rfl
@[simp] theorem plc_19 : plc Try.prog 19 = some [(0, 1)] := by kernel_rfl
@[simp] theorem siz_21 : siz Try.prog 21 = 1 := by kernel_rfl
@[simp] theorem byt_21 : byt Try.prog 21 = 4 := by kernel_rfl
@[simp] theorem ags_21 : ags Try.prog 21 = false := by kernel_rfl
@[simp] theorem elm_21 : elm Try.prog 21 = none := by kernel_rfl
@[simp] theorem arr_21 : arr Try.prog 21 = none := by kernel_rfl
@[simp] theorem ikd_21 : ikd Try.prog 21 = some .i32 := by kernel_rfl
@[simp] theorem isStr_21 : isStr Try.prog 21 = false := by kernel_rfl
@[simp] theorem isBool_21 : isBool Try.prog 21 = false := by kernel_rfl
@[simp] theorem und_21 : (Try.prog.underlying 21).isSome = true := by kernel_rfl
@[simp] theorem good_21 : good Try.prog 21 = true := by kernel_rfl
@[simp] theorem zrc_21 : zrc Try.prog 21 = some [.sc (.int .i32 0)] := by kernel_rfl
@[simp] theorem siz_22 : siz Try.prog 22 = 1 := by kernel_rfl
@[simp] theorem byt_22 : byt Try.prog 22 = 24 := by kernel_rfl
@[simp] theorem ags_22 : ags Try.prog 22 = false := by kernel_rfl
@[simp] theorem elm_22 : elm Try.prog 22 = some 5 := by kernel_rfl
@[simp] theorem arr_22 : arr Try.prog 22 = none := by kernel_rfl
@[simp] theorem ikd_22 : ikd Try.prog 22 = none := by kernel_rfl
@[simp] theorem isStr_22 : isStr Try.prog 22 = false := by kernel_rfl
@[simp] theorem isBool_22 : isBool Try.prog 22 = false := by kernel_rfl
@[simp] theorem und_22 : (Try.prog.underlying 22).isSome = true := by kernel_rfl
@[simp] theorem good_22 : good Try.prog 22 = true := by kernel_rfl
@[simp] theorem zrc_22 : zrc Try.prog 22 = some [.nl] := by kernel_rfl
@[simp] theorem siz_23 : siz Try.prog 23 = 1 := by kernel_rfl
@[simp] theorem byt_23 : byt Try.prog 23 = 2 := by kernel_rfl
@[simp] theorem ags_23 : ags Try.prog 23 = false := by kernel_rfl
@[simp] theorem elm_23 : elm Try.prog 23 = none := by kernel_rfl
@[simp] theorem arr_23 : arr Try.prog 23 = none := by kernel_rfl
@[simp] theorem ikd_23 : ikd Try.prog 23 = some .u16 := by kernel_rfl
@[simp] theorem isStr_23 : isStr Try.prog 23 = false := by kernel_rfl
@[simp] theorem isBool_23 : isBool Try.prog 23 = false := by kernel_rfl
@[simp] theorem und_23 : (Try.prog.underlying 23).isSome = true := by kernel_rfl
@[simp] theorem good_23 : good Try.prog 23 = true := by kernel_rfl
@[simp] theorem zrc_23 : zrc Try.prog 23 = some [.sc (.int .u16 0)] := by kernel_rfl
@[simp] theorem siz_24 : siz Try.prog 24 = 4 := by kernel_rfl
@[simp] theorem byt_24 : byt Try.prog 24 = 4 := by kernel_rfl
@[simp] theorem ags_24 : ags Try.prog 24 = true := by kernel_rfl
@[simp] theorem elm_24 : elm Try.prog 24 = none := by kernel_rfl
@[simp] theorem arr_24 : arr Try.prog 24 = some (4, 5) := by kernel_rfl
@[simp] theorem ikd_24 : ikd Try.prog 24 = none := by kernel_rfl
@[simp] theorem isStr_24 : isStr Try.prog 24 = false := by kernel_rfl
@[simp] theorem isBool_24 : isBool Try.prog 24 = false := by kernel_rfl
@[simp] theorem und_24 : (Try.prog.underlying 24).isSome = true := by kernel_rfl
@[simp] theorem good_24 : good Try.prog 24 = true := by kernel_rfl
@[simp] theorem zrc_24 : zrc Try.prog 24 = some [.sc (.int .u8 0), .sc (.int .u8 0), .sc (.int .u8 0), .sc (.int .u8 0)] := by kernel_rfl
@[simp] theorem lks_24 : lks Try.prog 6 24 = some [.i, .i, .i, .i] := by kernel_rfl
@[simp] theorem egt_24 : Try.prog.eqGuardType Try.prog.depth 24 = false := by kernel_rfl
@[simp] theorem plc_24 : plc Try.prog 24 = some [(0, 1), (1, 1), (2, 1), (3, 1)] := by kernel_rfl
@[simp] theorem siz_25 : siz Try.prog 25 = 6 := by kernel_rfl
@[simp] theorem byt_25 : byt Try.prog 25 = 16 := by kernel_rfl
@[simp] theorem ags_25 : ags Try.prog 25 = true := by kernel_rfl
@[simp] theorem elm_25 : elm Try.prog 25 = none := by kernel_rfl
@[simp] theorem arr_25 : arr Try.prog 25 = none := by kernel_rfl
@[simp] theorem ikd_25 : ikd Try.prog 25 = none := by kernel_rfl
@[simp] theorem isStr_25 : isStr Try.prog 25 = false := by kernel_rfl
@[simp] theorem isBool_25 : isBool Try.prog 25 = false := by kernel_rfl
@[simp] theorem und_25 : (Try.prog.underlying 25).isSome = true := by kernel_rfl
@[simp] theorem good_25 : good Try.prog 25 = true := by kernel_rfl
@[simp] theorem zrc_25 : zrc Try.prog 25 = some [.sc (.int .i64 0), .sc (.int .u16 0), .sc (.int .u8 0), .sc (.int .u8 0), .sc (.int .u8 0), .sc (.int .u8 0)] := by kernel_rfl
@[simp] theorem fld_25_0 : fld Try.prog 25 0 = some (0, 3) := by kernel_rfl
@[simp] theorem fld_25_1 : fld Try.prog 25 1 = some (1, 23) := by kernel_rfl
@[simp] theorem fld_25_2 : fld Try.prog 25 2 = some (2, 24) := by kernel_rfl
@[simp] theorem plc_25 : plc Try.prog 25 = some [(0, 1), (1, 1), (2, 4)] := by kernel_rfl
@[simp] theorem lks_25 : lks Try.prog 6 25 = some [.i, .i, .i, .i, .i, .i] := by kernel_rfl
@[simp] theorem egt_25 : Try.prog.eqGuardType Try.prog.depth 25 = false := by kernel_rfl
@[simp] theorem siz_26 : siz Try.prog 26 = 6 := by kernel_rfl
@[simp] theorem byt_26 : byt Try.prog 26 = 16 := by kernel_rfl
@[simp] theorem ags_26 : ags Try.prog 26 = true := by kernel_rfl
@[simp] theorem elm_26 : elm Try.prog 26 = none := by kernel_rfl
@[simp] theorem arr_26 : arr Try.prog 26 = none := by kernel_rfl
@[simp] theorem ikd_26 : ikd Try.prog 26 = none := by kernel_rfl
@[simp] theorem isStr_26 : isStr Try.prog 26 = false := by kernel_rfl
@[simp] theorem isBool_26 : isBool Try.prog 26 = false := by kernel_rfl
@[simp] theorem und_26 : (Try.prog.underlying 26).isSome = true := by kernel_rfl
@[simp] theorem good_26 : good Try.prog 26 = true := by kernel_rfl
@[simp] theorem zrc_26 : zrc Try.prog 26 = some [.sc (.int .i64 0), .sc (.int .u16 0), .sc (.int .u8 0), .sc (.int .u8 0), .sc (.int .u8 0), .sc (.int .u8 0)] := by kernel_rfl
@[simp] theorem fld_26_0 : fld Try.prog 26 0 = some (0, 3) := by kernel_rfl
@[simp] theorem fld_26_1 : fld Try.prog 26 1 = some (1, 23) := by kernel_rfl
@[simp] theorem fld_26_2 : fld Try.prog 26 2 = some (2, 24) := by kernel_rfl
@[simp] theorem plc_26 : plc Try.prog 26 = some [(0, 1), (1, 1), (2, 4)] := by kernel_rfl
@[simp] theorem lks_26 : lks Try.prog 6 26 = some [.i, .i, .i, .i, .i, .i] := by kernel_rfl
@[simp] theorem egt_26 : Try.prog.eqGuardType Try.prog.depth 26 = false := by kernel_rfl
@[simp] theorem siz_30 : siz Try.prog 30 = 6 := by kernel_rfl
@[simp] theorem byt_30 : byt Try.prog 30 = 16 := by kernel_rfl
@[simp] theorem ags_30 : ags Try.prog 30 = true := by kernel_rfl
@[simp] theorem elm_30 : elm Try.prog 30 = none := by kernel_rfl
@[simp] theorem arr_30 : arr Try.prog 30 = none := by kernel_rfl
@[simp] theorem ikd_30 : ikd Try.prog 30 = none := by kernel_rfl
@[simp] theorem isStr_30 : isStr Try.prog 30 = false := by kernel_rfl
@[simp] theorem isBool_30 : isBool Try.prog 30 = false := by kernel_rfl
@[simp] theorem und_30 : (Try.prog.underlying 30).isSome = true := by kernel_rfl
@[simp] theorem good_30 : good Try.prog 30 = true := by kernel_rfl
@[simp] theorem zrc_30 : zrc Try.prog 30 = some [.sc (.int .i64 0), .sc (.int .u16 0), .sc (.int .u8 0), .sc (.int .u8 0), .sc (.int .u8 0), .sc (.int .u8 0)] := by kernel_rfl
@[simp] theorem fld_30_0 : fld Try.prog 30 0 = some (0, 3) := by kernel_rfl
@[simp] theorem fld_30_1 : fld Try.prog 30 1 = some (1, 23) := by kernel_rfl
@[simp] theorem fld_30_2 : fld Try.prog 30 2 = some (2, 24) := by kernel_rfl
@[simp] theorem plc_30 : plc Try.prog 30 = some [(0, 1), (1, 1), (2, 4)] := by kernel_rfl
@[simp] theorem lks_30 : lks Try.prog 6 30 = some [.i, .i, .i, .i, .i, .i] := by kernel_rfl
@[simp] theorem egt_30 : Try.prog.eqGuardType Try.prog.depth 30 = false := by kernel_rfl
@[simp] theorem siz_35 : siz Try.prog 35 = 1 := by kernel_rfl
@[simp] theorem byt_35 : byt Try.prog 35 = 24 := by kernel_rfl
@[simp] theorem ags_35 : ags Try.prog 35 = false := by kernel_rfl
@[simp] theorem elm_35 : elm Try.prog 35 = some 22 := by kernel_rfl
@[simp] theorem arr_35 : arr Try.prog 35 = none := by kernel_rfl
@[simp] theorem ikd_35 : ikd Try.prog 35 = none := by kernel_rfl
@[simp] theorem isStr_35 : isStr Try.prog 35 = false := by kernel_rfl
@[simp] theorem isBool_35 : isBool Try.prog 35 = false := by kernel_rfl
@[simp] theorem und_35 : (Try.prog.underlying 35).isSome = true := by kernel_rfl
@[simp] theorem good_35 : good Try.prog 35 = true := by kernel_rfl
@[simp] theorem zrc_35 : zrc Try.prog 35 = some [.nl] := by kernel_rfl
@[simp] theorem siz_36 : siz Try.prog 36 = 4 := by kernel_rfl
@[simp] theorem byt_36 : byt Try.prog 36 = 48 := by kernel_rfl
@[simp] theorem ags_36 : ags Try.prog 36 = true := by kernel_rfl
@[simp] theorem elm_36 : elm Try.prog 36 = none := by kernel_rfl
@[simp] theorem arr_36 : arr Try.prog 36 = none := by kernel_rfl
@[simp] theorem ikd_36 : ikd Try.prog 36 = none := by kernel_rfl
@[simp] theorem isStr_36 : isStr Try.prog 36 = false := by kernel_rfl
@[simp] theorem isBool_36 : isBool Try.prog 36 = false := by kernel_rfl
@[simp] theorem und_36 : (Try.prog.underlying 36).isSome = true := by kernel_rfl
@[simp] theorem good_36 : good Try.prog 36 = true := by kernel_rfl
@[simp] theorem zrc_36 : zrc Try.prog 36 = some [.sc (.int .i64 0), .nl, .sc (.int .i64 0), .sc (.int .i64 0)] := by kernel_rfl
@[simp] theorem fld_36_0 : fld Try.prog 36 0 = some (0, 3) := by kernel_rfl
@[simp] theorem fld_36_1 : fld Try.prog 36 1 = some (1, 35) := by kernel_rfl
@[simp] theorem fld_36_2 : fld Try.prog 36 2 = some (2, 3) := by kernel_rfl
@[simp] theorem fld_36_3 : fld Try.prog 36 3 = some (3, 3) := by kernel_rfl
@[simp] theorem plc_36 : plc Try.prog 36 = some [(0, 1), (1, 1), (2, 1), (3, 1)] := by kernel_rfl
@[simp] theorem siz_37 : siz Try.prog 37 = 4 := by kernel_rfl
@[simp] theorem byt_37 : byt Try.prog 37 = 48 := by kernel_rfl
@[simp] theorem ags_37 : ags Try.prog 37 = true := by kernel_rfl
@[simp] theorem elm_37 : elm Try.prog 37 = none := by kernel_rfl
@[simp] theorem arr_37 : arr Try.prog 37 = none := by kernel_rfl
@[simp] theorem ikd_37 : ikd Try.prog 37 = none := by kernel_rfl
@[simp] theorem isStr_37 : isStr Try.prog 37 = false := by kernel_rfl
@[simp] theorem isBool_37 : isBool Try.prog 37 = false := by kernel_rfl
@[simp] theorem und_37 : (Try.prog.underlying 37).isSome = true := by kernel_rfl
@[simp] theorem good_37 : good Try.prog 37 = true := by kernel_rfl
@[simp] theorem zrc_37 : zrc Try.prog 37 = some [.sc (.int .i64 0), .nl, .sc (.int .i64 0), .sc (.int .i64 0)] := by kernel_rfl
@[simp] theorem fld_37_0 : fld Try.prog 37 0 = some (0, 3) := by kernel_rfl
@[simp] theorem fld_37_1 : fld Try.prog 37 1 = some (1, 35) := by kernel_rfl
@[simp] theorem fld_37_2 : fld Try.prog 37 2 = some (2, 3) := by kernel_rfl
@[simp] theorem fld_37_3 : fld Try.prog 37 3 = some (3, 3) := by kernel_rfl
@[simp] theorem plc_37 : plc Try.prog 37 = some [(0, 1), (1, 1), (2, 1), (3, 1)] := by kernel_rfl
@[simp] theorem siz_38 : siz Try.prog 38 = 1 := by kernel_rfl
@[simp] theorem byt_38 : byt Try.prog 38 = 8 := by kernel_rfl
@[simp] theorem ags_38 : ags Try.prog 38 = false := by kernel_rfl
@[simp] theorem elm_38 : elm Try.prog 38 = none := by kernel_rfl
@[simp] theorem arr_38 : arr Try.prog 38 = none := by kernel_rfl
@[simp] theorem ikd_38 : ikd Try.prog 38 = some .i64 := by kernel_rfl
@[simp] theorem isStr_38 : isStr Try.prog 38 = false := by kernel_rfl
@[simp] theorem isBool_38 : isBool Try.prog 38 = false := by kernel_rfl
@[simp] theorem und_38 : (Try.prog.underlying 38).isSome = true := by kernel_rfl
@[simp] theorem good_38 : good Try.prog 38 = true := by kernel_rfl
@[simp] theorem zrc_38 : zrc Try.prog 38 = some [.sc (.int .i64 0)] := by kernel_rfl
@[simp] theorem siz_48 : siz Try.prog 48 = 1 := by kernel_rfl
@[simp] theorem byt_48 : byt Try.prog 48 = 24 := by kernel_rfl
@[simp] theorem ags_48 : ags Try.prog 48 = false := by kernel_rfl
@[simp] theorem elm_48 : elm Try.prog 48 = some 50 := by kernel_rfl
@[simp] theorem arr_48 : arr Try.prog 48 = none := by kernel_rfl
@[simp] theorem ikd_48 : ikd Try.prog 48 = none := by kernel_rfl
@[simp] theorem isStr_48 : isStr Try.prog 48 = false := by kernel_rfl
@[simp] theorem isBool_48 : isBool Try.prog 48 = false := by kernel_rfl
@[simp] theorem und_48 : (Try.prog.underlying 48).isSome = true := by kernel_rfl
@[simp] theorem good_48 : good Try.prog 48 = true := by kernel_rfl
@[simp] theorem zrc_48 : zrc Try.prog 48 = some [.nl] := by kernel_rfl
@[simp] theorem siz_49 : siz Try.prog 49 = 8 := by kernel_rfl
@[simp] theorem byt_49 : byt Try.prog 49 = 48 := by kernel_rfl
@[simp] theorem ags_49 : ags Try.prog 49 = true := by kernel_rfl
@[simp] theorem elm_49 : elm Try.prog 49 = none := by kernel_rfl
@[simp] theorem arr_49 : arr Try.prog 49 = none := by kernel_rfl
@[simp] theorem ikd_49 : ikd Try.prog 49 = none := by kernel_rfl
@[simp] theorem isStr_49 : isStr Try.prog 49 = false := by kernel_rfl
@[simp] theorem isBool_49 : isBool Try.prog 49 = false := by kernel_rfl
@[simp] theorem und_49 : (Try.prog.underlying 49).isSome = true := by kernel_rfl
@[simp] theorem good_49 : good Try.prog 49 = true := by kernel_rfl
@[simp] theorem zrc_49 : zrc Try.prog 49 = some [.sc (.bool false), .nl, .sc (.int .i64 0), .sc (.int .u16 0), .sc (.int .u8 0), .sc (.int .u8 0), .sc (.int .u8 0), .sc (.int .u8 0)] := by kernel_rfl
@[simp] theorem fld_49_0 : fld Try.prog 49 0 = some (0, 4) := by kernel_rfl
@[simp] theorem fld_49_1 : fld Try.prog 49 1 = some (1, 22) := by kernel_rfl
@[simp] theorem fld_49_2 : fld Try.prog 49 2 = some (2, 26) := by kernel_rfl
@[simp] theorem plc_49 : plc Try.prog 49 = some [(0, 1), (1, 1), (2, 6)] := by kernel_rfl
@[simp] theorem siz_50 : siz Try.prog 50 = 8 := by kernel_rfl
@[simp] theorem byt_50 : byt Try.prog 50 = 48 := by kernel_rfl
@[simp] theorem ags_50 : ags Try.prog 50 = true := by kernel_rfl
@[simp] theorem elm_50 : elm Try.prog 50 = none := by kernel_rfl
@[simp] theorem arr_50 : arr Try.prog 50 = none := by kernel_rfl
@[simp] theorem ikd_50 : ikd Try.prog 50 = none := by kernel_rfl
@[simp] theorem isStr_50 : isStr Try.prog 50 = false := by kernel_rfl
@[simp] theorem isBool_50 : isBool Try.prog 50 = false := by kernel_rfl
@[simp] theorem und_50 : (Try.prog.underlying 50).isSome = true := by kernel_rfl
@[simp] theorem good_50 : good Try.prog 50 = true := by kernel_rfl
@[simp] theorem zrc_50 : zrc Try.prog 50 = some [.sc (.bool false), .nl, .sc (.int .i64 0), .sc (.int .u16 0), .sc (.int .u8 0), .sc (.int .u8 0), .sc (.int .u8 0), .sc (.int .u8 0)] := by kernel_rfl
@[simp] theorem fld_50_0 : fld Try.prog 50 0 = some (0, 4) := by kernel_rfl
@[simp] theorem fld_50_1 : fld Try.prog 50 1 = some (1, 22) := by kernel_rfl
@[simp] theorem fld_50_2 : fld Try.prog 50 2 = some (2, 26) := by kernel_rfl
@[simp] theorem plc_50 : plc Try.prog 50 = some [(0, 1), (1, 1), (2, 6)] := by kernel_rfl
@[simp] theorem siz_53 : siz Try.prog 53 = 1 := by kernel_rfl
@[simp] theorem byt_53 : byt Try.prog 53 = 8 := by kernel_rfl
@[simp] theorem ags_53 : ags Try.prog 53 = false := by kernel_rfl
@[simp] theorem elm_53 : elm Try.prog 53 = none := by kernel_rfl
@[simp] theorem arr_53 : arr Try.prog 53 = none := by kernel_rfl
@[simp] theorem ikd_53 : ikd Try.prog 53 = none := by kernel_rfl
@[simp] theorem isStr_53 : isStr Try.prog 53 = false := by kernel_rfl
@[simp] theorem isBool_53 : isBool Try.prog 53 = false := by kernel_rfl
@[simp] theorem und_53 : (Try.prog.underlying 53).isSome = true := by kernel_rfl
@[simp] theorem good_53 : good Try.prog 53 = true := by kernel_rfl
@[simp] theorem zrc_53 : zrc Try.prog 53 = some [.sc (.map none)] := by kernel_rfl
@[simp] theorem siz_54 : siz Try.prog 54 = 3 := by kernel_rfl
@[simp] theorem byt_54 : byt Try.prog 54 = 24 := by kernel_rfl
@[simp] theorem ags_54 : ags Try.prog 54 = true := by kernel_rfl
@[simp] theorem elm_54 : elm Try.prog 54 = none := by kernel_rfl
@[simp] theorem arr_54 : arr Try.prog 54 = none := by kernel_rfl
@[simp] theorem ikd_54 : ikd Try.prog 54 = none := by kernel_rfl
@[simp] theorem isStr_54 : isStr Try.prog 54 = false := by kernel_rfl
@[simp] theorem isBool_54 : isBool Try.prog 54 = false := by kernel_rfl
@[simp] theorem und_54 : (Try.prog.underlying 54).isSome = true := by kernel_rfl
@[simp] theorem good_54 : good Try.prog 54 = true := by kernel_rfl
@[simp] theorem zrc_54 : zrc Try.prog 54 = some [.sc (.int .i64 0), .sc (.int .i64 0), .sc (.map none)] := by kernel_rfl
@[simp] theorem fld_54_0 : fld Try.prog 54 0 = some (0, 2) := by kernel_rfl
@[simp] theorem fld_54_1 : fld Try.prog 54 1 = some (1, 2) := by kernel_rfl
@[simp] theorem fld_54_2 : fld Try.prog 54 2 = some (2, 53) := by kernel_rfl
@[simp] theorem plc_54 : plc Try.prog 54 = some [(0, 1), (1, 1), (2, 1)] := by kernel_rfl
@[simp] theorem siz_55 : siz Try.prog 55 = 3 := by kernel_rfl
@[simp] theorem byt_55 : byt Try.prog 55 = 24 := by kernel_rfl
@[simp] theorem ags_55 : ags Try.prog 55 = true := by kernel_rfl
@[simp] theorem elm_55 : elm Try.prog 55 = none := by kernel_rfl
@[simp] theorem arr_55 : arr Try.prog 55 = none := by kernel_rfl
@[simp] theorem ikd_55 : ikd Try.prog 55 = none := by kernel_rfl
@[simp] theorem isStr_55 : isStr Try.prog 55 = false := by kernel_rfl
@[simp] theorem isBool_55 : isBool Try.prog 55 = false := by kernel_rfl
@[simp] theorem und_55 : (Try.prog.underlying 55).isSome = true := by kernel_rfl
@[simp] theorem good_55 : good Try.prog 55 = true := by kernel_rfl
@[simp] theorem zrc_55 : zrc Try.prog 55 = some [.sc (.int .i64 0), .sc (.int .i64 0), .sc (.map none)] := by kernel_rfl
@[simp] theorem fld_55_0 : fld Try.prog 55 0 = some (0, 2) := by kernel_rfl
@[simp] theorem fld_55_1 : fld Try.prog 55 1 = some (1, 2) := by kernel_rfl
@[simp] theorem fld_55_2 : fld Try.prog 55 2 = some (2, 53) := by kernel_rfl
@[simp] theorem plc_55 : plc Try.prog 55 = some [(0, 1), (1, 1), (2, 1)] := by kernel_rfl
@[simp] theorem siz_64 : siz Try.prog 64 = 1 := by kernel_rfl
@[simp] theorem byt_64 : byt Try.prog 64 = 24 := by kernel_rfl
@[simp] theorem ags_64 : ags Try.prog 64 = false := by kernel_rfl
@[simp] theorem elm_64 : elm Try.prog 64 = some 81 := by kernel_rfl
@[simp] theorem arr_64 : arr Try.prog 64 = none := by kernel_rfl
@[simp] theorem ikd_64 : ikd Try.prog 64 = none := by kernel_rfl
@[simp] theorem isStr_64 : isStr Try.prog 64 = false := by kernel_rfl
@[simp] theorem isBool_64 : isBool Try.prog 64 = false := by kernel_rfl
@[simp] theorem und_64 : (Try.prog.underlying 64).isSome = true := by kernel_rfl
@[simp] theorem good_64 : good Try.prog 64 = true := by kernel_rfl
@[simp] theorem zrc_64 : zrc Try.prog 64 = some [.nl] := by kernel_rfl
@[simp] theorem siz_65 : siz Try.prog 65 = 1 := by kernel_rfl
@[simp] theorem byt_65 : byt Try.prog 65 = 24 := by kernel_rfl
@[simp] theorem ags_65 : ags Try.prog 65 = false := by kernel_rfl
@[simp] theorem elm_65 : elm Try.prog 65 = some 85 := by kernel_rfl
@[simp] theorem arr_65 : arr Try.prog 65 = none := by kernel_rfl
@[simp] theorem ikd_65 : ikd Try.prog 65 = none := by kernel_rfl
@[simp] theorem isStr_65 : isStr Try.prog 65 = false := by kernel_rfl
@[simp] theorem isBool_65 : isBool Try.prog 65 = false := by kernel_rfl
@[simp] theorem und_65 : (Try.prog.underlying 65).isSome = true := by kernel_rfl
@[simp] theorem good_65 : good Try.prog 65 = true := by kernel_rfl
@[simp] theorem zrc_65 : zrc Try.prog 65 = some [.nl] := by kernel_rfl
@[simp] theorem siz_66 : siz Try.prog 66 = 1 := by kernel_rfl
@[simp] theorem byt_66 : byt Try.prog 66 = 24 := by kernel_rfl
@[simp] theorem ags_66 : ags Try.prog 66 = true := by kernel_rfl
@[simp] theorem elm_66 : elm Try.prog 66 = none := by kernel_rfl
@[simp] theorem arr_66 : arr Try.prog 66 = none := by kernel_rfl
@[simp] theorem ikd_66 : ikd Try.prog 66 = none := by kernel_rfl
@[simp] theorem isStr_66 : isStr Try.prog 66 = false := by kernel_rfl
@[simp] theorem isBool_66 : isBool Try.prog 66 = false := by kernel_rfl
@[simp] theorem und_66 : (Try.prog.underlying 66).isSome = true := by kernel_rfl
@[simp] theorem good_66 : good Try.prog 66 = true := by kernel_rfl
@[simp] theorem zrc_66 : zrc Try.prog 66 = some [.nl] := by kernel_rfl
@[simp] theorem fld_66_0 : fld Try.prog 66 0 = some (0, 65) := by kernel_rfl
@[simp] theorem plc_66 : plc Try.prog 66 = some [(0, 1)] := by kernel_rfl
@[simp] theorem siz_67 : siz Try.prog 67 = 1 := by kernel_rfl
@[simp] theorem byt_67 : byt Try.prog 67 = 24 := by kernel_rfl
@[simp] theorem ags_67 : ags Try.prog 67 = true := by kernel_rfl
@[simp] theorem elm_67 : elm Try.prog 67 = none := by kernel_rfl
@[simp] theorem arr_67 : arr Try.prog 67 = none := by kernel_rfl
@[simp] theorem ikd_67 : ikd Try.prog 67 = none := by kernel_rfl
@[simp] theorem isStr_67 : isStr Try.prog 67 = false := by kernel_rfl
@[simp] theorem isBool_67 : isBool Try.prog 67 = false := by kernel_rfl
@[simp] theorem und_67 : (Try.prog.underlying 67).isSome = true := by kernel_rfl
@[simp] theorem good_67 : good Try.prog 67 = true := by kernel_rfl
@[simp] theorem zrc_67 : zrc Try.prog 67 = some [.nl] := by kernel_rfl
@[simp] theorem fld_67_0 : fld Try.prog 67 0 = some (0, 65) := by kernel_rfl
@[simp] theorem plc_67 : plc Try.prog 67 = some [(0, 1)] := by kernel_rfl
@[simp] theorem siz_68 : siz Try.prog 68 = 2 := by kernel_rfl
@[simp] theorem byt_68 : byt Try.prog 68 = 32 := by kernel_rfl
@[simp] theorem ags_68 : ags Try.prog 68 = true := by kernel_rfl
@[simp] theorem elm_68 : elm Try.prog 68 = none := by kernel_rfl
@[simp] theorem arr_68 : arr Try.prog 68 = none := by kernel_rfl
@[simp] theorem ikd_68 : ikd Try.prog 68 = none := by kernel_rfl
@[simp] theorem isStr_68 : isStr Try.prog 68 = false := by kernel_rfl
@[simp] theorem isBool_68 : isBool Try.prog 68 = false := by kernel_rfl
@[simp] theorem und_68 : (Try.prog.underlying 68).isSome = true := by kernel_rfl
@[simp] theorem good_68 : good Try.prog 68 = true := by kernel_rfl
@[simp] theorem zrc_68 : zrc Try.prog 68 = some [.nl, .sc (.int .i64 0)] := by kernel_rfl
@[simp] theorem fld_68_0 : fld Try.prog 68 0 = some (0, 64) := by kernel_rfl
@[simp] theorem fld_68_1 : fld Try.prog 68 1 = some (1, 2) := by kernel_rfl
@[simp] theorem plc_68 : plc Try.prog 68 = some [(0, 1), (1, 1)] := by kernel_rfl
@[simp] theorem siz_69 : siz Try.prog 69 = 2 := by kernel_rfl
@[simp] theorem byt_69 : byt Try.prog 69 = 32 := by kernel_rfl
@[simp] theorem ags_69 : ags Try.prog 69 = true := by kernel_rfl
@[simp] theorem elm_69 : elm Try.prog 69 = none := by kernel_rfl
@[simp] theorem arr_69 : arr Try.prog 69 = none := by kernel_rfl
@[simp] theorem ikd_69 : ikd Try.prog 69 = none := by kernel_rfl
@[simp] theorem isStr_69 : isStr Try.prog 69 = false := by kernel_rfl
@[simp] theorem isBool_69 : isBool Try.prog 69 = false := by kernel_rfl
@[simp] theorem und_69 : (Try.prog.underlying 69).isSome = true := by kernel_rfl
@[simp] theorem good_69 : good Try.prog 69 = true := by kernel_rfl
@[simp] theorem zrc_69 : zrc Try.prog 69 = some [.nl, .sc (.int .i64 0)] := by kernel_rfl
@[simp] theorem fld_69_0 : fld Try.prog 69 0 = some (0, 64) := by kernel_rfl
@[simp] theorem fld_69_1 : fld Try.prog 69 1 = some (1, 2) := by kernel_rfl
@[simp] theorem plc_69 : plc Try.prog 69 = some [(0, 1), (1, 1)] := by kernel_rfl
@[simp] theorem siz_80 : siz Try.prog 80 = 2 := by kernel_rfl
@[simp] theorem byt_80 : byt Try.prog 80 = 16 := by kernel_rfl
@[simp] theorem ags_80 : ags Try.prog 80 = true := by kernel_rfl
@[simp] theorem elm_80 : elm Try.prog 80 = none := by kernel_rfl
@[simp] theorem arr_80 : arr Try.prog 80 = none := by kernel_rfl
@[simp] theorem ikd_80 : ikd Try.prog 80 = none := by kernel_rfl
@[simp] theorem isStr_80 : isStr Try.prog 80 = false := by kernel_rfl
@[simp] theorem isBool_80 : isBool Try.prog 80 = false := by kernel_rfl
@[simp] theorem und_80 : (Try.prog.underlying 80).isSome = true := by kernel_rfl
@[simp] theorem good_80 : good Try.prog 80 = true := by kernel_rfl
@[simp] theorem zrc_80 : zrc Try.prog 80 = some [.sc (.int .i64 0), .sc (.int .i64 0)] := by kernel_rfl
@[simp] theorem fld_80_0 : fld Try.prog 80 0 = some (0, 2) := by kernel_rfl
@[simp] theorem fld_80_1 : fld Try.prog 80 1 = some (1, 2) := by kernel_rfl
@[simp] theorem plc_80 : plc Try.prog 80 = some [(0, 1), (1, 1)] := by kernel_rfl
@[simp] theorem lks_80 : lks Try.prog 6 80 = some [.i, .i] := by kernel_rfl
@[simp] theorem egt_80 : Try.prog.eqGuardType Try.prog.depth 80 = false := by kernel_rfl
@[simp] theorem siz_81 : siz Try.prog 81 = 2 := by kernel_rfl
@[simp] theorem byt_81 : byt Try.prog 81 = 16 := by kernel_rfl
@[simp] theorem ags_81 : ags Try.prog 81 = true := by kernel_rfl
@[simp] theorem elm_81 : elm Try.prog 81 = none := by kernel_rfl
@[simp] theorem arr_81 : arr Try.prog 81 = none := by kernel_rfl
@[simp] theorem ikd_81 : ikd Try.prog 81 = none := by kernel_rfl
@[simp] theorem isStr_81 : isStr Try.prog 81 = false := by kernel_rfl
@[simp] theorem isBool_81 : isBool Try.prog 81 = false := by kernel_rfl
@[simp] theorem und_81 : (Try.prog.underlying 81).isSome = true := by kernel_rfl
@[simp] theorem good_81 : good Try.prog 81 = true := by kernel_rfl
@[simp] theorem zrc_81 : zrc Try.prog 81 = some [.sc (.int .i64 0), .sc (.int .i64 0)] := by kernel_rfl
@[simp] theorem fld_81_0 : fld Try.prog 81 0 = some (0, 2) := by kernel_rfl
@[simp] theorem fld_81_1 : fld Try.prog 81 1 = some (1, 2) := by kernel_rfl
@[simp] theorem plc_81 : plc Try.prog 81 = some [(0, 1), (1, 1)] := by kernel_rfl
@[simp] theorem lks_81 : lks Try.prog 6 81 = some [.i, .i] := by kernel_rfl
@[simp] theorem egt_81 : Try.prog.eqGuardType Try.prog.depth 81 = false := by kernel_rfl
@[simp] theorem siz_85 : siz Try.prog 85 = 2 := by kernel_rfl
@[simp] theorem byt_85 : byt Try.prog 85 = 16 := by kernel_rfl
@[simp] theorem ags_85 : ags Try.prog 85 = true := by kernel_rfl
@[simp] theorem elm_85 : elm Try.prog 85 = none := by kernel_rfl
@[simp] theorem arr_85 : arr Try.prog 85 = none := by kernel_rfl
@[simp] theorem ikd_85 : ikd Try.prog 85 = none := by kernel_rfl
@[simp] theorem isStr_85 : isStr Try.prog 85 = false := by kernel_rfl
@[simp] theorem isBool_85 : isBool Try.prog 85 = false := by kernel_rfl
@[simp] theorem und_85 : (Try.prog.underlying 85).isSome = true := by kernel_rfl
@[simp] theorem good_85 : good Try.prog 85 = true := by kernel_rfl
@[simp] theorem zrc_85 : zrc Try.prog 85 = some [.sc (.int .i64 0), .sc (.int .i64 0)] := by kernel_rfl
@[simp] theorem fld_85_0 : fld Try.prog 85 0 = some (0, 2) := by kernel_rfl
@[simp] theorem fld_85_1 : fld Try.prog 85 1 = some (1, 2) := by kernel_rfl
@[simp] theorem plc_85 : plc Try.prog 85 = some [(0, 1), (1, 1)] := by kernel_rfl
@[simp] theorem lks_85 : lks Try.prog 6 85 = some [.i, .i] := by kernel_rfl
@[simp] theorem egt_85 : Try.prog.eqGuardType Try.prog.depth 85 = false := by kernel_rfl
@[simp] theorem siz_93 : siz Try.prog 93 = 3 := by kernel_rfl
@[simp] theorem byt_93 : byt Try.prog 93 = 56 := by kernel_rfl
@[simp] theorem ags_93 : ags Try.prog 93 = true := by kernel_rfl
@[simp] theorem elm_93 : elm Try.prog 93 = none := by kernel_rfl
@[simp] theorem arr_93 : arr Try.prog 93 = none := by kernel_rfl
@[simp] theorem ikd_93 : ikd Try.prog 93 = none := by kernel_rfl
@[simp] theorem isStr_93 : isStr Try.prog 93 = false := by kernel_rfl
@[simp] theorem isBool_93 : isBool Try.prog 93 = false := by kernel_rfl
@[simp] theorem und_93 : (Try.prog.underlying 93).isSome = true := by kernel_rfl
@[simp] theorem good_93 : good Try.prog 93 = true := by kernel_rfl
@[simp] theorem zrc_93 : zrc Try.prog 93 = some [.sc (.int .i64 0), .nl, .nl] := by kernel_rfl
@[simp] theorem fld_93_0 : fld Try.prog 93 0 = some (0, 2) := by kernel_rfl
@[simp] theorem fld_93_1 : fld Try.prog 93 1 = some (1, 67) := by kernel_rfl
@[simp] theorem fld_93_2 : fld Try.prog 93 2 = some (2, 67) := by kernel_rfl
@[simp] theorem plc_93 : plc Try.prog 93 = some [(0, 1), (1, 1), (2, 1)] := by kernel_rfl
@[simp] theorem siz_94 : siz Try.prog 94 = 3 := by kernel_rfl
@[simp] theorem byt_94 : byt Try.prog 94 = 56 := by kernel_rfl
@[simp] theorem ags_94 : ags Try.prog 94 = true := by kernel_rfl
@[simp] theorem elm_94 : elm Try.prog 94 = none := by kernel_rfl
@[simp] theorem arr_94 : arr Try.prog 94 = none := by kernel_rfl
@[simp] theorem ikd_94 : ikd Try.prog 94 = none := by kernel_rfl
@[simp] theorem isStr_94 : isStr Try.prog 94 = false := by kernel_rfl
@[simp] theorem isBool_94 : isBool Try.prog 94 = false := by kernel_rfl
@[simp] theorem und_94 : (Try.prog.underlying 94).isSome = true := by kernel_rfl
@[simp] theorem good_94 : good Try.prog 94 = true := by kernel_rfl
@[simp] theorem zrc_94 : zrc Try.prog 94 = some [.sc (.int .i64 0), .nl, .nl] := by kernel_rfl
@[simp] theorem fld_94_0 : fld Try.prog 94 0 = some (0, 2) := by kernel_rfl
@[simp] theorem fld_94_1 : fld Try.prog 94 1 = some (1, 67) := by kernel_rfl
@[simp] theorem fld_94_2 : fld Try.prog 94 2 = some (2, 67) := by kernel_rfl
@[simp] theorem plc_94 : plc Try.prog 94 = some [(0, 1), (1, 1), (2, 1)] := by kernel_rfl
@[simp] theorem siz_101 : siz Try.prog 101 = 1 := by kernel_rfl
@[simp] theorem byt_101 : byt Try.prog 101 = 24 := by kernel_rfl
@[simp] theorem ags_101 : ags Try.prog 101 = false := by kernel_rfl
@[simp] theorem elm_101 : elm Try.prog 101 = some 104 := by kernel_rfl
@[simp] theorem arr_101 : arr Try.prog 101 = none := by kernel_rfl
@[simp] theorem ikd_101 : ikd Try.prog 101 = none := by kernel_rfl
@[simp] theorem isStr_101 : isStr Try.prog 101 = false := by kernel_rfl
@[simp] theorem isBool_101 : isBool Try.prog 101 = false := by kernel_rfl
@[simp] theorem und_101 : (Try.prog.underlying 101).isSome = true := by kernel_rfl
@[simp] theorem good_101 : good Try.prog 101 = true := by kernel_rfl
@[simp] theorem zrc_101 : zrc Try.prog 101 = some [.nl] := by kernel_rfl
@[simp] theorem siz_103 : siz Try.prog 103 = 3 := by kernel_rfl
@[simp] theorem byt_103 : byt Try.prog 103 = 40 := by kernel_rfl
@[simp] theorem ags_103 : ags Try.prog 103 = true := by kernel_rfl
@[simp] theorem elm_103 : elm Try.prog 103 = none := by kernel_rfl
@[simp] theorem arr_103 : arr Try.prog 103 = none := by kernel_rfl
@[simp] theorem ikd_103 : ikd Try.prog 103 = none := by kernel_rfl
@[simp] theorem isStr_103 : isStr Try.prog 103 = false := by kernel_rfl
@[simp] theorem isBool_103 : isBool Try.prog 103 = false := by kernel_rfl
@[simp] theorem und_103 : (Try.prog.underlying 103).isSome = true := by kernel_rfl
@[simp] theorem good_103 : good Try.prog 103 = true := by kernel_rfl
@[simp] theorem zrc_103 : zrc Try.prog 103 = some [.sc (.int .u8 0), .sc (.int .i64 0), .nl] := by kernel_rfl
@[simp] theorem fld_103_0 : fld Try.prog 103 0 = some (0, 5) := by kernel_rfl
@[simp] theorem fld_103_1 : fld Try.prog 103 1 = some (1, 2) := by kernel_rfl
@[simp] theorem fld_103_2 : fld Try.prog 103 2 = some (2, 64) := by kernel_rfl
@[simp] theorem plc_103 : plc Try.prog 103 = some [(0, 1), (1, 1), (2, 1)] := by kernel_rfl
@[simp] theorem siz_104 : siz Try.prog 104 = 3 := by kernel_rfl
@[simp] theorem byt_104 : byt Try.prog 104 = 40 := by kernel_rfl
@[simp] theorem ags_104 : ags Try.prog 104 = true := by kernel_rfl
@[simp] theorem elm_104 : elm Try.prog 104 = none := by kernel_rfl
@[simp] theorem arr_104 : arr Try.prog 104 = none := by kernel_rfl
@[simp] theorem ikd_104 : ikd Try.prog 104 = none := by kernel_rfl
@[simp] theorem isStr_104 : isStr Try.prog 104 = false := by kernel_rfl
@[simp] theorem isBool_104 : isBool Try.prog 104 = false := by kernel_rfl
@[simp] theorem und_104 : (Try.prog.underlying 104).isSome = true := by kernel_rfl
@[simp] theorem good_104 : good Try.prog 104 = true := by kernel_rfl
@[simp] theorem zrc_104 : zrc Try.prog 104 = some [.sc (.int .u8 0), .sc (.int .i64 0), .nl] := by kernel_rfl
@[simp] theorem fld_104_0 : fld Try.prog 104 0 = some (0, 5) := by kernel_rfl
@[simp] theorem fld_104_1 : fld Try.prog 104 1 = some (1, 2) := by kernel_rfl
@[simp] theorem fld_104_2 : fld Try.prog 104 2 = some (2, 64) := by kernel_rfl
@[simp] theorem plc_104 : plc Try.prog 104 = some [(0, 1), (1, 1), (2, 1)] := by kernel_rfl
@[simp] theorem siz_123 : siz Try.prog 123 = 4 := by kernel_rfl
@[simp] theorem byt_123 : byt Try.prog 123 = 40 := by kernel_rfl
@[simp] theorem ags_123 : ags Try.prog 123 = true := by kernel_rfl
@[simp] theorem elm_123 : elm Try.prog 123 = none := by kernel_rfl
@[simp] theorem arr_123 : arr Try.prog 123 = none := by kernel_rfl
@[simp] theorem ikd_123 : ikd Try.prog 123 = none := by kernel_rfl
@[simp] theorem isStr_123 : isStr Try.prog 123 = false := by kernel_rfl
@[simp] theorem isBool_123 : isBool Try.prog 123 = false := by kernel_rfl
@[simp] theorem und_123 : (Try.prog.underlying 123).isSome = true := by kernel_rfl
@[simp] theorem good_123 : good Try.prog 123 = true := by kernel_rfl
@[simp] theorem zrc_123 : zrc Try.prog 123 = some [.sc (.pointer none), .sc (.pointer none), .sc (.pointer none), .sc (.string ⟨#[]⟩)] := by kernel_rfl
@[simp] theorem fld_123_0 : fld Try.prog 123 0 = some (0, 17) := by kernel_rfl
@[simp] theorem fld_123_1 : fld Try.prog 123 1 = some (1, 17) := by kernel_rfl
@[simp] theorem fld_123_2 : fld Try.prog 123 2 = some (2, 17) := by kernel_rfl
@[simp] theorem fld_123_3 : fld Try.prog 123 3 = some (3, 9) := by kernel_rfl
@[simp] theorem plc_123 : plc Try.prog 123 = some [(0, 1), (1, 1), (2, 1), (3, 1)] := by kernel_rfl
@[simp] theorem siz_124 : siz Try.prog 124 = 4 := by kernel_rfl
@[simp] theorem byt_124 : byt Try.prog 124 = 40 := by kernel_rfl
@[simp] theorem ags_124 : ags Try.prog 124 = true := by kernel_rfl
@[simp] theorem elm_124 : elm Try.prog 124 = none := by kernel_rfl
@[simp] theorem arr_124 : arr Try.prog 124 = none := by kernel_rfl
@[simp] theorem ikd_124 : ikd Try.prog 124 = none := by kernel_rfl
@[simp] theorem isStr_124 : isStr Try.prog 124 = false := by kernel_rfl
@[simp] theorem isBool_124 : isBool Try.prog 124 = false := by kernel_rfl
@[simp] theorem und_124 : (Try.prog.underlying 124).isSome = true := by kernel_rfl
@[simp] theorem good_124 : good Try.prog 124 = true := by kernel_rfl
@[simp] theorem zrc_124 : zrc Try.prog 124 = some [.sc (.pointer none), .sc (.pointer none), .sc (.pointer none), .sc (.string ⟨#[]⟩)] := by kernel_rfl
@[simp] theorem fld_124_0 : fld Try.prog 124 0 = some (0, 17) := by kernel_rfl
@[simp] theorem fld_124_1 : fld Try.prog 124 1 = some (1, 17) := by kernel_rfl
@[simp] theorem fld_124_2 : fld Try.prog 124 2 = some (2, 17) := by kernel_rfl
@[simp] theorem fld_124_3 : fld Try.prog 124 3 = some (3, 9) := by kernel_rfl
@[simp] theorem plc_124 : plc Try.prog 124 = some [(0, 1), (1, 1), (2, 1), (3, 1)] := by kernel_rfl
@[simp] theorem siz_125 : siz Try.prog 125 = 0 := by kernel_rfl
@[simp] theorem byt_125 : byt Try.prog 125 = 0 := by kernel_rfl
@[simp] theorem ags_125 : ags Try.prog 125 = true := by kernel_rfl
@[simp] theorem elm_125 : elm Try.prog 125 = none := by kernel_rfl
@[simp] theorem arr_125 : arr Try.prog 125 = some (0, 16) := by kernel_rfl
@[simp] theorem ikd_125 : ikd Try.prog 125 = none := by kernel_rfl
@[simp] theorem isStr_125 : isStr Try.prog 125 = false := by kernel_rfl
@[simp] theorem isBool_125 : isBool Try.prog 125 = false := by kernel_rfl
@[simp] theorem und_125 : (Try.prog.underlying 125).isSome = true := by kernel_rfl
@[simp] theorem zrc_125 : zrc Try.prog 125 = some [] := by kernel_rfl
@[simp] theorem egt_125 : Try.prog.eqGuardType Try.prog.depth 125 = false := by kernel_rfl
@[simp] theorem plc_125 : plc Try.prog 125 = some [] := by kernel_rfl
@[simp] theorem siz_126 : siz Try.prog 126 = 0 := by kernel_rfl
@[simp] theorem byt_126 : byt Try.prog 126 = 0 := by kernel_rfl
@[simp] theorem ags_126 : ags Try.prog 126 = true := by kernel_rfl
@[simp] theorem elm_126 : elm Try.prog 126 = none := by kernel_rfl
@[simp] theorem arr_126 : arr Try.prog 126 = none := by kernel_rfl
@[simp] theorem ikd_126 : ikd Try.prog 126 = none := by kernel_rfl
@[simp] theorem isStr_126 : isStr Try.prog 126 = false := by kernel_rfl
@[simp] theorem isBool_126 : isBool Try.prog 126 = false := by kernel_rfl
@[simp] theorem und_126 : (Try.prog.underlying 126).isSome = true := by kernel_rfl
@[simp] theorem zrc_126 : zrc Try.prog 126 = some [] := by kernel_rfl
@[simp] theorem fld_126_0 : fld Try.prog 126 0 = some (0, 125) := by kernel_rfl
@[simp] theorem plc_126 : plc Try.prog 126 = some [(0, 0)] := by kernel_rfl
@[simp] theorem egt_126 : Try.prog.eqGuardType Try.prog.depth 126 = false := by kernel_rfl
@[simp] theorem siz_127 : siz Try.prog 127 = 0 := by kernel_rfl
@[simp] theorem byt_127 : byt Try.prog 127 = 0 := by kernel_rfl
@[simp] theorem ags_127 : ags Try.prog 127 = true := by kernel_rfl
@[simp] theorem elm_127 : elm Try.prog 127 = none := by kernel_rfl
@[simp] theorem arr_127 : arr Try.prog 127 = none := by kernel_rfl
@[simp] theorem ikd_127 : ikd Try.prog 127 = none := by kernel_rfl
@[simp] theorem isStr_127 : isStr Try.prog 127 = false := by kernel_rfl
@[simp] theorem isBool_127 : isBool Try.prog 127 = false := by kernel_rfl
@[simp] theorem und_127 : (Try.prog.underlying 127).isSome = true := by kernel_rfl
@[simp] theorem zrc_127 : zrc Try.prog 127 = some [] := by kernel_rfl
@[simp] theorem fld_127_0 : fld Try.prog 127 0 = some (0, 125) := by kernel_rfl
@[simp] theorem plc_127 : plc Try.prog 127 = some [(0, 0)] := by kernel_rfl
@[simp] theorem egt_127 : Try.prog.eqGuardType Try.prog.depth 127 = false := by kernel_rfl
@[simp] theorem siz_128 : siz Try.prog 128 = 1 := by kernel_rfl
@[simp] theorem byt_128 : byt Try.prog 128 = 4 := by kernel_rfl
@[simp] theorem ags_128 : ags Try.prog 128 = false := by kernel_rfl
@[simp] theorem elm_128 : elm Try.prog 128 = none := by kernel_rfl
@[simp] theorem arr_128 : arr Try.prog 128 = none := by kernel_rfl
@[simp] theorem ikd_128 : ikd Try.prog 128 = some .u32 := by kernel_rfl
@[simp] theorem isStr_128 : isStr Try.prog 128 = false := by kernel_rfl
@[simp] theorem isBool_128 : isBool Try.prog 128 = false := by kernel_rfl
@[simp] theorem und_128 : (Try.prog.underlying 128).isSome = true := by kernel_rfl
@[simp] theorem good_128 : good Try.prog 128 = true := by kernel_rfl
@[simp] theorem zrc_128 : zrc Try.prog 128 = some [.sc (.int .u32 0)] := by kernel_rfl
@[simp] theorem siz_129 : siz Try.prog 129 = 1 := by kernel_rfl
@[simp] theorem byt_129 : byt Try.prog 129 = 1 := by kernel_rfl
@[simp] theorem ags_129 : ags Try.prog 129 = false := by kernel_rfl
@[simp] theorem elm_129 : elm Try.prog 129 = none := by kernel_rfl
@[simp] theorem arr_129 : arr Try.prog 129 = none := by kernel_rfl
@[simp] theorem ikd_129 : ikd Try.prog 129 = some .u8 := by kernel_rfl
@[simp] theorem isStr_129 : isStr Try.prog 129 = false := by kernel_rfl
@[simp] theorem isBool_129 : isBool Try.prog 129 = false := by kernel_rfl
@[simp] theorem und_129 : (Try.prog.underlying 129).isSome = true := by kernel_rfl
@[simp] theorem good_129 : good Try.prog 129 = true := by kernel_rfl
@[simp] theorem zrc_129 : zrc Try.prog 129 = some [.sc (.int .u8 0)] := by kernel_rfl
@[simp] theorem siz_130 : siz Try.prog 130 = 1 := by kernel_rfl
@[simp] theorem byt_130 : byt Try.prog 130 = 1 := by kernel_rfl
@[simp] theorem ags_130 : ags Try.prog 130 = false := by kernel_rfl
@[simp] theorem elm_130 : elm Try.prog 130 = none := by kernel_rfl
@[simp] theorem arr_130 : arr Try.prog 130 = none := by kernel_rfl
@[simp] theorem ikd_130 : ikd Try.prog 130 = some .u8 := by kernel_rfl
@[simp] theorem isStr_130 : isStr Try.prog 130 = false := by kernel_rfl
@[simp] theorem isBool_130 : isBool Try.prog 130 = false := by kernel_rfl
@[simp] theorem und_130 : (Try.prog.underlying 130).isSome = true := by kernel_rfl
@[simp] theorem good_130 : good Try.prog 130 = true := by kernel_rfl
@[simp] theorem zrc_130 : zrc Try.prog 130 = some [.sc (.int .u8 0)] := by kernel_rfl
@[simp] theorem siz_132 : siz Try.prog 132 = 1 := by kernel_rfl
@[simp] theorem byt_132 : byt Try.prog 132 = 8 := by kernel_rfl
@[simp] theorem ags_132 : ags Try.prog 132 = false := by kernel_rfl
@[simp] theorem elm_132 : elm Try.prog 132 = none := by kernel_rfl
@[simp] theorem arr_132 : arr Try.prog 132 = none := by kernel_rfl
@[simp] theorem ikd_132 : ikd Try.prog 132 = none := by kernel_rfl
@[simp] theorem isStr_132 : isStr Try.prog 132 = false := by kernel_rfl
@[simp] theorem isBool_132 : isBool Try.prog 132 = false := by kernel_rfl
@[simp] theorem und_132 : (Try.prog.underlying 132).isSome = true := by kernel_rfl
@[simp] theorem good_132 : good Try.prog 132 = true := by kernel_rfl
@[simp] theorem zrc_132 : zrc Try.prog 132 = some [.sc (.pointer none)] := by kernel_rfl
@[simp] theorem siz_133 : siz Try.prog 133 = 1 := by kernel_rfl
@[simp] theorem byt_133 : byt Try.prog 133 = 4 := by kernel_rfl
@[simp] theorem ags_133 : ags Try.prog 133 = false := by kernel_rfl
@[simp] theorem elm_133 : elm Try.prog 133 = none := by kernel_rfl
@[simp] theorem arr_133 : arr Try.prog 133 = none := by kernel_rfl
@[simp] theorem ikd_133 : ikd Try.prog 133 = some .i32 := by kernel_rfl
@[simp] theorem isStr_133 : isStr Try.prog 133 = false := by kernel_rfl
@[simp] theorem isBool_133 : isBool Try.prog 133 = false := by kernel_rfl
@[simp] theorem und_133 : (Try.prog.underlying 133).isSome = true := by kernel_rfl
@[simp] theorem good_133 : good Try.prog 133 = true := by kernel_rfl
@[simp] theorem zrc_133 : zrc Try.prog 133 = some [.sc (.int .i32 0)] := by kernel_rfl
@[simp] theorem siz_134 : siz Try.prog 134 = 1 := by kernel_rfl
@[simp] theorem byt_134 : byt Try.prog 134 = 4 := by kernel_rfl
@[simp] theorem ags_134 : ags Try.prog 134 = false := by kernel_rfl
@[simp] theorem elm_134 : elm Try.prog 134 = none := by kernel_rfl
@[simp] theorem arr_134 : arr Try.prog 134 = none := by kernel_rfl
@[simp] theorem ikd_134 : ikd Try.prog 134 = some .i32 := by kernel_rfl
@[simp] theorem isStr_134 : isStr Try.prog 134 = false := by kernel_rfl
@[simp] theorem isBool_134 : isBool Try.prog 134 = false := by kernel_rfl
@[simp] theorem und_134 : (Try.prog.underlying 134).isSome = true := by kernel_rfl
@[simp] theorem good_134 : good Try.prog 134 = true := by kernel_rfl
@[simp] theorem zrc_134 : zrc Try.prog 134 = some [.sc (.int .i32 0)] := by kernel_rfl
@[simp] theorem siz_135 : siz Try.prog 135 = 11 := by kernel_rfl
@[simp] theorem byt_135 : byt Try.prog 135 = 48 := by kernel_rfl
@[simp] theorem ags_135 : ags Try.prog 135 = true := by kernel_rfl
@[simp] theorem elm_135 : elm Try.prog 135 = none := by kernel_rfl
@[simp] theorem arr_135 : arr Try.prog 135 = none := by kernel_rfl
@[simp] theorem ikd_135 : ikd Try.prog 135 = none := by kernel_rfl
@[simp] theorem isStr_135 : isStr Try.prog 135 = false := by kernel_rfl
@[simp] theorem isBool_135 : isBool Try.prog 135 = false := by kernel_rfl
@[simp] theorem und_135 : (Try.prog.underlying 135).isSome = true := by kernel_rfl
@[simp] theorem good_135 : good Try.prog 135 = true := by kernel_rfl
@[simp] theorem zrc_135 : zrc Try.prog 135 = some [.sc (.int .u64 0), .sc (.int .u64 0), .sc (.int .u32 0), .sc (.int .u8 0), .sc (.int .u8 0), .sc (.int .u8 0), .sc (.int .u8 0), .sc .nilFunc, .sc (.pointer none), .sc (.int .i32 0), .sc (.int .i32 0)] := by kernel_rfl
@[simp] theorem fld_135_0 : fld Try.prog 135 0 = some (0, 12) := by kernel_rfl
@[simp] theorem fld_135_1 : fld Try.prog 135 1 = some (1, 12) := by kernel_rfl
@[simp] theorem fld_135_2 : fld Try.prog 135 2 = some (2, 128) := by kernel_rfl
@[simp] theorem fld_135_3 : fld Try.prog 135 3 = some (3, 129) := by kernel_rfl
@[simp] theorem fld_135_4 : fld Try.prog 135 4 = some (4, 5) := by kernel_rfl
@[simp] theorem fld_135_5 : fld Try.prog 135 5 = some (5, 5) := by kernel_rfl
@[simp] theorem fld_135_6 : fld Try.prog 135 6 = some (6, 130) := by kernel_rfl
@[simp] theorem fld_135_7 : fld Try.prog 135 7 = some (7, 131) := by kernel_rfl
@[simp] theorem fld_135_8 : fld Try.prog 135 8 = some (8, 132) := by kernel_rfl
@[simp] theorem fld_135_9 : fld Try.prog 135 9 = some (9, 133) := by kernel_rfl
@[simp] theorem fld_135_10 : fld Try.prog 135 10 = some (10, 134) := by kernel_rfl
@[simp] theorem siz_136 : siz Try.prog 136 = 11 := by kernel_rfl
@[simp] theorem byt_136 : byt Try.prog 136 = 48 := by kernel_rfl
@[simp] theorem ags_136 : ags Try.prog 136 = true := by kernel_rfl
@[simp] theorem elm_136 : elm Try.prog 136 = none := by kernel_rfl
@[simp] theorem arr_136 : arr Try.prog 136 = none := by kernel_rfl
@[simp] theorem ikd_136 : ikd Try.prog 136 = none := by kernel_rfl
@[simp] theorem isStr_136 : isStr Try.prog 136 = false := by kernel_rfl
@[simp] theorem isBool_136 : isBool Try.prog 136 = false := by kernel_rfl
@[simp] theorem und_136 : (Try.prog.underlying 136).isSome = true := by kernel_rfl
@[simp] theorem good_136 : good Try.prog 136 = true := by kernel_rfl
@[simp] theorem zrc_136 : zrc Try.prog 136 = some [.sc (.int .u64 0), .sc (.int .u64 0), .sc (.int .u32 0), .sc (.int .u8 0), .sc (.int .u8 0), .sc (.int .u8 0), .sc (.int .u8 0), .sc .nilFunc, .sc (.pointer none), .sc (.int .i32 0), .sc (.int .i32 0)] := by kernel_rfl
@[simp] theorem fld_136_0 : fld Try.prog 136 0 = some (0, 12) := by kernel_rfl
@[simp] theorem fld_136_1 : fld Try.prog 136 1 = some (1, 12) := by kernel_rfl
@[simp] theorem fld_136_2 : fld Try.prog 136 2 = some (2, 128) := by kernel_rfl
@[simp] theorem fld_136_3 : fld Try.prog 136 3 = some (3, 129) := by kernel_rfl
@[simp] theorem fld_136_4 : fld Try.prog 136 4 = some (4, 5) := by kernel_rfl
@[simp] theorem fld_136_5 : fld Try.prog 136 5 = some (5, 5) := by kernel_rfl
@[simp] theorem fld_136_6 : fld Try.prog 136 6 = some (6, 130) := by kernel_rfl
@[simp] theorem fld_136_7 : fld Try.prog 136 7 = some (7, 131) := by kernel_rfl
@[simp] theorem fld_136_8 : fld Try.prog 136 8 = some (8, 132) := by kernel_rfl
@[simp] theorem fld_136_9 : fld Try.prog 136 9 = some (9, 133) := by kernel_rfl
@[simp] theorem fld_136_10 : fld Try.prog 136 10 = some (10, 134) := by kernel_rfl
@[simp] theorem follows_ok : Try.prog.follows .mixedOrders = true := by kernel_rfl
@[simp] theorem callable_3 : callable Try.prog 3 = true := by kernel_rfl
@[simp] theorem callable_4 : callable Try.prog 4 = true := by kernel_rfl
@[simp] theorem callable_5 : callable Try.prog 5 = true := by kernel_rfl
@[simp] theorem callable_6 : callable Try.prog 6 = true := by kernel_rfl
@[simp] theorem callable_7 : callable Try.prog 7 = true := by kernel_rfl
@[simp] theorem callable_8 : callable Try.prog 8 = true := by kernel_rfl
@[simp] theorem callable_9 : callable Try.prog 9 = true := by kernel_rfl
@[simp] theorem callable_10 : callable Try.prog 10 = true := by kernel_rfl
@[simp] theorem callable_11 : callable Try.prog 11 = true := by kernel_rfl
@[simp] theorem callable_12 : callable Try.prog 12 = true := by kernel_rfl
@[simp] theorem callable_13 : callable Try.prog 13 = true := by kernel_rfl
@[simp] theorem callable_14 : callable Try.prog 14 = true := by kernel_rfl
@[simp] theorem callable_15 : callable Try.prog 15 = true := by kernel_rfl
@[simp] theorem callable_16 : callable Try.prog 16 = true := by kernel_rfl
@[simp] theorem callable_17 : callable Try.prog 17 = true := by kernel_rfl
@[simp] theorem callable_18 : callable Try.prog 18 = true := by kernel_rfl
@[simp] theorem callable_19 : callable Try.prog 19 = true := by kernel_rfl
@[simp] theorem callable_20 : callable Try.prog 20 = true := by kernel_rfl
@[simp] theorem callable_21 : callable Try.prog 21 = true := by kernel_rfl
@[simp] theorem callable_22 : callable Try.prog 22 = true := by kernel_rfl
@[simp] theorem callable_23 : callable Try.prog 23 = true := by kernel_rfl
@[simp] theorem callable_24 : callable Try.prog 24 = true := by kernel_rfl
@[simp] theorem callable_25 : callable Try.prog 25 = true := by kernel_rfl
@[simp] theorem callable_26 : callable Try.prog 26 = true := by kernel_rfl
@[simp] theorem callable_27 : callable Try.prog 27 = true := by kernel_rfl
@[simp] theorem callable_28 : callable Try.prog 28 = true := by kernel_rfl
@[simp] theorem callable_29 : callable Try.prog 29 = true := by kernel_rfl
@[simp] theorem callable_30 : callable Try.prog 30 = true := by kernel_rfl
@[simp] theorem callable_31 : callable Try.prog 31 = true := by kernel_rfl
@[simp] theorem callable_32 : callable Try.prog 32 = true := by kernel_rfl
@[simp] theorem callable_33 : callable Try.prog 33 = true := by kernel_rfl
@[simp] theorem callable_34 : callable Try.prog 34 = true := by kernel_rfl
@[simp] theorem callable_35 : callable Try.prog 35 = true := by kernel_rfl
@[simp] theorem callable_36 : callable Try.prog 36 = true := by kernel_rfl
@[simp] theorem callable_37 : callable Try.prog 37 = true := by kernel_rfl
@[simp] theorem callable_38 : callable Try.prog 38 = true := by kernel_rfl
@[simp] theorem callable_39 : callable Try.prog 39 = true := by kernel_rfl
@[simp] theorem callable_40 : callable Try.prog 40 = true := by kernel_rfl
@[simp] theorem callable_41 : callable Try.prog 41 = true := by kernel_rfl
@[simp] theorem callable_42 : callable Try.prog 42 = true := by kernel_rfl
@[simp] theorem callable_43 : callable Try.prog 43 = true := by kernel_rfl
@[simp] theorem callable_44 : callable Try.prog 44 = true := by kernel_rfl
@[simp] theorem callable_45 : callable Try.prog 45 = true := by kernel_rfl
@[simp] theorem callable_46 : callable Try.prog 46 = true := by kernel_rfl
@[simp] theorem callable_47 : callable Try.prog 47 = true := by kernel_rfl
@[simp] theorem callable_48 : callable Try.prog 48 = true := by kernel_rfl
@[simp] theorem callable_49 : callable Try.prog 49 = true := by kernel_rfl
@[simp] theorem callable_50 : callable Try.prog 50 = true := by kernel_rfl
@[simp] theorem callable_51 : callable Try.prog 51 = true := by kernel_rfl
@[simp] theorem callable_52 : callable Try.prog 52 = true := by kernel_rfl
@[simp] theorem callable_53 : callable Try.prog 53 = true := by kernel_rfl
@[simp] theorem callable_54 : callable Try.prog 54 = true := by kernel_rfl
@[simp] theorem callable_55 : callable Try.prog 55 = true := by kernel_rfl
@[simp] theorem callable_56 : callable Try.prog 56 = true := by kernel_rfl
@[simp] theorem callable_57 : callable Try.prog 57 = true := by kernel_rfl
@[simp] theorem callable_58 : callable Try.prog 58 = true := by kernel_rfl
@[simp] theorem callable_59 : callable Try.prog 59 = true := by kernel_rfl
@[simp] theorem callable_60 : callable Try.prog 60 = true := by kernel_rfl
@[simp] theorem callable_61 : callable Try.prog 61 = true := by kernel_rfl
@[simp] theorem callable_62 : callable Try.prog 62 = true := by kernel_rfl
@[simp] theorem callable_63 : callable Try.prog 63 = true := by kernel_rfl
@[simp] theorem callable_64 : callable Try.prog 64 = true := by kernel_rfl
@[simp] theorem callable_65 : callable Try.prog 65 = true := by kernel_rfl
@[simp] theorem callable_66 : callable Try.prog 66 = true := by kernel_rfl
@[simp] theorem callable_67 : callable Try.prog 67 = true := by kernel_rfl
@[simp] theorem callable_68 : callable Try.prog 68 = true := by kernel_rfl
@[simp] theorem callable_69 : callable Try.prog 69 = true := by kernel_rfl
@[simp] theorem callable_70 : callable Try.prog 70 = true := by kernel_rfl
@[simp] theorem callable_71 : callable Try.prog 71 = true := by kernel_rfl
@[simp] theorem callable_72 : callable Try.prog 72 = true := by kernel_rfl
@[simp] theorem callable_73 : callable Try.prog 73 = true := by kernel_rfl
@[simp] theorem callable_74 : callable Try.prog 74 = true := by kernel_rfl
@[simp] theorem callable_75 : callable Try.prog 75 = true := by kernel_rfl
@[simp] theorem callable_76 : callable Try.prog 76 = true := by kernel_rfl
@[simp] theorem callable_77 : callable Try.prog 77 = true := by kernel_rfl
@[simp] theorem callable_78 : callable Try.prog 78 = true := by kernel_rfl
@[simp] theorem callable_79 : callable Try.prog 79 = true := by kernel_rfl
@[simp] theorem callable_80 : callable Try.prog 80 = true := by kernel_rfl
@[simp] theorem callable_81 : callable Try.prog 81 = true := by kernel_rfl
@[simp] theorem callable_82 : callable Try.prog 82 = true := by kernel_rfl
@[simp] theorem callable_83 : callable Try.prog 83 = true := by kernel_rfl

end Go.Proofs.Ytnfgnafphfddhaa.Tab
