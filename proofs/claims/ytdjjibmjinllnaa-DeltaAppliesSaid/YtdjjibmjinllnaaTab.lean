import Derived.Test.YtdjjibmjinllnaaProg
import Derived.Test.YtdjjibmjinllnaaSimB
import Derived.KernelRfl
namespace Go.Proofs.Ytdjjibmjinllnaa.Tab
open Go Go.Sim Go.RowKit
set_option linter.unusedVariables false

@[simp] theorem siz_2 : siz Try.prog 2 = 1 := by kernel_rfl
@[simp] theorem byt_2 : byt Try.prog 2 = 8 := by kernel_rfl
@[simp] theorem ags_2 : ags Try.prog 2 = false := by kernel_rfl
@[simp] theorem elm_2 : elm Try.prog 2 = none := by kernel_rfl
@[simp] theorem arr_2 : arr Try.prog 2 = none := by kernel_rfl
@[simp] theorem ikd_2 : ikd Try.prog 2 = some .i64 := by kernel_rfl
@[simp] theorem isStr_2 : isStr Try.prog 2 = false := by kernel_rfl
@[simp] theorem isBool_2 : isBool Try.prog 2 = false := by kernel_rfl
@[simp] theorem und_2 : (Try.prog.underlying 2).isSome = true := by kernel_rfl
@[simp] theorem good_2 : good Try.prog 2 = true := by kernel_rfl
@[simp] theorem zrc_2 : zrc Try.prog 2 = some [.sc (.int .i64 0)] := by kernel_rfl
@[simp] theorem siz_3 : siz Try.prog 3 = 1 := by kernel_rfl
@[simp] theorem byt_3 : byt Try.prog 3 = 8 := by kernel_rfl
@[simp] theorem ags_3 : ags Try.prog 3 = false := by kernel_rfl
@[simp] theorem elm_3 : elm Try.prog 3 = none := by kernel_rfl
@[simp] theorem arr_3 : arr Try.prog 3 = none := by kernel_rfl
@[simp] theorem ikd_3 : ikd Try.prog 3 = some .i64 := by kernel_rfl
@[simp] theorem isStr_3 : isStr Try.prog 3 = false := by kernel_rfl
@[simp] theorem isBool_3 : isBool Try.prog 3 = false := by kernel_rfl
@[simp] theorem und_3 : (Try.prog.underlying 3).isSome = true := by kernel_rfl
@[simp] theorem good_3 : good Try.prog 3 = true := by kernel_rfl
@[simp] theorem zrc_3 : zrc Try.prog 3 = some [.sc (.int .i64 0)] := by kernel_rfl
@[simp] theorem siz_4 : siz Try.prog 4 = 1 := by kernel_rfl
@[simp] theorem byt_4 : byt Try.prog 4 = 1 := by kernel_rfl
@[simp] theorem ags_4 : ags Try.prog 4 = false := by kernel_rfl
@[simp] theorem elm_4 : elm Try.prog 4 = none := by kernel_rfl
@[simp] theorem arr_4 : arr Try.prog 4 = none := by kernel_rfl
@[simp] theorem ikd_4 : ikd Try.prog 4 = none := by kernel_rfl
@[simp] theorem isStr_4 : isStr Try.prog 4 = false := by kernel_rfl
@[simp] theorem isBool_4 : isBool Try.prog 4 = true := by kernel_rfl
@[simp] theorem und_4 : (Try.prog.underlying 4).isSome = true := by kernel_rfl
@[simp] theorem good_4 : good Try.prog 4 = true := by kernel_rfl
@[simp] theorem zrc_4 : zrc Try.prog 4 = some [.sc (.bool false)] := by kernel_rfl
@[simp] theorem siz_5 : siz Try.prog 5 = 1 := by kernel_rfl
@[simp] theorem byt_5 : byt Try.prog 5 = 1 := by kernel_rfl
@[simp] theorem ags_5 : ags Try.prog 5 = false := by kernel_rfl
@[simp] theorem elm_5 : elm Try.prog 5 = none := by kernel_rfl
@[simp] theorem arr_5 : arr Try.prog 5 = none := by kernel_rfl
@[simp] theorem ikd_5 : ikd Try.prog 5 = some .u8 := by kernel_rfl
@[simp] theorem isStr_5 : isStr Try.prog 5 = false := by kernel_rfl
@[simp] theorem isBool_5 : isBool Try.prog 5 = false := by kernel_rfl
@[simp] theorem und_5 : (Try.prog.underlying 5).isSome = true := by kernel_rfl
@[simp] theorem good_5 : good Try.prog 5 = true := by kernel_rfl
@[simp] theorem zrc_5 : zrc Try.prog 5 = some [.sc (.int .u8 0)] := by kernel_rfl
@[simp] theorem siz_6 : siz Try.prog 6 = 1 := by kernel_rfl
@[simp] theorem byt_6 : byt Try.prog 6 = 1 := by kernel_rfl
@[simp] theorem ags_6 : ags Try.prog 6 = false := by kernel_rfl
@[simp] theorem elm_6 : elm Try.prog 6 = none := by kernel_rfl
@[simp] theorem arr_6 : arr Try.prog 6 = none := by kernel_rfl
@[simp] theorem ikd_6 : ikd Try.prog 6 = some .u8 := by kernel_rfl
@[simp] theorem isStr_6 : isStr Try.prog 6 = false := by kernel_rfl
@[simp] theorem isBool_6 : isBool Try.prog 6 = false := by kernel_rfl
@[simp] theorem und_6 : (Try.prog.underlying 6).isSome = true := by kernel_rfl
@[simp] theorem good_6 : good Try.prog 6 = true := by kernel_rfl
@[simp] theorem zrc_6 : zrc Try.prog 6 = some [.sc (.int .u8 0)] := by kernel_rfl
@[simp] theorem siz_7 : siz Try.prog 7 = 4 := by kernel_rfl
@[simp] theorem byt_7 : byt Try.prog 7 = 24 := by kernel_rfl
@[simp] theorem ags_7 : ags Try.prog 7 = true := by kernel_rfl
@[simp] theorem elm_7 : elm Try.prog 7 = none := by kernel_rfl
@[simp] theorem arr_7 : arr Try.prog 7 = none := by kernel_rfl
@[simp] theorem ikd_7 : ikd Try.prog 7 = none := by kernel_rfl
@[simp] theorem isStr_7 : isStr Try.prog 7 = false := by kernel_rfl
@[simp] theorem isBool_7 : isBool Try.prog 7 = false := by kernel_rfl
@[simp] theorem und_7 : (Try.prog.underlying 7).isSome = true := by kernel_rfl
@[simp] theorem good_7 : good Try.prog 7 = true := by kernel_rfl
@[simp] theorem zrc_7 : zrc Try.prog 7 = some [.sc (.int .i64 0), .sc (.int .i64 0), .sc (.bool false), .sc (.int .u8 0)] := by kernel_rfl
@[simp] theorem fld_7_0 : fld Try.prog 7 0 = some (0, 2) := by kernel_rfl
@[simp] theorem fld_7_1 : fld Try.prog 7 1 = some (1, 3) := by kernel_rfl
@[simp] theorem fld_7_2 : fld Try.prog 7 2 = some (2, 4) := by kernel_rfl
@[simp] theorem fld_7_3 : fld Try.prog 7 3 = some (3, 6) := by kernel_rfl
@[simp] theorem plc_7 : plc Try.prog 7 = some [(0, 1), (1, 1), (2, 1), (3, 1)] := by kernel_rfl
@[simp] theorem lks_7 : lks Try.prog 6 7 = some [.i, .i, .b, .i] := by kernel_rfl
@[simp] theorem egt_7 : Try.prog.eqGuardType Try.prog.depth 7 = false := by kernel_rfl
@[simp] theorem siz_8 : siz Try.prog 8 = 4 := by kernel_rfl
@[simp] theorem byt_8 : byt Try.prog 8 = 24 := by kernel_rfl
@[simp] theorem ags_8 : ags Try.prog 8 = true := by kernel_rfl
@[simp] theorem elm_8 : elm Try.prog 8 = none := by kernel_rfl
@[simp] theorem arr_8 : arr Try.prog 8 = none := by kernel_rfl
@[simp] theorem ikd_8 : ikd Try.prog 8 = none := by kernel_rfl
@[simp] theorem isStr_8 : isStr Try.prog 8 = false := by kernel_rfl
@[simp] theorem isBool_8 : isBool Try.prog 8 = false := by kernel_rfl
@[simp] theorem und_8 : (Try.prog.underlying 8).isSome = true := by kernel_rfl
@[simp] theorem good_8 : good Try.prog 8 = true := by kernel_rfl
@[simp] theorem zrc_8 : zrc Try.prog 8 = some [.sc (.int .i64 0), .sc (.int .i64 0), .sc (.bool false), .sc (.int .u8 0)] := by kernel_rfl
@[simp] theorem fld_8_0 : fld Try.prog 8 0 = some (0, 2) := by kernel_rfl
@[simp] theorem fld_8_1 : fld Try.prog 8 1 = some (1, 3) := by kernel_rfl
@[simp] theorem fld_8_2 : fld Try.prog 8 2 = some (2, 4) := by kernel_rfl
@[simp] theorem fld_8_3 : fld Try.prog 8 3 = some (3, 6) := by kernel_rfl
@[simp] theorem plc_8 : plc Try.prog 8 = some [(0, 1), (1, 1), (2, 1), (3, 1)] := by kernel_rfl
@[simp] theorem lks_8 : lks Try.prog 6 8 = some [.i, .i, .b, .i] := by kernel_rfl
@[simp] theorem egt_8 : Try.prog.eqGuardType Try.prog.depth 8 = false := by kernel_rfl
@[simp] theorem siz_9 : siz Try.prog 9 = 1 := by kernel_rfl
@[simp] theorem byt_9 : byt Try.prog 9 = 16 := by kernel_rfl
@[simp] theorem ags_9 : ags Try.prog 9 = false := by kernel_rfl
@[simp] theorem elm_9 : elm Try.prog 9 = none := by kernel_rfl
@[simp] theorem arr_9 : arr Try.prog 9 = none := by kernel_rfl
@[simp] theorem ikd_9 : ikd Try.prog 9 = none := by kernel_rfl
@[simp] theorem isStr_9 : isStr Try.prog 9 = true := by kernel_rfl
@[simp] theorem isBool_9 : isBool Try.prog 9 = false := by kernel_rfl
@[simp] theorem und_9 : (Try.prog.underlying 9).isSome = true := by kernel_rfl
@[simp] theorem good_9 : good Try.prog 9 = true := by kernel_rfl
@[simp] theorem zrc_9 : zrc Try.prog 9 = some [.sc (.string ⟨#[]⟩)] := by kernel_rfl
@[simp] theorem siz_10 : siz Try.prog 10 = 1 := by kernel_rfl
@[simp] theorem byt_10 : byt Try.prog 10 = 16 := by kernel_rfl
@[simp] theorem ags_10 : ags Try.prog 10 = false := by kernel_rfl
@[simp] theorem elm_10 : elm Try.prog 10 = none := by kernel_rfl
@[simp] theorem arr_10 : arr Try.prog 10 = none := by kernel_rfl
@[simp] theorem ikd_10 : ikd Try.prog 10 = none := by kernel_rfl
@[simp] theorem isStr_10 : isStr Try.prog 10 = true := by kernel_rfl
@[simp] theorem isBool_10 : isBool Try.prog 10 = false := by kernel_rfl
@[simp] theorem und_10 : (Try.prog.underlying 10).isSome = true := by kernel_rfl
@[simp] theorem good_10 : good Try.prog 10 = true := by kernel_rfl
@[simp] theorem zrc_10 : zrc Try.prog 10 = some [.sc (.string ⟨#[]⟩)] := by kernel_rfl
@[simp] theorem siz_11 : siz Try.prog 11 = 1 := by kernel_rfl
@[simp] theorem byt_11 : byt Try.prog 11 = 16 := by kernel_rfl
@[simp] theorem ags_11 : ags Try.prog 11 = false := by kernel_rfl
@[simp] theorem elm_11 : elm Try.prog 11 = none := by kernel_rfl
@[simp] theorem arr_11 : arr Try.prog 11 = none := by kernel_rfl
@[simp] theorem ikd_11 : ikd Try.prog 11 = none := by kernel_rfl
@[simp] theorem isStr_11 : isStr Try.prog 11 = true := by kernel_rfl
@[simp] theorem isBool_11 : isBool Try.prog 11 = false := by kernel_rfl
@[simp] theorem und_11 : (Try.prog.underlying 11).isSome = true := by kernel_rfl
@[simp] theorem good_11 : good Try.prog 11 = true := by kernel_rfl
@[simp] theorem zrc_11 : zrc Try.prog 11 = some [.sc (.string ⟨#[]⟩)] := by kernel_rfl
@[simp] theorem siz_12 : siz Try.prog 12 = 1 := by kernel_rfl
@[simp] theorem byt_12 : byt Try.prog 12 = 8 := by kernel_rfl
@[simp] theorem ags_12 : ags Try.prog 12 = false := by kernel_rfl
@[simp] theorem elm_12 : elm Try.prog 12 = none := by kernel_rfl
@[simp] theorem arr_12 : arr Try.prog 12 = none := by kernel_rfl
@[simp] theorem ikd_12 : ikd Try.prog 12 = some .u64 := by kernel_rfl
@[simp] theorem isStr_12 : isStr Try.prog 12 = false := by kernel_rfl
@[simp] theorem isBool_12 : isBool Try.prog 12 = false := by kernel_rfl
@[simp] theorem und_12 : (Try.prog.underlying 12).isSome = true := by kernel_rfl
@[simp] theorem good_12 : good Try.prog 12 = true := by kernel_rfl
@[simp] theorem zrc_12 : zrc Try.prog 12 = some [.sc (.int .u64 0)] := by kernel_rfl
@[simp] theorem siz_13 : siz Try.prog 13 = 2 := by kernel_rfl
@[simp] theorem byt_13 : byt Try.prog 13 = 24 := by kernel_rfl
@[simp] theorem ags_13 : ags Try.prog 13 = true := by kernel_rfl
@[simp] theorem elm_13 : elm Try.prog 13 = none := by kernel_rfl
@[simp] theorem arr_13 : arr Try.prog 13 = none := by kernel_rfl
@[simp] theorem ikd_13 : ikd Try.prog 13 = none := by kernel_rfl
@[simp] theorem isStr_13 : isStr Try.prog 13 = false := by kernel_rfl
@[simp] theorem isBool_13 : isBool Try.prog 13 = false := by kernel_rfl
@[simp] theorem und_13 : (Try.prog.underlying 13).isSome = true := by kernel_rfl
@[simp] theorem good_13 : good Try.prog 13 = true := by kernel_rfl
@[simp] theorem zrc_13 : zrc Try.prog 13 = some [.sc (.string ⟨#[]⟩), .sc (.int .u64 0)] := by kernel_rfl
@[simp] theorem fld_13_0 : fld Try.prog 13 0 = some (0, 9) := by kernel_rfl
@[simp] theorem fld_13_1 : fld Try.prog 13 1 = some (1, 12) := by kernel_rfl
@[simp] theorem plc_13 : plc Try.prog 13 = some [(0, 1), (1, 1)] := by kernel_rfl
@[simp] theorem egt_13 : Try.prog.eqGuardType Try.prog.depth 13 = false := by kernel_rfl
@[simp] theorem siz_14 : siz Try.prog 14 = 2 := by kernel_rfl
@[simp] theorem byt_14 : byt Try.prog 14 = 24 := by kernel_rfl
@[simp] theorem ags_14 : ags Try.prog 14 = true := by kernel_rfl
@[simp] theorem elm_14 : elm Try.prog 14 = none := by kernel_rfl
@[simp] theorem arr_14 : arr Try.prog 14 = none := by kernel_rfl
@[simp] theorem ikd_14 : ikd Try.prog 14 = none := by kernel_rfl
@[simp] theorem isStr_14 : isStr Try.prog 14 = false := by kernel_rfl
@[simp] theorem isBool_14 : isBool Try.prog 14 = false := by kernel_rfl
@[simp] theorem und_14 : (Try.prog.underlying 14).isSome = true := by kernel_rfl
@[simp] theorem good_14 : good Try.prog 14 = true := by kernel_rfl
@[simp] theorem zrc_14 : zrc Try.prog 14 = some [.sc (.string ⟨#[]⟩), .sc (.int .u64 0)] := by kernel_rfl
@[simp] theorem fld_14_0 : fld Try.prog 14 0 = some (0, 9) := by kernel_rfl
@[simp] theorem fld_14_1 : fld Try.prog 14 1 = some (1, 12) := by kernel_rfl
@[simp] theorem plc_14 : plc Try.prog 14 = some [(0, 1), (1, 1)] := by kernel_rfl
@[simp] theorem egt_14 : Try.prog.eqGuardType Try.prog.depth 14 = false := by kernel_rfl
@[simp] theorem siz_15 : siz Try.prog 15 = 1 := by kernel_rfl
@[simp] theorem byt_15 : byt Try.prog 15 = 8 := by kernel_rfl
@[simp] theorem ags_15 : ags Try.prog 15 = false := by kernel_rfl
@[simp] theorem elm_15 : elm Try.prog 15 = none := by kernel_rfl
@[simp] theorem arr_15 : arr Try.prog 15 = none := by kernel_rfl
@[simp] theorem ikd_15 : ikd Try.prog 15 = none := by kernel_rfl
@[simp] theorem isStr_15 : isStr Try.prog 15 = false := by kernel_rfl
@[simp] theorem isBool_15 : isBool Try.prog 15 = false := by kernel_rfl
@[simp] theorem und_15 : (Try.prog.underlying 15).isSome = true := by kernel_rfl
@[simp] theorem good_15 : good Try.prog 15 = true := by kernel_rfl
@[simp] theorem zrc_15 : zrc Try.prog 15 = some [.sc (.pointer none)] := by kernel_rfl
@[simp] theorem siz_16 : siz Try.prog 16 = 1 := by kernel_rfl
@[simp] theorem byt_16 : byt Try.prog 16 = 8 := by kernel_rfl
@[simp] theorem ags_16 : ags Try.prog 16 = false := by kernel_rfl
@[simp] theorem elm_16 : elm Try.prog 16 = none := by kernel_rfl
@[simp] theorem arr_16 : arr Try.prog 16 = none := by kernel_rfl
@[simp] theorem ikd_16 : ikd Try.prog 16 = none := by kernel_rfl
@[simp] theorem isStr_16 : isStr Try.prog 16 = false := by kernel_rfl
@[simp] theorem isBool_16 : isBool Try.prog 16 = false := by kernel_rfl
@[simp] theorem und_16 : (Try.prog.underlying 16).isSome = true := by kernel_rfl
@[simp] theorem good_16 : good Try.prog 16 = true := by kernel_rfl
@[simp] theorem zrc_16 : zrc Try.prog 16 = some [.sc (.pointer none)] := by kernel_rfl
@[simp] theorem siz_17 : siz Try.prog 17 = 1 := by kernel_rfl
@[simp] theorem byt_17 : byt Try.prog 17 = 8 := by kernel_rfl
@[simp] theorem ags_17 : ags Try.prog 17 = false := by kernel_rfl
@[simp] theorem elm_17 : elm Try.prog 17 = none := by kernel_rfl
@[simp] theorem arr_17 : arr Try.prog 17 = none := by kernel_rfl
@[simp] theorem ikd_17 : ikd Try.prog 17 = none := by kernel_rfl
@[simp] theorem isStr_17 : isStr Try.prog 17 = false := by kernel_rfl
@[simp] theorem isBool_17 : isBool Try.prog 17 = false := by kernel_rfl
@[simp] theorem und_17 : (Try.prog.underlying 17).isSome = true := by kernel_rfl
@[simp] theorem good_17 : good Try.prog 17 = true := by kernel_rfl
@[simp] theorem zrc_17 : zrc Try.prog 17 = some [.sc (.pointer none)] := by kernel_rfl
@[simp] theorem siz_18 : siz Try.prog 18 = 1 := by kernel_rfl
@[simp] theorem byt_18 : byt Try.prog 18 = 8 := by kernel_rfl
@[simp] theorem ags_18 : ags Try.prog 18 = true := by kernel_rfl
@[simp] theorem elm_18 : elm Try.prog 18 = none := by kernel_rfl
@[simp] theorem arr_18 : arr Try.prog 18 = none := by kernel_rfl
@[simp] theorem ikd_18 : ikd Try.prog 18 = none := by kernel_rfl
@[simp] theorem isStr_18 : isStr Try.prog 18 = false := by kernel_rfl
@[simp] theorem isBool_18 : isBool Try.prog 18 = false := by kernel_rfl
@[simp] theorem und_18 : (Try.prog.underlying 18).isSome = true := by kernel_rfl
@[simp] theorem good_18 : good Try.prog 18 = true := by kernel_rfl
@[simp] theorem zrc_18 : zrc Try.prog 18 = some [.sc (.pointer none)] := by kernel_rfl
@[simp] theorem fld_18_0 : fld Try.prog 18 0 = some (0, 17) := by kernel_rfl
@[simp] theorem plc_18 : plc Try.prog 18 = some [(0, 1)] := by kernel_rfl
@[simp] theorem siz_19 : siz Try.prog 19 = 1 := by kernel_rfl
@[simp] theorem byt_19 : byt Try.prog 19 = 8 := by kernel_rfl
@[simp] theorem ags_19 : ags Try.prog 19 = true := by kernel_rfl
@[simp] theorem elm_19 : elm Try.prog 19 = none := by kernel_rfl
@[simp] theorem arr_19 : arr Try.prog 19 = none := by kernel_rfl
@[simp] theorem ikd_19 : ikd Try.prog 19 = none := by kernel_rfl
@[simp] theorem isStr_19 : isStr Try.prog 19 = false := by kernel_rfl
@[simp] theorem isBool_19 : isBool Try.prog 19 = false := by kernel_rfl
@[simp] theorem und_19 : (Try.prog.underlying 19).isSome = true := by kernel_rfl
@[simp] theorem good_19 : good Try.prog 19 = true := by kernel_rfl
@[simp] theorem zrc_19 : zrc Try.prog 19 = some [.sc (.pointer none)] := by kernel_rfl
@[simp] theorem fld_19_0 : fld Try.prog 19 0 = some (0, 17) := by kernel_rfl
@[simp] theorem plc_19 : plc Try.prog 19 = some [(0, 1)] := by kernel_rfl
@[simp] theorem siz_21 : siz Try.prog 21 = 1 := by kernel_rfl
@[simp] theorem byt_21 : byt Try.prog 21 = 4 := by kernel_rfl
@[simp] theorem ags_21 : ags Try.prog 21 = false := by kernel_rfl
@[simp] theorem elm_21 : elm Try.prog 21 = none := by kernel_rfl
@[simp] theorem arr_21 : arr Try.prog 21 = none := by kernel_rfl
@[simp] theorem ikd_21 : ikd Try.prog 21 = some .i32 := by kernel_rfl
@[simp] theorem isStr_21 : isStr Try.prog 21 = false := by kernel_rfl
@[simp] theorem isBool_21 : isBool Try.prog 21 = false := by kernel_rfl
@[simp] theorem und_21 : (Try.prog.underlying 21).isSome = true := by kernel_rfl
@[simp] theorem good_21 : good Try.prog 21 = true := by kernel_rfl
@[simp] theorem zrc_21 : zrc Try.prog 21 = some [.sc (.int .i32 0)] := by kernel_rfl
@[simp] theorem siz_22 : siz Try.prog 22 = 1 := by kernel_rfl
@[simp] theorem byt_22 : byt Try.prog 22 = 24 := by kernel_rfl
@[simp] theorem ags_22 : ags Try.prog 22 = false := by kernel_rfl
@[simp] theorem elm_22 : elm Try.prog 22 = some 5 := by kernel_rfl
@[simp] theorem arr_22 : arr Try.prog 22 = none := by kernel_rfl
@[simp] theorem ikd_22 : ikd Try.prog 22 = none := by kernel_rfl
@[simp] theorem isStr_22 : isStr Try.prog 22 = false := by kernel_rfl
@[simp] theorem isBool_22 : isBool Try.prog 22 = false := by kernel_rfl
@[simp] theorem und_22 : (Try.prog.underlying 22).isSome = true := by kernel_rfl
@[simp] theorem good_22 : good Try.prog 22 = true := by kernel_rfl
@[simp] theorem zrc_22 : zrc Try.prog 22 = some [.nl] := by kernel_rfl
@[simp] theorem siz_24 : siz Try.prog 24 = 32 := by kernel_rfl
@[simp] theorem byt_24 : byt Try.prog 24 = 32 := by kernel_rfl
@[simp] theorem ags_24 : ags Try.prog 24 = true := by kernel_rfl
@[simp] theorem elm_24 : elm Try.prog 24 = none := by kernel_rfl
@[simp] theorem arr_24 : arr Try.prog 24 = some (32, 5) := by kernel_rfl
@[simp] theorem ikd_24 : ikd Try.prog 24 = none := by kernel_rfl
@[simp] theorem isStr_24 : isStr Try.prog 24 = false := by kernel_rfl
@[simp] theorem isBool_24 : isBool Try.prog 24 = false := by kernel_rfl
@[simp] theorem und_24 : (Try.prog.underlying 24).isSome = true := by kernel_rfl
@[simp] theorem good_24 : good Try.prog 24 = true := by kernel_rfl
@[simp] theorem zrc_24 : zrc Try.prog 24 = some [.sc (.int .u8 0), .sc (.int .u8 0), .sc (.int .u8 0), .sc (.int .u8 0), .sc (.int .u8 0), .sc (.int .u8 0), .sc (.int .u8 0), .sc (.int .u8 0), .sc (.int .u8 0), .sc (.int .u8 0), .sc (.int .u8 0), .sc (.int .u8 0), .sc (.int .u8 0), .sc (.int .u8 0), .sc (.int .u8 0), .sc (.int .u8 0), .sc (.int .u8 0), .sc (.int .u8 0), .sc (.int .u8 0), .sc (.int .u8 0), .sc (.int .u8 0), .sc (.int .u8 0), .sc (.int .u8 0), .sc (.int .u8 0), .sc (.int .u8 0), .sc (.int .u8 0), .sc (.int .u8 0), .sc (.int .u8 0), .sc (.int .u8 0), .sc (.int .u8 0), .sc (.int .u8 0), .sc (.int .u8 0)] := by kernel_rfl
@[simp] theorem lks_24 : lks Try.prog 6 24 = some [.i, .i, .i, .i, .i, .i, .i, .i, .i, .i, .i, .i, .i, .i, .i, .i, .i, .i, .i, .i, .i, .i, .i, .i, .i, .i, .i, .i, .i, .i, .i, .i] := by kernel_rfl
@[simp] theorem egt_24 : Try.prog.eqGuardType Try.prog.depth 24 = false := by kernel_rfl
@[simp] theorem plc_24 : plc Try.prog 24 = some [(0, 1), (1, 1), (2, 1), (3, 1), (4, 1), (5, 1), (6, 1), (7, 1), (8, 1), (9, 1), (10, 1), (11, 1), (12, 1), (13, 1), (14, 1), (15, 1), (16, 1), (17, 1), (18, 1), (19, 1), (20, 1), (21, 1), (22, 1), (23, 1), (24, 1), (25, 1), (26, 1), (27, 1), (28, 1), (29, 1), (30, 1), (31, 1)] := by kernel_rfl
@[simp] theorem siz_25 : siz Try.prog 25 = 32 := by kernel_rfl
@[simp] theorem byt_25 : byt Try.prog 25 = 32 := by kernel_rfl
@[simp] theorem ags_25 : ags Try.prog 25 = true := by kernel_rfl
@[simp] theorem elm_25 : elm Try.prog 25 = none := by kernel_rfl
@[simp] theorem arr_25 : arr Try.prog 25 = some (32, 5) := by kernel_rfl
@[simp] theorem ikd_25 : ikd Try.prog 25 = none := by kernel_rfl
@[simp] theorem isStr_25 : isStr Try.prog 25 = false := by kernel_rfl
@[simp] theorem isBool_25 : isBool Try.prog 25 = false := by kernel_rfl
@[simp] theorem und_25 : (Try.prog.underlying 25).isSome = true := by kernel_rfl
@[simp] theorem good_25 : good Try.prog 25 = true := by kernel_rfl
@[simp] theorem zrc_25 : zrc Try.prog 25 = some [.sc (.int .u8 0), .sc (.int .u8 0), .sc (.int .u8 0), .sc (.int .u8 0), .sc (.int .u8 0), .sc (.int .u8 0), .sc (.int .u8 0), .sc (.int .u8 0), .sc (.int .u8 0), .sc (.int .u8 0), .sc (.int .u8 0), .sc (.int .u8 0), .sc (.int .u8 0), .sc (.int .u8 0), .sc (.int .u8 0), .sc (.int .u8 0), .sc (.int .u8 0), .sc (.int .u8 0), .sc (.int .u8 0), .sc (.int .u8 0), .sc (.int .u8 0), .sc (.int .u8 0), .sc (.int .u8 0), .sc (.int .u8 0), .sc (.int .u8 0), .sc (.int .u8 0), .sc (.int .u8 0), .sc (.int .u8 0), .sc (.int .u8 0), .sc (.int .u8 0), .sc (.int .u8 0), .sc (.int .u8 0)] := by kernel_rfl
@[simp] theorem lks_25 : lks Try.prog 6 25 = some [.i, .i, .i, .i, .i, .i, .i, .i, .i, .i, .i, .i, .i, .i, .i, .i, .i, .i, .i, .i, .i, .i, .i, .i, .i, .i, .i, .i, .i, .i, .i, .i] := by kernel_rfl
@[simp] theorem egt_25 : Try.prog.eqGuardType Try.prog.depth 25 = false := by kernel_rfl
@[simp] theorem plc_25 : plc Try.prog 25 = some [(0, 1), (1, 1), (2, 1), (3, 1), (4, 1), (5, 1), (6, 1), (7, 1), (8, 1), (9, 1), (10, 1), (11, 1), (12, 1), (13, 1), (14, 1), (15, 1), (16, 1), (17, 1), (18, 1), (19, 1), (20, 1), (21, 1), (22, 1), (23, 1), (24, 1), (25, 1), (26, 1), (27, 1), (28, 1), (29, 1), (30, 1), (31, 1)] := by kernel_rfl
@[simp] theorem siz_29 : siz Try.prog 29 = 1 := by kernel_rfl
@[simp] theorem byt_29 : byt Try.prog 29 = 24 := by kernel_rfl
@[simp] theorem ags_29 : ags Try.prog 29 = false := by kernel_rfl
@[simp] theorem elm_29 : elm Try.prog 29 = some 22 := by kernel_rfl
@[simp] theorem arr_29 : arr Try.prog 29 = none := by kernel_rfl
@[simp] theorem ikd_29 : ikd Try.prog 29 = none := by kernel_rfl
@[simp] theorem isStr_29 : isStr Try.prog 29 = false := by kernel_rfl
@[simp] theorem isBool_29 : isBool Try.prog 29 = false := by kernel_rfl
@[simp] theorem und_29 : (Try.prog.underlying 29).isSome = true := by kernel_rfl
@[simp] theorem good_29 : good Try.prog 29 = true := by kernel_rfl
@[simp] theorem zrc_29 : zrc Try.prog 29 = some [.nl] := by kernel_rfl
@[simp] theorem siz_30 : siz Try.prog 30 = 1 := by kernel_rfl
@[simp] theorem byt_30 : byt Try.prog 30 = 8 := by kernel_rfl
@[simp] theorem ags_30 : ags Try.prog 30 = false := by kernel_rfl
@[simp] theorem elm_30 : elm Try.prog 30 = none := by kernel_rfl
@[simp] theorem arr_30 : arr Try.prog 30 = none := by kernel_rfl
@[simp] theorem ikd_30 : ikd Try.prog 30 = none := by kernel_rfl
@[simp] theorem isStr_30 : isStr Try.prog 30 = false := by kernel_rfl
@[simp] theorem isBool_30 : isBool Try.prog 30 = false := by kernel_rfl
@[simp] theorem und_30 : (Try.prog.underlying 30).isSome = true := by kernel_rfl
@[simp] theorem good_30 : good Try.prog 30 = true := by kernel_rfl
@[simp] theorem zrc_30 : zrc Try.prog 30 = some [.sc (.pointer none)] := by kernel_rfl
@[simp] theorem siz_34 : siz Try.prog 34 = 1 := by kernel_rfl
@[simp] theorem byt_34 : byt Try.prog 34 = 8 := by kernel_rfl
@[simp] theorem ags_34 : ags Try.prog 34 = false := by kernel_rfl
@[simp] theorem elm_34 : elm Try.prog 34 = none := by kernel_rfl
@[simp] theorem arr_34 : arr Try.prog 34 = none := by kernel_rfl
@[simp] theorem ikd_34 : ikd Try.prog 34 = some .u64 := by kernel_rfl
@[simp] theorem isStr_34 : isStr Try.prog 34 = false := by kernel_rfl
@[simp] theorem isBool_34 : isBool Try.prog 34 = false := by kernel_rfl
@[simp] theorem und_34 : (Try.prog.underlying 34).isSome = true := by kernel_rfl
@[simp] theorem good_34 : good Try.prog 34 = true := by kernel_rfl
@[simp] theorem zrc_34 : zrc Try.prog 34 = some [.sc (.int .u64 0)] := by kernel_rfl
@[simp] theorem siz_38 : siz Try.prog 38 = 1 := by kernel_rfl
@[simp] theorem byt_38 : byt Try.prog 38 = 4 := by kernel_rfl
@[simp] theorem ags_38 : ags Try.prog 38 = false := by kernel_rfl
@[simp] theorem elm_38 : elm Try.prog 38 = none := by kernel_rfl
@[simp] theorem arr_38 : arr Try.prog 38 = none := by kernel_rfl
@[simp] theorem ikd_38 : ikd Try.prog 38 = some .u32 := by kernel_rfl
@[simp] theorem isStr_38 : isStr Try.prog 38 = false := by kernel_rfl
@[simp] theorem isBool_38 : isBool Try.prog 38 = false := by kernel_rfl
@[simp] theorem und_38 : (Try.prog.underlying 38).isSome = true := by kernel_rfl
@[simp] theorem good_38 : good Try.prog 38 = true := by kernel_rfl
@[simp] theorem zrc_38 : zrc Try.prog 38 = some [.sc (.int .u32 0)] := by kernel_rfl
@[simp] theorem siz_39 : siz Try.prog 39 = 8 := by kernel_rfl
@[simp] theorem byt_39 : byt Try.prog 39 = 32 := by kernel_rfl
@[simp] theorem ags_39 : ags Try.prog 39 = true := by kernel_rfl
@[simp] theorem elm_39 : elm Try.prog 39 = none := by kernel_rfl
@[simp] theorem arr_39 : arr Try.prog 39 = some (8, 38) := by kernel_rfl
@[simp] theorem ikd_39 : ikd Try.prog 39 = none := by kernel_rfl
@[simp] theorem isStr_39 : isStr Try.prog 39 = false := by kernel_rfl
@[simp] theorem isBool_39 : isBool Try.prog 39 = false := by kernel_rfl
@[simp] theorem und_39 : (Try.prog.underlying 39).isSome = true := by kernel_rfl
@[simp] theorem good_39 : good Try.prog 39 = true := by kernel_rfl
@[simp] theorem zrc_39 : zrc Try.prog 39 = some [.sc (.int .u32 0), .sc (.int .u32 0), .sc (.int .u32 0), .sc (.int .u32 0), .sc (.int .u32 0), .sc (.int .u32 0), .sc (.int .u32 0), .sc (.int .u32 0)] := by kernel_rfl
@[simp] theorem lks_39 : lks Try.prog 6 39 = some [.i, .i, .i, .i, .i, .i, .i, .i] := by kernel_rfl
@[simp] theorem egt_39 : Try.prog.eqGuardType Try.prog.depth 39 = false := by kernel_rfl
@[simp] theorem plc_39 : plc Try.prog 39 = some [(0, 1), (1, 1), (2, 1), (3, 1), (4, 1), (5, 1), (6, 1), (7, 1)] := by kernel_rfl
@[simp] theorem siz_40 : siz Try.prog 40 = 8 := by kernel_rfl
@[simp] theorem byt_40 : byt Try.prog 40 = 32 := by kernel_rfl
@[simp] theorem ags_40 : ags Try.prog 40 = true := by kernel_rfl
@[simp] theorem elm_40 : elm Try.prog 40 = none := by kernel_rfl
@[simp] theorem arr_40 : arr Try.prog 40 = some (8, 38) := by kernel_rfl
@[simp] theorem ikd_40 : ikd Try.prog 40 = none := by kernel_rfl
@[simp] theorem isStr_40 : isStr Try.prog 40 = false := by kernel_rfl
@[simp] theorem isBool_40 : isBool Try.prog 40 = false := by kernel_rfl
@[simp] theorem und_40 : (Try.prog.underlying 40).isSome = true := by kernel_rfl
@[simp] theorem good_40 : good Try.prog 40 = true := by kernel_rfl
@[simp] theorem zrc_40 : zrc Try.prog 40 = some [.sc (.int .u32 0), .sc (.int .u32 0), .sc (.int .u32 0), .sc (.int .u32 0), .sc (.int .u32 0), .sc (.int .u32 0), .sc (.int .u32 0), .sc (.int .u32 0)] := by kernel_rfl
@[simp] theorem lks_40 : lks Try.prog 6 40 = some [.i, .i, .i, .i, .i, .i, .i, .i] := by kernel_rfl
@[simp] theorem egt_40 : Try.prog.eqGuardType Try.prog.depth 40 = false := by kernel_rfl
@[simp] theorem plc_40 : plc Try.prog 40 = some [(0, 1), (1, 1), (2, 1), (3, 1), (4, 1), (5, 1), (6, 1), (7, 1)] := by kernel_rfl
@[simp] theorem siz_41 : siz Try.prog 41 = 11 := by kernel_rfl
@[simp] theorem byt_41 : byt Try.prog 41 = 72 := by kernel_rfl
@[simp] theorem ags_41 : ags Try.prog 41 = true := by kernel_rfl
@[simp] theorem elm_41 : elm Try.prog 41 = none := by kernel_rfl
@[simp] theorem arr_41 : arr Try.prog 41 = none := by kernel_rfl
@[simp] theorem ikd_41 : ikd Try.prog 41 = none := by kernel_rfl
@[simp] theorem isStr_41 : isStr Try.prog 41 = false := by kernel_rfl
@[simp] theorem isBool_41 : isBool Try.prog 41 = false := by kernel_rfl
@[simp] theorem und_41 : (Try.prog.underlying 41).isSome = true := by kernel_rfl
@[simp] theorem good_41 : good Try.prog 41 = true := by kernel_rfl
@[simp] theorem zrc_41 : zrc Try.prog 41 = some [.sc (.bool false), .sc (.int .u32 0), .sc (.int .u32 0), .sc (.int .u32 0), .sc (.int .u32 0), .sc (.int .u32 0), .sc (.int .u32 0), .sc (.int .u32 0), .sc (.int .u32 0), .nl, .sc (.int .u64 0)] := by kernel_rfl
@[simp] theorem fld_41_0 : fld Try.prog 41 0 = some (0, 4) := by kernel_rfl
@[simp] theorem fld_41_1 : fld Try.prog 41 1 = some (1, 40) := by kernel_rfl
@[simp] theorem fld_41_2 : fld Try.prog 41 2 = some (9, 22) := by kernel_rfl
@[simp] theorem fld_41_3 : fld Try.prog 41 3 = some (10, 34) := by kernel_rfl
@[simp] theorem plc_41 : plc Try.prog 41 = some [(0, 1), (1, 8), (9, 1), (10, 1)] := by kernel_rfl
@[simp] theorem siz_42 : siz Try.prog 42 = 11 := by kernel_rfl
@[simp] theorem byt_42 : byt Try.prog 42 = 72 := by kernel_rfl
@[simp] theorem ags_42 : ags Try.prog 42 = true := by kernel_rfl
@[simp] theorem elm_42 : elm Try.prog 42 = none := by kernel_rfl
@[simp] theorem arr_42 : arr Try.prog 42 = none := by kernel_rfl
@[simp] theorem ikd_42 : ikd Try.prog 42 = none := by kernel_rfl
@[simp] theorem isStr_42 : isStr Try.prog 42 = false := by kernel_rfl
@[simp] theorem isBool_42 : isBool Try.prog 42 = false := by kernel_rfl
@[simp] theorem und_42 : (Try.prog.underlying 42).isSome = true := by kernel_rfl
@[simp] theorem good_42 : good Try.prog 42 = true := by kernel_rfl
@[simp] theorem zrc_42 : zrc Try.prog 42 = some [.sc (.bool false), .sc (.int .u32 0), .sc (.int .u32 0), .sc (.int .u32 0), .sc (.int .u32 0), .sc (.int .u32 0), .sc (.int .u32 0), .sc (.int .u32 0), .sc (.int .u32 0), .nl, .sc (.int .u64 0)] := by kernel_rfl
@[simp] theorem fld_42_0 : fld Try.prog 42 0 = some (0, 4) := by kernel_rfl
@[simp] theorem fld_42_1 : fld Try.prog 42 1 = some (1, 40) := by kernel_rfl
@[simp] theorem fld_42_2 : fld Try.prog 42 2 = some (9, 22) := by kernel_rfl
@[simp] theorem fld_42_3 : fld Try.prog 42 3 = some (10, 34) := by kernel_rfl
@[simp] theorem plc_42 : plc Try.prog 42 = some [(0, 1), (1, 8), (9, 1), (10, 1)] := by kernel_rfl
@[simp] theorem siz_43 : siz Try.prog 43 = 1 := by kernel_rfl
@[simp] theorem byt_43 : byt Try.prog 43 = 24 := by kernel_rfl
@[simp] theorem ags_43 : ags Try.prog 43 = false := by kernel_rfl
@[simp] theorem elm_43 : elm Try.prog 43 = some 30 := by kernel_rfl
@[simp] theorem arr_43 : arr Try.prog 43 = none := by kernel_rfl
@[simp] theorem ikd_43 : ikd Try.prog 43 = none := by kernel_rfl
@[simp] theorem isStr_43 : isStr Try.prog 43 = false := by kernel_rfl
@[simp] theorem isBool_43 : isBool Try.prog 43 = false := by kernel_rfl
@[simp] theorem und_43 : (Try.prog.underlying 43).isSome = true := by kernel_rfl
@[simp] theorem good_43 : good Try.prog 43 = true := by kernel_rfl
@[simp] theorem zrc_43 : zrc Try.prog 43 = some [.nl] := by kernel_rfl
@[simp] theorem siz_44 : siz Try.prog 44 = 1 := by kernel_rfl
@[simp] theorem byt_44 : byt Try.prog 44 = 8 := by kernel_rfl
@[simp] theorem ags_44 : ags Try.prog 44 = false := by kernel_rfl
@[simp] theorem elm_44 : elm Try.prog 44 = none := by kernel_rfl
@[simp] theorem arr_44 : arr Try.prog 44 = none := by kernel_rfl
@[simp] theorem ikd_44 : ikd Try.prog 44 = some .i64 := by kernel_rfl
@[simp] theorem isStr_44 : isStr Try.prog 44 = false := by kernel_rfl
@[simp] theorem isBool_44 : isBool Try.prog 44 = false := by kernel_rfl
@[simp] theorem und_44 : (Try.prog.underlying 44).isSome = true := by kernel_rfl
@[simp] theorem good_44 : good Try.prog 44 = true := by kernel_rfl
@[simp] theorem zrc_44 : zrc Try.prog 44 = some [.sc (.int .i64 0)] := by kernel_rfl
@[simp] theorem siz_52 : siz Try.prog 52 = 1 := by kernel_rfl
@[simp] theorem byt_52 : byt Try.prog 52 = 24 := by kernel_rfl
@[simp] theorem ags_52 : ags Try.prog 52 = false := by kernel_rfl
@[simp] theorem elm_52 : elm Try.prog 52 = some 60 := by kernel_rfl
@[simp] theorem arr_52 : arr Try.prog 52 = none := by kernel_rfl
@[simp] theorem ikd_52 : ikd Try.prog 52 = none := by kernel_rfl
@[simp] theorem isStr_52 : isStr Try.prog 52 = false := by kernel_rfl
@[simp] theorem isBool_52 : isBool Try.prog 52 = false := by kernel_rfl
@[simp] theorem und_52 : (Try.prog.underlying 52).isSome = true := by kernel_rfl
@[simp] theorem good_52 : good Try.prog 52 = true := by kernel_rfl
@[simp] theorem zrc_52 : zrc Try.prog 52 = some [.nl] := by kernel_rfl
@[simp] theorem siz_53 : siz Try.prog 53 = 1 := by kernel_rfl
@[simp] theorem byt_53 : byt Try.prog 53 = 24 := by kernel_rfl
@[simp] theorem ags_53 : ags Try.prog 53 = false := by kernel_rfl
@[simp] theorem elm_53 : elm Try.prog 53 = some 2 := by kernel_rfl
@[simp] theorem arr_53 : arr Try.prog 53 = none := by kernel_rfl
@[simp] theorem ikd_53 : ikd Try.prog 53 = none := by kernel_rfl
@[simp] theorem isStr_53 : isStr Try.prog 53 = false := by kernel_rfl
@[simp] theorem isBool_53 : isBool Try.prog 53 = false := by kernel_rfl
@[simp] theorem und_53 : (Try.prog.underlying 53).isSome = true := by kernel_rfl
@[simp] theorem good_53 : good Try.prog 53 = true := by kernel_rfl
@[simp] theorem zrc_53 : zrc Try.prog 53 = some [.nl] := by kernel_rfl
@[simp] theorem siz_54 : siz Try.prog 54 = 2 := by kernel_rfl
@[simp] theorem byt_54 : byt Try.prog 54 = 32 := by kernel_rfl
@[simp] theorem ags_54 : ags Try.prog 54 = true := by kernel_rfl
@[simp] theorem elm_54 : elm Try.prog 54 = none := by kernel_rfl
@[simp] theorem arr_54 : arr Try.prog 54 = none := by kernel_rfl
@[simp] theorem ikd_54 : ikd Try.prog 54 = none := by kernel_rfl
@[simp] theorem isStr_54 : isStr Try.prog 54 = false := by kernel_rfl
@[simp] theorem isBool_54 : isBool Try.prog 54 = false := by kernel_rfl
@[simp] theorem und_54 : (Try.prog.underlying 54).isSome = true := by kernel_rfl
@[simp] theorem good_54 : good Try.prog 54 = true := by kernel_rfl
@[simp] theorem zrc_54 : zrc Try.prog 54 = some [.sc (.int .i64 0), .nl] := by kernel_rfl
@[simp] theorem fld_54_0 : fld Try.prog 54 0 = some (0, 2) := by kernel_rfl
@[simp] theorem fld_54_1 : fld Try.prog 54 1 = some (1, 53) := by kernel_rfl
@[simp] theorem plc_54 : plc Try.prog 54 = some [(0, 1), (1, 1)] := by kernel_rfl
@[simp] theorem siz_55 : siz Try.prog 55 = 2 := by kernel_rfl
@[simp] theorem byt_55 : byt Try.prog 55 = 32 := by kernel_rfl
@[simp] theorem ags_55 : ags Try.prog 55 = true := by kernel_rfl
@[simp] theorem elm_55 : elm Try.prog 55 = none := by kernel_rfl
@[simp] theorem arr_55 : arr Try.prog 55 = none := by kernel_rfl
@[simp] theorem ikd_55 : ikd Try.prog 55 = none := by kernel_rfl
@[simp] theorem isStr_55 : isStr Try.prog 55 = false := by kernel_rfl
@[simp] theorem isBool_55 : isBool Try.prog 55 = false := by kernel_rfl
@[simp] theorem und_55 : (Try.prog.underlying 55).isSome = true := by kernel_rfl
@[simp] theorem good_55 : good Try.prog 55 = true := by kernel_rfl
@[simp] theorem zrc_55 : zrc Try.prog 55 = some [.sc (.int .i64 0), .nl] := by kernel_rfl
@[simp] theorem fld_55_0 : fld Try.prog 55 0 = some (0, 2) := by kernel_rfl
@[simp] theorem fld_55_1 : fld Try.prog 55 1 = some (1, 53) := by kernel_rfl
@[simp] theorem plc_55 : plc Try.prog 55 = some [(0, 1), (1, 1)] := by kernel_rfl
@[simp] theorem siz_56 : siz Try.prog 56 = 2 := by kernel_rfl
@[simp] theorem byt_56 : byt Try.prog 56 = 16 := by kernel_rfl
@[simp] theorem ags_56 : ags Try.prog 56 = true := by kernel_rfl
@[simp] theorem elm_56 : elm Try.prog 56 = none := by kernel_rfl
@[simp] theorem arr_56 : arr Try.prog 56 = some (2, 3) := by kernel_rfl
@[simp] theorem ikd_56 : ikd Try.prog 56 = none := by kernel_rfl
@[simp] theorem isStr_56 : isStr Try.prog 56 = false := by kernel_rfl
@[simp] theorem isBool_56 : isBool Try.prog 56 = false := by kernel_rfl
@[simp] theorem und_56 : (Try.prog.underlying 56).isSome = true := by kernel_rfl
@[simp] theorem good_56 : good Try.prog 56 = true := by kernel_rfl
@[simp] theorem zrc_56 : zrc Try.prog 56 = some [.sc (.int .i64 0), .sc (.int .i64 0)] := by kernel_rfl
@[simp] theorem lks_56 : lks Try.prog 6 56 = some [.i, .i] := by kernel_rfl
@[simp] theorem egt_56 : Try.prog.eqGuardType Try.prog.depth 56 = false := by kernel_rfl
@[simp] theorem plc_56 : plc Try.prog 56 = some [(0, 1), (1, 1)] := by kernel_rfl
@[simp] theorem siz_57 : siz Try.prog 57 = 4 := by kernel_rfl
@[simp] theorem byt_57 : byt Try.prog 57 = 32 := by kernel_rfl
@[simp] theorem ags_57 : ags Try.prog 57 = true := by kernel_rfl
@[simp] theorem elm_57 : elm Try.prog 57 = none := by kernel_rfl
@[simp] theorem arr_57 : arr Try.prog 57 = none := by kernel_rfl
@[simp] theorem ikd_57 : ikd Try.prog 57 = none := by kernel_rfl
@[simp] theorem isStr_57 : isStr Try.prog 57 = false := by kernel_rfl
@[simp] theorem isBool_57 : isBool Try.prog 57 = false := by kernel_rfl
@[simp] theorem und_57 : (Try.prog.underlying 57).isSome = true := by kernel_rfl
@[simp] theorem good_57 : good Try.prog 57 = true := by kernel_rfl
@[simp] theorem zrc_57 : zrc Try.prog 57 = some [.sc (.int .i64 0), .sc (.int .i64 0), .sc (.int .i64 0), .sc (.int .i64 0)] := by kernel_rfl
@[simp] theorem fld_57_0 : fld Try.prog 57 0 = some (0, 2) := by kernel_rfl
@[simp] theorem fld_57_1 : fld Try.prog 57 1 = some (1, 2) := by kernel_rfl
@[simp] theorem fld_57_2 : fld Try.prog 57 2 = some (2, 2) := by kernel_rfl
@[simp] theorem fld_57_3 : fld Try.prog 57 3 = some (3, 2) := by kernel_rfl
@[simp] theorem plc_57 : plc Try.prog 57 = some [(0, 1), (1, 1), (2, 1), (3, 1)] := by kernel_rfl
@[simp] theorem lks_57 : lks Try.prog 6 57 = some [.i, .i, .i, .i] := by kernel_rfl
@[simp] theorem egt_57 : Try.prog.eqGuardType Try.prog.depth 57 = false := by kernel_rfl
@[simp] theorem siz_58 : siz Try.prog 58 = 4 := by kernel_rfl
@[simp] theorem byt_58 : byt Try.prog 58 = 32 := by kernel_rfl
@[simp] theorem ags_58 : ags Try.prog 58 = true := by kernel_rfl
@[simp] theorem elm_58 : elm Try.prog 58 = none := by kernel_rfl
@[simp] theorem arr_58 : arr Try.prog 58 = none := by kernel_rfl
@[simp] theorem ikd_58 : ikd Try.prog 58 = none := by kernel_rfl
@[simp] theorem isStr_58 : isStr Try.prog 58 = false := by kernel_rfl
@[simp] theorem isBool_58 : isBool Try.prog 58 = false := by kernel_rfl
@[simp] theorem und_58 : (Try.prog.underlying 58).isSome = true := by kernel_rfl
@[simp] theorem good_58 : good Try.prog 58 = true := by kernel_rfl
@[simp] theorem zrc_58 : zrc Try.prog 58 = some [.sc (.int .i64 0), .sc (.int .i64 0), .sc (.int .i64 0), .sc (.int .i64 0)] := by kernel_rfl
@[simp] theorem fld_58_0 : fld Try.prog 58 0 = some (0, 2) := by kernel_rfl
@[simp] theorem fld_58_1 : fld Try.prog 58 1 = some (1, 2) := by kernel_rfl
@[simp] theorem fld_58_2 : fld Try.prog 58 2 = some (2, 2) := by kernel_rfl
@[simp] theorem fld_58_3 : fld Try.prog 58 3 = some (3, 2) := by kernel_rfl
@[simp] theorem plc_58 : plc Try.prog 58 = some [(0, 1), (1, 1), (2, 1), (3, 1)] := by kernel_rfl
@[simp] theorem lks_58 : lks Try.prog 6 58 = some [.i, .i, .i, .i] := by kernel_rfl
@[simp] theorem egt_58 : Try.prog.eqGuardType Try.prog.depth 58 = false := by kernel_rfl
@[simp] theorem siz_59 : siz Try.prog 59 = 8 := by kernel_rfl
@[simp] theorem byt_59 : byt Try.prog 59 = 96 := by kernel_rfl
@[simp] theorem ags_59 : ags Try.prog 59 = true := by kernel_rfl
@[simp] theorem elm_59 : elm Try.prog 59 = none := by kernel_rfl
@[simp] theorem arr_59 : arr Try.prog 59 = none := by kernel_rfl
@[simp] theorem ikd_59 : ikd Try.prog 59 = none := by kernel_rfl
@[simp] theorem isStr_59 : isStr Try.prog 59 = false := by kernel_rfl
@[simp] theorem isBool_59 : isBool Try.prog 59 = false := by kernel_rfl
@[simp] theorem und_59 : (Try.prog.underlying 59).isSome = true := by kernel_rfl
@[simp] theorem good_59 : good Try.prog 59 = true := by kernel_rfl
@[simp] theorem zrc_59 : zrc Try.prog 59 = some [.sc (.string ⟨#[]⟩), .sc (.int .i64 0), .sc (.int .i64 0), .sc (.int .i64 0), .sc (.int .i64 0), .sc (.int .i64 0), .sc (.string ⟨#[]⟩), .nl] := by kernel_rfl
@[simp] theorem fld_59_0 : fld Try.prog 59 0 = some (0, 9) := by kernel_rfl
@[simp] theorem fld_59_1 : fld Try.prog 59 1 = some (1, 3) := by kernel_rfl
@[simp] theorem fld_59_2 : fld Try.prog 59 2 = some (2, 58) := by kernel_rfl
@[simp] theorem fld_59_3 : fld Try.prog 59 3 = some (6, 9) := by kernel_rfl
@[simp] theorem fld_59_4 : fld Try.prog 59 4 = some (7, 22) := by kernel_rfl
@[simp] theorem plc_59 : plc Try.prog 59 = some [(0, 1), (1, 1), (2, 4), (6, 1), (7, 1)] := by kernel_rfl
@[simp] theorem siz_60 : siz Try.prog 60 = 8 := by kernel_rfl
@[simp] theorem byt_60 : byt Try.prog 60 = 96 := by kernel_rfl
@[simp] theorem ags_60 : ags Try.prog 60 = true := by kernel_rfl
@[simp] theorem elm_60 : elm Try.prog 60 = none := by kernel_rfl
@[simp] theorem arr_60 : arr Try.prog 60 = none := by kernel_rfl
@[simp] theorem ikd_60 : ikd Try.prog 60 = none := by kernel_rfl
@[simp] theorem isStr_60 : isStr Try.prog 60 = false := by kernel_rfl
@[simp] theorem isBool_60 : isBool Try.prog 60 = false := by kernel_rfl
@[simp] theorem und_60 : (Try.prog.underlying 60).isSome = true := by kernel_rfl
@[simp] theorem good_60 : good Try.prog 60 = true := by kernel_rfl
@[simp] theorem zrc_60 : zrc Try.prog 60 = some [.sc (.string ⟨#[]⟩), .sc (.int .i64 0), .sc (.int .i64 0), .sc (.int .i64 0), .sc (.int .i64 0), .sc (.int .i64 0), .sc (.string ⟨#[]⟩), .nl] := by kernel_rfl
@[simp] theorem fld_60_0 : fld Try.prog 60 0 = some (0, 9) := by kernel_rfl
@[simp] theorem fld_60_1 : fld Try.prog 60 1 = some (1, 3) := by kernel_rfl
@[simp] theorem fld_60_2 : fld Try.prog 60 2 = some (2, 58) := by kernel_rfl
@[simp] theorem fld_60_3 : fld Try.prog 60 3 = some (6, 9) := by kernel_rfl
@[simp] theorem fld_60_4 : fld Try.prog 60 4 = some (7, 22) := by kernel_rfl
@[simp] theorem plc_60 : plc Try.prog 60 = some [(0, 1), (1, 1), (2, 4), (6, 1), (7, 1)] := by kernel_rfl
@[simp] theorem siz_62 : siz Try.prog 62 = 1 := by kernel_rfl
@[simp] theorem byt_62 : byt Try.prog 62 = 24 := by kernel_rfl
@[simp] theorem ags_62 : ags Try.prog 62 = false := by kernel_rfl
@[simp] theorem elm_62 : elm Try.prog 62 = some 99 := by kernel_rfl
@[simp] theorem arr_62 : arr Try.prog 62 = none := by kernel_rfl
@[simp] theorem ikd_62 : ikd Try.prog 62 = none := by kernel_rfl
@[simp] theorem isStr_62 : isStr Try.prog 62 = false := by kernel_rfl
@[simp] theorem isBool_62 : isBool Try.prog 62 = false := by kernel_rfl
@[simp] theorem und_62 : (Try.prog.underlying 62).isSome = true := by kernel_rfl
@[simp] theorem good_62 : good Try.prog 62 = true := by kernel_rfl
@[simp] theorem zrc_62 : zrc Try.prog 62 = some [.nl] := by kernel_rfl
@[simp] theorem siz_64 : siz Try.prog 64 = 2 := by kernel_rfl
@[simp] theorem byt_64 : byt Try.prog 64 = 32 := by kernel_rfl
@[simp] theorem ags_64 : ags Try.prog 64 = true := by kernel_rfl
@[simp] theorem elm_64 : elm Try.prog 64 = none := by kernel_rfl
@[simp] theorem arr_64 : arr Try.prog 64 = none := by kernel_rfl
@[simp] theorem ikd_64 : ikd Try.prog 64 = none := by kernel_rfl
@[simp] theorem isStr_64 : isStr Try.prog 64 = false := by kernel_rfl
@[simp] theorem isBool_64 : isBool Try.prog 64 = false := by kernel_rfl
@[simp] theorem und_64 : (Try.prog.underlying 64).isSome = true := by kernel_rfl
@[simp] theorem good_64 : good Try.prog 64 = true := by kernel_rfl
@[simp] theorem zrc_64 : zrc Try.prog 64 = some [.sc (.int .i64 0), .nl] := by kernel_rfl
@[simp] theorem fld_64_0 : fld Try.prog 64 0 = some (0, 2) := by kernel_rfl
@[simp] theorem fld_64_1 : fld Try.prog 64 1 = some (1, 53) := by kernel_rfl
@[simp] theorem plc_64 : plc Try.prog 64 = some [(0, 1), (1, 1)] := by kernel_rfl
@[simp] theorem siz_66 : siz Try.prog 66 = 1 := by kernel_rfl
@[simp] theorem byt_66 : byt Try.prog 66 = 24 := by kernel_rfl
@[simp] theorem ags_66 : ags Try.prog 66 = false := by kernel_rfl
@[simp] theorem elm_66 : elm Try.prog 66 = some 85 := by kernel_rfl
@[simp] theorem arr_66 : arr Try.prog 66 = none := by kernel_rfl
@[simp] theorem ikd_66 : ikd Try.prog 66 = none := by kernel_rfl
@[simp] theorem isStr_66 : isStr Try.prog 66 = false := by kernel_rfl
@[simp] theorem isBool_66 : isBool Try.prog 66 = false := by kernel_rfl
@[simp] theorem und_66 : (Try.prog.underlying 66).isSome = true := by kernel_rfl
@[simp] theorem good_66 : good Try.prog 66 = true := by kernel_rfl
@[simp] theorem zrc_66 : zrc Try.prog 66 = some [.nl] := by kernel_rfl
@[simp] theorem siz_73 : siz Try.prog 73 = 1 := by kernel_rfl
@[simp] theorem byt_73 : byt Try.prog 73 = 24 := by kernel_rfl
@[simp] theorem ags_73 : ags Try.prog 73 = false := by kernel_rfl
@[simp] theorem elm_73 : elm Try.prog 73 = some 111 := by kernel_rfl
@[simp] theorem arr_73 : arr Try.prog 73 = none := by kernel_rfl
@[simp] theorem ikd_73 : ikd Try.prog 73 = none := by kernel_rfl
@[simp] theorem isStr_73 : isStr Try.prog 73 = false := by kernel_rfl
@[simp] theorem isBool_73 : isBool Try.prog 73 = false := by kernel_rfl
@[simp] theorem und_73 : (Try.prog.underlying 73).isSome = true := by kernel_rfl
@[simp] theorem good_73 : good Try.prog 73 = true := by kernel_rfl
@[simp] theorem zrc_73 : zrc Try.prog 73 = some [.nl] := by kernel_rfl
@[simp] theorem siz_84 : siz Try.prog 84 = 3 := by kernel_rfl
@[simp] theorem byt_84 : byt Try.prog 84 = 40 := by kernel_rfl
@[simp] theorem ags_84 : ags Try.prog 84 = true := by kernel_rfl
@[simp] theorem elm_84 : elm Try.prog 84 = none := by kernel_rfl
@[simp] theorem arr_84 : arr Try.prog 84 = none := by kernel_rfl
@[simp] theorem ikd_84 : ikd Try.prog 84 = none := by kernel_rfl
@[simp] theorem isStr_84 : isStr Try.prog 84 = false := by kernel_rfl
@[simp] theorem isBool_84 : isBool Try.prog 84 = false := by kernel_rfl
@[simp] theorem und_84 : (Try.prog.underlying 84).isSome = true := by kernel_rfl
@[simp] theorem good_84 : good Try.prog 84 = true := by kernel_rfl
@[simp] theorem zrc_84 : zrc Try.prog 84 = some [.sc (.int .i64 0), .sc (.int .i64 0), .nl] := by kernel_rfl
@[simp] theorem fld_84_0 : fld Try.prog 84 0 = some (0, 3) := by kernel_rfl
@[simp] theorem fld_84_1 : fld Try.prog 84 1 = some (1, 3) := by kernel_rfl
@[simp] theorem fld_84_2 : fld Try.prog 84 2 = some (2, 22) := by kernel_rfl
@[simp] theorem plc_84 : plc Try.prog 84 = some [(0, 1), (1, 1), (2, 1)] := by kernel_rfl
@[simp] theorem siz_85 : siz Try.prog 85 = 3 := by kernel_rfl
@[simp] theorem byt_85 : byt Try.prog 85 = 40 := by kernel_rfl
@[simp] theorem ags_85 : ags Try.prog 85 = true := by kernel_rfl
@[simp] theorem elm_85 : elm Try.prog 85 = none := by kernel_rfl
@[simp] theorem arr_85 : arr Try.prog 85 = none := by kernel_rfl
@[simp] theorem ikd_85 : ikd Try.prog 85 = none := by kernel_rfl
@[simp] theorem isStr_85 : isStr Try.prog 85 = false := by kernel_rfl
@[simp] theorem isBool_85 : isBool Try.prog 85 = false := by kernel_rfl
@[simp] theorem und_85 : (Try.prog.underlying 85).isSome = true := by kernel_rfl
@[simp] theorem good_85 : good Try.prog 85 = true := by kernel_rfl
@[simp] theorem zrc_85 : zrc Try.prog 85 = some [.sc (.int .i64 0), .sc (.int .i64 0), .nl] := by kernel_rfl
@[simp] theorem fld_85_0 : fld Try.prog 85 0 = some (0, 3) := by kernel_rfl
@[simp] theorem fld_85_1 : fld Try.prog 85 1 = some (1, 3) := by kernel_rfl
@[simp] theorem fld_85_2 : fld Try.prog 85 2 = some (2, 22) := by kernel_rfl
@[simp] theorem plc_85 : plc Try.prog 85 = some [(0, 1), (1, 1), (2, 1)] := by kernel_rfl
@[simp] theorem siz_87 : siz Try.prog 87 = 1 := by kernel_rfl
@[simp] theorem byt_87 : byt Try.prog 87 = 24 := by kernel_rfl
@[simp] theorem ags_87 : ags Try.prog 87 = false := by kernel_rfl
@[simp] theorem elm_87 : elm Try.prog 87 = some 3 := by kernel_rfl
@[simp] theorem arr_87 : arr Try.prog 87 = none := by kernel_rfl
@[simp] theorem ikd_87 : ikd Try.prog 87 = none := by kernel_rfl
@[simp] theorem isStr_87 : isStr Try.prog 87 = false := by kernel_rfl
@[simp] theorem isBool_87 : isBool Try.prog 87 = false := by kernel_rfl
@[simp] theorem und_87 : (Try.prog.underlying 87).isSome = true := by kernel_rfl
@[simp] theorem good_87 : good Try.prog 87 = true := by kernel_rfl
@[simp] theorem zrc_87 : zrc Try.prog 87 = some [.nl] := by kernel_rfl
@[simp] theorem siz_89 : siz Try.prog 89 = 64 := by kernel_rfl
@[simp] theorem byt_89 : byt Try.prog 89 = 256 := by kernel_rfl
@[simp] theorem ags_89 : ags Try.prog 89 = true := by kernel_rfl
@[simp] theorem elm_89 : elm Try.prog 89 = none := by kernel_rfl
@[simp] theorem arr_89 : arr Try.prog 89 = some (64, 38) := by kernel_rfl
@[simp] theorem ikd_89 : ikd Try.prog 89 = none := by kernel_rfl
@[simp] theorem isStr_89 : isStr Try.prog 89 = false := by kernel_rfl
@[simp] theorem isBool_89 : isBool Try.prog 89 = false := by kernel_rfl
@[simp] theorem und_89 : (Try.prog.underlying 89).isSome = true := by kernel_rfl
@[simp] theorem good_89 : good Try.prog 89 = true := by kernel_rfl
@[simp] theorem zrc_89 : zrc Try.prog 89 = some [.sc (.int .u32 0), .sc (.int .u32 0), .sc (.int .u32 0), .sc (.int .u32 0), .sc (.int .u32 0), .sc (.int .u32 0), .sc (.int .u32 0), .sc (.int .u32 0), .sc (.int .u32 0), .sc (.int .u32 0), .sc (.int .u32 0), .sc (.int .u32 0), .sc (.int .u32 0), .sc (.int .u32 0), .sc (.int .u32 0), .sc (.int .u32 0), .sc (.int .u32 0), .sc (.int .u32 0), .sc (.int .u32 0), .sc (.int .u32 0), .sc (.int .u32 0), .sc (.int .u32 0), .sc (.int .u32 0), .sc (.int .u32 0), .sc (.int .u32 0), .sc (.int .u32 0), .sc (.int .u32 0), .sc (.int .u32 0), .sc (.int .u32 0), .sc (.int .u32 0), .sc (.int .u32 0), .sc (.int .u32 0), .sc (.int .u32 0), .sc (.int .u32 0), .sc (.int .u32 0), .sc (.int .u32 0), .sc (.int .u32 0), .sc (.int .u32 0), .sc (.int .u32 0), .sc (.int .u32 0), .sc (.int .u32 0), .sc (.int .u32 0), .sc (.int .u32 0), .sc (.int .u32 0), .sc (.int .u32 0), .sc (.int .u32 0), .sc (.int .u32 0), .sc (.int .u32 0), .sc (.int .u32 0), .sc (.int .u32 0), .sc (.int .u32 0), .sc (.int .u32 0), .sc (.int .u32 0), .sc (.int .u32 0), .sc (.int .u32 0), .sc (.int .u32 0), .sc (.int .u32 0), .sc (.int .u32 0), .sc (.int .u32 0), .sc (.int .u32 0), .sc (.int .u32 0), .sc (.int .u32 0), .sc (.int .u32 0), .sc (.int .u32 0)] := by kernel_rfl
@[simp] theorem lks_89 : lks Try.prog 6 89 = some [.i, .i, .i, .i, .i, .i, .i, .i, .i, .i, .i, .i, .i, .i, .i, .i, .i, .i, .i, .i, .i, .i, .i, .i, .i, .i, .i, .i, .i, .i, .i, .i, .i, .i, .i, .i, .i, .i, .i, .i, .i, .i, .i, .i, .i, .i, .i, .i, .i, .i, .i, .i, .i, .i, .i, .i, .i, .i, .i, .i, .i, .i, .i, .i] := by kernel_rfl
@[simp] theorem egt_89 : Try.prog.eqGuardType Try.prog.depth 89 = false := by kernel_rfl
@[simp] theorem plc_89 : plc Try.prog 89 = some [(0, 1), (1, 1), (2, 1), (3, 1), (4, 1), (5, 1), (6, 1), (7, 1), (8, 1), (9, 1), (10, 1), (11, 1), (12, 1), (13, 1), (14, 1), (15, 1), (16, 1), (17, 1), (18, 1), (19, 1), (20, 1), (21, 1), (22, 1), (23, 1), (24, 1), (25, 1), (26, 1), (27, 1), (28, 1), (29, 1), (30, 1), (31, 1), (32, 1), (33, 1), (34, 1), (35, 1), (36, 1), (37, 1), (38, 1), (39, 1), (40, 1), (41, 1), (42, 1), (43, 1), (44, 1), (45, 1), (46, 1), (47, 1), (48, 1), (49, 1), (50, 1), (51, 1), (52, 1), (53, 1), (54, 1), (55, 1), (56, 1), (57, 1), (58, 1), (59, 1), (60, 1), (61, 1), (62, 1), (63, 1)] := by kernel_rfl
@[simp] theorem siz_97 : siz Try.prog 97 = 4 := by kernel_rfl
@[simp] theorem byt_97 : byt Try.prog 97 = 32 := by kernel_rfl
@[simp] theorem ags_97 : ags Try.prog 97 = true := by kernel_rfl
@[simp] theorem elm_97 : elm Try.prog 97 = none := by kernel_rfl
@[simp] theorem arr_97 : arr Try.prog 97 = none := by kernel_rfl
@[simp] theorem ikd_97 : ikd Try.prog 97 = none := by kernel_rfl
@[simp] theorem isStr_97 : isStr Try.prog 97 = false := by kernel_rfl
@[simp] theorem isBool_97 : isBool Try.prog 97 = false := by kernel_rfl
@[simp] theorem und_97 : (Try.prog.underlying 97).isSome = true := by kernel_rfl
@[simp] theorem good_97 : good Try.prog 97 = true := by kernel_rfl
@[simp] theorem zrc_97 : zrc Try.prog 97 = some [.sc (.int .i64 0), .sc (.int .i64 0), .sc (.int .i64 0), .sc (.int .i64 0)] := by kernel_rfl
@[simp] theorem fld_97_0 : fld Try.prog 97 0 = some (0, 2) := by kernel_rfl
@[simp] theorem fld_97_1 : fld Try.prog 97 1 = some (1, 2) := by kernel_rfl
@[simp] theorem fld_97_2 : fld Try.prog 97 2 = some (2, 2) := by kernel_rfl
@[simp] theorem fld_97_3 : fld Try.prog 97 3 = some (3, 2) := by kernel_rfl
@[simp] theorem plc_97 : plc Try.prog 97 = some [(0, 1), (1, 1), (2, 1), (3, 1)] := by kernel_rfl
@[simp] theorem lks_97 : lks Try.prog 6 97 = some [.i, .i, .i, .i] := by kernel_rfl
@[simp] theorem egt_97 : Try.prog.eqGuardType Try.prog.depth 97 = false := by kernel_rfl
@[simp] theorem siz_98 : siz Try.prog 98 = 8 := by kernel_rfl
@[simp] theorem byt_98 : byt Try.prog 98 = 96 := by kernel_rfl
@[simp] theorem ags_98 : ags Try.prog 98 = true := by kernel_rfl
@[simp] theorem elm_98 : elm Try.prog 98 = none := by kernel_rfl
@[simp] theorem arr_98 : arr Try.prog 98 = none := by kernel_rfl
@[simp] theorem ikd_98 : ikd Try.prog 98 = none := by kernel_rfl
@[simp] theorem isStr_98 : isStr Try.prog 98 = false := by kernel_rfl
@[simp] theorem isBool_98 : isBool Try.prog 98 = false := by kernel_rfl
@[simp] theorem und_98 : (Try.prog.underlying 98).isSome = true := by kernel_rfl
@[simp] theorem good_98 : good Try.prog 98 = true := by kernel_rfl
@[simp] theorem zrc_98 : zrc Try.prog 98 = some [.sc (.string ⟨#[]⟩), .sc (.int .i64 0), .sc (.int .i64 0), .sc (.int .i64 0), .sc (.int .i64 0), .sc (.int .i64 0), .sc (.string ⟨#[]⟩), .nl] := by kernel_rfl
@[simp] theorem fld_98_0 : fld Try.prog 98 0 = some (0, 9) := by kernel_rfl
@[simp] theorem fld_98_1 : fld Try.prog 98 1 = some (1, 3) := by kernel_rfl
@[simp] theorem fld_98_2 : fld Try.prog 98 2 = some (2, 97) := by kernel_rfl
@[simp] theorem fld_98_3 : fld Try.prog 98 3 = some (6, 9) := by kernel_rfl
@[simp] theorem fld_98_4 : fld Try.prog 98 4 = some (7, 22) := by kernel_rfl
@[simp] theorem plc_98 : plc Try.prog 98 = some [(0, 1), (1, 1), (2, 4), (6, 1), (7, 1)] := by kernel_rfl
@[simp] theorem siz_99 : siz Try.prog 99 = 8 := by kernel_rfl
@[simp] theorem byt_99 : byt Try.prog 99 = 96 := by kernel_rfl
@[simp] theorem ags_99 : ags Try.prog 99 = true := by kernel_rfl
@[simp] theorem elm_99 : elm Try.prog 99 = none := by kernel_rfl
@[simp] theorem arr_99 : arr Try.prog 99 = none := by kernel_rfl
@[simp] theorem ikd_99 : ikd Try.prog 99 = none := by kernel_rfl
@[simp] theorem isStr_99 : isStr Try.prog 99 = false := by kernel_rfl
@[simp] theorem isBool_99 : isBool Try.prog 99 = false := by kernel_rfl
@[simp] theorem und_99 : (Try.prog.underlying 99).isSome = true := by kernel_rfl
@[simp] theorem good_99 : good Try.prog 99 = true := by kernel_rfl
@[simp] theorem zrc_99 : zrc Try.prog 99 = some [.sc (.string ⟨#[]⟩), .sc (.int .i64 0), .sc (.int .i64 0), .sc (.int .i64 0), .sc (.int .i64 0), .sc (.int .i64 0), .sc (.string ⟨#[]⟩), .nl] := by kernel_rfl
@[simp] theorem fld_99_0 : fld Try.prog 99 0 = some (0, 9) := by kernel_rfl
@[simp] theorem fld_99_1 : fld Try.prog 99 1 = some (1, 3) := by kernel_rfl
@[simp] theorem fld_99_2 : fld Try.prog 99 2 = some (2, 97) := by kernel_rfl
@[simp] theorem fld_99_3 : fld Try.prog 99 3 = some (6, 9) := by kernel_rfl
@[simp] theorem fld_99_4 : fld Try.prog 99 4 = some (7, 22) := by kernel_rfl
@[simp] theorem plc_99 : plc Try.prog 99 = some [(0, 1), (1, 1), (2, 4), (6, 1), (7, 1)] := by kernel_rfl
@[simp] theorem siz_102 : siz Try.prog 102 = 1 := by kernel_rfl
@[simp] theorem byt_102 : byt Try.prog 102 = 8 := by kernel_rfl
@[simp] theorem ags_102 : ags Try.prog 102 = false := by kernel_rfl
@[simp] theorem elm_102 : elm Try.prog 102 = none := by kernel_rfl
@[simp] theorem arr_102 : arr Try.prog 102 = none := by kernel_rfl
@[simp] theorem ikd_102 : ikd Try.prog 102 = some .u64 := by kernel_rfl
@[simp] theorem isStr_102 : isStr Try.prog 102 = false := by kernel_rfl
@[simp] theorem isBool_102 : isBool Try.prog 102 = false := by kernel_rfl
@[simp] theorem und_102 : (Try.prog.underlying 102).isSome = true := by kernel_rfl
@[simp] theorem good_102 : good Try.prog 102 = true := by kernel_rfl
@[simp] theorem zrc_102 : zrc Try.prog 102 = some [.sc (.int .u64 0)] := by kernel_rfl
@[simp] theorem siz_111 : siz Try.prog 111 = 3 := by kernel_rfl
@[simp] theorem byt_111 : byt Try.prog 111 = 40 := by kernel_rfl
@[simp] theorem ags_111 : ags Try.prog 111 = true := by kernel_rfl
@[simp] theorem elm_111 : elm Try.prog 111 = none := by kernel_rfl
@[simp] theorem arr_111 : arr Try.prog 111 = none := by kernel_rfl
@[simp] theorem ikd_111 : ikd Try.prog 111 = none := by kernel_rfl
@[simp] theorem isStr_111 : isStr Try.prog 111 = false := by kernel_rfl
@[simp] theorem isBool_111 : isBool Try.prog 111 = false := by kernel_rfl
@[simp] theorem und_111 : (Try.prog.underlying 111).isSome = true := by kernel_rfl
@[simp] theorem good_111 : good Try.prog 111 = true := by kernel_rfl
@[simp] theorem zrc_111 : zrc Try.prog 111 = some [.sc (.int .i64 0), .sc (.int .i64 0), .nl] := by kernel_rfl
@[simp] theorem fld_111_0 : fld Try.prog 111 0 = some (0, 3) := by kernel_rfl
@[simp] theorem fld_111_1 : fld Try.prog 111 1 = some (1, 3) := by kernel_rfl
@[simp] theorem fld_111_2 : fld Try.prog 111 2 = some (2, 22) := by kernel_rfl
@[simp] theorem plc_111 : plc Try.prog 111 = some [(0, 1), (1, 1), (2, 1)] := by kernel_rfl
@[simp] theorem siz_128 : siz Try.prog 128 = 4 := by kernel_rfl
@[simp] theorem byt_128 : byt Try.prog 128 = 32 := by kernel_rfl
@[simp] theorem ags_128 : ags Try.prog 128 = true := by kernel_rfl
@[simp] theorem elm_128 : elm Try.prog 128 = none := by kernel_rfl
@[simp] theorem arr_128 : arr Try.prog 128 = some (4, 34) := by kernel_rfl
@[simp] theorem ikd_128 : ikd Try.prog 128 = none := by kernel_rfl
@[simp] theorem isStr_128 : isStr Try.prog 128 = false := by kernel_rfl
@[simp] theorem isBool_128 : isBool Try.prog 128 = false := by kernel_rfl
@[simp] theorem und_128 : (Try.prog.underlying 128).isSome = true := by kernel_rfl
@[simp] theorem good_128 : good Try.prog 128 = true := by kernel_rfl
@[simp] theorem zrc_128 : zrc Try.prog 128 = some [.sc (.int .u64 0), .sc (.int .u64 0), .sc (.int .u64 0), .sc (.int .u64 0)] := by kernel_rfl
@[simp] theorem lks_128 : lks Try.prog 6 128 = some [.i, .i, .i, .i] := by kernel_rfl
@[simp] theorem egt_128 : Try.prog.eqGuardType Try.prog.depth 128 = false := by kernel_rfl
@[simp] theorem plc_128 : plc Try.prog 128 = some [(0, 1), (1, 1), (2, 1), (3, 1)] := by kernel_rfl
@[simp] theorem siz_136 : siz Try.prog 136 = 4 := by kernel_rfl
@[simp] theorem byt_136 : byt Try.prog 136 = 40 := by kernel_rfl
@[simp] theorem ags_136 : ags Try.prog 136 = true := by kernel_rfl
@[simp] theorem elm_136 : elm Try.prog 136 = none := by kernel_rfl
@[simp] theorem arr_136 : arr Try.prog 136 = none := by kernel_rfl
@[simp] theorem ikd_136 : ikd Try.prog 136 = none := by kernel_rfl
@[simp] theorem isStr_136 : isStr Try.prog 136 = false := by kernel_rfl
@[simp] theorem isBool_136 : isBool Try.prog 136 = false := by kernel_rfl
@[simp] theorem und_136 : (Try.prog.underlying 136).isSome = true := by kernel_rfl
@[simp] theorem good_136 : good Try.prog 136 = true := by kernel_rfl
@[simp] theorem zrc_136 : zrc Try.prog 136 = some [.sc (.pointer none), .sc (.pointer none), .sc (.pointer none), .sc (.string ⟨#[]⟩)] := by kernel_rfl
@[simp] theorem fld_136_0 : fld Try.prog 136 0 = some (0, 17) := by kernel_rfl
@[simp] theorem fld_136_1 : fld Try.prog 136 1 = some (1, 17) := by kernel_rfl
@[simp] theorem fld_136_2 : fld Try.prog 136 2 = some (2, 17) := by kernel_rfl
@[simp] theorem fld_136_3 : fld Try.prog 136 3 = some (3, 9) := by kernel_rfl
@[simp] theorem plc_136 : plc Try.prog 136 = some [(0, 1), (1, 1), (2, 1), (3, 1)] := by kernel_rfl
@[simp] theorem siz_137 : siz Try.prog 137 = 4 := by kernel_rfl
@[simp] theorem byt_137 : byt Try.prog 137 = 40 := by kernel_rfl
@[simp] theorem ags_137 : ags Try.prog 137 = true := by kernel_rfl
@[simp] theorem elm_137 : elm Try.prog 137 = none := by kernel_rfl
@[simp] theorem arr_137 : arr Try.prog 137 = none := by kernel_rfl
@[simp] theorem ikd_137 : ikd Try.prog 137 = none := by kernel_rfl
@[simp] theorem isStr_137 : isStr Try.prog 137 = false := by kernel_rfl
@[simp] theorem isBool_137 : isBool Try.prog 137 = false := by kernel_rfl
@[simp] theorem und_137 : (Try.prog.underlying 137).isSome = true := by kernel_rfl
@[simp] theorem good_137 : good Try.prog 137 = true := by kernel_rfl
@[simp] theorem zrc_137 : zrc Try.prog 137 = some [.sc (.pointer none), .sc (.pointer none), .sc (.pointer none), .sc (.string ⟨#[]⟩)] := by kernel_rfl
@[simp] theorem fld_137_0 : fld Try.prog 137 0 = some (0, 17) := by kernel_rfl
@[simp] theorem fld_137_1 : fld Try.prog 137 1 = some (1, 17) := by kernel_rfl
@[simp] theorem fld_137_2 : fld Try.prog 137 2 = some (2, 17) := by kernel_rfl
@[simp] theorem fld_137_3 : fld Try.prog 137 3 = some (3, 9) := by kernel_rfl
@[simp] theorem plc_137 : plc Try.prog 137 = some [(0, 1), (1, 1), (2, 1), (3, 1)] := by kernel_rfl
@[simp] theorem siz_138 : siz Try.prog 138 = 0 := by kernel_rfl
@[simp] theorem byt_138 : byt Try.prog 138 = 0 := by kernel_rfl
@[simp] theorem ags_138 : ags Try.prog 138 = true := by kernel_rfl
@[simp] theorem elm_138 : elm Try.prog 138 = none := by kernel_rfl
@[simp] theorem arr_138 : arr Try.prog 138 = some (0, 16) := by kernel_rfl
@[simp] theorem ikd_138 : ikd Try.prog 138 = none := by kernel_rfl
@[simp] theorem isStr_138 : isStr Try.prog 138 = false := by kernel_rfl
@[simp] theorem isBool_138 : isBool Try.prog 138 = false := by kernel_rfl
@[simp] theorem und_138 : (Try.prog.underlying 138).isSome = true := by kernel_rfl
@[simp] theorem zrc_138 : zrc Try.prog 138 = some [] := by kernel_rfl
@[simp] theorem egt_138 : Try.prog.eqGuardType Try.prog.depth 138 = false := by kernel_rfl
@[simp] theorem plc_138 : plc Try.prog 138 = some [] := by kernel_rfl
@[simp] theorem siz_139 : siz Try.prog 139 = 0 := by kernel_rfl
@[simp] theorem byt_139 : byt Try.prog 139 = 0 := by kernel_rfl
@[simp] theorem ags_139 : ags Try.prog 139 = true := by kernel_rfl
@[simp] theorem elm_139 : elm Try.prog 139 = none := by kernel_rfl
@[simp] theorem arr_139 : arr Try.prog 139 = none := by kernel_rfl
@[simp] theorem ikd_139 : ikd Try.prog 139 = none := by kernel_rfl
@[simp] theorem isStr_139 : isStr Try.prog 139 = false := by kernel_rfl
@[simp] theorem isBool_139 : isBool Try.prog 139 = false := by kernel_rfl
@[simp] theorem und_139 : (Try.prog.underlying 139).isSome = true := by kernel_rfl
@[simp] theorem zrc_139 : zrc Try.prog 139 = some [] := by kernel_rfl
@[simp] theorem fld_139_0 : fld Try.prog 139 0 = some (0, 138) := by kernel_rfl
@[simp] theorem plc_139 : plc Try.prog 139 = some [(0, 0)] := by kernel_rfl
@[simp] theorem egt_139 : Try.prog.eqGuardType Try.prog.depth 139 = false := by kernel_rfl
@[simp] theorem siz_140 : siz Try.prog 140 = 0 := by kernel_rfl
@[simp] theorem byt_140 : byt Try.prog 140 = 0 := by kernel_rfl
@[simp] theorem ags_140 : ags Try.prog 140 = true := by kernel_rfl
@[simp] theorem elm_140 : elm Try.prog 140 = none := by kernel_rfl
@[simp] theorem arr_140 : arr Try.prog 140 = none := by kernel_rfl
@[simp] theorem ikd_140 : ikd Try.prog 140 = none := by kernel_rfl
@[simp] theorem isStr_140 : isStr Try.prog 140 = false := by kernel_rfl
@[simp] theorem isBool_140 : isBool Try.prog 140 = false := by kernel_rfl
@[simp] theorem und_140 : (Try.prog.underlying 140).isSome = true := by kernel_rfl
@[simp] theorem zrc_140 : zrc Try.prog 140 = some [] := by kernel_rfl
@[simp] theorem fld_140_0 : fld Try.prog 140 0 = some (0, 138) := by kernel_rfl
@[simp] theorem plc_140 : plc Try.prog 140 = some [(0, 0)] := by kernel_rfl
@[simp] theorem egt_140 : Try.prog.eqGuardType Try.prog.depth 140 = false := by kernel_rfl
@[simp] theorem siz_142 : siz Try.prog 142 = 1 := by kernel_rfl
@[simp] theorem byt_142 : byt Try.prog 142 = 1 := by kernel_rfl
@[simp] theorem ags_142 : ags Try.prog 142 = false := by kernel_rfl
@[simp] theorem elm_142 : elm Try.prog 142 = none := by kernel_rfl
@[simp] theorem arr_142 : arr Try.prog 142 = none := by kernel_rfl
@[simp] theorem ikd_142 : ikd Try.prog 142 = some .u8 := by kernel_rfl
@[simp] theorem isStr_142 : isStr Try.prog 142 = false := by kernel_rfl
@[simp] theorem isBool_142 : isBool Try.prog 142 = false := by kernel_rfl
@[simp] theorem und_142 : (Try.prog.underlying 142).isSome = true := by kernel_rfl
@[simp] theorem good_142 : good Try.prog 142 = true := by kernel_rfl
@[simp] theorem zrc_142 : zrc Try.prog 142 = some [.sc (.int .u8 0)] := by kernel_rfl
@[simp] theorem siz_143 : siz Try.prog 143 = 1 := by kernel_rfl
@[simp] theorem byt_143 : byt Try.prog 143 = 1 := by kernel_rfl
@[simp] theorem ags_143 : ags Try.prog 143 = false := by kernel_rfl
@[simp] theorem elm_143 : elm Try.prog 143 = none := by kernel_rfl
@[simp] theorem arr_143 : arr Try.prog 143 = none := by kernel_rfl
@[simp] theorem ikd_143 : ikd Try.prog 143 = some .u8 := by kernel_rfl
@[simp] theorem isStr_143 : isStr Try.prog 143 = false := by kernel_rfl
@[simp] theorem isBool_143 : isBool Try.prog 143 = false := by kernel_rfl
@[simp] theorem und_143 : (Try.prog.underlying 143).isSome = true := by kernel_rfl
@[simp] theorem good_143 : good Try.prog 143 = true := by kernel_rfl
@[simp] theorem zrc_143 : zrc Try.prog 143 = some [.sc (.int .u8 0)] := by kernel_rfl
@[simp] theorem siz_145 : siz Try.prog 145 = 1 := by kernel_rfl
@[simp] theorem byt_145 : byt Try.prog 145 = 8 := by kernel_rfl
@[simp] theorem ags_145 : ags Try.prog 145 = false := by kernel_rfl
@[simp] theorem elm_145 : elm Try.prog 145 = none := by kernel_rfl
@[simp] theorem arr_145 : arr Try.prog 145 = none := by kernel_rfl
@[simp] theorem ikd_145 : ikd Try.prog 145 = none := by kernel_rfl
@[simp] theorem isStr_145 : isStr Try.prog 145 = false := by kernel_rfl
@[simp] theorem isBool_145 : isBool Try.prog 145 = false := by kernel_rfl
@[simp] theorem und_145 : (Try.prog.underlying 145).isSome = true := by kernel_rfl
@[simp] theorem good_145 : good Try.prog 145 = true := by kernel_rfl
@[simp] theorem zrc_145 : zrc Try.prog 145 = some [.sc (.pointer none)] := by kernel_rfl
@[simp] theorem siz_146 : siz Try.prog 146 = 1 := by kernel_rfl
@[simp] theorem byt_146 : byt Try.prog 146 = 4 := by kernel_rfl
@[simp] theorem ags_146 : ags Try.prog 146 = false := by kernel_rfl
@[simp] theorem elm_146 : elm Try.prog 146 = none := by kernel_rfl
@[simp] theorem arr_146 : arr Try.prog 146 = none := by kernel_rfl
@[simp] theorem ikd_146 : ikd Try.prog 146 = some .i32 := by kernel_rfl
@[simp] theorem isStr_146 : isStr Try.prog 146 = false := by kernel_rfl
@[simp] theorem isBool_146 : isBool Try.prog 146 = false := by kernel_rfl
@[simp] theorem und_146 : (Try.prog.underlying 146).isSome = true := by kernel_rfl
@[simp] theorem good_146 : good Try.prog 146 = true := by kernel_rfl
@[simp] theorem zrc_146 : zrc Try.prog 146 = some [.sc (.int .i32 0)] := by kernel_rfl
@[simp] theorem siz_147 : siz Try.prog 147 = 1 := by kernel_rfl
@[simp] theorem byt_147 : byt Try.prog 147 = 4 := by kernel_rfl
@[simp] theorem ags_147 : ags Try.prog 147 = false := by kernel_rfl
@[simp] theorem elm_147 : elm Try.prog 147 = none := by kernel_rfl
@[simp] theorem arr_147 : arr Try.prog 147 = none := by kernel_rfl
@[simp] theorem ikd_147 : ikd Try.prog 147 = some .i32 := by kernel_rfl
@[simp] theorem isStr_147 : isStr Try.prog 147 = false := by kernel_rfl
@[simp] theorem isBool_147 : isBool Try.prog 147 = false := by kernel_rfl
@[simp] theorem und_147 : (Try.prog.underlying 147).isSome = true := by kernel_rfl
@[simp] theorem good_147 : good Try.prog 147 = true := by kernel_rfl
@[simp] theorem zrc_147 : zrc Try.prog 147 = some [.sc (.int .i32 0)] := by kernel_rfl
@[simp] theorem siz_148 : siz Try.prog 148 = 11 := by kernel_rfl
@[simp] theorem byt_148 : byt Try.prog 148 = 48 := by kernel_rfl
@[simp] theorem ags_148 : ags Try.prog 148 = true := by kernel_rfl
@[simp] theorem elm_148 : elm Try.prog 148 = none := by kernel_rfl
@[simp] theorem arr_148 : arr Try.prog 148 = none := by kernel_rfl
@[simp] theorem ikd_148 : ikd Try.prog 148 = none := by kernel_rfl
@[simp] theorem isStr_148 : isStr Try.prog 148 = false := by kernel_rfl
@[simp] theorem isBool_148 : isBool Try.prog 148 = false := by kernel_rfl
@[simp] theorem und_148 : (Try.prog.underlying 148).isSome = true := by kernel_rfl
@[simp] theorem good_148 : good Try.prog 148 = true := by kernel_rfl
@[simp] theorem zrc_148 : zrc Try.prog 148 = some [.sc (.int .u64 0), .sc (.int .u64 0), .sc (.int .u32 0), .sc (.int .u8 0), .sc (.int .u8 0), .sc (.int .u8 0), .sc (.int .u8 0), .sc .nilFunc, .sc (.pointer none), .sc (.int .i32 0), .sc (.int .i32 0)] := by kernel_rfl
@[simp] theorem fld_148_0 : fld Try.prog 148 0 = some (0, 12) := by kernel_rfl
@[simp] theorem fld_148_1 : fld Try.prog 148 1 = some (1, 12) := by kernel_rfl
@[simp] theorem fld_148_2 : fld Try.prog 148 2 = some (2, 38) := by kernel_rfl
@[simp] theorem fld_148_3 : fld Try.prog 148 3 = some (3, 142) := by kernel_rfl
@[simp] theorem fld_148_4 : fld Try.prog 148 4 = some (4, 5) := by kernel_rfl
@[simp] theorem fld_148_5 : fld Try.prog 148 5 = some (5, 5) := by kernel_rfl
@[simp] theorem fld_148_6 : fld Try.prog 148 6 = some (6, 143) := by kernel_rfl
@[simp] theorem fld_148_7 : fld Try.prog 148 7 = some (7, 144) := by kernel_rfl
@[simp] theorem fld_148_8 : fld Try.prog 148 8 = some (8, 145) := by kernel_rfl
@[simp] theorem fld_148_9 : fld Try.prog 148 9 = some (9, 146) := by kernel_rfl
@[simp] theorem fld_148_10 : fld Try.prog 148 10 = some (10, 147) := by kernel_rfl
@[simp] theorem siz_149 : siz Try.prog 149 = 11 := by kernel_rfl
@[simp] theorem byt_149 : byt Try.prog 149 = 48 := by kernel_rfl
@[simp] theorem ags_149 : ags Try.prog 149 = true := by kernel_rfl
@[simp] theorem elm_149 : elm Try.prog 149 = none := by kernel_rfl
@[simp] theorem arr_149 : arr Try.prog 149 = none := by kernel_rfl
@[simp] theorem ikd_149 : ikd Try.prog 149 = none := by kernel_rfl
@[simp] theorem isStr_149 : isStr Try.prog 149 = false := by kernel_rfl
@[simp] theorem isBool_149 : isBool Try.prog 149 = false := by kernel_rfl
@[simp] theorem und_149 : (Try.prog.underlying 149).isSome = true := by kernel_rfl
@[simp] theorem good_149 : good Try.prog 149 = true := by kernel_rfl
@[simp] theorem zrc_149 : zrc Try.prog 149 = some [.sc (.int .u64 0), .sc (.int .u64 0), .sc (.int .u32 0), .sc (.int .u8 0), .sc (.int .u8 0), .sc (.int .u8 0), .sc (.int .u8 0), .sc .nilFunc, .sc (.pointer none), .sc (.int .i32 0), .sc (.int .i32 0)] := by kernel_rfl
@[simp] theorem fld_149_0 : fld Try.prog 149 0 = some (0, 12) := by kernel_rfl
@[simp] theorem fld_149_1 : fld Try.prog 149 1 = some (1, 12) := by kernel_rfl
@[simp] theorem fld_149_2 : fld Try.prog 149 2 = some (2, 38) := by kernel_rfl
@[simp] theorem fld_149_3 : fld Try.prog 149 3 = some (3, 142) := by kernel_rfl
@[simp] theorem fld_149_4 : fld Try.prog 149 4 = some (4, 5) := by kernel_rfl
@[simp] theorem fld_149_5 : fld Try.prog 149 5 = some (5, 5) := by kernel_rfl
@[simp] theorem fld_149_6 : fld Try.prog 149 6 = some (6, 143) := by kernel_rfl
@[simp] theorem fld_149_7 : fld Try.prog 149 7 = some (7, 144) := by kernel_rfl
@[simp] theorem fld_149_8 : fld Try.prog 149 8 = some (8, 145) := by kernel_rfl
@[simp] theorem fld_149_9 : fld Try.prog 149 9 = some (9, 146) := by kernel_rfl
@[simp] theorem fld_149_10 : fld Try.prog 149 10 = some (10, 147) := by kernel_rfl
@[simp] theorem follows_ok : Try.prog.follows .mixedOrders = true := by kernel_rfl
@[simp] theorem callable_3 : callable Try.prog 3 = true := by kernel_rfl
@[simp] theorem callable_4 : callable Try.prog 4 = true := by kernel_rfl
@[simp] theorem callable_5 : callable Try.prog 5 = true := by kernel_rfl
@[simp] theorem callable_6 : callable Try.prog 6 = true := by kernel_rfl
@[simp] theorem callable_7 : callable Try.prog 7 = true := by kernel_rfl
@[simp] theorem callable_8 : callable Try.prog 8 = true := by kernel_rfl
@[simp] theorem callable_9 : callable Try.prog 9 = true := by kernel_rfl
@[simp] theorem callable_10 : callable Try.prog 10 = true := by kernel_rfl
@[simp] theorem callable_11 : callable Try.prog 11 = true := by kernel_rfl
@[simp] theorem callable_12 : callable Try.prog 12 = true := by kernel_rfl
@[simp] theorem callable_13 : callable Try.prog 13 = true := by kernel_rfl
@[simp] theorem callable_14 : callable Try.prog 14 = true := by kernel_rfl
@[simp] theorem callable_15 : callable Try.prog 15 = true := by kernel_rfl
@[simp] theorem callable_16 : callable Try.prog 16 = true := by kernel_rfl
@[simp] theorem callable_17 : callable Try.prog 17 = true := by kernel_rfl
@[simp] theorem callable_18 : callable Try.prog 18 = true := by kernel_rfl
@[simp] theorem callable_19 : callable Try.prog 19 = true := by kernel_rfl
@[simp] theorem callable_20 : callable Try.prog 20 = true := by kernel_rfl
@[simp] theorem callable_21 : callable Try.prog 21 = true := by kernel_rfl
@[simp] theorem callable_22 : callable Try.prog 22 = true := by kernel_rfl
@[simp] theorem callable_23 : callable Try.prog 23 = true := by kernel_rfl
@[simp] theorem callable_24 : callable Try.prog 24 = true := by kernel_rfl
@[simp] theorem callable_25 : callable Try.prog 25 = true := by kernel_rfl
@[simp] theorem callable_26 : callable Try.prog 26 = true := by kernel_rfl
@[simp] theorem callable_27 : callable Try.prog 27 = true := by kernel_rfl
@[simp] theorem callable_28 : callable Try.prog 28 = true := by kernel_rfl
@[simp] theorem callable_29 : callable Try.prog 29 = true := by kernel_rfl
@[simp] theorem callable_30 : callable Try.prog 30 = true := by kernel_rfl
@[simp] theorem callable_31 : callable Try.prog 31 = true := by kernel_rfl
@[simp] theorem callable_32 : callable Try.prog 32 = true := by kernel_rfl
@[simp] theorem callable_33 : callable Try.prog 33 = true := by kernel_rfl
@[simp] theorem callable_34 : callable Try.prog 34 = true := by kernel_rfl
@[simp] theorem callable_35 : callable Try.prog 35 = true := by kernel_rfl
@[simp] theorem callable_36 : callable Try.prog 36 = true := by kernel_rfl
@[simp] theorem callable_37 : callable Try.prog 37 = true := by kernel_rfl
@[simp] theorem callable_38 : callable Try.prog 38 = true := by kernel_rfl
@[simp] theorem callable_39 : callable Try.prog 39 = true := by kernel_rfl
@[simp] theorem callable_40 : callable Try.prog 40 = true := by kernel_rfl
@[simp] theorem callable_41 : callable Try.prog 41 = true := by kernel_rfl
@[simp] theorem callable_42 : callable Try.prog 42 = true := by kernel_rfl
@[simp] theorem callable_43 : callable Try.prog 43 = true := by kernel_rfl
@[simp] theorem callable_44 : callable Try.prog 44 = true := by kernel_rfl
@[simp] theorem callable_45 : callable Try.prog 45 = true := by kernel_rfl
@[simp] theorem callable_46 : callable Try.prog 46 = true := by kernel_rfl
@[simp] theorem callable_47 : callable Try.prog 47 = true := by kernel_rfl
@[simp] theorem callable_48 : callable Try.prog 48 = true := by kernel_rfl
@[simp] theorem callable_49 : callable Try.prog 49 = true := by kernel_rfl
@[simp] theorem callable_50 : callable Try.prog 50 = true := by kernel_rfl
@[simp] theorem callable_51 : callable Try.prog 51 = true := by kernel_rfl
@[simp] theorem callable_52 : callable Try.prog 52 = true := by kernel_rfl
@[simp] theorem callable_53 : callable Try.prog 53 = true := by kernel_rfl
@[simp] theorem callable_54 : callable Try.prog 54 = true := by kernel_rfl
@[simp] theorem callable_55 : callable Try.prog 55 = true := by kernel_rfl
@[simp] theorem callable_56 : callable Try.prog 56 = true := by kernel_rfl
@[simp] theorem callable_57 : callable Try.prog 57 = true := by kernel_rfl
@[simp] theorem callable_58 : callable Try.prog 58 = true := by kernel_rfl
@[simp] theorem callable_59 : callable Try.prog 59 = true := by kernel_rfl
@[simp] theorem callable_60 : callable Try.prog 60 = true := by kernel_rfl
@[simp] theorem callable_61 : callable Try.prog 61 = true := by kernel_rfl
@[simp] theorem callable_62 : callable Try.prog 62 = true := by kernel_rfl
@[simp] theorem callable_63 : callable Try.prog 63 = true := by kernel_rfl
@[simp] theorem callable_64 : callable Try.prog 64 = true := by kernel_rfl
@[simp] theorem callable_65 : callable Try.prog 65 = true := by kernel_rfl
@[simp] theorem callable_66 : callable Try.prog 66 = true := by kernel_rfl
@[simp] theorem callable_67 : callable Try.prog 67 = true := by kernel_rfl
@[simp] theorem callable_68 : callable Try.prog 68 = true := by kernel_rfl
@[simp] theorem callable_69 : callable Try.prog 69 = true := by kernel_rfl
@[simp] theorem callable_70 : callable Try.prog 70 = true := by kernel_rfl
@[simp] theorem callable_72 : callable Try.prog 72 = true := by kernel_rfl
@[simp] theorem callable_73 : callable Try.prog 73 = true := by kernel_rfl
@[simp] theorem callable_74 : callable Try.prog 74 = true := by kernel_rfl
@[simp] theorem callable_75 : callable Try.prog 75 = true := by kernel_rfl
@[simp] theorem callable_76 : callable Try.prog 76 = true := by kernel_rfl
@[simp] theorem callable_77 : callable Try.prog 77 = true := by kernel_rfl
@[simp] theorem callable_78 : callable Try.prog 78 = true := by kernel_rfl
@[simp] theorem callable_79 : callable Try.prog 79 = true := by kernel_rfl
@[simp] theorem callable_80 : callable Try.prog 80 = true := by kernel_rfl
@[simp] theorem callable_81 : callable Try.prog 81 = true := by kernel_rfl
@[simp] theorem callable_82 : callable Try.prog 82 = true := by kernel_rfl
@[simp] theorem callable_86 : callable Try.prog 86 = true := by kernel_rfl
@[simp] theorem callable_87 : callable Try.prog 87 = true := by kernel_rfl

end Go.Proofs.Ytdjjibmjinllnaa.Tab
