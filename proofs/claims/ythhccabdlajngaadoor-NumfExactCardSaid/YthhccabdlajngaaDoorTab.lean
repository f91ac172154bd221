import Derived.Test.YthhccabdlajngaaDoorProg
import Derived.Test.YthhccabdlajngaaDoorSimB
import Derived.KernelRfl
namespace Go.Proofs.YthhccabdlajngaaDoor.Tab
open Go Go.Sim Go.RowKit
set_option linter.unusedVariables false

@[simp] theorem siz_2 : siz Tryd.prog 2 = 1 := by kernel_rfl
@[simp] theorem byt_2 : byt Tryd.prog 2 = 8 := by kernel_rfl
@[simp] theorem ags_2 : ags Tryd.prog 2 = false := by kernel_rfl
@[simp] theorem elm_2 : elm Tryd.prog 2 = none := by kernel_rfl
@[simp] theorem arr_2 : arr Tryd.prog 2 = none := by kernel_rfl
@[simp] theorem ikd_2 : ikd Tryd.prog 2 = some .i64 := by kernel_rfl
@[simp] theorem isStr_2 : isStr Tryd.prog 2 = false := by kernel_rfl
@[simp] theorem isBool_2 : isBool Tryd.prog 2 = false := by kernel_rfl
@[simp] theorem und_2 : (Tryd.prog.underlying 2).isSome = true := by kernel_rfl
@[simp] theorem good_2 : good Tryd.prog 2 = true := by kernel_rfl
@[simp] theorem zrc_2 : zrc Tryd.prog 2 = some [.sc (.int .i64 0)] := by kernel_rfl
@[simp] theorem siz_3 : siz Tryd.prog 3 = 1 := by kernel_rfl
@[simp] theorem byt_3 : byt Tryd.prog 3 = 8 := by kernel_rfl
@[simp] theorem ags_3 : ags Tryd.prog 3 = false := by kernel_rfl
@[simp] theorem elm_3 : elm Tryd.prog 3 = none := by kernel_rfl
@[simp] theorem arr_3 : arr Tryd.prog 3 = none := by kernel_rfl
@[simp] theorem ikd_3 : ikd Tryd.prog 3 = some .i64 := by kernel_rfl
@[simp] theorem isStr_3 : isStr Tryd.prog 3 = false := by kernel_rfl
@[simp] theorem isBool_3 : isBool Tryd.prog 3 = false := by kernel_rfl
@[simp] theorem und_3 : (Tryd.prog.underlying 3).isSome = true := by kernel_rfl
@[simp] theorem good_3 : good Tryd.prog 3 = true := by kernel_rfl
@[simp] theorem zrc_3 : zrc Tryd.prog 3 = some [.sc (.int .i64 0)] := by kernel_rfl
@[simp] theorem siz_4 : siz Tryd.prog 4 = 1 := by kernel_rfl
@[simp] theorem byt_4 : byt Tryd.prog 4 = 1 := by kernel_rfl
@[simp] theorem ags_4 : ags Tryd.prog 4 = false := by kernel_rfl
@[simp] theorem elm_4 : elm Tryd.prog 4 = none := by kernel_rfl
@[simp] theorem arr_4 : arr Tryd.prog 4 = none := by kernel_rfl
@[simp] theorem ikd_4 : ikd Tryd.prog 4 = none := by kernel_rfl
@[simp] theorem isStr_4 : isStr Tryd.prog 4 = false := by kernel_rfl
@[simp] theorem isBool_4 : isBool Tryd.prog 4 = true := by kernel_rfl
@[simp] theorem und_4 : (Tryd.prog.underlying 4).isSome = true := by kernel_rfl
@[simp] theorem good_4 : good Tryd.prog 4 = true := by kernel_rfl
@[simp] theorem zrc_4 : zrc Tryd.prog 4 = some [.sc (.bool false)] := by kernel_rfl
@[simp] theorem siz_5 : siz Tryd.prog 5 = 1 := by kernel_rfl
@[simp] theorem byt_5 : byt Tryd.prog 5 = 1 := by kernel_rfl
@[simp] theorem ags_5 : ags Tryd.prog 5 = false := by kernel_rfl
@[simp] theorem elm_5 : elm Tryd.prog 5 = none := by kernel_rfl
@[simp] theorem arr_5 : arr Tryd.prog 5 = none := by kernel_rfl
@[simp] theorem ikd_5 : ikd Tryd.prog 5 = some .u8 := by kernel_rfl
@[simp] theorem isStr_5 : isStr Tryd.prog 5 = false := by kernel_rfl
@[simp] theorem isBool_5 : isBool Tryd.prog 5 = false := by kernel_rfl
@[simp] theorem und_5 : (Tryd.prog.underlying 5).isSome = true := by kernel_rfl
@[simp] theorem good_5 : good Tryd.prog 5 = true := by kernel_rfl
@[simp] theorem zrc_5 : zrc Tryd.prog 5 = some [.sc (.int .u8 0)] := by kernel_rfl
@[simp] theorem siz_6 : siz Tryd.prog 6 = 1 := by kernel_rfl
@[simp] theorem byt_6 : byt Tryd.prog 6 = 1 := by kernel_rfl
@[simp] theorem ags_6 : ags Tryd.prog 6 = false := by kernel_rfl
@[simp] theorem elm_6 : elm Tryd.prog 6 = none := by kernel_rfl
@[simp] theorem arr_6 : arr Tryd.prog 6 = none := by kernel_rfl
@[simp] theorem ikd_6 : ikd Tryd.prog 6 = some .u8 := by kernel_rfl
@[simp] theorem isStr_6 : isStr Tryd.prog 6 = false := by kernel_rfl
@[simp] theorem isBool_6 : isBool Tryd.prog 6 = false := by kernel_rfl
@[simp] theorem und_6 : (Tryd.prog.underlying 6).isSome = true := by kernel_rfl
@[simp] theorem good_6 : good Tryd.prog 6 = true := by kernel_rfl
@[simp] theorem zrc_6 : zrc Tryd.prog 6 = some [.sc (.int .u8 0)] := by kernel_rfl
@[simp] theorem siz_7 : siz Tryd.prog 7 = 4 := by kernel_rfl
@[simp] theorem byt_7 : byt Tryd.prog 7 = 24 := by kernel_rfl
@[simp] theorem ags_7 : ags Tryd.prog 7 = true := by kernel_rfl
@[simp] theorem elm_7 : elm Tryd.prog 7 = none := by kernel_rfl
@[simp] theorem arr_7 : arr Tryd.prog 7 = none := by kernel_rfl
@[simp] theorem ikd_7 : ikd Tryd.prog 7 = none := by kernel_rfl
@[simp] theorem isStr_7 : isStr Tryd.prog 7 = false := by kernel_rfl
@[simp] theorem isBool_7 : isBool Tryd.prog 7 = false := by kernel_rfl
@[simp] theorem und_7 : (Tryd.prog.underlying 7).isSome = true := by kernel_rfl
@[simp] theorem good_7 : good Tryd.prog 7 = true := by kernel_rfl
@[simp] theorem zrc_7 : zrc Tryd.prog 7 = some [.sc (.int .i64 0), .sc (.int .i64 0), .sc (.bool false), .sc (.int .u8 0)] := by kernel_rfl
@[simp] theorem fld_7_0 : fld Tryd.prog 7 0 = some (0, 2) := by kernel_rfl
@[simp] theorem fld_7_1 : fld Tryd.prog 7 1 = some (1, 3) := by kernel_rfl
@[simp] theorem fld_7_2 : fld Tryd.prog 7 2 = some (2, 4) := by kernel_rfl
@[simp] theorem fld_7_3 : fld Tryd.prog 7 3 = some (3, 6) := by kernel_rfl
@[simp] theorem plc_7 : plc Tryd.prog 7 = some [(0, 1), (1, 1), (2, 1), (3, 1)] := by kernel_rfl
@[simp] theorem lks_7 : lks Tryd.prog 6 7 = some [.i, .i, .b, .i] := by kernel_rfl
@[simp] theorem egt_7 : Tryd.prog.eqGuardType Tryd.prog.depth 7 = false := by kernel_rfl
@[simp] theorem siz_8 : siz Tryd.prog 8 = 4 := by kernel_rfl
@[simp] theorem byt_8 : byt Tryd.prog 8 = 24 := by kernel_rfl
@[simp] theorem ags_8 : ags Tryd.prog 8 = true := by kernel_rfl
@[simp] theorem elm_8 : elm Tryd.prog 8 = none := by kernel_rfl
@[simp] theorem arr_8 : arr Tryd.prog 8 = none := by kernel_rfl
@[simp] theorem ikd_8 : ikd Tryd.prog 8 = none := by kernel_rfl
@[simp] theorem isStr_8 : isStr Tryd.prog 8 = false := by kernel_rfl
@[simp] theorem isBool_8 : isBool Tryd.prog 8 = false := by kernel_rfl
@[simp] theorem und_8 : (Tryd.prog.underlying 8).isSome = true := by kernel_rfl
@[simp] theorem good_8 : good Tryd.prog 8 = true := by kernel_rfl
@[simp] theorem zrc_8 : zrc Tryd.prog 8 = some [.sc (.int .i64 0), .sc (.int .i64 0), .sc (.bool false), .sc (.int .u8 0)] := by kernel_rfl
@[simp] theorem fld_8_0 : fld Tryd.prog 8 0 = some (0, 2) := by kernel_rfl
@[simp] theorem fld_8_1 : fld Tryd.prog 8 1 = some (1, 3) := by kernel_rfl
@[simp] theorem fld_8_2 : fld Tryd.prog 8 2 = some (2, 4) := by kernel_rfl
@[simp] theorem fld_8_3 : fld Tryd.prog 8 3 = some (3, 6) := by kernel_rfl
@[simp] theorem plc_8 : plc Tryd.prog 8 = some [(0, 1), (1, 1), (2, 1), (3, 1)] := by kernel_rfl
@[simp] theorem lks_8 : lks Tryd.prog 6 8 = some [.i, .i, .b, .i] := by kernel_rfl
@[simp] theorem egt_8 : Tryd.prog.eqGuardType Tryd.prog.depth 8 = false := by kernel_rfl
@[simp] theorem siz_9 : siz Tryd.prog 9 = 1 := by kernel_rfl
@[simp] theorem byt_9 : byt Tryd.prog 9 = 16 := by kernel_rfl
@[simp] theorem ags_9 : ags Tryd.prog 9 = false := by kernel_rfl
@[simp] theorem elm_9 : elm Tryd.prog 9 = none := by kernel_rfl
@[simp] theorem arr_9 : arr Tryd.prog 9 = none := by kernel_rfl
@[simp] theorem ikd_9 : ikd Tryd.prog 9 = none := by kernel_rfl
@[simp] theorem isStr_9 : isStr Tryd.prog 9 = true := by kernel_rfl
@[simp] theorem isBool_9 : isBool Tryd.prog 9 = false := by kernel_rfl
@[simp] theorem und_9 : (Tryd.prog.underlying 9).isSome = true := by kernel_rfl
@[simp] theorem good_9 : good Tryd.prog 9 = true := by kernel_rfl
@[simp] theorem zrc_9 : zrc Tryd.prog 9 = some [.sc (.string ⟨#[]⟩)] := by kernel_rfl
@[simp] theorem siz_10 : siz Tryd.prog 10 = 1 := by kernel_rfl
@[simp] theorem byt_10 : byt Tryd.prog 10 = 16 := by kernel_rfl
@[simp] theorem ags_10 : ags Tryd.prog 10 = false := by kernel_rfl
@[simp] theorem elm_10 : elm Tryd.prog 10 = none := by kernel_rfl
@[simp] theorem arr_10 : arr Tryd.prog 10 = none := by kernel_rfl
@[simp] theorem ikd_10 : ikd Tryd.prog 10 = none := by kernel_rfl
@[simp] theorem isStr_10 : isStr Tryd.prog 10 = true := by kernel_rfl
@[simp] theorem isBool_10 : isBool Tryd.prog 10 = false := by kernel_rfl
@[simp] theorem und_10 : (Tryd.prog.underlying 10).isSome = true := by kernel_rfl
@[simp] theorem good_10 : good Tryd.prog 10 = true := by kernel_rfl
@[simp] theorem zrc_10 : zrc Tryd.prog 10 = some [.sc (.string ⟨#[]⟩)] := by kernel_rfl
@[simp] theorem siz_11 : siz Tryd.prog 11 = 1 := by kernel_rfl
@[simp] theorem byt_11 : byt Tryd.prog 11 = 16 := by kernel_rfl
@[simp] theorem ags_11 : ags Tryd.prog 11 = false := by kernel_rfl
@[simp] theorem elm_11 : elm Tryd.prog 11 = none := by kernel_rfl
@[simp] theorem arr_11 : arr Tryd.prog 11 = none := by kernel_rfl
@[simp] theorem ikd_11 : ikd Tryd.prog 11 = none := by kernel_rfl
@[simp] theorem isStr_11 : isStr Tryd.prog 11 = true := by kernel_rfl
@[simp] theorem isBool_11 : isBool Tryd.prog 11 = false := by kernel_rfl
@[simp] theorem und_11 : (Tryd.prog.underlying 11).isSome = true := by kernel_rfl
@[simp] theorem good_11 : good Tryd.prog 11 = true := by kernel_rfl
@[simp] theorem zrc_11 : zrc Tryd.prog 11 = some [.sc (.string ⟨#[]⟩)] := by kernel_rfl
@[simp] theorem siz_12 : siz Tryd.prog 12 = 1 := by kernel_rfl
@[simp] theorem byt_12 : byt Tryd.prog 12 = 8 := by kernel_rfl
@[simp] theorem ags_12 : ags Tryd.prog 12 = false := by kernel_rfl
@[simp] theorem elm_12 : elm Tryd.prog 12 = none := by kernel_rfl
@[simp] theorem arr_12 : arr Tryd.prog 12 = none := by kernel_rfl
@[simp] theorem ikd_12 : ikd Tryd.prog 12 = some .u64 := by kernel_rfl
@[simp] theorem isStr_12 : isStr Tryd.prog 12 = false := by kernel_rfl
@[simp] theorem isBool_12 : isBool Tryd.prog 12 = false := by kernel_rfl
@[simp] theorem und_12 : (Tryd.prog.underlying 12).isSome = true := by kernel_rfl
@[simp] theorem good_12 : good Tryd.prog 12 = true := by kernel_rfl
@[simp] theorem zrc_12 : zrc Tryd.prog 12 = some [.sc (.int .u64 0)] := by kernel_rfl
@[simp] theorem siz_13 : siz Tryd.prog 13 = 2 := by kernel_rfl
@[simp] theorem byt_13 : byt Tryd.prog 13 = 24 := by kernel_rfl
@[simp] theorem ags_13 : ags Tryd.prog 13 = true := by kernel_rfl
@[simp] theorem elm_13 : elm Tryd.prog 13 = none := by kernel_rfl
@[simp] theorem arr_13 : arr Tryd.prog 13 = none := by kernel_rfl
@[simp] theorem ikd_13 : ikd Tryd.prog 13 = none := by kernel_rfl
@[simp] theorem isStr_13 : isStr Tryd.prog 13 = false := by kernel_rfl
@[simp] theorem isBool_13 : isBool Tryd.prog 13 = false := by kernel_rfl
@[simp] theorem und_13 : (Tryd.prog.underlying 13).isSome = true := by kernel_rfl
@[simp] theorem good_13 : good Tryd.prog 13 = true := by kernel_rfl
@[simp] theorem zrc_13 : zrc Tryd.prog 13 = some [.sc (.string ⟨#[]⟩), .sc (.int .u64 0)] := by kernel_rfl
@[simp] theorem fld_13_0 : fld Tryd.prog 13 0 = some (0, 9) := by kernel_rfl
@[simp] theorem fld_13_1 : fld Tryd.prog 13 1 = some (1, 12) := by kernel_rfl
@[simp] theorem plc_13 : plc Tryd.prog 13 = some [(0, 1), (1, 1)] := by kernel_rfl
@[simp] theorem egt_13 : Tryd.prog.eqGuardType Tryd.prog.depth 13 = false := by kernel_rfl
@[simp] theorem siz_14 : siz Tryd.prog 14 = 2 := by kernel_rfl
@[simp] theorem byt_14 : byt Tryd.prog 14 = 24 := by kernel_rfl
@[simp] theorem ags_14 : ags Tryd.prog 14 = true := by kernel_rfl
@[simp] theorem elm_14 : elm Tryd.prog 14 = none := by kernel_rfl
@[simp] theorem arr_14 : arr Tryd.prog 14 = none := by kernel_rfl
@[simp] theorem ikd_14 : ikd Tryd.prog 14 = none := by kernel_rfl
@[simp] theorem isStr_14 : isStr Tryd.prog 14 = false := by kernel_rfl
@[simp] theorem isBool_14 : isBool Tryd.prog 14 = false := by kernel_rfl
@[simp] theorem und_14 : (Tryd.prog.underlying 14).isSome = true := by kernel_rfl
@[simp] theorem good_14 : good Tryd.prog 14 = true := by kernel_rfl
@[simp] theorem zrc_14 : zrc Tryd.prog 14 = some [.sc (.string ⟨#[]⟩), .sc (.int .u64 0)] := by kernel_rfl
@[simp] theorem fld_14_0 : fld Tryd.prog 14 0 = some (0, 9) := by kernel_rfl
@[simp] theorem fld_14_1 : fld Tryd.prog 14 1 = some (1, 12) := by kernel_rfl
@[simp] theorem plc_14 : plc Tryd.prog 14 = some [(0, 1), (1, 1)] := by kernel_rfl
@[simp] theorem egt_14 : Tryd.prog.eqGuardType Tryd.prog.depth 14 = false := by kernel_rfl
@[simp] theorem siz_15 : siz Tryd.prog 15 = 1 := by kernel_rfl
@[simp] theorem byt_15 : byt Tryd.prog 15 = 8 := by kernel_rfl
@[simp] theorem ags_15 : ags Tryd.prog 15 = false := by kernel_rfl
@[simp] theorem elm_15 : elm Tryd.prog 15 = none := by kernel_rfl
@[simp] theorem arr_15 : arr Tryd.prog 15 = none := by kernel_rfl
@[simp] theorem ikd_15 : ikd Tryd.prog 15 = none := by kernel_rfl
@[simp] theorem isStr_15 : isStr Tryd.prog 15 = false := by kernel_rfl
@[simp] theorem isBool_15 : isBool Tryd.prog 15 = false := by kernel_rfl
@[simp] theorem und_15 : (Tryd.prog.underlying 15).isSome = true := by kernel_rfl
@[simp] theorem good_15 : good Tryd.prog 15 = true := by kernel_rfl
@[simp] theorem zrc_15 : zrc Tryd.prog 15 = some [.sc (.pointer none)] := by kernel_rfl
@[simp] theorem siz_16 : siz Tryd.prog 16 = 1 := by kernel_rfl
@[simp] theorem byt_16 : byt Tryd.prog 16 = 8 := by kernel_rfl
@[simp] theorem ags_16 : ags Tryd.prog 16 = false := by kernel_rfl
@[simp] theorem elm_16 : elm Tryd.prog 16 = none := by kernel_rfl
@[simp] theorem arr_16 : arr Tryd.prog 16 = none := by kernel_rfl
@[simp] theorem ikd_16 : ikd Tryd.prog 16 = none := by kernel_rfl
@[simp] theorem isStr_16 : isStr Tryd.prog 16 = false := by kernel_rfl
@[simp] theorem isBool_16 : isBool Tryd.prog 16 = false := by kernel_rfl
@[simp] theorem und_16 : (Tryd.prog.underlying 16).isSome = true := by kernel_rfl
@[simp] theorem good_16 : good Tryd.prog 16 = true := by kernel_rfl
@[simp] theorem zrc_16 : zrc Tryd.prog 16 = some [.sc (.pointer none)] := by kernel_rfl
@[simp] theorem siz_17 : siz Tryd.prog 17 = 1 := by kernel_rfl
@[simp] theorem byt_17 : byt Tryd.prog 17 = 8 := by kernel_rfl
@[simp] theorem ags_17 : ags Tryd.prog 17 = false := by kernel_rfl
@[simp] theorem elm_17 : elm Tryd.prog 17 = none := by kernel_rfl
@[simp] theorem arr_17 : arr Tryd.prog 17 = none := by kernel_rfl
@[simp] theorem ikd_17 : ikd Tryd.prog 17 = none := by kernel_rfl
@[simp] theorem isStr_17 : isStr Tryd.prog 17 = false := by kernel_rfl
@[simp] theorem isBool_17 : isBool Tryd.prog 17 = false := by kernel_rfl
@[simp] theorem und_17 : (Tryd.prog.underlying 17).isSome = true := by kernel_rfl
@[simp] theorem good_17 : good Tryd.prog 17 = true := by kernel_rfl
@[simp] theorem zrc_17 : zrc Tryd.prog 17 = some [.sc (.pointer none)] := by kernel_rfl
@[simp] theorem siz_18 : siz Tryd.prog 18 = 1 := by kernel_rfl
@[simp] theorem byt_18 : byt Tryd.prog 18 = 8 := by kernel_rfl
@[simp] theorem ags_18 : ags Tryd.prog 18 = true := by kernel_rfl
@[simp] theorem elm_18 : elm Tryd.prog 18 = none := by kernel_rfl
@[simp] theorem arr_18 : arr Tryd.prog 18 = none := by kernel_rfl
@[simp] theorem ikd_18 : ikd Tryd.prog 18 = none := by kernel_rfl
@[simp] theorem isStr_18 : isStr Tryd.prog 18 = false := by kernel_rfl
@[simp] theorem isBool_18 : isBool Tryd.prog 18 = false := by kernel_rfl
@[simp] theorem und_18 : (Tryd.prog.underlying 18).isSome = true := by kernel_rfl
@[simp] theorem good_18 : good Tryd.prog 18 = true := by kernel_rfl
@[simp] theorem zrc_18 : zrc Tryd.prog 18 = some [.sc (.pointer none)] := by kernel_rfl
@[simp] theorem fld_18_0 : fld Tryd.prog 18 0 = some (0, 17) := by kernel_rfl
@[simp] theorem plc_18 : plc Tryd.prog 18 = some [(0, 1)] := by kernel_rfl
@[simp] theorem siz_19 : siz Tryd.prog 19 = 1 := by kernel_rfl
@[simp] theorem byt_19 : byt Tryd.prog 19 = 8 := by kernel_rfl
@[simp] theorem ags_19 : ags Tryd.prog 19 = true := by kernel_rfl
@[simp] theorem elm_19 : elm Tryd.prog 19 = none := by kernel_rfl
@[simp] theorem arr_19 : arr Tryd.prog 19 = none := by kernel_rfl
@[simp] theorem ikd_19 : ikd Tryd.prog 19 = none := by kernel_rfl
@[simp] theorem isStr_19 : isStr Tryd.prog 19 = false := by kernel_rfl
@[simp] theorem isBool_19 : isBool Tryd.prog 19 = false := by kernel_rfl
@[simp] theorem und_19 : (Tryd.prog.underlying 19).isSome = true := by kernel_rfl
@[simp] theorem good_19 : good Tryd.prog 19 = true := by kernel_rfl
@[simp] theorem zrc_19 : zrc Tryd.prog 19 = some [.sc (.pointer none)] := by kernel_rfl
@[simp] theorem fld_19_0 : fld Tryd.prog 19 0 = some (0, 17) := by kernel_rfl
@[simp] theorem plc_19 : plc Tryd.prog 19 = some [(0, 1)] := by kernel_rfl
@[simp] theorem siz_21 : siz Tryd.prog 21 = 1 := by kernel_rfl
@[simp] theorem byt_21 : byt Tryd.prog 21 = 4 := by kernel_rfl
@[simp] theorem ags_21 : ags Tryd.prog 21 = false := by kernel_rfl
@[simp] theorem elm_21 : elm Tryd.prog 21 = none := by kernel_rfl
@[simp] theorem arr_21 : arr Tryd.prog 21 = none := by kernel_rfl
@[simp] theorem ikd_21 : ikd Tryd.prog 21 = some .i32 := by kernel_rfl
@[simp] theorem isStr_21 : isStr Tryd.prog 21 = false := by kernel_rfl
@[simp] theorem isBool_21 : isBool Tryd.prog 21 = false := by kernel_rfl
@[simp] theorem und_21 : (Tryd.prog.underlying 21).isSome = true := by kernel_rfl
@[simp] theorem good_21 : good Tryd.prog 21 = true := by kernel_rfl
@[simp] theorem zrc_21 : zrc Tryd.prog 21 = some [.sc (.int .i32 0)] := by kernel_rfl
@[simp] theorem siz_22 : siz Tryd.prog 22 = 1 := by kernel_rfl
@[simp] theorem byt_22 : byt Tryd.prog 22 = 24 := by kernel_rfl
@[simp] theorem ags_22 : ags Tryd.prog 22 = false := by kernel_rfl
@[simp] theorem elm_22 : elm Tryd.prog 22 = some 5 := by kernel_rfl
@[simp] theorem arr_22 : arr Tryd.prog 22 = none := by kernel_rfl
@[simp] theorem ikd_22 : ikd Tryd.prog 22 = none := by kernel_rfl
@[simp] theorem isStr_22 : isStr Tryd.prog 22 = false := by kernel_rfl
@[simp] theorem isBool_22 : isBool Tryd.prog 22 = false := by kernel_rfl
@[simp] theorem und_22 : (Tryd.prog.underlying 22).isSome = true := by kernel_rfl
@[simp] theorem good_22 : good Tryd.prog 22 = true := by kernel_rfl
@[simp] theorem zrc_22 : zrc Tryd.prog 22 = some [.nl] := by kernel_rfl
@[simp] theorem siz_23 : siz Tryd.prog 23 = 1 := by kernel_rfl
@[simp] theorem byt_23 : byt Tryd.prog 23 = 8 := by kernel_rfl
@[simp] theorem ags_23 : ags Tryd.prog 23 = false := by kernel_rfl
@[simp] theorem elm_23 : elm Tryd.prog 23 = none := by kernel_rfl
@[simp] theorem arr_23 : arr Tryd.prog 23 = none := by kernel_rfl
@[simp] theorem ikd_23 : ikd Tryd.prog 23 = some .i64 := by kernel_rfl
@[simp] theorem isStr_23 : isStr Tryd.prog 23 = false := by kernel_rfl
@[simp] theorem isBool_23 : isBool Tryd.prog 23 = false := by kernel_rfl
@[simp] theorem und_23 : (Tryd.prog.underlying 23).isSome = true := by kernel_rfl
@[simp] theorem good_23 : good Tryd.prog 23 = true := by kernel_rfl
@[simp] theorem zrc_23 : zrc Tryd.prog 23 = some [.sc (.int .i64 0)] := by kernel_rfl
@[simp] theorem siz_43 : siz Tryd.prog 43 = 1 := by kernel_rfl
@[simp] theorem byt_43 : byt Tryd.prog 43 = 8 := by kernel_rfl
@[simp] theorem ags_43 : ags Tryd.prog 43 = false := by kernel_rfl
@[simp] theorem elm_43 : elm Tryd.prog 43 = none := by kernel_rfl
@[simp] theorem arr_43 : arr Tryd.prog 43 = none := by kernel_rfl
@[simp] theorem ikd_43 : ikd Tryd.prog 43 = some .u64 := by kernel_rfl
@[simp] theorem isStr_43 : isStr Tryd.prog 43 = false := by kernel_rfl
@[simp] theorem isBool_43 : isBool Tryd.prog 43 = false := by kernel_rfl
@[simp] theorem und_43 : (Tryd.prog.underlying 43).isSome = true := by kernel_rfl
@[simp] theorem good_43 : good Tryd.prog 43 = true := by kernel_rfl
@[simp] theorem zrc_43 : zrc Tryd.prog 43 = some [.sc (.int .u64 0)] := by kernel_rfl
@[simp] theorem siz_48 : siz Tryd.prog 48 = 256 := by kernel_rfl
@[simp] theorem byt_48 : byt Tryd.prog 48 = 256 := by kernel_rfl
@[simp] theorem ags_48 : ags Tryd.prog 48 = true := by kernel_rfl
@[simp] theorem elm_48 : elm Tryd.prog 48 = none := by kernel_rfl
@[simp] theorem arr_48 : arr Tryd.prog 48 = some (256, 4) := by kernel_rfl
@[simp] theorem ikd_48 : ikd Tryd.prog 48 = none := by kernel_rfl
@[simp] theorem isStr_48 : isStr Tryd.prog 48 = false := by kernel_rfl
@[simp] theorem isBool_48 : isBool Tryd.prog 48 = false := by kernel_rfl
@[simp] theorem und_48 : (Tryd.prog.underlying 48).isSome = true := by kernel_rfl
@[simp] theorem good_48 : good Tryd.prog 48 = true := by kernel_rfl
@[simp] theorem siz_49 : siz Tryd.prog 49 = 256 := by kernel_rfl
@[simp] theorem byt_49 : byt Tryd.prog 49 = 256 := by kernel_rfl
@[simp] theorem ags_49 : ags Tryd.prog 49 = true := by kernel_rfl
@[simp] theorem elm_49 : elm Tryd.prog 49 = none := by kernel_rfl
@[simp] theorem arr_49 : arr Tryd.prog 49 = some (256, 4) := by kernel_rfl
@[simp] theorem ikd_49 : ikd Tryd.prog 49 = none := by kernel_rfl
@[simp] theorem isStr_49 : isStr Tryd.prog 49 = false := by kernel_rfl
@[simp] theorem isBool_49 : isBool Tryd.prog 49 = false := by kernel_rfl
@[simp] theorem und_49 : (Tryd.prog.underlying 49).isSome = true := by kernel_rfl
@[simp] theorem good_49 : good Tryd.prog 49 = true := by kernel_rfl
@[simp] theorem siz_53 : siz Tryd.prog 53 = 1 := by kernel_rfl
@[simp] theorem byt_53 : byt Tryd.prog 53 = 8 := by kernel_rfl
@[simp] theorem ags_53 : ags Tryd.prog 53 = false := by kernel_rfl
@[simp] theorem elm_53 : elm Tryd.prog 53 = none := by kernel_rfl
@[simp] theorem arr_53 : arr Tryd.prog 53 = none := by kernel_rfl
@[simp] theorem ikd_53 : ikd Tryd.prog 53 = none := by kernel_rfl
@[simp] theorem isStr_53 : isStr Tryd.prog 53 = false := by kernel_rfl
@[simp] theorem isBool_53 : isBool Tryd.prog 53 = false := by kernel_rfl
@[simp] theorem und_53 : (Tryd.prog.underlying 53).isSome = true := by kernel_rfl
@[simp] theorem good_53 : good Tryd.prog 53 = true := by kernel_rfl
@[simp] theorem zrc_53 : zrc Tryd.prog 53 = some [.sc (.pointer none)] := by kernel_rfl
@[simp] theorem siz_54 : siz Tryd.prog 54 = 1 := by kernel_rfl
@[simp] theorem byt_54 : byt Tryd.prog 54 = 1 := by kernel_rfl
@[simp] theorem ags_54 : ags Tryd.prog 54 = false := by kernel_rfl
@[simp] theorem elm_54 : elm Tryd.prog 54 = none := by kernel_rfl
@[simp] theorem arr_54 : arr Tryd.prog 54 = none := by kernel_rfl
@[simp] theorem ikd_54 : ikd Tryd.prog 54 = some .i8 := by kernel_rfl
@[simp] theorem isStr_54 : isStr Tryd.prog 54 = false := by kernel_rfl
@[simp] theorem isBool_54 : isBool Tryd.prog 54 = false := by kernel_rfl
@[simp] theorem und_54 : (Tryd.prog.underlying 54).isSome = true := by kernel_rfl
@[simp] theorem good_54 : good Tryd.prog 54 = true := by kernel_rfl
@[simp] theorem zrc_54 : zrc Tryd.prog 54 = some [.sc (.int .i8 0)] := by kernel_rfl
@[simp] theorem siz_59 : siz Tryd.prog 59 = 256 := by kernel_rfl
@[simp] theorem byt_59 : byt Tryd.prog 59 = 256 := by kernel_rfl
@[simp] theorem ags_59 : ags Tryd.prog 59 = true := by kernel_rfl
@[simp] theorem elm_59 : elm Tryd.prog 59 = none := by kernel_rfl
@[simp] theorem arr_59 : arr Tryd.prog 59 = some (256, 5) := by kernel_rfl
@[simp] theorem ikd_59 : ikd Tryd.prog 59 = none := by kernel_rfl
@[simp] theorem isStr_59 : isStr Tryd.prog 59 = false := by kernel_rfl
@[simp] theorem isBool_59 : isBool Tryd.prog 59 = false := by kernel_rfl
@[simp] theorem und_59 : (Tryd.prog.underlying 59).isSome = true := by kernel_rfl
@[simp] theorem good_59 : good Tryd.prog 59 = true := by kernel_rfl
@[simp] theorem siz_60 : siz Tryd.prog 60 = 2 := by kernel_rfl
@[simp] theorem byt_60 : byt Tryd.prog 60 = 2 := by kernel_rfl
@[simp] theorem ags_60 : ags Tryd.prog 60 = true := by kernel_rfl
@[simp] theorem elm_60 : elm Tryd.prog 60 = none := by kernel_rfl
@[simp] theorem arr_60 : arr Tryd.prog 60 = none := by kernel_rfl
@[simp] theorem ikd_60 : ikd Tryd.prog 60 = none := by kernel_rfl
@[simp] theorem isStr_60 : isStr Tryd.prog 60 = false := by kernel_rfl
@[simp] theorem isBool_60 : isBool Tryd.prog 60 = false := by kernel_rfl
@[simp] theorem und_60 : (Tryd.prog.underlying 60).isSome = true := by kernel_rfl
@[simp] theorem good_60 : good Tryd.prog 60 = true := by kernel_rfl
@[simp] theorem zrc_60 : zrc Tryd.prog 60 = some [.sc (.int .u8 0), .sc (.int .u8 0)] := by kernel_rfl
@[simp] theorem fld_60_0 : fld Tryd.prog 60 0 = some (0, 5) := by kernel_rfl
@[simp] theorem fld_60_1 : fld Tryd.prog 60 1 = some (1, 5) := by kernel_rfl
@[simp] theorem plc_60 : plc Tryd.prog 60 = some [(0, 1), (1, 1)] := by kernel_rfl
@[simp] theorem lks_60 : lks Tryd.prog 6 60 = some [.i, .i] := by kernel_rfl
@[simp] theorem egt_60 : Tryd.prog.eqGuardType Tryd.prog.depth 60 = false := by kernel_rfl
@[simp] theorem siz_61 : siz Tryd.prog 61 = 2 := by kernel_rfl
@[simp] theorem byt_61 : byt Tryd.prog 61 = 2 := by kernel_rfl
@[simp] theorem ags_61 : ags Tryd.prog 61 = true := by kernel_rfl
@[simp] theorem elm_61 : elm Tryd.prog 61 = none := by kernel_rfl
@[simp] theorem arr_61 : arr Tryd.prog 61 = none := by kernel_rfl
@[simp] theorem ikd_61 : ikd Tryd.prog 61 = none := by kernel_rfl
@[simp] theorem isStr_61 : isStr Tryd.prog 61 = false := by kernel_rfl
@[simp] theorem isBool_61 : isBool Tryd.prog 61 = false := by kernel_rfl
@[simp] theorem und_61 : (Tryd.prog.underlying 61).isSome = true := by kernel_rfl
@[simp] theorem good_61 : good Tryd.prog 61 = true := by kernel_rfl
@[simp] theorem zrc_61 : zrc Tryd.prog 61 = some [.sc (.int .u8 0), .sc (.int .u8 0)] := by kernel_rfl
@[simp] theorem fld_61_0 : fld Tryd.prog 61 0 = some (0, 5) := by kernel_rfl
@[simp] theorem fld_61_1 : fld Tryd.prog 61 1 = some (1, 5) := by kernel_rfl
@[simp] theorem plc_61 : plc Tryd.prog 61 = some [(0, 1), (1, 1)] := by kernel_rfl
@[simp] theorem lks_61 : lks Tryd.prog 6 61 = some [.i, .i] := by kernel_rfl
@[simp] theorem egt_61 : Tryd.prog.eqGuardType Tryd.prog.depth 61 = false := by kernel_rfl
@[simp] theorem siz_62 : siz Tryd.prog 62 = 32 := by kernel_rfl
@[simp] theorem byt_62 : byt Tryd.prog 62 = 32 := by kernel_rfl
@[simp] theorem ags_62 : ags Tryd.prog 62 = true := by kernel_rfl
@[simp] theorem elm_62 : elm Tryd.prog 62 = none := by kernel_rfl
@[simp] theorem arr_62 : arr Tryd.prog 62 = some (16, 61) := by kernel_rfl
@[simp] theorem ikd_62 : ikd Tryd.prog 62 = none := by kernel_rfl
@[simp] theorem isStr_62 : isStr Tryd.prog 62 = false := by kernel_rfl
@[simp] theorem isBool_62 : isBool Tryd.prog 62 = false := by kernel_rfl
@[simp] theorem und_62 : (Tryd.prog.underlying 62).isSome = true := by kernel_rfl
@[simp] theorem good_62 : good Tryd.prog 62 = true := by kernel_rfl
@[simp] theorem zrc_62 : zrc Tryd.prog 62 = some [.sc (.int .u8 0), .sc (.int .u8 0), .sc (.int .u8 0), .sc (.int .u8 0), .sc (.int .u8 0), .sc (.int .u8 0), .sc (.int .u8 0), .sc (.int .u8 0), .sc (.int .u8 0), .sc (.int .u8 0), .sc (.int .u8 0), .sc (.int .u8 0), .sc (.int .u8 0), .sc (.int .u8 0), .sc (.int .u8 0), .sc (.int .u8 0), .sc (.int .u8 0), .sc (.int .u8 0), .sc (.int .u8 0), .sc (.int .u8 0), .sc (.int .u8 0), .sc (.int .u8 0), .sc (.int .u8 0), .sc (.int .u8 0), .sc (.int .u8 0), .sc (.int .u8 0), .sc (.int .u8 0), .sc (.int .u8 0), .sc (.int .u8 0), .sc (.int .u8 0), .sc (.int .u8 0), .sc (.int .u8 0)] := by kernel_rfl
@[simp] theorem lks_62 : lks Tryd.prog 6 62 = some [.i, .i, .i, .i, .i, .i, .i, .i, .i, .i, .i, .i, .i, .i, .i, .i, .i, .i, .i, .i, .i, .i, .i, .i, .i, .i, .i, .i, .i, .i, .i, .i] := by kernel_rfl
@[simp] theorem egt_62 : Tryd.prog.eqGuardType Tryd.prog.depth 62 = false := by kernel_rfl
@[simp] theorem plc_62 : plc Tryd.prog 62 = some [(0, 2), (2, 2), (4, 2), (6, 2), (8, 2), (10, 2), (12, 2), (14, 2), (16, 2), (18, 2), (20, 2), (22, 2), (24, 2), (26, 2), (28, 2), (30, 2)] := by kernel_rfl
@[simp] theorem siz_64 : siz Tryd.prog 64 = 4 := by kernel_rfl
@[simp] theorem byt_64 : byt Tryd.prog 64 = 40 := by kernel_rfl
@[simp] theorem ags_64 : ags Tryd.prog 64 = true := by kernel_rfl
@[simp] theorem elm_64 : elm Tryd.prog 64 = none := by kernel_rfl
@[simp] theorem arr_64 : arr Tryd.prog 64 = none := by kernel_rfl
@[simp] theorem ikd_64 : ikd Tryd.prog 64 = none := by kernel_rfl
@[simp] theorem isStr_64 : isStr Tryd.prog 64 = false := by kernel_rfl
@[simp] theorem isBool_64 : isBool Tryd.prog 64 = false := by kernel_rfl
@[simp] theorem und_64 : (Tryd.prog.underlying 64).isSome = true := by kernel_rfl
@[simp] theorem good_64 : good Tryd.prog 64 = true := by kernel_rfl
@[simp] theorem zrc_64 : zrc Tryd.prog 64 = some [.sc (.pointer none), .sc (.pointer none), .sc (.pointer none), .sc (.string ⟨#[]⟩)] := by kernel_rfl
@[simp] theorem fld_64_0 : fld Tryd.prog 64 0 = some (0, 17) := by kernel_rfl
@[simp] theorem fld_64_1 : fld Tryd.prog 64 1 = some (1, 17) := by kernel_rfl
@[simp] theorem fld_64_2 : fld Tryd.prog 64 2 = some (2, 17) := by kernel_rfl
@[simp] theorem fld_64_3 : fld Tryd.prog 64 3 = some (3, 9) := by kernel_rfl
@[simp] theorem plc_64 : plc Tryd.prog 64 = some [(0, 1), (1, 1), (2, 1), (3, 1)] := by kernel_rfl
@[simp] theorem siz_65 : siz Tryd.prog 65 = 4 := by kernel_rfl
@[simp] theorem byt_65 : byt Tryd.prog 65 = 40 := by kernel_rfl
@[simp] theorem ags_65 : ags Tryd.prog 65 = true := by kernel_rfl
@[simp] theorem elm_65 : elm Tryd.prog 65 = none := by kernel_rfl
@[simp] theorem arr_65 : arr Tryd.prog 65 = none := by kernel_rfl
@[simp] theorem ikd_65 : ikd Tryd.prog 65 = none := by kernel_rfl
@[simp] theorem isStr_65 : isStr Tryd.prog 65 = false := by kernel_rfl
@[simp] theorem isBool_65 : isBool Tryd.prog 65 = false := by kernel_rfl
@[simp] theorem und_65 : (Tryd.prog.underlying 65).isSome = true := by kernel_rfl
@[simp] theorem good_65 : good Tryd.prog 65 = true := by kernel_rfl
@[simp] theorem zrc_65 : zrc Tryd.prog 65 = some [.sc (.pointer none), .sc (.pointer none), .sc (.pointer none), .sc (.string ⟨#[]⟩)] := by kernel_rfl
@[simp] theorem fld_65_0 : fld Tryd.prog 65 0 = some (0, 17) := by kernel_rfl
@[simp] theorem fld_65_1 : fld Tryd.prog 65 1 = some (1, 17) := by kernel_rfl
@[simp] theorem fld_65_2 : fld Tryd.prog 65 2 = some (2, 17) := by kernel_rfl
@[simp] theorem fld_65_3 : fld Tryd.prog 65 3 = some (3, 9) := by kernel_rfl
@[simp] theorem plc_65 : plc Tryd.prog 65 = some [(0, 1), (1, 1), (2, 1), (3, 1)] := by kernel_rfl
@[simp] theorem siz_66 : siz Tryd.prog 66 = 0 := by kernel_rfl
@[simp] theorem byt_66 : byt Tryd.prog 66 = 0 := by kernel_rfl
@[simp] theorem ags_66 : ags Tryd.prog 66 = true := by kernel_rfl
@[simp] theorem elm_66 : elm Tryd.prog 66 = none := by kernel_rfl
@[simp] theorem arr_66 : arr Tryd.prog 66 = some (0, 16) := by kernel_rfl
@[simp] theorem ikd_66 : ikd Tryd.prog 66 = none := by kernel_rfl
@[simp] theorem isStr_66 : isStr Tryd.prog 66 = false := by kernel_rfl
@[simp] theorem isBool_66 : isBool Tryd.prog 66 = false := by kernel_rfl
@[simp] theorem und_66 : (Tryd.prog.underlying 66).isSome = true := by kernel_rfl
@[simp] theorem zrc_66 : zrc Tryd.prog 66 = some [] := by kernel_rfl
@[simp] theorem egt_66 : Tryd.prog.eqGuardType Tryd.prog.depth 66 = false := by kernel_rfl
@[simp] theorem plc_66 : plc Tryd.prog 66 = some [] := by kernel_rfl
@[simp] theorem siz_67 : siz Tryd.prog 67 = 0 := by kernel_rfl
@[simp] theorem byt_67 : byt Tryd.prog 67 = 0 := by kernel_rfl
@[simp] theorem ags_67 : ags Tryd.prog 67 = true := by kernel_rfl
@[simp] theorem elm_67 : elm Tryd.prog 67 = none := by kernel_rfl
@[simp] theorem arr_67 : arr Tryd.prog 67 = none := by kernel_rfl
@[simp] theorem ikd_67 : ikd Tryd.prog 67 = none := by kernel_rfl
@[simp] theorem isStr_67 : isStr Tryd.prog 67 = false := by kernel_rfl
@[simp] theorem isBool_67 : isBool Tryd.prog 67 = false := by kernel_rfl
@[simp] theorem und_67 : (Tryd.prog.underlying 67).isSome = true := by kernel_rfl
@[simp] theorem zrc_67 : zrc Tryd.prog 67 = some [] := by kernel_rfl
@[simp] theorem fld_67_0 : fld Tryd.prog 67 0 = some (0, 66) := by kernel_rfl
@[simp] theorem plc_67 : plc Tryd.prog 67 = some [(0, 0)] := by kernel_rfl
@[simp] theorem egt_67 : Tryd.prog.eqGuardType Tryd.prog.depth 67 = false := by kernel_rfl
@[simp] theorem siz_68 : siz Tryd.prog 68 = 0 := by kernel_rfl
@[simp] theorem byt_68 : byt Tryd.prog 68 = 0 := by kernel_rfl
@[simp] theorem ags_68 : ags Tryd.prog 68 = true := by kernel_rfl
@[simp] theorem elm_68 : elm Tryd.prog 68 = none := by kernel_rfl
@[simp] theorem arr_68 : arr Tryd.prog 68 = none := by kernel_rfl
@[simp] theorem ikd_68 : ikd Tryd.prog 68 = none := by kernel_rfl
@[simp] theorem isStr_68 : isStr Tryd.prog 68 = false := by kernel_rfl
@[simp] theorem isBool_68 : isBool Tryd.prog 68 = false := by kernel_rfl
@[simp] theorem und_68 : (Tryd.prog.underlying 68).isSome = true := by kernel_rfl
@[simp] theorem zrc_68 : zrc Tryd.prog 68 = some [] := by kernel_rfl
@[simp] theorem fld_68_0 : fld Tryd.prog 68 0 = some (0, 66) := by kernel_rfl
@[simp] theorem plc_68 : plc Tryd.prog 68 = some [(0, 0)] := by kernel_rfl
@[simp] theorem egt_68 : Tryd.prog.eqGuardType Tryd.prog.depth 68 = false := by kernel_rfl
@[simp] theorem siz_70 : siz Tryd.prog 70 = 1 := by kernel_rfl
@[simp] theorem byt_70 : byt Tryd.prog 70 = 4 := by kernel_rfl
@[simp] theorem ags_70 : ags Tryd.prog 70 = false := by kernel_rfl
@[simp] theorem elm_70 : elm Tryd.prog 70 = none := by kernel_rfl
@[simp] theorem arr_70 : arr Tryd.prog 70 = none := by kernel_rfl
@[simp] theorem ikd_70 : ikd Tryd.prog 70 = some .u32 := by kernel_rfl
@[simp] theorem isStr_70 : isStr Tryd.prog 70 = false := by kernel_rfl
@[simp] theorem isBool_70 : isBool Tryd.prog 70 = false := by kernel_rfl
@[simp] theorem und_70 : (Tryd.prog.underlying 70).isSome = true := by kernel_rfl
@[simp] theorem good_70 : good Tryd.prog 70 = true := by kernel_rfl
@[simp] theorem zrc_70 : zrc Tryd.prog 70 = some [.sc (.int .u32 0)] := by kernel_rfl
@[simp] theorem siz_71 : siz Tryd.prog 71 = 1 := by kernel_rfl
@[simp] theorem byt_71 : byt Tryd.prog 71 = 1 := by kernel_rfl
@[simp] theorem ags_71 : ags Tryd.prog 71 = false := by kernel_rfl
@[simp] theorem elm_71 : elm Tryd.prog 71 = none := by kernel_rfl
@[simp] theorem arr_71 : arr Tryd.prog 71 = none := by kernel_rfl
@[simp] theorem ikd_71 : ikd Tryd.prog 71 = some .u8 := by kernel_rfl
@[simp] theorem isStr_71 : isStr Tryd.prog 71 = false := by kernel_rfl
@[simp] theorem isBool_71 : isBool Tryd.prog 71 = false := by kernel_rfl
@[simp] theorem und_71 : (Tryd.prog.underlying 71).isSome = true := by kernel_rfl
@[simp] theorem good_71 : good Tryd.prog 71 = true := by kernel_rfl
@[simp] theorem zrc_71 : zrc Tryd.prog 71 = some [.sc (.int .u8 0)] := by kernel_rfl
@[simp] theorem siz_72 : siz Tryd.prog 72 = 1 := by kernel_rfl
@[simp] theorem byt_72 : byt Tryd.prog 72 = 1 := by kernel_rfl
@[simp] theorem ags_72 : ags Tryd.prog 72 = false := by kernel_rfl
@[simp] theorem elm_72 : elm Tryd.prog 72 = none := by kernel_rfl
@[simp] theorem arr_72 : arr Tryd.prog 72 = none := by kernel_rfl
@[simp] theorem ikd_72 : ikd Tryd.prog 72 = some .u8 := by kernel_rfl
@[simp] theorem isStr_72 : isStr Tryd.prog 72 = false := by kernel_rfl
@[simp] theorem isBool_72 : isBool Tryd.prog 72 = false := by kernel_rfl
@[simp] theorem und_72 : (Tryd.prog.underlying 72).isSome = true := by kernel_rfl
@[simp] theorem good_72 : good Tryd.prog 72 = true := by kernel_rfl
@[simp] theorem zrc_72 : zrc Tryd.prog 72 = some [.sc (.int .u8 0)] := by kernel_rfl
@[simp] theorem siz_74 : siz Tryd.prog 74 = 1 := by kernel_rfl
@[simp] theorem byt_74 : byt Tryd.prog 74 = 8 := by kernel_rfl
@[simp] theorem ags_74 : ags Tryd.prog 74 = false := by kernel_rfl
@[simp] theorem elm_74 : elm Tryd.prog 74 = none := by kernel_rfl
@[simp] theorem arr_74 : arr Tryd.prog 74 = none := by kernel_rfl
@[simp] theorem ikd_74 : ikd Tryd.prog 74 = none := by kernel_rfl
@[simp] theorem isStr_74 : isStr Tryd.prog 74 = false := by kernel_rfl
@[simp] theorem isBool_74 : isBool Tryd.prog 74 = false := by kernel_rfl
@[simp] theorem und_74 : (Tryd.prog.underlying 74).isSome = true := by kernel_rfl
@[simp] theorem good_74 : good Tryd.prog 74 = true := by kernel_rfl
@[simp] theorem zrc_74 : zrc Tryd.prog 74 = some [.sc (.pointer none)] := by kernel_rfl
@[simp] theorem siz_75 : siz Tryd.prog 75 = 1 := by kernel_rfl
@[simp] theorem byt_75 : byt Tryd.prog 75 = 4 := by kernel_rfl
@[simp] theorem ags_75 : ags Tryd.prog 75 = false := by kernel_rfl
@[simp] theorem elm_75 : elm Tryd.prog 75 = none := by kernel_rfl
@[simp] theorem arr_75 : arr Tryd.prog 75 = none := by kernel_rfl
@[simp] theorem ikd_75 : ikd Tryd.prog 75 = some .i32 := by kernel_rfl
@[simp] theorem isStr_75 : isStr Tryd.prog 75 = false := by kernel_rfl
@[simp] theorem isBool_75 : isBool Tryd.prog 75 = false := by kernel_rfl
@[simp] theorem und_75 : (Tryd.prog.underlying 75).isSome = true := by kernel_rfl
@[simp] theorem good_75 : good Tryd.prog 75 = true := by kernel_rfl
@[simp] theorem zrc_75 : zrc Tryd.prog 75 = some [.sc (.int .i32 0)] := by kernel_rfl
@[simp] theorem siz_76 : siz Tryd.prog 76 = 1 := by kernel_rfl
@[simp] theorem byt_76 : byt Tryd.prog 76 = 4 := by kernel_rfl
@[simp] theorem ags_76 : ags Tryd.prog 76 = false := by kernel_rfl
@[simp] theorem elm_76 : elm Tryd.prog 76 = none := by kernel_rfl
@[simp] theorem arr_76 : arr Tryd.prog 76 = none := by kernel_rfl
@[simp] theorem ikd_76 : ikd Tryd.prog 76 = some .i32 := by kernel_rfl
@[simp] theorem isStr_76 : isStr Tryd.prog 76 = false := by kernel_rfl
@[simp] theorem isBool_76 : isBool Tryd.prog 76 = false := by kernel_rfl
@[simp] theorem und_76 : (Tryd.prog.underlying 76).isSome = true := by kernel_rfl
@[simp] theorem good_76 : good Tryd.prog 76 = true := by kernel_rfl
@[simp] theorem zrc_76 : zrc Tryd.prog 76 = some [.sc (.int .i32 0)] := by kernel_rfl
@[simp] theorem siz_77 : siz Tryd.prog 77 = 11 := by kernel_rfl
@[simp] theorem byt_77 : byt Tryd.prog 77 = 48 := by kernel_rfl
@[simp] theorem ags_77 : ags Tryd.prog 77 = true := by kernel_rfl
@[simp] theorem elm_77 : elm Tryd.prog 77 = none := by kernel_rfl
@[simp] theorem arr_77 : arr Tryd.prog 77 = none := by kernel_rfl
@[simp] theorem ikd_77 : ikd Tryd.prog 77 = none := by kernel_rfl
@[simp] theorem isStr_77 : isStr Tryd.prog 77 = false := by kernel_rfl
@[simp] theorem isBool_77 : isBool Tryd.prog 77 = false := by kernel_rfl
@[simp] theorem und_77 : (Tryd.prog.underlying 77).isSome = true := by kernel_rfl
@[simp] theorem good_77 : good Tryd.prog 77 = true := by kernel_rfl
@[simp] theorem zrc_77 : zrc Tryd.prog 77 = some [.sc (.int .u64 0), .sc (.int .u64 0), .sc (.int .u32 0), .sc (.int .u8 0), .sc (.int .u8 0), .sc (.int .u8 0), .sc (.int .u8 0), .sc .nilFunc, .sc (.pointer none), .sc (.int .i32 0), .sc (.int .i32 0)] := by kernel_rfl
@[simp] theorem fld_77_0 : fld Tryd.prog 77 0 = some (0, 12) := by kernel_rfl
@[simp] theorem fld_77_1 : fld Tryd.prog 77 1 = some (1, 12) := by kernel_rfl
@[simp] theorem fld_77_2 : fld Tryd.prog 77 2 = some (2, 70) := by kernel_rfl
@[simp] theorem fld_77_3 : fld Tryd.prog 77 3 = some (3, 71) := by kernel_rfl
@[simp] theorem fld_77_4 : fld Tryd.prog 77 4 = some (4, 5) := by kernel_rfl
@[simp] theorem fld_77_5 : fld Tryd.prog 77 5 = some (5, 5) := by kernel_rfl
@[simp] theorem fld_77_6 : fld Tryd.prog 77 6 = some (6, 72) := by kernel_rfl
@[simp] theorem fld_77_7 : fld Tryd.prog 77 7 = some (7, 73) := by kernel_rfl
@[simp] theorem fld_77_8 : fld Tryd.prog 77 8 = some (8, 74) := by kernel_rfl
@[simp] theorem fld_77_9 : fld Tryd.prog 77 9 = some (9, 75) := by kernel_rfl
@[simp] theorem fld_77_10 : fld Tryd.prog 77 10 = some (10, 76) := by kernel_rfl
@[simp] theorem siz_78 : siz Tryd.prog 78 = 11 := by kernel_rfl
@[simp] theorem byt_78 : byt Tryd.prog 78 = 48 := by kernel_rfl
@[simp] theorem ags_78 : ags Tryd.prog 78 = true := by kernel_rfl
@[simp] theorem elm_78 : elm Tryd.prog 78 = none := by kernel_rfl
@[simp] theorem arr_78 : arr Tryd.prog 78 = none := by kernel_rfl
@[simp] theorem ikd_78 : ikd Tryd.prog 78 = none := by kernel_rfl
@[simp] theorem isStr_78 : isStr Tryd.prog 78 = false := by kernel_rfl
@[simp] theorem isBool_78 : isBool Tryd.prog 78 = false := by kernel_rfl
@[simp] theorem und_78 : (Tryd.prog.underlying 78).isSome = true := by kernel_rfl
@[simp] theorem good_78 : good Tryd.prog 78 = true := by kernel_rfl
@[simp] theorem zrc_78 : zrc Tryd.prog 78 = some [.sc (.int .u64 0), .sc (.int .u64 0), .sc (.int .u32 0), .sc (.int .u8 0), .sc (.int .u8 0), .sc (.int .u8 0), .sc (.int .u8 0), .sc .nilFunc, .sc (.pointer none), .sc (.int .i32 0), .sc (.int .i32 0)] := by kernel_rfl
@[simp] theorem fld_78_0 : fld Tryd.prog 78 0 = some (0, 12) := by kernel_rfl
@[simp] theorem fld_78_1 : fld Tryd.prog 78 1 = some (1, 12) := by kernel_rfl
@[simp] theorem fld_78_2 : fld Tryd.prog 78 2 = some (2, 70) := by kernel_rfl
@[simp] theorem fld_78_3 : fld Tryd.prog 78 3 = some (3, 71) := by kernel_rfl
@[simp] theorem fld_78_4 : fld Tryd.prog 78 4 = some (4, 5) := by kernel_rfl
@[simp] theorem fld_78_5 : fld Tryd.prog 78 5 = some (5, 5) := by kernel_rfl
@[simp] theorem fld_78_6 : fld Tryd.prog 78 6 = some (6, 72) := by kernel_rfl
@[simp] theorem fld_78_7 : fld Tryd.prog 78 7 = some (7, 73) := by kernel_rfl
@[simp] theorem fld_78_8 : fld Tryd.prog 78 8 = some (8, 74) := by kernel_rfl
@[simp] theorem fld_78_9 : fld Tryd.prog 78 9 = some (9, 75) := by kernel_rfl
@[simp] theorem fld_78_10 : fld Tryd.prog 78 10 = some (10, 76) := by kernel_rfl
@[simp] theorem follows_ok : Tryd.prog.follows .mixedOrders = true := by kernel_rfl
@[simp] theorem callable_3 : callable Tryd.prog 3 = true := by kernel_rfl
@[simp] theorem callable_4 : callable Tryd.prog 4 = true := by kernel_rfl
@[simp] theorem callable_5 : callable Tryd.prog 5 = true := by kernel_rfl
@[simp] theorem callable_6 : callable Tryd.prog 6 = true := by kernel_rfl
@[simp] theorem callable_7 : callable Tryd.prog 7 = true := by kernel_rfl
@[simp] theorem callable_8 : callable Tryd.prog 8 = true := by kernel_rfl
@[simp] theorem callable_9 : callable Tryd.prog 9 = true := by kernel_rfl
@[simp] theorem callable_10 : callable Tryd.prog 10 = true := by kernel_rfl
@[simp] theorem callable_11 : callable Tryd.prog 11 = true := by kernel_rfl
@[simp] theorem callable_12 : callable Tryd.prog 12 = true := by kernel_rfl
@[simp] theorem callable_13 : callable Tryd.prog 13 = true := by kernel_rfl
@[simp] theorem callable_14 : callable Tryd.prog 14 = true := by kernel_rfl
@[simp] theorem callable_15 : callable Tryd.prog 15 = true := by kernel_rfl
@[simp] theorem callable_16 : callable Tryd.prog 16 = true := by kernel_rfl
@[simp] theorem callable_17 : callable Tryd.prog 17 = true := by kernel_rfl
@[simp] theorem callable_18 : callable Tryd.prog 18 = true := by kernel_rfl
@[simp] theorem callable_19 : callable Tryd.prog 19 = true := by kernel_rfl
@[simp] theorem callable_20 : callable Tryd.prog 20 = true := by kernel_rfl
@[simp] theorem callable_21 : callable Tryd.prog 21 = true := by kernel_rfl
@[simp] theorem callable_22 : callable Tryd.prog 22 = true := by kernel_rfl
@[simp] theorem callable_23 : callable Tryd.prog 23 = true := by kernel_rfl
@[simp] theorem callable_24 : callable Tryd.prog 24 = true := by kernel_rfl
@[simp] theorem callable_25 : callable Tryd.prog 25 = true := by kernel_rfl
@[simp] theorem callable_26 : callable Tryd.prog 26 = true := by kernel_rfl
@[simp] theorem callable_27 : callable Tryd.prog 27 = true := by kernel_rfl
@[simp] theorem callable_28 : callable Tryd.prog 28 = true := by kernel_rfl
@[simp] theorem callable_29 : callable Tryd.prog 29 = true := by kernel_rfl
@[simp] theorem callable_30 : callable Tryd.prog 30 = true := by kernel_rfl
@[simp] theorem callable_31 : callable Tryd.prog 31 = true := by kernel_rfl
@[simp] theorem callable_32 : callable Tryd.prog 32 = true := by kernel_rfl
@[simp] theorem callable_33 : callable Tryd.prog 33 = true := by kernel_rfl
@[simp] theorem callable_34 : callable Tryd.prog 34 = true := by kernel_rfl
@[simp] theorem callable_35 : callable Tryd.prog 35 = true := by kernel_rfl
@[simp] theorem callable_36 : callable Tryd.prog 36 = true := by kernel_rfl
@[simp] theorem callable_37 : callable Tryd.prog 37 = true := by kernel_rfl
@[simp] theorem callable_38 : callable Tryd.prog 38 = true := by kernel_rfl
@[simp] theorem callable_39 : callable Tryd.prog 39 = true := by kernel_rfl
@[simp] theorem callable_40 : callable Tryd.prog 40 = true := by kernel_rfl
@[simp] theorem callable_41 : callable Tryd.prog 41 = true := by kernel_rfl
@[simp] theorem callable_42 : callable Tryd.prog 42 = true := by kernel_rfl
@[simp] theorem callable_43 : callable Tryd.prog 43 = true := by kernel_rfl

end Go.Proofs.YthhccabdlajngaaDoor.Tab
