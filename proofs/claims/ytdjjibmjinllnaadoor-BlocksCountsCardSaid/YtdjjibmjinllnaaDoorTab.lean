import Derived.Test.YtdjjibmjinllnaaDoorProg
import Derived.Test.YtdjjibmjinllnaaDoorSimB
import Derived.KernelRfl
namespace Go.Proofs.YtdjjibmjinllnaaDoor.Tab
open Go Go.Sim Go.RowKit
set_option linter.unusedVariables false

@[simp] theorem siz_2 : siz Tryd.prog 2 = 1 := by kernel_rfl
@[simp] theorem byt_2 : byt Tryd.prog 2 = 8 := by kernel_rfl
@[simp] theorem ags_2 : ags Tryd.prog 2 = false := by kernel_rfl
@[simp] theorem elm_2 : elm Tryd.prog 2 = none := by kernel_rfl
@[simp] theorem arr_2 : arr Tryd.prog 2 = none := by kernel_rfl
@[simp] theorem ikd_2 : ikd Tryd.prog 2 = some .i64 := by kernel_rfl
@[simp] theorem isStr_2 : isStr Tryd.prog 2 = false := by kernel_rfl
@[simp] theorem isBool_2 : isBool Tryd.prog 2 = false := by kernel_rfl
@[simp] theorem und_2 : (Tryd.prog.underlying 2).isSome = true := by kernel_rfl
@[simp] theorem good_2 : good Tryd.prog 2 = true := by kernel_rfl
@[simp] theorem zrc_2 : zrc Tryd.prog 2 = some [.sc (.int .i64 0)] := by kernel_rfl
@[simp] theorem siz_3 : siz Tryd.prog 3 = 1 := by kernel_rfl
@[simp] theorem byt_3 : byt Tryd.prog 3 = 8 := by kernel_rfl
@[simp] theorem ags_3 : ags Tryd.prog 3 = false := by kernel_rfl
@[simp] theorem elm_3 : elm Tryd.prog 3 = none := by kernel_rfl
@[simp] theorem arr_3 : arr Tryd.prog 3 = none := by kernel_rfl
@[simp] theorem ikd_3 : ikd Tryd.prog 3 = some .i64 := by kernel_rfl
@[simp] theorem isStr_3 : isStr Tryd.prog 3 = false := by kernel_rfl
@[simp] theorem isBool_3 : isBool Tryd.prog 3 = false := by kernel_rfl
@[simp] theorem und_3 : (Tryd.prog.underlying 3).isSome = true := by kernel_rfl
@[simp] theorem good_3 : good Tryd.prog 3 = true := by kernel_rfl
@[simp] theorem zrc_3 : zrc Tryd.prog 3 = some [.sc (.int .i64 0)] := by kernel_rfl
@[simp] theorem siz_4 : siz Tryd.prog 4 = 1 := by kernel_rfl
@[simp] theorem byt_4 : byt Tryd.prog 4 = 1 := by kernel_rfl
@[simp] theorem ags_4 : ags Tryd.prog 4 = false := by kernel_rfl
@[simp] theorem elm_4 : elm Tryd.prog 4 = none := by kernel_rfl
@[simp] theorem arr_4 : arr Tryd.prog 4 = none := by kernel_rfl
@[simp] theorem ikd_4 : ikd Tryd.prog 4 = none := by kernel_rfl
@[simp] theorem isStr_4 : isStr Tryd.prog 4 = false := by kernel_rfl
@[simp] theorem isBool_4 : isBool Tryd.prog 4 = true := by kernel_rfl
@[simp] theorem und_4 : (Tryd.prog.underlying 4).isSome = true := by kernel_rfl
@[simp] theorem good_4 : good Tryd.prog 4 = true := by kernel_rfl
@[simp] theorem zrc_4 : zrc Tryd.prog 4 = some [.sc (.bool false)] := by kernel_rfl
@[simp] theorem siz_5 : siz Tryd.prog 5 = 1 := by kernel_rfl
@[simp] theorem byt_5 : byt Tryd.prog 5 = 1 := by kernel_rfl
@[simp] theorem ags_5 : ags Tryd.prog 5 = false := by kernel_rfl
@[simp] theorem elm_5 : elm Tryd.prog 5 = none := by kernel_rfl
@[simp] theorem arr_5 : arr Tryd.prog 5 = none := by kernel_rfl
@[simp] theorem ikd_5 : ikd Tryd.prog 5 = some .u8 := by kernel_rfl
@[simp] theorem isStr_5 : isStr Tryd.prog 5 = false := by kernel_rfl
@[simp] theorem isBool_5 : isBool Tryd.prog 5 = false := by kernel_rfl
@[simp] theorem und_5 : (Tryd.prog.underlying 5).isSome = true := by kernel_rfl
@[simp] theorem good_5 : good Tryd.prog 5 = true := by kernel_rfl
@[simp] theorem zrc_5 : zrc Tryd.prog 5 = some [.sc (.int .u8 0)] := by kernel_rfl
@[simp] theorem siz_6 : siz Tryd.prog 6 = 1 := by kernel_rfl
@[simp] theorem byt_6 : byt Tryd.prog 6 = 1 := by kernel_rfl
@[simp] theorem ags_6 : ags Tryd.prog 6 = false := by kernel_rfl
@[simp] theorem elm_6 : elm Tryd.prog 6 = none := by kernel_rfl
@[simp] theorem arr_6 : arr Tryd.prog 6 = none := by kernel_rfl
@[simp] theorem ikd_6 : ikd Tryd.prog 6 = some .u8 := by kernel_rfl
@[simp] theorem isStr_6 : isStr Tryd.prog 6 = false := by kernel_rfl
@[simp] theorem isBool_6 : isBool Tryd.prog 6 = false := by kernel_rfl
@[simp] theorem und_6 : (Tryd.prog.underlying 6).isSome = true := by kernel_rfl
@[simp] theorem good_6 : good Tryd.prog 6 = true := by kernel_rfl
@[simp] theorem zrc_6 : zrc Tryd.prog 6 = some [.sc (.int .u8 0)] := by kernel_rfl
@[simp] theorem siz_7 : siz Tryd.prog 7 = 4 := by kernel_rfl
@[simp] theorem byt_7 : byt Tryd.prog 7 = 24 := by kernel_rfl
@[simp] theorem ags_7 : ags Tryd.prog 7 = true := by kernel_rfl
@[simp] theorem elm_7 : elm Tryd.prog 7 = none := by kernel_rfl
@[simp] theorem arr_7 : arr Tryd.prog 7 = none := by kernel_rfl
@[simp] theorem ikd_7 : ikd Tryd.prog 7 = none := by kernel_rfl
@[simp] theorem isStr_7 : isStr Tryd.prog 7 = false := by kernel_rfl
@[simp] theorem isBool_7 : isBool Tryd.prog 7 = false := by kernel_rfl
@[simp] theorem und_7 : (Tryd.prog.underlying 7).isSome = true := by kernel_rfl
@[simp] theorem good_7 : good Tryd.prog 7 = true := by kernel_rfl
@[simp] theorem zrc_7 : zrc Tryd.prog 7 = some [.sc (.int .i64 0), .sc (.int .i64 0), .sc (.bool false), .sc (.int .u8 0)] := by kernel_rfl
@[simp] theorem fld_7_0 : fld Tryd.prog 7 0 = some (0, 2) := by kernel_rfl
@[simp] theorem fld_7_1 : fld Tryd.prog 7 1 = some (1, 3) := by kernel_rfl
@[simp] theorem fld_7_2 : fld Tryd.prog 7 2 = some (2, 4) := by kernel_rfl
@[simp] theorem fld_7_3 : fld Tryd.prog 7 3 = some (3, 6) := by kernel_rfl
@[simp] theorem plc_7 : plc Tryd.prog 7 = some [(0, 1), (1, 1), (2, 1), (3, 1)] := by kernel_rfl
@[simp] theorem lks_7 : lks Tryd.prog 6 7 = some [.i, .i, .b, .i] := by kernel_rfl
@[simp] theorem egt_7 : Tryd.prog.eqGuardType Tryd.prog.depth 7 = false := by kernel_rfl
@[simp] theorem siz_8 : siz Tryd.prog 8 = 4 := by kernel_rfl
@[simp] theorem byt_8 : byt Tryd.prog 8 = 24 := by kernel_rfl
@[simp] theorem ags_8 : ags Tryd.prog 8 = true := by kernel_rfl
@[simp] theorem elm_8 : elm Tryd.prog 8 = none := by kernel_rfl
@[simp] theorem arr_8 : arr Tryd.prog 8 = none := by kernel_rfl
@[simp] theorem ikd_8 : ikd Tryd.prog 8 = none := by kernel_rfl
@[simp] theorem isStr_8 : isStr Tryd.prog 8 = false := by kernel_rfl
@[simp] theorem isBool_8 : isBool Tryd.prog 8 = false := by kernel_rfl
@[simp] theorem und_8 : (Tryd.prog.underlying 8).isSome = true := by kernel_rfl
@[simp] theorem good_8 : good Tryd.prog 8 = true := by kernel_rfl
@[simp] theorem zrc_8 : zrc Tryd.prog 8 = some [.sc (.int .i64 0), .sc (.int .i64 0), .sc (.bool false), .sc (.int .u8 0)] := by kernel_rfl
@[simp] theorem fld_8_0 : fld Tryd.prog 8 0 = some (0, 2) := by kernel_rfl
@[simp] theorem fld_8_1 : fld Tryd.prog 8 1 = some (1, 3) := by kernel_rfl
@[simp] theorem fld_8_2 : fld Tryd.prog 8 2 = some (2, 4) := by kernel_rfl
@[simp] theorem fld_8_3 : fld Tryd.prog 8 3 = some (3, 6) := by kernel_rfl
@[simp] theorem plc_8 : plc Tryd.prog 8 = some [(0, 1), (1, 1), (2, 1), (3, 1)] := by kernel_rfl
@[simp] theorem lks_8 : lks Tryd.prog 6 8 = some [.i, .i, .b, .i] := by kernel_rfl
@[simp] theorem egt_8 : Tryd.prog.eqGuardType Tryd.prog.depth 8 = false := by kernel_rfl
@[simp] theorem siz_9 : siz Tryd.prog 9 = 1 := by kernel_rfl
@[simp] theorem byt_9 : byt Tryd.prog 9 = 16 := by kernel_rfl
@[simp] theorem ags_9 : ags Tryd.prog 9 = false := by kernel_rfl
@[simp] theorem elm_9 : elm Tryd.prog 9 = none := by kernel_rfl
@[simp] theorem arr_9 : arr Tryd.prog 9 = none := by kernel_rfl
@[simp] theorem ikd_9 : ikd Tryd.prog 9 = none := by kernel_rfl
@[simp] theorem isStr_9 : isStr Tryd.prog 9 = true := by kernel_rfl
@[simp] theorem isBool_9 : isBool Tryd.prog 9 = false := by kernel_rfl
@[simp] theorem und_9 : (Tryd.prog.underlying 9).isSome = true := by kernel_rfl
@[simp] theorem good_9 : good Tryd.prog 9 = true := by kernel_rfl
@[simp] theorem zrc_9 : zrc Tryd.prog 9 = some [.sc (.string ⟨#[]⟩)] := by kernel_rfl
@[simp] theorem siz_10 : siz Tryd.prog 10 = 1 := by kernel_rfl
@[simp] theorem byt_10 : byt Tryd.prog 10 = 16 := by kernel_rfl
@[simp] theorem ags_10 : ags Tryd.prog 10 = false := by kernel_rfl
@[simp] theorem elm_10 : elm Tryd.prog 10 = none := by kernel_rfl
@[simp] theorem arr_10 : arr Tryd.prog 10 = none := by kernel_rfl
@[simp] theorem ikd_10 : ikd Tryd.prog 10 = none := by kernel_rfl
@[simp] theorem isStr_10 : isStr Tryd.prog 10 = true := by kernel_rfl
@[simp] theorem isBool_10 : isBool Tryd.prog 10 = false := by kernel_rfl
@[simp] theorem und_10 : (Tryd.prog.underlying 10).isSome = true := by kernel_rfl
@[simp] theorem good_10 : good Tryd.prog 10 = true := by kernel_rfl
@[simp] theorem zrc_10 : zrc Tryd.prog 10 = some [.sc (.string ⟨#[]⟩)] := by kernel_rfl
@[simp] theorem siz_11 : siz Tryd.prog 11 = 1 := by kernel_rfl
@[simp] theorem byt_11 : byt Tryd.prog 11 = 16 := by kernel_rfl
@[simp] theorem ags_11 : ags Tryd.prog 11 = false := by kernel_rfl
@[simp] theorem elm_11 : elm Tryd.prog 11 = none := by kernel_rfl
@[simp] theorem arr_11 : arr Tryd.prog 11 = none := by kernel_rfl
@[simp] theorem ikd_11 : ikd Tryd.prog 11 = none := by kernel_rfl
@[simp] theorem isStr_11 : isStr Tryd.prog 11 = true := by kernel_rfl
@[simp] theorem isBool_11 : isBool Tryd.prog 11 = false := by kernel_rfl
@[simp] theorem und_11 : (Tryd.prog.underlying 11).isSome = true := by kernel_rfl
@[simp] theorem good_11 : good Tryd.prog 11 = true := by kernel_rfl
@[simp] theorem zrc_11 : zrc Tryd.prog 11 = some [.sc (.string ⟨#[]⟩)] := by kernel_rfl
@[simp] theorem siz_12 : siz Tryd.prog 12 = 1 := by kernel_rfl
@[simp] theorem byt_12 : byt Tryd.prog 12 = 8 := by kernel_rfl
@[simp] theorem ags_12 : ags Tryd.prog 12 = false := by kernel_rfl
@[simp] theorem elm_12 : elm Tryd.prog 12 = none := by kernel_rfl
@[simp] theorem arr_12 : arr Tryd.prog 12 = none := by kernel_rfl
@[simp] theorem ikd_12 : ikd Tryd.prog 12 = some .u64 := by kernel_rfl
@[simp] theorem isStr_12 : isStr Tryd.prog 12 = false := by kernel_rfl
@[simp] theorem isBool_12 : isBool Tryd.prog 12 = false := by kernel_rfl
@[simp] theorem und_12 : (Tryd.prog.underlying 12).isSome = true := by kernel_rfl
@[simp] theorem good_12 : good Tryd.prog 12 = true := by kernel_rfl
@[simp] theorem zrc_12 : zrc Tryd.prog 12 = some [.sc (.int .u64 0)] := by kernel_rfl
@[simp] theorem siz_13 : siz Tryd.prog 13 = 2 := by kernel_rfl
@[simp] theorem byt_13 : byt Tryd.prog 13 = 24 := by kernel_rfl
@[simp] theorem ags_13 : ags Tryd.prog 13 = true := by kernel_rfl
@[simp] theorem elm_13 : elm Tryd.prog 13 = none := by kernel_rfl
@[simp] theorem arr_13 : arr Tryd.prog 13 = none := by kernel_rfl
@[simp] theorem ikd_13 : ikd Tryd.prog 13 = none := by kernel_rfl
@[simp] theorem isStr_13 : isStr Tryd.prog 13 = false := by kernel_rfl
@[simp] theorem isBool_13 : isBool Tryd.prog 13 = false := by kernel_rfl
@[simp] theorem und_13 : (Tryd.prog.underlying 13).isSome = true := by kernel_rfl
@[simp] theorem good_13 : good Tryd.prog 13 = true := by kernel_rfl
@[simp] theorem zrc_13 : zrc Tryd.prog 13 = some [.sc (.string ⟨#[]⟩), .sc (.int .u64 0)] := by kernel_rfl
@[simp] theorem fld_13_0 : fld Tryd.prog 13 0 = some (0, 9) := by kernel_rfl
@[simp] theorem fld_13_1 : fld Tryd.prog 13 1 = some (1, 12) := by kernel_rfl
@[simp] theorem plc_13 : plc Tryd.prog 13 = some [(0, 1), (1, 1)] := by kernel_rfl
@[simp] theorem egt_13 : Tryd.prog.eqGuardType Tryd.prog.depth 13 = false := by kernel_rfl
@[simp] theorem siz_14 : siz Tryd.prog 14 = 2 := by kernel_rfl
@[simp] theorem byt_14 : byt Tryd.prog 14 = 24 := by kernel_rfl
@[simp] theorem ags_14 : ags Tryd.prog 14 = true := by kernel_rfl
@[simp] theorem elm_14 : elm Tryd.prog 14 = none := by kernel_rfl
@[simp] theorem arr_14 : arr Tryd.prog 14 = none := by kernel_rfl
@[simp] theorem ikd_14 : ikd Tryd.prog 14 = none := by kernel_rfl
@[simp] theorem isStr_14 : isStr Tryd.prog 14 = false := by kernel_rfl
@[simp] theorem isBool_14 : isBool Tryd.prog 14 = false := by kernel_rfl
@[simp] theorem und_14 : (Tryd.prog.underlying 14).isSome = true := by kernel_rfl
@[simp] theorem good_14 : good Tryd.prog 14 = true := by kernel_rfl
@[simp] theorem zrc_14 : zrc Tryd.prog 14 = some [.sc (.string ⟨#[]⟩), .sc (.int .u64 0)] := by kernel_rfl
@[simp] theorem fld_14_0 : fld Tryd.prog 14 0 = some (0, 9) := by kernel_rfl
@[simp] theorem fld_14_1 : fld Tryd.prog 14 1 = some (1, 12) := by kernel_rfl
@[simp] theorem plc_14 : plc Tryd.prog 14 = some [(0, 1), (1, 1)] := by kernel_rfl
@[simp] theorem egt_14 : Tryd.prog.eqGuardType Tryd.prog.depth 14 = false := by kernel_rfl
@[simp] theorem siz_15 : siz Tryd.prog 15 = 1 := by kernel_rfl
@[simp] theorem byt_15 : byt Tryd.prog 15 = 8 := by kernel_rfl
@[simp] theorem ags_15 : ags Tryd.prog 15 = false := by kernel_rfl
@[simp] theorem elm_15 : elm Tryd.prog 15 = none := by kernel_rfl
@[simp] theorem arr_15 : arr Tryd.prog 15 = none := by kernel_rfl
@[simp] theorem ikd_15 : ikd Tryd.prog 15 = none := by kernel_rfl
@[simp] theorem isStr_15 : isStr Tryd.prog 15 = false := by kernel_rfl
@[simp] theorem isBool_15 : isBool Tryd.prog 15 = false := by kernel_rfl
@[simp] theorem und_15 : (Tryd.prog.underlying 15).isSome = true := by kernel_rfl
@[simp] theorem good_15 : good Tryd.prog 15 = true := by kernel_rfl
@[simp] theorem zrc_15 : zrc Tryd.prog 15 = some [.sc (.pointer none)] := by kernel_rfl
@[simp] theorem siz_16 : siz Tryd.prog 16 = 1 := by kernel_rfl
@[simp] theorem byt_16 : byt Tryd.prog 16 = 8 := by kernel_rfl
@[simp] theorem ags_16 : ags Tryd.prog 16 = false := by kernel_rfl
@[simp] theorem elm_16 : elm Tryd.prog 16 = none := by kernel_rfl
@[simp] theorem arr_16 : arr Tryd.prog 16 = none := by kernel_rfl
@[simp] theorem ikd_16 : ikd Tryd.prog 16 = none := by kernel_rfl
@[simp] theorem isStr_16 : isStr Tryd.prog 16 = false := by kernel_rfl
@[simp] theorem isBool_16 : isBool Tryd.prog 16 = false := by kernel_rfl
@[simp] theorem und_16 : (Tryd.prog.underlying 16).isSome = true := by kernel_rfl
@[simp] theorem good_16 : good Tryd.prog 16 = true := by kernel_rfl
@[simp] theorem zrc_16 : zrc Tryd.prog 16 = some [.sc (.pointer none)] := by kernel_rfl
@[simp] theorem siz_17 : siz Tryd.prog 17 = 1 := by kernel_rfl
@[simp] theorem byt_17 : byt Tryd.prog 17 = 8 := by kernel_rfl
@[simp] theorem ags_17 : ags Tryd.prog 17 = false := by kernel_rfl
@[simp] theorem elm_17 : elm Tryd.prog 17 = none := by kernel_rfl
@[simp] theorem arr_17 : arr Tryd.prog 17 = none := by kernel_rfl
@[simp] theorem ikd_17 : ikd Tryd.prog 17 = none := by kernel_rfl
@[simp] theorem isStr_17 : isStr Tryd.prog 17 = false := by kernel_rfl
@[simp] theorem isBool_17 : isBool Tryd.prog 17 = false := by kernel_rfl
@[simp] theorem und_17 : (Tryd.prog.underlying 17).isSome = true := by kernel_rfl
@[simp] theorem good_17 : good Tryd.prog 17 = true := by kernel_rfl
@[simp] theorem zrc_17 : zrc Tryd.prog 17 = some [.sc (.pointer none)] := by kernel_rfl
@[simp] theorem siz_18 : siz Tryd.prog 18 = 1 := by kernel_rfl
@[simp] theorem byt_18 : byt Tryd.prog 18 = 8 := by kernel_rfl
@[simp] theorem ags_18 : ags Tryd.prog 18 = true := by kernel_rfl
@[simp] theorem elm_18 : elm Tryd.prog 18 = none := by kernel_rfl
@[simp] theorem arr_18 : arr Tryd.prog 18 = none := by kernel_rfl
@[simp] theorem ikd_18 : ikd Tryd.prog 18 = none := by kernel_rfl
@[simp] theorem isStr_18 : isStr Tryd.prog 18 = false := by kernel_rfl
@[simp] theorem isBool_18 : isBool Tryd.prog 18 = false := by kernel_rfl
@[simp] theorem und_18 : (Tryd.prog.underlying 18).isSome = true := by kernel_rfl
@[simp] theorem good_18 : good Tryd.prog 18 = true := by kernel_rfl
@[simp] theorem zrc_18 : zrc Tryd.prog 18 = some [.sc (.pointer none)] := by kernel_rfl
@[simp] theorem fld_18_0 : fld Tryd.prog 18 0 = some (0, 17) := by kernel_rfl
@[simp] theorem plc_18 : plc Tryd.prog 18 = some [(0, 1)] := by kernel_rfl
@[simp] theorem siz_19 : siz Tryd.prog 19 = 1 := by kernel_rfl
@[simp] theorem byt_19 : byt Tryd.prog 19 = 8 := by kernel_rfl
@[simp] theorem ags_19 : ags Tryd.prog 19 = true := by kernel_rfl
@[simp] theorem elm_19 : elm Tryd.prog 19 = none := by kernel_rfl
@[simp] theorem arr_19 : arr Tryd.prog 19 = none := by kernel_rfl
@[simp] theorem ikd_19 : ikd Tryd.prog 19 = none := by kernel_rfl
@[simp] theorem isStr_19 : isStr Tryd.prog 19 = false := by kernel_rfl
@[simp] theorem isBool_19 : isBool Tryd.prog 19 = false := by kernel_rfl
@[simp] theorem und_19 : (Tryd.prog.underlying 19).isSome = true := by kernel_rfl
@[simp] theorem good_19 : good Tryd.prog 19 = true := by kernel_rfl
@[simp] theorem zrc_19 : zrc Tryd.prog 19 = some [.sc (.pointer none)] := by kernel_rfl
@[simp] theorem fld_19_0 : fld Tryd.prog 19 0 = some (0, 17) := by kernel_rfl
@[simp] theorem plc_19 : plc Tryd.prog 19 = some [(0, 1)] := by kernel_rfl
@[simp] theorem siz_21 : siz Tryd.prog 21 = 1 := by kernel_rfl
@[simp] theorem byt_21 : byt Tryd.prog 21 = 4 := by kernel_rfl
@[simp] theorem ags_21 : ags Tryd.prog 21 = false := by kernel_rfl
@[simp] theorem elm_21 : elm Tryd.prog 21 = none := by kernel_rfl
@[simp] theorem arr_21 : arr Tryd.prog 21 = none := by kernel_rfl
@[simp] theorem ikd_21 : ikd Tryd.prog 21 = some .i32 := by kernel_rfl
@[simp] theorem isStr_21 : isStr Tryd.prog 21 = false := by kernel_rfl
@[simp] theorem isBool_21 : isBool Tryd.prog 21 = false := by kernel_rfl
@[simp] theorem und_21 : (Tryd.prog.underlying 21).isSome = true := by kernel_rfl
@[simp] theorem good_21 : good Tryd.prog 21 = true := by kernel_rfl
@[simp] theorem zrc_21 : zrc Tryd.prog 21 = some [.sc (.int .i32 0)] := by kernel_rfl
@[simp] theorem siz_26 : siz Tryd.prog 26 = 1 := by kernel_rfl
@[simp] theorem byt_26 : byt Tryd.prog 26 = 24 := by kernel_rfl
@[simp] theorem ags_26 : ags Tryd.prog 26 = false := by kernel_rfl
@[simp] theorem elm_26 : elm Tryd.prog 26 = some 5 := by kernel_rfl
@[simp] theorem arr_26 : arr Tryd.prog 26 = none := by kernel_rfl
@[simp] theorem ikd_26 : ikd Tryd.prog 26 = none := by kernel_rfl
@[simp] theorem isStr_26 : isStr Tryd.prog 26 = false := by kernel_rfl
@[simp] theorem isBool_26 : isBool Tryd.prog 26 = false := by kernel_rfl
@[simp] theorem und_26 : (Tryd.prog.underlying 26).isSome = true := by kernel_rfl
@[simp] theorem good_26 : good Tryd.prog 26 = true := by kernel_rfl
@[simp] theorem zrc_26 : zrc Tryd.prog 26 = some [.nl] := by kernel_rfl
@[simp] theorem siz_28 : siz Tryd.prog 28 = 1 := by kernel_rfl
@[simp] theorem byt_28 : byt Tryd.prog 28 = 8 := by kernel_rfl
@[simp] theorem ags_28 : ags Tryd.prog 28 = false := by kernel_rfl
@[simp] theorem elm_28 : elm Tryd.prog 28 = none := by kernel_rfl
@[simp] theorem arr_28 : arr Tryd.prog 28 = none := by kernel_rfl
@[simp] theorem ikd_28 : ikd Tryd.prog 28 = some .i64 := by kernel_rfl
@[simp] theorem isStr_28 : isStr Tryd.prog 28 = false := by kernel_rfl
@[simp] theorem isBool_28 : isBool Tryd.prog 28 = false := by kernel_rfl
@[simp] theorem und_28 : (Tryd.prog.underlying 28).isSome = true := by kernel_rfl
@[simp] theorem good_28 : good Tryd.prog 28 = true := by kernel_rfl
@[simp] theorem zrc_28 : zrc Tryd.prog 28 = some [.sc (.int .i64 0)] := by kernel_rfl
@[simp] theorem siz_36 : siz Tryd.prog 36 = 256 := by kernel_rfl
@[simp] theorem byt_36 : byt Tryd.prog 36 = 256 := by kernel_rfl
@[simp] theorem ags_36 : ags Tryd.prog 36 = true := by kernel_rfl
@[simp] theorem elm_36 : elm Tryd.prog 36 = none := by kernel_rfl
@[simp] theorem arr_36 : arr Tryd.prog 36 = some (256, 4) := by kernel_rfl
@[simp] theorem ikd_36 : ikd Tryd.prog 36 = none := by kernel_rfl
@[simp] theorem isStr_36 : isStr Tryd.prog 36 = false := by kernel_rfl
@[simp] theorem isBool_36 : isBool Tryd.prog 36 = false := by kernel_rfl
@[simp] theorem und_36 : (Tryd.prog.underlying 36).isSome = true := by kernel_rfl
@[simp] theorem good_36 : good Tryd.prog 36 = true := by kernel_rfl
@[simp] theorem siz_37 : siz Tryd.prog 37 = 256 := by kernel_rfl
@[simp] theorem byt_37 : byt Tryd.prog 37 = 256 := by kernel_rfl
@[simp] theorem ags_37 : ags Tryd.prog 37 = true := by kernel_rfl
@[simp] theorem elm_37 : elm Tryd.prog 37 = none := by kernel_rfl
@[simp] theorem arr_37 : arr Tryd.prog 37 = some (256, 4) := by kernel_rfl
@[simp] theorem ikd_37 : ikd Tryd.prog 37 = none := by kernel_rfl
@[simp] theorem isStr_37 : isStr Tryd.prog 37 = false := by kernel_rfl
@[simp] theorem isBool_37 : isBool Tryd.prog 37 = false := by kernel_rfl
@[simp] theorem und_37 : (Tryd.prog.underlying 37).isSome = true := by kernel_rfl
@[simp] theorem good_37 : good Tryd.prog 37 = true := by kernel_rfl
@[simp] theorem siz_41 : siz Tryd.prog 41 = 1 := by kernel_rfl
@[simp] theorem byt_41 : byt Tryd.prog 41 = 8 := by kernel_rfl
@[simp] theorem ags_41 : ags Tryd.prog 41 = false := by kernel_rfl
@[simp] theorem elm_41 : elm Tryd.prog 41 = none := by kernel_rfl
@[simp] theorem arr_41 : arr Tryd.prog 41 = none := by kernel_rfl
@[simp] theorem ikd_41 : ikd Tryd.prog 41 = none := by kernel_rfl
@[simp] theorem isStr_41 : isStr Tryd.prog 41 = false := by kernel_rfl
@[simp] theorem isBool_41 : isBool Tryd.prog 41 = false := by kernel_rfl
@[simp] theorem und_41 : (Tryd.prog.underlying 41).isSome = true := by kernel_rfl
@[simp] theorem good_41 : good Tryd.prog 41 = true := by kernel_rfl
@[simp] theorem zrc_41 : zrc Tryd.prog 41 = some [.sc (.pointer none)] := by kernel_rfl
@[simp] theorem siz_46 : siz Tryd.prog 46 = 256 := by kernel_rfl
@[simp] theorem byt_46 : byt Tryd.prog 46 = 256 := by kernel_rfl
@[simp] theorem ags_46 : ags Tryd.prog 46 = true := by kernel_rfl
@[simp] theorem elm_46 : elm Tryd.prog 46 = none := by kernel_rfl
@[simp] theorem arr_46 : arr Tryd.prog 46 = some (256, 5) := by kernel_rfl
@[simp] theorem ikd_46 : ikd Tryd.prog 46 = none := by kernel_rfl
@[simp] theorem isStr_46 : isStr Tryd.prog 46 = false := by kernel_rfl
@[simp] theorem isBool_46 : isBool Tryd.prog 46 = false := by kernel_rfl
@[simp] theorem und_46 : (Tryd.prog.underlying 46).isSome = true := by kernel_rfl
@[simp] theorem good_46 : good Tryd.prog 46 = true := by kernel_rfl
@[simp] theorem siz_47 : siz Tryd.prog 47 = 1 := by kernel_rfl
@[simp] theorem byt_47 : byt Tryd.prog 47 = 8 := by kernel_rfl
@[simp] theorem ags_47 : ags Tryd.prog 47 = false := by kernel_rfl
@[simp] theorem elm_47 : elm Tryd.prog 47 = none := by kernel_rfl
@[simp] theorem arr_47 : arr Tryd.prog 47 = none := by kernel_rfl
@[simp] theorem ikd_47 : ikd Tryd.prog 47 = some .u64 := by kernel_rfl
@[simp] theorem isStr_47 : isStr Tryd.prog 47 = false := by kernel_rfl
@[simp] theorem isBool_47 : isBool Tryd.prog 47 = false := by kernel_rfl
@[simp] theorem und_47 : (Tryd.prog.underlying 47).isSome = true := by kernel_rfl
@[simp] theorem good_47 : good Tryd.prog 47 = true := by kernel_rfl
@[simp] theorem zrc_47 : zrc Tryd.prog 47 = some [.sc (.int .u64 0)] := by kernel_rfl
@[simp] theorem siz_48 : siz Tryd.prog 48 = 2 := by kernel_rfl
@[simp] theorem byt_48 : byt Tryd.prog 48 = 2 := by kernel_rfl
@[simp] theorem ags_48 : ags Tryd.prog 48 = true := by kernel_rfl
@[simp] theorem elm_48 : elm Tryd.prog 48 = none := by kernel_rfl
@[simp] theorem arr_48 : arr Tryd.prog 48 = none := by kernel_rfl
@[simp] theorem ikd_48 : ikd Tryd.prog 48 = none := by kernel_rfl
@[simp] theorem isStr_48 : isStr Tryd.prog 48 = false := by kernel_rfl
@[simp] theorem isBool_48 : isBool Tryd.prog 48 = false := by kernel_rfl
@[simp] theorem und_48 : (Tryd.prog.underlying 48).isSome = true := by kernel_rfl
@[simp] theorem good_48 : good Tryd.prog 48 = true := by kernel_rfl
@[simp] theorem zrc_48 : zrc Tryd.prog 48 = some [.sc (.int .u8 0), .sc (.int .u8 0)] := by kernel_rfl
@[simp] theorem fld_48_0 : fld Tryd.prog 48 0 = some (0, 5) := by kernel_rfl
@[simp] theorem fld_48_1 : fld Tryd.prog 48 1 = some (1, 5) := by kernel_rfl
@[simp] theorem plc_48 : plc Tryd.prog 48 = some [(0, 1), (1, 1)] := by kernel_rfl
@[simp] theorem lks_48 : lks Tryd.prog 6 48 = some [.i, .i] := by kernel_rfl
@[simp] theorem egt_48 : Tryd.prog.eqGuardType Tryd.prog.depth 48 = false := by kernel_rfl
@[simp] theorem siz_49 : siz Tryd.prog 49 = 2 := by kernel_rfl
@[simp] theorem byt_49 : byt Tryd.prog 49 = 2 := by kernel_rfl
@[simp] theorem ags_49 : ags Tryd.prog 49 = true := by kernel_rfl
@[simp] theorem elm_49 : elm Tryd.prog 49 = none := by kernel_rfl
@[simp] theorem arr_49 : arr Tryd.prog 49 = none := by kernel_rfl
@[simp] theorem ikd_49 : ikd Tryd.prog 49 = none := by kernel_rfl
@[simp] theorem isStr_49 : isStr Tryd.prog 49 = false := by kernel_rfl
@[simp] theorem isBool_49 : isBool Tryd.prog 49 = false := by kernel_rfl
@[simp] theorem und_49 : (Tryd.prog.underlying 49).isSome = true := by kernel_rfl
@[simp] theorem good_49 : good Tryd.prog 49 = true := by kernel_rfl
@[simp] theorem zrc_49 : zrc Tryd.prog 49 = some [.sc (.int .u8 0), .sc (.int .u8 0)] := by kernel_rfl
@[simp] theorem fld_49_0 : fld Tryd.prog 49 0 = some (0, 5) := by kernel_rfl
@[simp] theorem fld_49_1 : fld Tryd.prog 49 1 = some (1, 5) := by kernel_rfl
@[simp] theorem plc_49 : plc Tryd.prog 49 = some [(0, 1), (1, 1)] := by kernel_rfl
@[simp] theorem lks_49 : lks Tryd.prog 6 49 = some [.i, .i] := by kernel_rfl
@[simp] theorem egt_49 : Tryd.prog.eqGuardType Tryd.prog.depth 49 = false := by kernel_rfl
@[simp] theorem siz_50 : siz Tryd.prog 50 = 32 := by kernel_rfl
@[simp] theorem byt_50 : byt Tryd.prog 50 = 32 := by kernel_rfl
@[simp] theorem ags_50 : ags Tryd.prog 50 = true := by kernel_rfl
@[simp] theorem elm_50 : elm Tryd.prog 50 = none := by kernel_rfl
@[simp] theorem arr_50 : arr Tryd.prog 50 = some (16, 49) := by kernel_rfl
@[simp] theorem ikd_50 : ikd Tryd.prog 50 = none := by kernel_rfl
@[simp] theorem isStr_50 : isStr Tryd.prog 50 = false := by kernel_rfl
@[simp] theorem isBool_50 : isBool Tryd.prog 50 = false := by kernel_rfl
@[simp] theorem und_50 : (Tryd.prog.underlying 50).isSome = true := by kernel_rfl
@[simp] theorem good_50 : good Tryd.prog 50 = true := by kernel_rfl
@[simp] theorem zrc_50 : zrc Tryd.prog 50 = some [.sc (.int .u8 0), .sc (.int .u8 0), .sc (.int .u8 0), .sc (.int .u8 0), .sc (.int .u8 0), .sc (.int .u8 0), .sc (.int .u8 0), .sc (.int .u8 0), .sc (.int .u8 0), .sc (.int .u8 0), .sc (.int .u8 0), .sc (.int .u8 0), .sc (.int .u8 0), .sc (.int .u8 0), .sc (.int .u8 0), .sc (.int .u8 0), .sc (.int .u8 0), .sc (.int .u8 0), .sc (.int .u8 0), .sc (.int .u8 0), .sc (.int .u8 0), .sc (.int .u8 0), .sc (.int .u8 0), .sc (.int .u8 0), .sc (.int .u8 0), .sc (.int .u8 0), .sc (.int .u8 0), .sc (.int .u8 0), .sc (.int .u8 0), .sc (.int .u8 0), .sc (.int .u8 0), .sc (.int .u8 0)] := by kernel_rfl
@[simp] theorem lks_50 : lks Tryd.prog 6 50 = some [.i, .i, .i, .i, .i, .i, .i, .i, .i, .i, .i, .i, .i, .i, .i, .i, .i, .i, .i, .i, .i, .i, .i, .i, .i, .i, .i, .i, .i, .i, .i, .i] := by kernel_rfl
@[simp] theorem egt_50 : Tryd.prog.eqGuardType Tryd.prog.depth 50 = false := by kernel_rfl
@[simp] theorem plc_50 : plc Tryd.prog 50 = some [(0, 2), (2, 2), (4, 2), (6, 2), (8, 2), (10, 2), (12, 2), (14, 2), (16, 2), (18, 2), (20, 2), (22, 2), (24, 2), (26, 2), (28, 2), (30, 2)] := by kernel_rfl
@[simp] theorem siz_52 : siz Tryd.prog 52 = 4 := by kernel_rfl
@[simp] theorem byt_52 : byt Tryd.prog 52 = 40 := by kernel_rfl
@[simp] theorem ags_52 : ags Tryd.prog 52 = true := by kernel_rfl
@[simp] theorem elm_52 : elm Tryd.prog 52 = none := by kernel_rfl
@[simp] theorem arr_52 : arr Tryd.prog 52 = none := by kernel_rfl
@[simp] theorem ikd_52 : ikd Tryd.prog 52 = none := by kernel_rfl
@[simp] theorem isStr_52 : isStr Tryd.prog 52 = false := by kernel_rfl
@[simp] theorem isBool_52 : isBool Tryd.prog 52 = false := by kernel_rfl
@[simp] theorem und_52 : (Tryd.prog.underlying 52).isSome = true := by kernel_rfl
@[simp] theorem good_52 : good Tryd.prog 52 = true := by kernel_rfl
@[simp] theorem zrc_52 : zrc Tryd.prog 52 = some [.sc (.pointer none), .sc (.pointer none), .sc (.pointer none), .sc (.string ⟨#[]⟩)] := by kernel_rfl
@[simp] theorem fld_52_0 : fld Tryd.prog 52 0 = some (0, 17) := by kernel_rfl
@[simp] theorem fld_52_1 : fld Tryd.prog 52 1 = some (1, 17) := by kernel_rfl
@[simp] theorem fld_52_2 : fld Tryd.prog 52 2 = some (2, 17) := by kernel_rfl
@[simp] theorem fld_52_3 : fld Tryd.prog 52 3 = some (3, 9) := by kernel_rfl
@[simp] theorem plc_52 : plc Tryd.prog 52 = some [(0, 1), (1, 1), (2, 1), (3, 1)] := by kernel_rfl
@[simp] theorem siz_53 : siz Tryd.prog 53 = 4 := by kernel_rfl
@[simp] theorem byt_53 : byt Tryd.prog 53 = 40 := by kernel_rfl
@[simp] theorem ags_53 : ags Tryd.prog 53 = true := by kernel_rfl
@[simp] theorem elm_53 : elm Tryd.prog 53 = none := by kernel_rfl
@[simp] theorem arr_53 : arr Tryd.prog 53 = none := by kernel_rfl
@[simp] theorem ikd_53 : ikd Tryd.prog 53 = none := by kernel_rfl
@[simp] theorem isStr_53 : isStr Tryd.prog 53 = false := by kernel_rfl
@[simp] theorem isBool_53 : isBool Tryd.prog 53 = false := by kernel_rfl
@[simp] theorem und_53 : (Tryd.prog.underlying 53).isSome = true := by kernel_rfl
@[simp] theorem good_53 : good Tryd.prog 53 = true := by kernel_rfl
@[simp] theorem zrc_53 : zrc Tryd.prog 53 = some [.sc (.pointer none), .sc (.pointer none), .sc (.pointer none), .sc (.string ⟨#[]⟩)] := by kernel_rfl
@[simp] theorem fld_53_0 : fld Tryd.prog 53 0 = some (0, 17) := by kernel_rfl
@[simp] theorem fld_53_1 : fld Tryd.prog 53 1 = some (1, 17) := by kernel_rfl
@[simp] theorem fld_53_2 : fld Tryd.prog 53 2 = some (2, 17) := by kernel_rfl
@[simp] theorem fld_53_3 : fld Tryd.prog 53 3 = some (3, 9) := by kernel_rfl
@[simp] theorem plc_53 : plc Tryd.prog 53 = some [(0, 1), (1, 1), (2, 1), (3, 1)] := by kernel_rfl
@[simp] theorem siz_54 : siz Tryd.prog 54 = 0 := by kernel_rfl
@[simp] theorem byt_54 : byt Tryd.prog 54 = 0 := by kernel_rfl
@[simp] theorem ags_54 : ags Tryd.prog 54 = true := by kernel_rfl
@[simp] theorem elm_54 : elm Tryd.prog 54 = none := by kernel_rfl
@[simp] theorem arr_54 : arr Tryd.prog 54 = some (0, 16) := by kernel_rfl
@[simp] theorem ikd_54 : ikd Tryd.prog 54 = none := by kernel_rfl
@[simp] theorem isStr_54 : isStr Tryd.prog 54 = false := by kernel_rfl
@[simp] theorem isBool_54 : isBool Tryd.prog 54 = false := by kernel_rfl
@[simp] theorem und_54 : (Tryd.prog.underlying 54).isSome = true := by kernel_rfl
@[simp] theorem zrc_54 : zrc Tryd.prog 54 = some [] := by kernel_rfl
@[simp] theorem egt_54 : Tryd.prog.eqGuardType Tryd.prog.depth 54 = false := by kernel_rfl
@[simp] theorem plc_54 : plc Tryd.prog 54 = some [] := by kernel_rfl
@[simp] theorem siz_55 : siz Tryd.prog 55 = 0 := by kernel_rfl
@[simp] theorem byt_55 : byt Tryd.prog 55 = 0 := by kernel_rfl
@[simp] theorem ags_55 : ags Tryd.prog 55 = true := by kernel_rfl
@[simp] theorem elm_55 : elm Tryd.prog 55 = none := by kernel_rfl
@[simp] theorem arr_55 : arr Tryd.prog 55 = none := by kernel_rfl
@[simp] theorem ikd_55 : ikd Tryd.prog 55 = none := by kernel_rfl
@[simp] theorem isStr_55 : isStr Tryd.prog 55 = false := by kernel_rfl
@[simp] theorem isBool_55 : isBool Tryd.prog 55 = false := by kernel_rfl
@[simp] theorem und_55 : (Tryd.prog.underlying 55).isSome = true := by kernel_rfl
@[simp] theorem zrc_55 : zrc Tryd.prog 55 = some [] := by kernel_rfl
@[simp] theorem fld_55_0 : fld Tryd.prog 55 0 = some (0, 54) := by kernel_rfl
@[simp] theorem plc_55 : plc Tryd.prog 55 = some [(0, 0)] := by kernel_rfl
@[simp] theorem egt_55 : Tryd.prog.eqGuardType Tryd.prog.depth 55 = false := by kernel_rfl
@[simp] theorem siz_56 : siz Tryd.prog 56 = 0 := by kernel_rfl
@[simp] theorem byt_56 : byt Tryd.prog 56 = 0 := by kernel_rfl
@[simp] theorem ags_56 : ags Tryd.prog 56 = true := by kernel_rfl
@[simp] theorem elm_56 : elm Tryd.prog 56 = none := by kernel_rfl
@[simp] theorem arr_56 : arr Tryd.prog 56 = none := by kernel_rfl
@[simp] theorem ikd_56 : ikd Tryd.prog 56 = none := by kernel_rfl
@[simp] theorem isStr_56 : isStr Tryd.prog 56 = false := by kernel_rfl
@[simp] theorem isBool_56 : isBool Tryd.prog 56 = false := by kernel_rfl
@[simp] theorem und_56 : (Tryd.prog.underlying 56).isSome = true := by kernel_rfl
@[simp] theorem zrc_56 : zrc Tryd.prog 56 = some [] := by kernel_rfl
@[simp] theorem fld_56_0 : fld Tryd.prog 56 0 = some (0, 54) := by kernel_rfl
@[simp] theorem plc_56 : plc Tryd.prog 56 = some [(0, 0)] := by kernel_rfl
@[simp] theorem egt_56 : Tryd.prog.eqGuardType Tryd.prog.depth 56 = false := by kernel_rfl
@[simp] theorem siz_58 : siz Tryd.prog 58 = 1 := by kernel_rfl
@[simp] theorem byt_58 : byt Tryd.prog 58 = 4 := by kernel_rfl
@[simp] theorem ags_58 : ags Tryd.prog 58 = false := by kernel_rfl
@[simp] theorem elm_58 : elm Tryd.prog 58 = none := by kernel_rfl
@[simp] theorem arr_58 : arr Tryd.prog 58 = none := by kernel_rfl
@[simp] theorem ikd_58 : ikd Tryd.prog 58 = some .u32 := by kernel_rfl
@[simp] theorem isStr_58 : isStr Tryd.prog 58 = false := by kernel_rfl
@[simp] theorem isBool_58 : isBool Tryd.prog 58 = false := by kernel_rfl
@[simp] theorem und_58 : (Tryd.prog.underlying 58).isSome = true := by kernel_rfl
@[simp] theorem good_58 : good Tryd.prog 58 = true := by kernel_rfl
@[simp] theorem zrc_58 : zrc Tryd.prog 58 = some [.sc (.int .u32 0)] := by kernel_rfl
@[simp] theorem siz_59 : siz Tryd.prog 59 = 1 := by kernel_rfl
@[simp] theorem byt_59 : byt Tryd.prog 59 = 1 := by kernel_rfl
@[simp] theorem ags_59 : ags Tryd.prog 59 = false := by kernel_rfl
@[simp] theorem elm_59 : elm Tryd.prog 59 = none := by kernel_rfl
@[simp] theorem arr_59 : arr Tryd.prog 59 = none := by kernel_rfl
@[simp] theorem ikd_59 : ikd Tryd.prog 59 = some .u8 := by kernel_rfl
@[simp] theorem isStr_59 : isStr Tryd.prog 59 = false := by kernel_rfl
@[simp] theorem isBool_59 : isBool Tryd.prog 59 = false := by kernel_rfl
@[simp] theorem und_59 : (Tryd.prog.underlying 59).isSome = true := by kernel_rfl
@[simp] theorem good_59 : good Tryd.prog 59 = true := by kernel_rfl
@[simp] theorem zrc_59 : zrc Tryd.prog 59 = some [.sc (.int .u8 0)] := by kernel_rfl
@[simp] theorem siz_60 : siz Tryd.prog 60 = 1 := by kernel_rfl
@[simp] theorem byt_60 : byt Tryd.prog 60 = 1 := by kernel_rfl
@[simp] theorem ags_60 : ags Tryd.prog 60 = false := by kernel_rfl
@[simp] theorem elm_60 : elm Tryd.prog 60 = none := by kernel_rfl
@[simp] theorem arr_60 : arr Tryd.prog 60 = none := by kernel_rfl
@[simp] theorem ikd_60 : ikd Tryd.prog 60 = some .u8 := by kernel_rfl
@[simp] theorem isStr_60 : isStr Tryd.prog 60 = false := by kernel_rfl
@[simp] theorem isBool_60 : isBool Tryd.prog 60 = false := by kernel_rfl
@[simp] theorem und_60 : (Tryd.prog.underlying 60).isSome = true := by kernel_rfl
@[simp] theorem good_60 : good Tryd.prog 60 = true := by kernel_rfl
@[simp] theorem zrc_60 : zrc Tryd.prog 60 = some [.sc (.int .u8 0)] := by kernel_rfl
@[simp] theorem siz_62 : siz Tryd.prog 62 = 1 := by kernel_rfl
@[simp] theorem byt_62 : byt Tryd.prog 62 = 8 := by kernel_rfl
@[simp] theorem ags_62 : ags Tryd.prog 62 = false := by kernel_rfl
@[simp] theorem elm_62 : elm Tryd.prog 62 = none := by kernel_rfl
@[simp] theorem arr_62 : arr Tryd.prog 62 = none := by kernel_rfl
@[simp] theorem ikd_62 : ikd Tryd.prog 62 = none := by kernel_rfl
@[simp] theorem isStr_62 : isStr Tryd.prog 62 = false := by kernel_rfl
@[simp] theorem isBool_62 : isBool Tryd.prog 62 = false := by kernel_rfl
@[simp] theorem und_62 : (Tryd.prog.underlying 62).isSome = true := by kernel_rfl
@[simp] theorem good_62 : good Tryd.prog 62 = true := by kernel_rfl
@[simp] theorem zrc_62 : zrc Tryd.prog 62 = some [.sc (.pointer none)] := by kernel_rfl
@[simp] theorem siz_63 : siz Tryd.prog 63 = 1 := by kernel_rfl
@[simp] theorem byt_63 : byt Tryd.prog 63 = 4 := by kernel_rfl
@[simp] theorem ags_63 : ags Tryd.prog 63 = false := by kernel_rfl
@[simp] theorem elm_63 : elm Tryd.prog 63 = none := by kernel_rfl
@[simp] theorem arr_63 : arr Tryd.prog 63 = none := by kernel_rfl
@[simp] theorem ikd_63 : ikd Tryd.prog 63 = some .i32 := by kernel_rfl
@[simp] theorem isStr_63 : isStr Tryd.prog 63 = false := by kernel_rfl
@[simp] theorem isBool_63 : isBool Tryd.prog 63 = false := by kernel_rfl
@[simp] theorem und_63 : (Tryd.prog.underlying 63).isSome = true := by kernel_rfl
@[simp] theorem good_63 : good Tryd.prog 63 = true := by kernel_rfl
@[simp] theorem zrc_63 : zrc Tryd.prog 63 = some [.sc (.int .i32 0)] := by kernel_rfl
@[simp] theorem siz_64 : siz Tryd.prog 64 = 1 := by kernel_rfl
@[simp] theorem byt_64 : byt Tryd.prog 64 = 4 := by kernel_rfl
@[simp] theorem ags_64 : ags Tryd.prog 64 = false := by kernel_rfl
@[simp] theorem elm_64 : elm Tryd.prog 64 = none := by kernel_rfl
@[simp] theorem arr_64 : arr Tryd.prog 64 = none := by kernel_rfl
@[simp] theorem ikd_64 : ikd Tryd.prog 64 = some .i32 := by kernel_rfl
@[simp] theorem isStr_64 : isStr Tryd.prog 64 = false := by kernel_rfl
@[simp] theorem isBool_64 : isBool Tryd.prog 64 = false := by kernel_rfl
@[simp] theorem und_64 : (Tryd.prog.underlying 64).isSome = true := by kernel_rfl
@[simp] theorem good_64 : good Tryd.prog 64 = true := by kernel_rfl
@[simp] theorem zrc_64 : zrc Tryd.prog 64 = some [.sc (.int .i32 0)] := by kernel_rfl
@[simp] theorem siz_65 : siz Tryd.prog 65 = 11 := by kernel_rfl
@[simp] theorem byt_65 : byt Tryd.prog 65 = 48 := by kernel_rfl
@[simp] theorem ags_65 : ags Tryd.prog 65 = true := by kernel_rfl
@[simp] theorem elm_65 : elm Tryd.prog 65 = none := by kernel_rfl
@[simp] theorem arr_65 : arr Tryd.prog 65 = none := by kernel_rfl
@[simp] theorem ikd_65 : ikd Tryd.prog 65 = none := by kernel_rfl
@[simp] theorem isStr_65 : isStr Tryd.prog 65 = false := by kernel_rfl
@[simp] theorem isBool_65 : isBool Tryd.prog 65 = false := by kernel_rfl
@[simp] theorem und_65 : (Tryd.prog.underlying 65).isSome = true := by kernel_rfl
@[simp] theorem good_65 : good Tryd.prog 65 = true := by kernel_rfl
@[simp] theorem zrc_65 : zrc Tryd.prog 65 = some [.sc (.int .u64 0), .sc (.int .u64 0), .sc (.int .u32 0), .sc (.int .u8 0), .sc (.int .u8 0), .sc (.int .u8 0), .sc (.int .u8 0), .sc .nilFunc, .sc (.pointer none), .sc (.int .i32 0), .sc (.int .i32 0)] := by kernel_rfl
@[simp] theorem fld_65_0 : fld Tryd.prog 65 0 = some (0, 12) := by kernel_rfl
@[simp] theorem fld_65_1 : fld Tryd.prog 65 1 = some (1, 12) := by kernel_rfl
@[simp] theorem fld_65_2 : fld Tryd.prog 65 2 = some (2, 58) := by kernel_rfl
@[simp] theorem fld_65_3 : fld Tryd.prog 65 3 = some (3, 59) := by kernel_rfl
@[simp] theorem fld_65_4 : fld Tryd.prog 65 4 = some (4, 5) := by kernel_rfl
@[simp] theorem fld_65_5 : fld Tryd.prog 65 5 = some (5, 5) := by kernel_rfl
@[simp] theorem fld_65_6 : fld Tryd.prog 65 6 = some (6, 60) := by kernel_rfl
@[simp] theorem fld_65_7 : fld Tryd.prog 65 7 = some (7, 61) := by kernel_rfl
@[simp] theorem fld_65_8 : fld Tryd.prog 65 8 = some (8, 62) := by kernel_rfl
@[simp] theorem fld_65_9 : fld Tryd.prog 65 9 = some (9, 63) := by kernel_rfl
@[simp] theorem fld_65_10 : fld Tryd.prog 65 10 = some (10, 64) := by kernel_rfl
@[simp] theorem siz_66 : siz Tryd.prog 66 = 11 := by kernel_rfl
@[simp] theorem byt_66 : byt Tryd.prog 66 = 48 := by kernel_rfl
@[simp] theorem ags_66 : ags Tryd.prog 66 = true := by kernel_rfl
@[simp] theorem elm_66 : elm Tryd.prog 66 = none := by kernel_rfl
@[simp] theorem arr_66 : arr Tryd.prog 66 = none := by kernel_rfl
@[simp] theorem ikd_66 : ikd Tryd.prog 66 = none := by kernel_rfl
@[simp] theorem isStr_66 : isStr Tryd.prog 66 = false := by kernel_rfl
@[simp] theorem isBool_66 : isBool Tryd.prog 66 = false := by kernel_rfl
@[simp] theorem und_66 : (Tryd.prog.underlying 66).isSome = true := by kernel_rfl
@[simp] theorem good_66 : good Tryd.prog 66 = true := by kernel_rfl
@[simp] theorem zrc_66 : zrc Tryd.prog 66 = some [.sc (.int .u64 0), .sc (.int .u64 0), .sc (.int .u32 0), .sc (.int .u8 0), .sc (.int .u8 0), .sc (.int .u8 0), .sc (.int .u8 0), .sc .nilFunc, .sc (.pointer none), .sc (.int .i32 0), .sc (.int .i32 0)] := by kernel_rfl
@[simp] theorem fld_66_0 : fld Tryd.prog 66 0 = some (0, 12) := by kernel_rfl
@[simp] theorem fld_66_1 : fld Tryd.prog 66 1 = some (1, 12) := by kernel_rfl
@[simp] theorem fld_66_2 : fld Tryd.prog 66 2 = some (2, 58) := by kernel_rfl
@[simp] theorem fld_66_3 : fld Tryd.prog 66 3 = some (3, 59) := by kernel_rfl
@[simp] theorem fld_66_4 : fld Tryd.prog 66 4 = some (4, 5) := by kernel_rfl
@[simp] theorem fld_66_5 : fld Tryd.prog 66 5 = some (5, 5) := by kernel_rfl
@[simp] theorem fld_66_6 : fld Tryd.prog 66 6 = some (6, 60) := by kernel_rfl
@[simp] theorem fld_66_7 : fld Tryd.prog 66 7 = some (7, 61) := by kernel_rfl
@[simp] theorem fld_66_8 : fld Tryd.prog 66 8 = some (8, 62) := by kernel_rfl
@[simp] theorem fld_66_9 : fld Tryd.prog 66 9 = some (9, 63) := by kernel_rfl
@[simp] theorem fld_66_10 : fld Tryd.prog 66 10 = some (10, 64) := by kernel_rfl
@[simp] theorem follows_ok : Tryd.prog.follows .mixedOrders = true := by kernel_rfl
@[simp] theorem callable_3 : callable Tryd.prog 3 = true := by kernel_rfl
@[simp] theorem callable_4 : callable Tryd.prog 4 = true := by kernel_rfl
@[simp] theorem callable_5 : callable Tryd.prog 5 = true := by kernel_rfl
@[simp] theorem callable_6 : callable Tryd.prog 6 = true := by kernel_rfl
@[simp] theorem callable_7 : callable Tryd.prog 7 = true := by kernel_rfl
@[simp] theorem callable_8 : callable Tryd.prog 8 = true := by kernel_rfl
@[simp] theorem callable_9 : callable Tryd.prog 9 = true := by kernel_rfl
@[simp] theorem callable_10 : callable Tryd.prog 10 = true := by kernel_rfl
@[simp] theorem callable_11 : callable Tryd.prog 11 = true := by kernel_rfl
@[simp] theorem callable_12 : callable Tryd.prog 12 = true := by kernel_rfl
@[simp] theorem callable_13 : callable Tryd.prog 13 = true := by kernel_rfl
@[simp] theorem callable_14 : callable Tryd.prog 14 = true := by kernel_rfl
@[simp] theorem callable_15 : callable Tryd.prog 15 = true := by kernel_rfl
@[simp] theorem callable_16 : callable Tryd.prog 16 = true := by kernel_rfl
@[simp] theorem callable_17 : callable Tryd.prog 17 = true := by kernel_rfl
@[simp] theorem callable_18 : callable Tryd.prog 18 = true := by kernel_rfl
@[simp] theorem callable_19 : callable Tryd.prog 19 = true := by kernel_rfl
@[simp] theorem callable_20 : callable Tryd.prog 20 = true := by kernel_rfl
@[simp] theorem callable_21 : callable Tryd.prog 21 = true := by kernel_rfl
@[simp] theorem callable_22 : callable Tryd.prog 22 = true := by kernel_rfl
@[simp] theorem callable_23 : callable Tryd.prog 23 = true := by kernel_rfl
@[simp] theorem callable_24 : callable Tryd.prog 24 = true := by kernel_rfl
@[simp] theorem callable_25 : callable Tryd.prog 25 = true := by kernel_rfl
@[simp] theorem callable_26 : callable Tryd.prog 26 = true := by kernel_rfl
@[simp] theorem callable_27 : callable Tryd.prog 27 = true := by kernel_rfl
@[simp] theorem callable_28 : callable Tryd.prog 28 = true := by kernel_rfl
@[simp] theorem callable_29 : callable Tryd.prog 29 = true := by kernel_rfl

end Go.Proofs.YtdjjibmjinllnaaDoor.Tab
