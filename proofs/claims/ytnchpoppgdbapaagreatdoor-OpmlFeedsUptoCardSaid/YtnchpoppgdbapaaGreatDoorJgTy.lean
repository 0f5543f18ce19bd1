/- What the program's table says of its types: closed facts, by the kernel. Written by program (genfacts.py). -/
import Derived.Test.YtnchpoppgdbapaaGreatDoorJgB
import Derived.Test.YtnchpoppgdbapaaGreatDoorProg
import Derived.KernelRfl
set_option linter.unusedSimpArgs false
set_option linter.unusedVariables false
namespace Go.Av.Ty
open Go Go.Av Go.Proofs
@[go_sem] theorem szOf_0 : szOf Tryz.prog 0 = some 1 := by kernel_rfl
@[go_sem] theorem aggT_0 : aggT Tryz.prog 0 = some false := by kernel_rfl
@[go_sem] theorem byT_0 : byT Tryz.prog 0 = some 0 := by kernel_rfl
@[go_sem] theorem ifcT_0 : ifcT Tryz.prog 0 = some false := by kernel_rfl
@[go_sem] theorem strT_0 : strT Tryz.prog 0 = false := by kernel_rfl
@[go_sem] theorem nFld_0 : nFld Tryz.prog 0 = none := by kernel_rfl
@[go_sem] theorem szOf_1 : szOf Tryz.prog 1 = some 1 := by kernel_rfl
@[go_sem] theorem aggT_1 : aggT Tryz.prog 1 = some false := by kernel_rfl
@[go_sem] theorem byT_1 : byT Tryz.prog 1 = some 8 := by kernel_rfl
@[go_sem] theorem ifcT_1 : ifcT Tryz.prog 1 = some false := by kernel_rfl
@[go_sem] theorem strT_1 : strT Tryz.prog 1 = false := by kernel_rfl
@[go_sem] theorem nFld_1 : nFld Tryz.prog 1 = none := by kernel_rfl
@[go_sem] theorem zroT_1 : zroT Tryz.prog 1 = some (.nil .nilFunc) := by kernel_rfl
@[go_sem] theorem nk_1 : nilKind Tryz.prog 1 .nilFunc = true := by kernel_rfl
@[go_sem] theorem szOf_2 : szOf Tryz.prog 2 = some 1 := by kernel_rfl
@[go_sem] theorem aggT_2 : aggT Tryz.prog 2 = some false := by kernel_rfl
@[go_sem] theorem byT_2 : byT Tryz.prog 2 = some 8 := by kernel_rfl
@[go_sem] theorem intT_2 : intT Tryz.prog 2 = some .i64 := by kernel_rfl
@[go_sem] theorem ifcT_2 : ifcT Tryz.prog 2 = some false := by kernel_rfl
@[go_sem] theorem strT_2 : strT Tryz.prog 2 = false := by kernel_rfl
@[go_sem] theorem nFld_2 : nFld Tryz.prog 2 = none := by kernel_rfl
@[go_sem] theorem zroT_2 : zroT Tryz.prog 2 = some (.int .i64 0) := by kernel_rfl
@[go_sem] theorem und_2 : Program.underlying Tryz.prog 2 = some (.int .i64) := by kernel_rfl
@[go_sem] theorem szOf_3 : szOf Tryz.prog 3 = some 1 := by kernel_rfl
@[go_sem] theorem aggT_3 : aggT Tryz.prog 3 = some false := by kernel_rfl
@[go_sem] theorem byT_3 : byT Tryz.prog 3 = some 8 := by kernel_rfl
@[go_sem] theorem intT_3 : intT Tryz.prog 3 = some .i64 := by kernel_rfl
@[go_sem] theorem ifcT_3 : ifcT Tryz.prog 3 = some false := by kernel_rfl
@[go_sem] theorem strT_3 : strT Tryz.prog 3 = false := by kernel_rfl
@[go_sem] theorem nFld_3 : nFld Tryz.prog 3 = none := by kernel_rfl
@[go_sem] theorem zroT_3 : zroT Tryz.prog 3 = some (.int .i64 0) := by kernel_rfl
@[go_sem] theorem und_3 : Program.underlying Tryz.prog 3 = some (.int .i64) := by kernel_rfl
@[go_sem] theorem szOf_4 : szOf Tryz.prog 4 = some 1 := by kernel_rfl
@[go_sem] theorem aggT_4 : aggT Tryz.prog 4 = some false := by kernel_rfl
@[go_sem] theorem byT_4 : byT Tryz.prog 4 = some 1 := by kernel_rfl
@[go_sem] theorem ifcT_4 : ifcT Tryz.prog 4 = some false := by kernel_rfl
@[go_sem] theorem strT_4 : strT Tryz.prog 4 = false := by kernel_rfl
@[go_sem] theorem nFld_4 : nFld Tryz.prog 4 = none := by kernel_rfl
@[go_sem] theorem zroT_4 : zroT Tryz.prog 4 = some (.bool false) := by kernel_rfl
@[go_sem] theorem und_4 : Program.underlying Tryz.prog 4 = some .bool := by kernel_rfl
@[go_sem] theorem szOf_5 : szOf Tryz.prog 5 = some 1 := by kernel_rfl
@[go_sem] theorem aggT_5 : aggT Tryz.prog 5 = some false := by kernel_rfl
@[go_sem] theorem byT_5 : byT Tryz.prog 5 = some 1 := by kernel_rfl
@[go_sem] theorem intT_5 : intT Tryz.prog 5 = some .u8 := by kernel_rfl
@[go_sem] theorem ifcT_5 : ifcT Tryz.prog 5 = some false := by kernel_rfl
@[go_sem] theorem strT_5 : strT Tryz.prog 5 = false := by kernel_rfl
@[go_sem] theorem nFld_5 : nFld Tryz.prog 5 = none := by kernel_rfl
@[go_sem] theorem zroT_5 : zroT Tryz.prog 5 = some (.int .u8 0) := by kernel_rfl
@[go_sem] theorem und_5 : Program.underlying Tryz.prog 5 = some (.int .u8) := by kernel_rfl
@[go_sem] theorem szOf_6 : szOf Tryz.prog 6 = some 1 := by kernel_rfl
@[go_sem] theorem aggT_6 : aggT Tryz.prog 6 = some false := by kernel_rfl
@[go_sem] theorem byT_6 : byT Tryz.prog 6 = some 1 := by kernel_rfl
@[go_sem] theorem intT_6 : intT Tryz.prog 6 = some .u8 := by kernel_rfl
@[go_sem] theorem ifcT_6 : ifcT Tryz.prog 6 = some false := by kernel_rfl
@[go_sem] theorem strT_6 : strT Tryz.prog 6 = false := by kernel_rfl
@[go_sem] theorem nFld_6 : nFld Tryz.prog 6 = none := by kernel_rfl
@[go_sem] theorem zroT_6 : zroT Tryz.prog 6 = some (.int .u8 0) := by kernel_rfl
@[go_sem] theorem und_6 : Program.underlying Tryz.prog 6 = some (.int .u8) := by kernel_rfl
@[go_sem] theorem szOf_7 : szOf Tryz.prog 7 = some 4 := by kernel_rfl
@[go_sem] theorem aggT_7 : aggT Tryz.prog 7 = some true := by kernel_rfl
@[go_sem] theorem byT_7 : byT Tryz.prog 7 = some 24 := by kernel_rfl
@[go_sem] theorem ifcT_7 : ifcT Tryz.prog 7 = some false := by kernel_rfl
@[go_sem] theorem strT_7 : strT Tryz.prog 7 = false := by kernel_rfl
@[go_sem] theorem nFld_7 : nFld Tryz.prog 7 = some 4 := by kernel_rfl
@[go_sem] theorem fOff_7_0 : fOff Tryz.prog 7 0 = some (0, 2, 1) := by kernel_rfl
@[go_sem] theorem fOff_7_1 : fOff Tryz.prog 7 1 = some (1, 3, 1) := by kernel_rfl
@[go_sem] theorem fOff_7_2 : fOff Tryz.prog 7 2 = some (2, 4, 1) := by kernel_rfl
@[go_sem] theorem fOff_7_3 : fOff Tryz.prog 7 3 = some (3, 6, 1) := by kernel_rfl
@[go_sem] theorem plainT_7 : plainT Tryz.prog 7 = some [0, 0, 1, 0] := by kernel_rfl
@[go_sem] theorem zroT_7 : zroT Tryz.prog 7 = some (.agg [.int .i64 0, .int .i64 0, .bool false, .int .u8 0]) := by kernel_rfl
@[go_sem] theorem szOf_8 : szOf Tryz.prog 8 = some 4 := by kernel_rfl
@[go_sem] theorem aggT_8 : aggT Tryz.prog 8 = some true := by kernel_rfl
@[go_sem] theorem byT_8 : byT Tryz.prog 8 = some 24 := by kernel_rfl
@[go_sem] theorem ifcT_8 : ifcT Tryz.prog 8 = some false := by kernel_rfl
@[go_sem] theorem strT_8 : strT Tryz.prog 8 = false := by kernel_rfl
@[go_sem] theorem nFld_8 : nFld Tryz.prog 8 = some 4 := by kernel_rfl
@[go_sem] theorem fOff_8_0 : fOff Tryz.prog 8 0 = some (0, 2, 1) := by kernel_rfl
@[go_sem] theorem fOff_8_1 : fOff Tryz.prog 8 1 = some (1, 3, 1) := by kernel_rfl
@[go_sem] theorem fOff_8_2 : fOff Tryz.prog 8 2 = some (2, 4, 1) := by kernel_rfl
@[go_sem] theorem fOff_8_3 : fOff Tryz.prog 8 3 = some (3, 6, 1) := by kernel_rfl
@[go_sem] theorem plainT_8 : plainT Tryz.prog 8 = some [0, 0, 1, 0] := by kernel_rfl
@[go_sem] theorem zroT_8 : zroT Tryz.prog 8 = some (.agg [.int .i64 0, .int .i64 0, .bool false, .int .u8 0]) := by kernel_rfl
@[go_sem] theorem szOf_9 : szOf Tryz.prog 9 = some 1 := by kernel_rfl
@[go_sem] theorem aggT_9 : aggT Tryz.prog 9 = some false := by kernel_rfl
@[go_sem] theorem byT_9 : byT Tryz.prog 9 = some 16 := by kernel_rfl
@[go_sem] theorem ifcT_9 : ifcT Tryz.prog 9 = some false := by kernel_rfl
@[go_sem] theorem strT_9 : strT Tryz.prog 9 = true := by kernel_rfl
@[go_sem] theorem nFld_9 : nFld Tryz.prog 9 = none := by kernel_rfl
@[go_sem] theorem zroT_9 : zroT Tryz.prog 9 = some (.str []) := by kernel_rfl
@[go_sem] theorem und_9 : Program.underlying Tryz.prog 9 = some .string := by kernel_rfl
@[go_sem] theorem szOf_10 : szOf Tryz.prog 10 = some 1 := by kernel_rfl
@[go_sem] theorem aggT_10 : aggT Tryz.prog 10 = some false := by kernel_rfl
@[go_sem] theorem byT_10 : byT Tryz.prog 10 = some 16 := by kernel_rfl
@[go_sem] theorem ifcT_10 : ifcT Tryz.prog 10 = some false := by kernel_rfl
@[go_sem] theorem strT_10 : strT Tryz.prog 10 = true := by kernel_rfl
@[go_sem] theorem nFld_10 : nFld Tryz.prog 10 = none := by kernel_rfl
@[go_sem] theorem zroT_10 : zroT Tryz.prog 10 = some (.str []) := by kernel_rfl
@[go_sem] theorem und_10 : Program.underlying Tryz.prog 10 = some .string := by kernel_rfl
@[go_sem] theorem szOf_11 : szOf Tryz.prog 11 = some 1 := by kernel_rfl
@[go_sem] theorem aggT_11 : aggT Tryz.prog 11 = some false := by kernel_rfl
@[go_sem] theorem byT_11 : byT Tryz.prog 11 = some 16 := by kernel_rfl
@[go_sem] theorem ifcT_11 : ifcT Tryz.prog 11 = some false := by kernel_rfl
@[go_sem] theorem strT_11 : strT Tryz.prog 11 = true := by kernel_rfl
@[go_sem] theorem nFld_11 : nFld Tryz.prog 11 = none := by kernel_rfl
@[go_sem] theorem zroT_11 : zroT Tryz.prog 11 = some (.str []) := by kernel_rfl
@[go_sem] theorem und_11 : Program.underlying Tryz.prog 11 = some .string := by kernel_rfl
@[go_sem] theorem szOf_12 : szOf Tryz.prog 12 = some 1 := by kernel_rfl
@[go_sem] theorem aggT_12 : aggT Tryz.prog 12 = some false := by kernel_rfl
@[go_sem] theorem byT_12 : byT Tryz.prog 12 = some 8 := by kernel_rfl
@[go_sem] theorem intT_12 : intT Tryz.prog 12 = some .u64 := by kernel_rfl
@[go_sem] theorem ifcT_12 : ifcT Tryz.prog 12 = some false := by kernel_rfl
@[go_sem] theorem strT_12 : strT Tryz.prog 12 = false := by kernel_rfl
@[go_sem] theorem nFld_12 : nFld Tryz.prog 12 = none := by kernel_rfl
@[go_sem] theorem zroT_12 : zroT Tryz.prog 12 = some (.int .u64 0) := by kernel_rfl
@[go_sem] theorem und_12 : Program.underlying Tryz.prog 12 = some (.int .u64) := by kernel_rfl
@[go_sem] theorem szOf_13 : szOf Tryz.prog 13 = some 2 := by kernel_rfl
@[go_sem] theorem aggT_13 : aggT Tryz.prog 13 = some true := by kernel_rfl
@[go_sem] theorem byT_13 : byT Tryz.prog 13 = some 24 := by kernel_rfl
@[go_sem] theorem ifcT_13 : ifcT Tryz.prog 13 = some false := by kernel_rfl
@[go_sem] theorem strT_13 : strT Tryz.prog 13 = false := by kernel_rfl
@[go_sem] theorem nFld_13 : nFld Tryz.prog 13 = some 2 := by kernel_rfl
@[go_sem] theorem fOff_13_0 : fOff Tryz.prog 13 0 = some (0, 9, 1) := by kernel_rfl
@[go_sem] theorem fOff_13_1 : fOff Tryz.prog 13 1 = some (1, 12, 1) := by kernel_rfl
@[go_sem] theorem zroT_13 : zroT Tryz.prog 13 = some (.agg [.str [], .int .u64 0]) := by kernel_rfl
@[go_sem] theorem szOf_14 : szOf Tryz.prog 14 = some 2 := by kernel_rfl
@[go_sem] theorem aggT_14 : aggT Tryz.prog 14 = some true := by kernel_rfl
@[go_sem] theorem byT_14 : byT Tryz.prog 14 = some 24 := by kernel_rfl
@[go_sem] theorem ifcT_14 : ifcT Tryz.prog 14 = some false := by kernel_rfl
@[go_sem] theorem strT_14 : strT Tryz.prog 14 = false := by kernel_rfl
@[go_sem] theorem nFld_14 : nFld Tryz.prog 14 = some 2 := by kernel_rfl
@[go_sem] theorem fOff_14_0 : fOff Tryz.prog 14 0 = some (0, 9, 1) := by kernel_rfl
@[go_sem] theorem fOff_14_1 : fOff Tryz.prog 14 1 = some (1, 12, 1) := by kernel_rfl
@[go_sem] theorem zroT_14 : zroT Tryz.prog 14 = some (.agg [.str [], .int .u64 0]) := by kernel_rfl
@[go_sem] theorem szOf_15 : szOf Tryz.prog 15 = some 1 := by kernel_rfl
@[go_sem] theorem aggT_15 : aggT Tryz.prog 15 = some false := by kernel_rfl
@[go_sem] theorem byT_15 : byT Tryz.prog 15 = some 8 := by kernel_rfl
@[go_sem] theorem ifcT_15 : ifcT Tryz.prog 15 = some false := by kernel_rfl
@[go_sem] theorem strT_15 : strT Tryz.prog 15 = false := by kernel_rfl
@[go_sem] theorem nFld_15 : nFld Tryz.prog 15 = none := by kernel_rfl
@[go_sem] theorem zroT_15 : zroT Tryz.prog 15 = some (.nil (.pointer none)) := by kernel_rfl
@[go_sem] theorem nk_15 : nilKind Tryz.prog 15 (.pointer none) = true := by kernel_rfl
@[go_sem] theorem szOf_16 : szOf Tryz.prog 16 = some 1 := by kernel_rfl
@[go_sem] theorem aggT_16 : aggT Tryz.prog 16 = some false := by kernel_rfl
@[go_sem] theorem byT_16 : byT Tryz.prog 16 = some 8 := by kernel_rfl
@[go_sem] theorem ifcT_16 : ifcT Tryz.prog 16 = some false := by kernel_rfl
@[go_sem] theorem strT_16 : strT Tryz.prog 16 = false := by kernel_rfl
@[go_sem] theorem nFld_16 : nFld Tryz.prog 16 = none := by kernel_rfl
@[go_sem] theorem zroT_16 : zroT Tryz.prog 16 = some (.nil (.pointer none)) := by kernel_rfl
@[go_sem] theorem nk_16 : nilKind Tryz.prog 16 (.pointer none) = true := by kernel_rfl
@[go_sem] theorem szOf_17 : szOf Tryz.prog 17 = some 1 := by kernel_rfl
@[go_sem] theorem aggT_17 : aggT Tryz.prog 17 = some false := by kernel_rfl
@[go_sem] theorem byT_17 : byT Tryz.prog 17 = some 8 := by kernel_rfl
@[go_sem] theorem ifcT_17 : ifcT Tryz.prog 17 = some false := by kernel_rfl
@[go_sem] theorem strT_17 : strT Tryz.prog 17 = false := by kernel_rfl
@[go_sem] theorem nFld_17 : nFld Tryz.prog 17 = none := by kernel_rfl
@[go_sem] theorem zroT_17 : zroT Tryz.prog 17 = some (.nil (.pointer none)) := by kernel_rfl
@[go_sem] theorem nk_17 : nilKind Tryz.prog 17 (.pointer none) = true := by kernel_rfl
@[go_sem] theorem szOf_18 : szOf Tryz.prog 18 = some 1 := by kernel_rfl
@[go_sem] theorem aggT_18 : aggT Tryz.prog 18 = some true := by kernel_rfl
@[go_sem] theorem byT_18 : byT Tryz.prog 18 = some 8 := by kernel_rfl
@[go_sem] theorem ifcT_18 : ifcT Tryz.prog 18 = some false := by kernel_rfl
@[go_sem] theorem strT_18 : strT Tryz.prog 18 = false := by kernel_rfl
@[go_sem] theorem nFld_18 : nFld Tryz.prog 18 = some 1 := by kernel_rfl
@[go_sem] theorem fOff_18_0 : fOff Tryz.prog 18 0 = some (0, 17, 1) := by kernel_rfl
@[go_sem] theorem zroT_18 : zroT Tryz.prog 18 = some (.agg [.nil (.pointer none)]) := by kernel_rfl
@[go_sem] theorem szOf_19 : szOf Tryz.prog 19 = some 1 := by kernel_rfl
@[go_sem] theorem aggT_19 : aggT Tryz.prog 19 = some true := by kernel_rfl
@[go_sem] theorem byT_19 : byT Tryz.prog 19 = some 8 := by kernel_rfl
@[go_sem] theorem ifcT_19 : ifcT Tryz.prog 19 = some false := by kernel_rfl
@[go_sem] theorem strT_19 : strT Tryz.prog 19 = false := by kernel_rfl
@[go_sem] theorem nFld_19 : nFld Tryz.prog 19 = some 1 := by kernel_rfl
@[go_sem] theorem fOff_19_0 : fOff Tryz.prog 19 0 = some (0, 17, 1) := by kernel_rfl
@[go_sem] theorem zroT_19 : zroT Tryz.prog 19 = some (.agg [.nil (.pointer none)]) := by kernel_rfl
@[go_sem] theorem szOf_20 : szOf Tryz.prog 20 = some 1 := by kernel_rfl
@[go_sem] theorem aggT_20 : aggT Tryz.prog 20 = some false := by kernel_rfl
@[go_sem] theorem byT_20 : byT Tryz.prog 20 = some 16 := by kernel_rfl
@[go_sem] theorem ifcT_20 : ifcT Tryz.prog 20 = some true := by kernel_rfl
@[go_sem] theorem strT_20 : strT Tryz.prog 20 = false := by kernel_rfl
@[go_sem] theorem nFld_20 : nFld Tryz.prog 20 = none := by kernel_rfl
@[go_sem] theorem zroT_20 : zroT Tryz.prog 20 = some (.nil .nilIface) := by kernel_rfl
@[go_sem] theorem nk_20 : nilKind Tryz.prog 20 .nilIface = true := by kernel_rfl
@[go_sem] theorem szOf_21 : szOf Tryz.prog 21 = some 1 := by kernel_rfl
@[go_sem] theorem aggT_21 : aggT Tryz.prog 21 = some false := by kernel_rfl
@[go_sem] theorem byT_21 : byT Tryz.prog 21 = some 4 := by kernel_rfl
@[go_sem] theorem intT_21 : intT Tryz.prog 21 = some .i32 := by kernel_rfl
@[go_sem] theorem ifcT_21 : ifcT Tryz.prog 21 = some false := by kernel_rfl
@[go_sem] theorem strT_21 : strT Tryz.prog 21 = false := by kernel_rfl
@[go_sem] theorem nFld_21 : nFld Tryz.prog 21 = none := by kernel_rfl
@[go_sem] theorem zroT_21 : zroT Tryz.prog 21 = some (.int .i32 0) := by kernel_rfl
@[go_sem] theorem und_21 : Program.underlying Tryz.prog 21 = some (.int .i32) := by kernel_rfl
@[go_sem] theorem szOf_22 : szOf Tryz.prog 22 = some 1 := by kernel_rfl
@[go_sem] theorem aggT_22 : aggT Tryz.prog 22 = some false := by kernel_rfl
@[go_sem] theorem byT_22 : byT Tryz.prog 22 = some 8 := by kernel_rfl
@[go_sem] theorem ifcT_22 : ifcT Tryz.prog 22 = some false := by kernel_rfl
@[go_sem] theorem strT_22 : strT Tryz.prog 22 = false := by kernel_rfl
@[go_sem] theorem nFld_22 : nFld Tryz.prog 22 = none := by kernel_rfl
@[go_sem] theorem zroT_22 : zroT Tryz.prog 22 = some (.nil .nilFunc) := by kernel_rfl
@[go_sem] theorem nk_22 : nilKind Tryz.prog 22 .nilFunc = true := by kernel_rfl
@[go_sem] theorem szOf_23 : szOf Tryz.prog 23 = some 1 := by kernel_rfl
@[go_sem] theorem aggT_23 : aggT Tryz.prog 23 = some false := by kernel_rfl
@[go_sem] theorem byT_23 : byT Tryz.prog 23 = some 24 := by kernel_rfl
@[go_sem] theorem elmT_23 : elmT Tryz.prog 23 = some 67 := by kernel_rfl
@[go_sem] theorem ifcT_23 : ifcT Tryz.prog 23 = some false := by kernel_rfl
@[go_sem] theorem strT_23 : strT Tryz.prog 23 = false := by kernel_rfl
@[go_sem] theorem nFld_23 : nFld Tryz.prog 23 = none := by kernel_rfl
@[go_sem] theorem zroT_23 : zroT Tryz.prog 23 = some (.nil (.slice none 0 0)) := by kernel_rfl
@[go_sem] theorem nk_23 : nilKind Tryz.prog 23 (.slice none 0 0) = true := by kernel_rfl
@[go_sem] theorem szOf_24 : szOf Tryz.prog 24 = some 1 := by kernel_rfl
@[go_sem] theorem aggT_24 : aggT Tryz.prog 24 = some false := by kernel_rfl
@[go_sem] theorem byT_24 : byT Tryz.prog 24 = some 24 := by kernel_rfl
@[go_sem] theorem elmT_24 : elmT Tryz.prog 24 = some 26 := by kernel_rfl
@[go_sem] theorem ifcT_24 : ifcT Tryz.prog 24 = some false := by kernel_rfl
@[go_sem] theorem strT_24 : strT Tryz.prog 24 = false := by kernel_rfl
@[go_sem] theorem nFld_24 : nFld Tryz.prog 24 = none := by kernel_rfl
@[go_sem] theorem zroT_24 : zroT Tryz.prog 24 = some (.nil (.slice none 0 0)) := by kernel_rfl
@[go_sem] theorem nk_24 : nilKind Tryz.prog 24 (.slice none 0 0) = true := by kernel_rfl
@[go_sem] theorem szOf_25 : szOf Tryz.prog 25 = some 4 := by kernel_rfl
@[go_sem] theorem aggT_25 : aggT Tryz.prog 25 = some true := by kernel_rfl
@[go_sem] theorem byT_25 : byT Tryz.prog 25 = some 80 := by kernel_rfl
@[go_sem] theorem ifcT_25 : ifcT Tryz.prog 25 = some false := by kernel_rfl
@[go_sem] theorem strT_25 : strT Tryz.prog 25 = false := by kernel_rfl
@[go_sem] theorem nFld_25 : nFld Tryz.prog 25 = some 4 := by kernel_rfl
@[go_sem] theorem fOff_25_0 : fOff Tryz.prog 25 0 = some (0, 9, 1) := by kernel_rfl
@[go_sem] theorem fOff_25_1 : fOff Tryz.prog 25 1 = some (1, 23, 1) := by kernel_rfl
@[go_sem] theorem fOff_25_2 : fOff Tryz.prog 25 2 = some (2, 9, 1) := by kernel_rfl
@[go_sem] theorem fOff_25_3 : fOff Tryz.prog 25 3 = some (3, 24, 1) := by kernel_rfl
@[go_sem] theorem plainT_25 : plainT Tryz.prog 25 = some [2, 3, 2, 3] := by kernel_rfl
@[go_sem] theorem zroT_25 : zroT Tryz.prog 25 = some (.agg [.str [], .nil (.slice none 0 0), .str [], .nil (.slice none 0 0)]) := by kernel_rfl
@[go_sem] theorem szOf_26 : szOf Tryz.prog 26 = some 4 := by kernel_rfl
@[go_sem] theorem aggT_26 : aggT Tryz.prog 26 = some true := by kernel_rfl
@[go_sem] theorem byT_26 : byT Tryz.prog 26 = some 80 := by kernel_rfl
@[go_sem] theorem ifcT_26 : ifcT Tryz.prog 26 = some false := by kernel_rfl
@[go_sem] theorem strT_26 : strT Tryz.prog 26 = false := by kernel_rfl
@[go_sem] theorem nFld_26 : nFld Tryz.prog 26 = some 4 := by kernel_rfl
@[go_sem] theorem fOff_26_0 : fOff Tryz.prog 26 0 = some (0, 9, 1) := by kernel_rfl
@[go_sem] theorem fOff_26_1 : fOff Tryz.prog 26 1 = some (1, 23, 1) := by kernel_rfl
@[go_sem] theorem fOff_26_2 : fOff Tryz.prog 26 2 = some (2, 9, 1) := by kernel_rfl
@[go_sem] theorem fOff_26_3 : fOff Tryz.prog 26 3 = some (3, 24, 1) := by kernel_rfl
@[go_sem] theorem plainT_26 : plainT Tryz.prog 26 = some [2, 3, 2, 3] := by kernel_rfl
@[go_sem] theorem zroT_26 : zroT Tryz.prog 26 = some (.agg [.str [], .nil (.slice none 0 0), .str [], .nil (.slice none 0 0)]) := by kernel_rfl
@[go_sem] theorem szOf_27 : szOf Tryz.prog 27 = some 1 := by kernel_rfl
@[go_sem] theorem aggT_27 : aggT Tryz.prog 27 = some false := by kernel_rfl
@[go_sem] theorem byT_27 : byT Tryz.prog 27 = some 8 := by kernel_rfl
@[go_sem] theorem intT_27 : intT Tryz.prog 27 = some .i64 := by kernel_rfl
@[go_sem] theorem ifcT_27 : ifcT Tryz.prog 27 = some false := by kernel_rfl
@[go_sem] theorem strT_27 : strT Tryz.prog 27 = false := by kernel_rfl
@[go_sem] theorem nFld_27 : nFld Tryz.prog 27 = none := by kernel_rfl
@[go_sem] theorem zroT_27 : zroT Tryz.prog 27 = some (.int .i64 0) := by kernel_rfl
@[go_sem] theorem und_27 : Program.underlying Tryz.prog 27 = some (.int .i64) := by kernel_rfl
@[go_sem] theorem szOf_28 : szOf Tryz.prog 28 = some 1 := by kernel_rfl
@[go_sem] theorem aggT_28 : aggT Tryz.prog 28 = some false := by kernel_rfl
@[go_sem] theorem byT_28 : byT Tryz.prog 28 = some 0 := by kernel_rfl
@[go_sem] theorem ifcT_28 : ifcT Tryz.prog 28 = some false := by kernel_rfl
@[go_sem] theorem strT_28 : strT Tryz.prog 28 = false := by kernel_rfl
@[go_sem] theorem nFld_28 : nFld Tryz.prog 28 = none := by kernel_rfl
@[go_sem] theorem szOf_29 : szOf Tryz.prog 29 = some 1 := by kernel_rfl
@[go_sem] theorem aggT_29 : aggT Tryz.prog 29 = some false := by kernel_rfl
@[go_sem] theorem byT_29 : byT Tryz.prog 29 = some 8 := by kernel_rfl
@[go_sem] theorem ifcT_29 : ifcT Tryz.prog 29 = some false := by kernel_rfl
@[go_sem] theorem strT_29 : strT Tryz.prog 29 = false := by kernel_rfl
@[go_sem] theorem nFld_29 : nFld Tryz.prog 29 = none := by kernel_rfl
@[go_sem] theorem zroT_29 : zroT Tryz.prog 29 = some (.nil .nilFunc) := by kernel_rfl
@[go_sem] theorem nk_29 : nilKind Tryz.prog 29 .nilFunc = true := by kernel_rfl
@[go_sem] theorem szOf_30 : szOf Tryz.prog 30 = some 1 := by kernel_rfl
@[go_sem] theorem aggT_30 : aggT Tryz.prog 30 = some false := by kernel_rfl
@[go_sem] theorem byT_30 : byT Tryz.prog 30 = some 8 := by kernel_rfl
@[go_sem] theorem ifcT_30 : ifcT Tryz.prog 30 = some false := by kernel_rfl
@[go_sem] theorem strT_30 : strT Tryz.prog 30 = false := by kernel_rfl
@[go_sem] theorem nFld_30 : nFld Tryz.prog 30 = none := by kernel_rfl
@[go_sem] theorem zroT_30 : zroT Tryz.prog 30 = some (.nil .nilFunc) := by kernel_rfl
@[go_sem] theorem nk_30 : nilKind Tryz.prog 30 .nilFunc = true := by kernel_rfl
@[go_sem] theorem szOf_31 : szOf Tryz.prog 31 = some 1 := by kernel_rfl
@[go_sem] theorem aggT_31 : aggT Tryz.prog 31 = some false := by kernel_rfl
@[go_sem] theorem byT_31 : byT Tryz.prog 31 = some 8 := by kernel_rfl
@[go_sem] theorem ifcT_31 : ifcT Tryz.prog 31 = some false := by kernel_rfl
@[go_sem] theorem strT_31 : strT Tryz.prog 31 = false := by kernel_rfl
@[go_sem] theorem nFld_31 : nFld Tryz.prog 31 = none := by kernel_rfl
@[go_sem] theorem zroT_31 : zroT Tryz.prog 31 = some (.nil .nilFunc) := by kernel_rfl
@[go_sem] theorem nk_31 : nilKind Tryz.prog 31 .nilFunc = true := by kernel_rfl
@[go_sem] theorem szOf_32 : szOf Tryz.prog 32 = some 1 := by kernel_rfl
@[go_sem] theorem aggT_32 : aggT Tryz.prog 32 = some false := by kernel_rfl
@[go_sem] theorem byT_32 : byT Tryz.prog 32 = some 8 := by kernel_rfl
@[go_sem] theorem ifcT_32 : ifcT Tryz.prog 32 = some false := by kernel_rfl
@[go_sem] theorem strT_32 : strT Tryz.prog 32 = false := by kernel_rfl
@[go_sem] theorem nFld_32 : nFld Tryz.prog 32 = none := by kernel_rfl
@[go_sem] theorem zroT_32 : zroT Tryz.prog 32 = some (.nil .nilFunc) := by kernel_rfl
@[go_sem] theorem nk_32 : nilKind Tryz.prog 32 .nilFunc = true := by kernel_rfl
@[go_sem] theorem szOf_33 : szOf Tryz.prog 33 = some 1 := by kernel_rfl
@[go_sem] theorem aggT_33 : aggT Tryz.prog 33 = some false := by kernel_rfl
@[go_sem] theorem byT_33 : byT Tryz.prog 33 = some 0 := by kernel_rfl
@[go_sem] theorem ifcT_33 : ifcT Tryz.prog 33 = some false := by kernel_rfl
@[go_sem] theorem strT_33 : strT Tryz.prog 33 = false := by kernel_rfl
@[go_sem] theorem nFld_33 : nFld Tryz.prog 33 = none := by kernel_rfl
@[go_sem] theorem szOf_34 : szOf Tryz.prog 34 = some 1 := by kernel_rfl
@[go_sem] theorem aggT_34 : aggT Tryz.prog 34 = some false := by kernel_rfl
@[go_sem] theorem byT_34 : byT Tryz.prog 34 = some 8 := by kernel_rfl
@[go_sem] theorem ifcT_34 : ifcT Tryz.prog 34 = some false := by kernel_rfl
@[go_sem] theorem strT_34 : strT Tryz.prog 34 = false := by kernel_rfl
@[go_sem] theorem nFld_34 : nFld Tryz.prog 34 = none := by kernel_rfl
@[go_sem] theorem zroT_34 : zroT Tryz.prog 34 = some (.nil .nilFunc) := by kernel_rfl
@[go_sem] theorem nk_34 : nilKind Tryz.prog 34 .nilFunc = true := by kernel_rfl
@[go_sem] theorem szOf_35 : szOf Tryz.prog 35 = some 1 := by kernel_rfl
@[go_sem] theorem aggT_35 : aggT Tryz.prog 35 = some false := by kernel_rfl
@[go_sem] theorem byT_35 : byT Tryz.prog 35 = some 0 := by kernel_rfl
@[go_sem] theorem ifcT_35 : ifcT Tryz.prog 35 = some false := by kernel_rfl
@[go_sem] theorem strT_35 : strT Tryz.prog 35 = false := by kernel_rfl
@[go_sem] theorem nFld_35 : nFld Tryz.prog 35 = none := by kernel_rfl
@[go_sem] theorem szOf_36 : szOf Tryz.prog 36 = some 1 := by kernel_rfl
@[go_sem] theorem aggT_36 : aggT Tryz.prog 36 = some false := by kernel_rfl
@[go_sem] theorem byT_36 : byT Tryz.prog 36 = some 8 := by kernel_rfl
@[go_sem] theorem ifcT_36 : ifcT Tryz.prog 36 = some false := by kernel_rfl
@[go_sem] theorem strT_36 : strT Tryz.prog 36 = false := by kernel_rfl
@[go_sem] theorem nFld_36 : nFld Tryz.prog 36 = none := by kernel_rfl
@[go_sem] theorem zroT_36 : zroT Tryz.prog 36 = some (.nil .nilFunc) := by kernel_rfl
@[go_sem] theorem nk_36 : nilKind Tryz.prog 36 .nilFunc = true := by kernel_rfl
@[go_sem] theorem szOf_37 : szOf Tryz.prog 37 = some 1 := by kernel_rfl
@[go_sem] theorem aggT_37 : aggT Tryz.prog 37 = some false := by kernel_rfl
@[go_sem] theorem byT_37 : byT Tryz.prog 37 = some 8 := by kernel_rfl
@[go_sem] theorem ifcT_37 : ifcT Tryz.prog 37 = some false := by kernel_rfl
@[go_sem] theorem strT_37 : strT Tryz.prog 37 = false := by kernel_rfl
@[go_sem] theorem nFld_37 : nFld Tryz.prog 37 = none := by kernel_rfl
@[go_sem] theorem zroT_37 : zroT Tryz.prog 37 = some (.nil .nilFunc) := by kernel_rfl
@[go_sem] theorem nk_37 : nilKind Tryz.prog 37 .nilFunc = true := by kernel_rfl
@[go_sem] theorem szOf_38 : szOf Tryz.prog 38 = some 1 := by kernel_rfl
@[go_sem] theorem aggT_38 : aggT Tryz.prog 38 = some false := by kernel_rfl
@[go_sem] theorem byT_38 : byT Tryz.prog 38 = some 8 := by kernel_rfl
@[go_sem] theorem ifcT_38 : ifcT Tryz.prog 38 = some false := by kernel_rfl
@[go_sem] theorem strT_38 : strT Tryz.prog 38 = false := by kernel_rfl
@[go_sem] theorem nFld_38 : nFld Tryz.prog 38 = none := by kernel_rfl
@[go_sem] theorem zroT_38 : zroT Tryz.prog 38 = some (.nil .nilFunc) := by kernel_rfl
@[go_sem] theorem nk_38 : nilKind Tryz.prog 38 .nilFunc = true := by kernel_rfl
@[go_sem] theorem szOf_39 : szOf Tryz.prog 39 = some 1 := by kernel_rfl
@[go_sem] theorem aggT_39 : aggT Tryz.prog 39 = some false := by kernel_rfl
@[go_sem] theorem byT_39 : byT Tryz.prog 39 = some 8 := by kernel_rfl
@[go_sem] theorem ifcT_39 : ifcT Tryz.prog 39 = some false := by kernel_rfl
@[go_sem] theorem strT_39 : strT Tryz.prog 39 = false := by kernel_rfl
@[go_sem] theorem nFld_39 : nFld Tryz.prog 39 = none := by kernel_rfl
@[go_sem] theorem zroT_39 : zroT Tryz.prog 39 = some (.nil .nilFunc) := by kernel_rfl
@[go_sem] theorem nk_39 : nilKind Tryz.prog 39 .nilFunc = true := by kernel_rfl
@[go_sem] theorem szOf_40 : szOf Tryz.prog 40 = some 1 := by kernel_rfl
@[go_sem] theorem aggT_40 : aggT Tryz.prog 40 = some false := by kernel_rfl
@[go_sem] theorem byT_40 : byT Tryz.prog 40 = some 8 := by kernel_rfl
@[go_sem] theorem ifcT_40 : ifcT Tryz.prog 40 = some false := by kernel_rfl
@[go_sem] theorem strT_40 : strT Tryz.prog 40 = false := by kernel_rfl
@[go_sem] theorem nFld_40 : nFld Tryz.prog 40 = none := by kernel_rfl
@[go_sem] theorem zroT_40 : zroT Tryz.prog 40 = some (.nil .nilFunc) := by kernel_rfl
@[go_sem] theorem nk_40 : nilKind Tryz.prog 40 .nilFunc = true := by kernel_rfl
@[go_sem] theorem szOf_41 : szOf Tryz.prog 41 = some 1 := by kernel_rfl
@[go_sem] theorem aggT_41 : aggT Tryz.prog 41 = some false := by kernel_rfl
@[go_sem] theorem byT_41 : byT Tryz.prog 41 = some 8 := by kernel_rfl
@[go_sem] theorem ifcT_41 : ifcT Tryz.prog 41 = some false := by kernel_rfl
@[go_sem] theorem strT_41 : strT Tryz.prog 41 = false := by kernel_rfl
@[go_sem] theorem nFld_41 : nFld Tryz.prog 41 = none := by kernel_rfl
@[go_sem] theorem zroT_41 : zroT Tryz.prog 41 = some (.nil .nilFunc) := by kernel_rfl
@[go_sem] theorem nk_41 : nilKind Tryz.prog 41 .nilFunc = true := by kernel_rfl
@[go_sem] theorem szOf_42 : szOf Tryz.prog 42 = some 1 := by kernel_rfl
@[go_sem] theorem aggT_42 : aggT Tryz.prog 42 = some false := by kernel_rfl
@[go_sem] theorem byT_42 : byT Tryz.prog 42 = some 24 := by kernel_rfl
@[go_sem] theorem elmT_42 : elmT Tryz.prog 42 = some 83 := by kernel_rfl
@[go_sem] theorem ifcT_42 : ifcT Tryz.prog 42 = some false := by kernel_rfl
@[go_sem] theorem strT_42 : strT Tryz.prog 42 = false := by kernel_rfl
@[go_sem] theorem nFld_42 : nFld Tryz.prog 42 = none := by kernel_rfl
@[go_sem] theorem zroT_42 : zroT Tryz.prog 42 = some (.nil (.slice none 0 0)) := by kernel_rfl
@[go_sem] theorem nk_42 : nilKind Tryz.prog 42 (.slice none 0 0) = true := by kernel_rfl
@[go_sem] theorem szOf_43 : szOf Tryz.prog 43 = some 1 := by kernel_rfl
@[go_sem] theorem aggT_43 : aggT Tryz.prog 43 = some false := by kernel_rfl
@[go_sem] theorem byT_43 : byT Tryz.prog 43 = some 8 := by kernel_rfl
@[go_sem] theorem ifcT_43 : ifcT Tryz.prog 43 = some false := by kernel_rfl
@[go_sem] theorem strT_43 : strT Tryz.prog 43 = false := by kernel_rfl
@[go_sem] theorem nFld_43 : nFld Tryz.prog 43 = none := by kernel_rfl
@[go_sem] theorem zroT_43 : zroT Tryz.prog 43 = some (.nil .nilFunc) := by kernel_rfl
@[go_sem] theorem nk_43 : nilKind Tryz.prog 43 .nilFunc = true := by kernel_rfl
@[go_sem] theorem szOf_44 : szOf Tryz.prog 44 = some 1 := by kernel_rfl
@[go_sem] theorem aggT_44 : aggT Tryz.prog 44 = some false := by kernel_rfl
@[go_sem] theorem byT_44 : byT Tryz.prog 44 = some 8 := by kernel_rfl
@[go_sem] theorem ifcT_44 : ifcT Tryz.prog 44 = some false := by kernel_rfl
@[go_sem] theorem strT_44 : strT Tryz.prog 44 = false := by kernel_rfl
@[go_sem] theorem nFld_44 : nFld Tryz.prog 44 = none := by kernel_rfl
@[go_sem] theorem zroT_44 : zroT Tryz.prog 44 = some (.nil .nilFunc) := by kernel_rfl
@[go_sem] theorem nk_44 : nilKind Tryz.prog 44 .nilFunc = true := by kernel_rfl
@[go_sem] theorem szOf_45 : szOf Tryz.prog 45 = some 1 := by kernel_rfl
@[go_sem] theorem aggT_45 : aggT Tryz.prog 45 = some false := by kernel_rfl
@[go_sem] theorem byT_45 : byT Tryz.prog 45 = some 8 := by kernel_rfl
@[go_sem] theorem ifcT_45 : ifcT Tryz.prog 45 = some false := by kernel_rfl
@[go_sem] theorem strT_45 : strT Tryz.prog 45 = false := by kernel_rfl
@[go_sem] theorem nFld_45 : nFld Tryz.prog 45 = none := by kernel_rfl
@[go_sem] theorem zroT_45 : zroT Tryz.prog 45 = some (.nil .nilFunc) := by kernel_rfl
@[go_sem] theorem nk_45 : nilKind Tryz.prog 45 .nilFunc = true := by kernel_rfl
@[go_sem] theorem szOf_46 : szOf Tryz.prog 46 = some 1 := by kernel_rfl
@[go_sem] theorem aggT_46 : aggT Tryz.prog 46 = some false := by kernel_rfl
@[go_sem] theorem byT_46 : byT Tryz.prog 46 = some 8 := by kernel_rfl
@[go_sem] theorem ifcT_46 : ifcT Tryz.prog 46 = some false := by kernel_rfl
@[go_sem] theorem strT_46 : strT Tryz.prog 46 = false := by kernel_rfl
@[go_sem] theorem nFld_46 : nFld Tryz.prog 46 = none := by kernel_rfl
@[go_sem] theorem zroT_46 : zroT Tryz.prog 46 = some (.nil .nilFunc) := by kernel_rfl
@[go_sem] theorem nk_46 : nilKind Tryz.prog 46 .nilFunc = true := by kernel_rfl
@[go_sem] theorem szOf_47 : szOf Tryz.prog 47 = some 1 := by kernel_rfl
@[go_sem] theorem aggT_47 : aggT Tryz.prog 47 = some false := by kernel_rfl
@[go_sem] theorem byT_47 : byT Tryz.prog 47 = some 24 := by kernel_rfl
@[go_sem] theorem elmT_47 : elmT Tryz.prog 47 = some 58 := by kernel_rfl
@[go_sem] theorem ifcT_47 : ifcT Tryz.prog 47 = some false := by kernel_rfl
@[go_sem] theorem strT_47 : strT Tryz.prog 47 = false := by kernel_rfl
@[go_sem] theorem nFld_47 : nFld Tryz.prog 47 = none := by kernel_rfl
@[go_sem] theorem zroT_47 : zroT Tryz.prog 47 = some (.nil (.slice none 0 0)) := by kernel_rfl
@[go_sem] theorem nk_47 : nilKind Tryz.prog 47 (.slice none 0 0) = true := by kernel_rfl
@[go_sem] theorem szOf_48 : szOf Tryz.prog 48 = some 1 := by kernel_rfl
@[go_sem] theorem aggT_48 : aggT Tryz.prog 48 = some false := by kernel_rfl
@[go_sem] theorem byT_48 : byT Tryz.prog 48 = some 0 := by kernel_rfl
@[go_sem] theorem ifcT_48 : ifcT Tryz.prog 48 = some false := by kernel_rfl
@[go_sem] theorem strT_48 : strT Tryz.prog 48 = false := by kernel_rfl
@[go_sem] theorem nFld_48 : nFld Tryz.prog 48 = none := by kernel_rfl
@[go_sem] theorem szOf_49 : szOf Tryz.prog 49 = some 1 := by kernel_rfl
@[go_sem] theorem aggT_49 : aggT Tryz.prog 49 = some false := by kernel_rfl
@[go_sem] theorem byT_49 : byT Tryz.prog 49 = some 8 := by kernel_rfl
@[go_sem] theorem ifcT_49 : ifcT Tryz.prog 49 = some false := by kernel_rfl
@[go_sem] theorem strT_49 : strT Tryz.prog 49 = false := by kernel_rfl
@[go_sem] theorem nFld_49 : nFld Tryz.prog 49 = none := by kernel_rfl
@[go_sem] theorem zroT_49 : zroT Tryz.prog 49 = some (.nil .nilFunc) := by kernel_rfl
@[go_sem] theorem nk_49 : nilKind Tryz.prog 49 .nilFunc = true := by kernel_rfl
@[go_sem] theorem szOf_50 : szOf Tryz.prog 50 = some 1 := by kernel_rfl
@[go_sem] theorem aggT_50 : aggT Tryz.prog 50 = some false := by kernel_rfl
@[go_sem] theorem byT_50 : byT Tryz.prog 50 = some 8 := by kernel_rfl
@[go_sem] theorem ifcT_50 : ifcT Tryz.prog 50 = some false := by kernel_rfl
@[go_sem] theorem strT_50 : strT Tryz.prog 50 = false := by kernel_rfl
@[go_sem] theorem nFld_50 : nFld Tryz.prog 50 = none := by kernel_rfl
@[go_sem] theorem zroT_50 : zroT Tryz.prog 50 = some (.nil .nilFunc) := by kernel_rfl
@[go_sem] theorem nk_50 : nilKind Tryz.prog 50 .nilFunc = true := by kernel_rfl
@[go_sem] theorem szOf_51 : szOf Tryz.prog 51 = some 1 := by kernel_rfl
@[go_sem] theorem aggT_51 : aggT Tryz.prog 51 = some false := by kernel_rfl
@[go_sem] theorem byT_51 : byT Tryz.prog 51 = some 8 := by kernel_rfl
@[go_sem] theorem ifcT_51 : ifcT Tryz.prog 51 = some false := by kernel_rfl
@[go_sem] theorem strT_51 : strT Tryz.prog 51 = false := by kernel_rfl
@[go_sem] theorem nFld_51 : nFld Tryz.prog 51 = none := by kernel_rfl
@[go_sem] theorem zroT_51 : zroT Tryz.prog 51 = some (.nil .nilFunc) := by kernel_rfl
@[go_sem] theorem nk_51 : nilKind Tryz.prog 51 .nilFunc = true := by kernel_rfl
@[go_sem] theorem szOf_52 : szOf Tryz.prog 52 = some 1 := by kernel_rfl
@[go_sem] theorem aggT_52 : aggT Tryz.prog 52 = some false := by kernel_rfl
@[go_sem] theorem byT_52 : byT Tryz.prog 52 = some 8 := by kernel_rfl
@[go_sem] theorem ifcT_52 : ifcT Tryz.prog 52 = some false := by kernel_rfl
@[go_sem] theorem strT_52 : strT Tryz.prog 52 = false := by kernel_rfl
@[go_sem] theorem nFld_52 : nFld Tryz.prog 52 = none := by kernel_rfl
@[go_sem] theorem zroT_52 : zroT Tryz.prog 52 = some (.nil .nilFunc) := by kernel_rfl
@[go_sem] theorem nk_52 : nilKind Tryz.prog 52 .nilFunc = true := by kernel_rfl
@[go_sem] theorem szOf_53 : szOf Tryz.prog 53 = some 1 := by kernel_rfl
@[go_sem] theorem aggT_53 : aggT Tryz.prog 53 = some false := by kernel_rfl
@[go_sem] theorem byT_53 : byT Tryz.prog 53 = some 0 := by kernel_rfl
@[go_sem] theorem ifcT_53 : ifcT Tryz.prog 53 = some false := by kernel_rfl
@[go_sem] theorem strT_53 : strT Tryz.prog 53 = false := by kernel_rfl
@[go_sem] theorem nFld_53 : nFld Tryz.prog 53 = none := by kernel_rfl
@[go_sem] theorem szOf_54 : szOf Tryz.prog 54 = some 1 := by kernel_rfl
@[go_sem] theorem aggT_54 : aggT Tryz.prog 54 = some false := by kernel_rfl
@[go_sem] theorem byT_54 : byT Tryz.prog 54 = some 8 := by kernel_rfl
@[go_sem] theorem ifcT_54 : ifcT Tryz.prog 54 = some false := by kernel_rfl
@[go_sem] theorem strT_54 : strT Tryz.prog 54 = false := by kernel_rfl
@[go_sem] theorem nFld_54 : nFld Tryz.prog 54 = none := by kernel_rfl
@[go_sem] theorem zroT_54 : zroT Tryz.prog 54 = some (.nil .nilFunc) := by kernel_rfl
@[go_sem] theorem nk_54 : nilKind Tryz.prog 54 .nilFunc = true := by kernel_rfl
@[go_sem] theorem szOf_55 : szOf Tryz.prog 55 = some 1 := by kernel_rfl
@[go_sem] theorem aggT_55 : aggT Tryz.prog 55 = some false := by kernel_rfl
@[go_sem] theorem byT_55 : byT Tryz.prog 55 = some 8 := by kernel_rfl
@[go_sem] theorem ifcT_55 : ifcT Tryz.prog 55 = some false := by kernel_rfl
@[go_sem] theorem strT_55 : strT Tryz.prog 55 = false := by kernel_rfl
@[go_sem] theorem nFld_55 : nFld Tryz.prog 55 = none := by kernel_rfl
@[go_sem] theorem zroT_55 : zroT Tryz.prog 55 = some (.nil .nilFunc) := by kernel_rfl
@[go_sem] theorem nk_55 : nilKind Tryz.prog 55 .nilFunc = true := by kernel_rfl
@[go_sem] theorem szOf_56 : szOf Tryz.prog 56 = some 1 := by kernel_rfl
@[go_sem] theorem aggT_56 : aggT Tryz.prog 56 = some false := by kernel_rfl
@[go_sem] theorem byT_56 : byT Tryz.prog 56 = some 8 := by kernel_rfl
@[go_sem] theorem ifcT_56 : ifcT Tryz.prog 56 = some false := by kernel_rfl
@[go_sem] theorem strT_56 : strT Tryz.prog 56 = false := by kernel_rfl
@[go_sem] theorem nFld_56 : nFld Tryz.prog 56 = none := by kernel_rfl
@[go_sem] theorem zroT_56 : zroT Tryz.prog 56 = some (.nil .nilFunc) := by kernel_rfl
@[go_sem] theorem nk_56 : nilKind Tryz.prog 56 .nilFunc = true := by kernel_rfl
@[go_sem] theorem szOf_57 : szOf Tryz.prog 57 = some 3 := by kernel_rfl
@[go_sem] theorem aggT_57 : aggT Tryz.prog 57 = some true := by kernel_rfl
@[go_sem] theorem byT_57 : byT Tryz.prog 57 = some 56 := by kernel_rfl
@[go_sem] theorem ifcT_57 : ifcT Tryz.prog 57 = some false := by kernel_rfl
@[go_sem] theorem strT_57 : strT Tryz.prog 57 = false := by kernel_rfl
@[go_sem] theorem nFld_57 : nFld Tryz.prog 57 = some 3 := by kernel_rfl
@[go_sem] theorem fOff_57_0 : fOff Tryz.prog 57 0 = some (0, 9, 1) := by kernel_rfl
@[go_sem] theorem fOff_57_1 : fOff Tryz.prog 57 1 = some (1, 9, 1) := by kernel_rfl
@[go_sem] theorem fOff_57_2 : fOff Tryz.prog 57 2 = some (2, 47, 1) := by kernel_rfl
@[go_sem] theorem plainT_57 : plainT Tryz.prog 57 = some [2, 2, 3] := by kernel_rfl
@[go_sem] theorem zroT_57 : zroT Tryz.prog 57 = some (.agg [.str [], .str [], .nil (.slice none 0 0)]) := by kernel_rfl
@[go_sem] theorem szOf_58 : szOf Tryz.prog 58 = some 3 := by kernel_rfl
@[go_sem] theorem aggT_58 : aggT Tryz.prog 58 = some true := by kernel_rfl
@[go_sem] theorem byT_58 : byT Tryz.prog 58 = some 56 := by kernel_rfl
@[go_sem] theorem ifcT_58 : ifcT Tryz.prog 58 = some false := by kernel_rfl
@[go_sem] theorem strT_58 : strT Tryz.prog 58 = false := by kernel_rfl
@[go_sem] theorem nFld_58 : nFld Tryz.prog 58 = some 3 := by kernel_rfl
@[go_sem] theorem fOff_58_0 : fOff Tryz.prog 58 0 = some (0, 9, 1) := by kernel_rfl
@[go_sem] theorem fOff_58_1 : fOff Tryz.prog 58 1 = some (1, 9, 1) := by kernel_rfl
@[go_sem] theorem fOff_58_2 : fOff Tryz.prog 58 2 = some (2, 47, 1) := by kernel_rfl
@[go_sem] theorem plainT_58 : plainT Tryz.prog 58 = some [2, 2, 3] := by kernel_rfl
@[go_sem] theorem zroT_58 : zroT Tryz.prog 58 = some (.agg [.str [], .str [], .nil (.slice none 0 0)]) := by kernel_rfl
@[go_sem] theorem szOf_59 : szOf Tryz.prog 59 = some 1 := by kernel_rfl
@[go_sem] theorem aggT_59 : aggT Tryz.prog 59 = some false := by kernel_rfl
@[go_sem] theorem byT_59 : byT Tryz.prog 59 = some 0 := by kernel_rfl
@[go_sem] theorem ifcT_59 : ifcT Tryz.prog 59 = some false := by kernel_rfl
@[go_sem] theorem strT_59 : strT Tryz.prog 59 = false := by kernel_rfl
@[go_sem] theorem nFld_59 : nFld Tryz.prog 59 = none := by kernel_rfl
@[go_sem] theorem szOf_60 : szOf Tryz.prog 60 = some 1 := by kernel_rfl
@[go_sem] theorem aggT_60 : aggT Tryz.prog 60 = some false := by kernel_rfl
@[go_sem] theorem byT_60 : byT Tryz.prog 60 = some 8 := by kernel_rfl
@[go_sem] theorem ifcT_60 : ifcT Tryz.prog 60 = some false := by kernel_rfl
@[go_sem] theorem strT_60 : strT Tryz.prog 60 = false := by kernel_rfl
@[go_sem] theorem nFld_60 : nFld Tryz.prog 60 = none := by kernel_rfl
@[go_sem] theorem zroT_60 : zroT Tryz.prog 60 = some (.nil .nilFunc) := by kernel_rfl
@[go_sem] theorem nk_60 : nilKind Tryz.prog 60 .nilFunc = true := by kernel_rfl
@[go_sem] theorem szOf_61 : szOf Tryz.prog 61 = some 1 := by kernel_rfl
@[go_sem] theorem aggT_61 : aggT Tryz.prog 61 = some false := by kernel_rfl
@[go_sem] theorem byT_61 : byT Tryz.prog 61 = some 8 := by kernel_rfl
@[go_sem] theorem ifcT_61 : ifcT Tryz.prog 61 = some false := by kernel_rfl
@[go_sem] theorem strT_61 : strT Tryz.prog 61 = false := by kernel_rfl
@[go_sem] theorem nFld_61 : nFld Tryz.prog 61 = none := by kernel_rfl
@[go_sem] theorem zroT_61 : zroT Tryz.prog 61 = some (.nil .nilFunc) := by kernel_rfl
@[go_sem] theorem nk_61 : nilKind Tryz.prog 61 .nilFunc = true := by kernel_rfl
@[go_sem] theorem szOf_62 : szOf Tryz.prog 62 = some 1 := by kernel_rfl
@[go_sem] theorem aggT_62 : aggT Tryz.prog 62 = some false := by kernel_rfl
@[go_sem] theorem byT_62 : byT Tryz.prog 62 = some 8 := by kernel_rfl
@[go_sem] theorem ifcT_62 : ifcT Tryz.prog 62 = some false := by kernel_rfl
@[go_sem] theorem strT_62 : strT Tryz.prog 62 = false := by kernel_rfl
@[go_sem] theorem nFld_62 : nFld Tryz.prog 62 = none := by kernel_rfl
@[go_sem] theorem zroT_62 : zroT Tryz.prog 62 = some (.nil .nilFunc) := by kernel_rfl
@[go_sem] theorem nk_62 : nilKind Tryz.prog 62 .nilFunc = true := by kernel_rfl
@[go_sem] theorem szOf_63 : szOf Tryz.prog 63 = some 1 := by kernel_rfl
@[go_sem] theorem aggT_63 : aggT Tryz.prog 63 = some false := by kernel_rfl
@[go_sem] theorem byT_63 : byT Tryz.prog 63 = some 8 := by kernel_rfl
@[go_sem] theorem ifcT_63 : ifcT Tryz.prog 63 = some false := by kernel_rfl
@[go_sem] theorem strT_63 : strT Tryz.prog 63 = false := by kernel_rfl
@[go_sem] theorem nFld_63 : nFld Tryz.prog 63 = none := by kernel_rfl
@[go_sem] theorem zroT_63 : zroT Tryz.prog 63 = some (.nil .nilFunc) := by kernel_rfl
@[go_sem] theorem nk_63 : nilKind Tryz.prog 63 .nilFunc = true := by kernel_rfl
@[go_sem] theorem szOf_64 : szOf Tryz.prog 64 = some 1 := by kernel_rfl
@[go_sem] theorem aggT_64 : aggT Tryz.prog 64 = some false := by kernel_rfl
@[go_sem] theorem byT_64 : byT Tryz.prog 64 = some 8 := by kernel_rfl
@[go_sem] theorem ifcT_64 : ifcT Tryz.prog 64 = some false := by kernel_rfl
@[go_sem] theorem strT_64 : strT Tryz.prog 64 = false := by kernel_rfl
@[go_sem] theorem nFld_64 : nFld Tryz.prog 64 = none := by kernel_rfl
@[go_sem] theorem zroT_64 : zroT Tryz.prog 64 = some (.nil .nilFunc) := by kernel_rfl
@[go_sem] theorem nk_64 : nilKind Tryz.prog 64 .nilFunc = true := by kernel_rfl
@[go_sem] theorem szOf_65 : szOf Tryz.prog 65 = some 1 := by kernel_rfl
@[go_sem] theorem aggT_65 : aggT Tryz.prog 65 = some false := by kernel_rfl
@[go_sem] theorem byT_65 : byT Tryz.prog 65 = some 8 := by kernel_rfl
@[go_sem] theorem ifcT_65 : ifcT Tryz.prog 65 = some false := by kernel_rfl
@[go_sem] theorem strT_65 : strT Tryz.prog 65 = false := by kernel_rfl
@[go_sem] theorem nFld_65 : nFld Tryz.prog 65 = none := by kernel_rfl
@[go_sem] theorem zroT_65 : zroT Tryz.prog 65 = some (.nil .nilFunc) := by kernel_rfl
@[go_sem] theorem nk_65 : nilKind Tryz.prog 65 .nilFunc = true := by kernel_rfl
@[go_sem] theorem szOf_66 : szOf Tryz.prog 66 = some 2 := by kernel_rfl
@[go_sem] theorem aggT_66 : aggT Tryz.prog 66 = some true := by kernel_rfl
@[go_sem] theorem byT_66 : byT Tryz.prog 66 = some 32 := by kernel_rfl
@[go_sem] theorem ifcT_66 : ifcT Tryz.prog 66 = some false := by kernel_rfl
@[go_sem] theorem strT_66 : strT Tryz.prog 66 = false := by kernel_rfl
@[go_sem] theorem nFld_66 : nFld Tryz.prog 66 = some 2 := by kernel_rfl
@[go_sem] theorem fOff_66_0 : fOff Tryz.prog 66 0 = some (0, 9, 1) := by kernel_rfl
@[go_sem] theorem fOff_66_1 : fOff Tryz.prog 66 1 = some (1, 9, 1) := by kernel_rfl
@[go_sem] theorem plainT_66 : plainT Tryz.prog 66 = some [2, 2] := by kernel_rfl
@[go_sem] theorem zroT_66 : zroT Tryz.prog 66 = some (.agg [.str [], .str []]) := by kernel_rfl
@[go_sem] theorem szOf_67 : szOf Tryz.prog 67 = some 2 := by kernel_rfl
@[go_sem] theorem aggT_67 : aggT Tryz.prog 67 = some true := by kernel_rfl
@[go_sem] theorem byT_67 : byT Tryz.prog 67 = some 32 := by kernel_rfl
@[go_sem] theorem ifcT_67 : ifcT Tryz.prog 67 = some false := by kernel_rfl
@[go_sem] theorem strT_67 : strT Tryz.prog 67 = false := by kernel_rfl
@[go_sem] theorem nFld_67 : nFld Tryz.prog 67 = some 2 := by kernel_rfl
@[go_sem] theorem fOff_67_0 : fOff Tryz.prog 67 0 = some (0, 9, 1) := by kernel_rfl
@[go_sem] theorem fOff_67_1 : fOff Tryz.prog 67 1 = some (1, 9, 1) := by kernel_rfl
@[go_sem] theorem plainT_67 : plainT Tryz.prog 67 = some [2, 2] := by kernel_rfl
@[go_sem] theorem zroT_67 : zroT Tryz.prog 67 = some (.agg [.str [], .str []]) := by kernel_rfl
@[go_sem] theorem szOf_68 : szOf Tryz.prog 68 = some 1 := by kernel_rfl
@[go_sem] theorem aggT_68 : aggT Tryz.prog 68 = some false := by kernel_rfl
@[go_sem] theorem byT_68 : byT Tryz.prog 68 = some 8 := by kernel_rfl
@[go_sem] theorem ifcT_68 : ifcT Tryz.prog 68 = some false := by kernel_rfl
@[go_sem] theorem strT_68 : strT Tryz.prog 68 = false := by kernel_rfl
@[go_sem] theorem nFld_68 : nFld Tryz.prog 68 = none := by kernel_rfl
@[go_sem] theorem zroT_68 : zroT Tryz.prog 68 = some (.nil .nilFunc) := by kernel_rfl
@[go_sem] theorem nk_68 : nilKind Tryz.prog 68 .nilFunc = true := by kernel_rfl
@[go_sem] theorem szOf_69 : szOf Tryz.prog 69 = some 1 := by kernel_rfl
@[go_sem] theorem aggT_69 : aggT Tryz.prog 69 = some false := by kernel_rfl
@[go_sem] theorem byT_69 : byT Tryz.prog 69 = some 8 := by kernel_rfl
@[go_sem] theorem ifcT_69 : ifcT Tryz.prog 69 = some false := by kernel_rfl
@[go_sem] theorem strT_69 : strT Tryz.prog 69 = false := by kernel_rfl
@[go_sem] theorem nFld_69 : nFld Tryz.prog 69 = none := by kernel_rfl
@[go_sem] theorem zroT_69 : zroT Tryz.prog 69 = some (.nil .nilFunc) := by kernel_rfl
@[go_sem] theorem nk_69 : nilKind Tryz.prog 69 .nilFunc = true := by kernel_rfl
@[go_sem] theorem szOf_70 : szOf Tryz.prog 70 = some 1 := by kernel_rfl
@[go_sem] theorem aggT_70 : aggT Tryz.prog 70 = some false := by kernel_rfl
@[go_sem] theorem byT_70 : byT Tryz.prog 70 = some 8 := by kernel_rfl
@[go_sem] theorem ifcT_70 : ifcT Tryz.prog 70 = some false := by kernel_rfl
@[go_sem] theorem strT_70 : strT Tryz.prog 70 = false := by kernel_rfl
@[go_sem] theorem nFld_70 : nFld Tryz.prog 70 = none := by kernel_rfl
@[go_sem] theorem zroT_70 : zroT Tryz.prog 70 = some (.nil (.pointer none)) := by kernel_rfl
@[go_sem] theorem nk_70 : nilKind Tryz.prog 70 (.pointer none) = true := by kernel_rfl
@[go_sem] theorem szOf_71 : szOf Tryz.prog 71 = some 1 := by kernel_rfl
@[go_sem] theorem aggT_71 : aggT Tryz.prog 71 = some false := by kernel_rfl
@[go_sem] theorem byT_71 : byT Tryz.prog 71 = some 24 := by kernel_rfl
@[go_sem] theorem elmT_71 : elmT Tryz.prog 71 = some 5 := by kernel_rfl
@[go_sem] theorem ifcT_71 : ifcT Tryz.prog 71 = some false := by kernel_rfl
@[go_sem] theorem strT_71 : strT Tryz.prog 71 = false := by kernel_rfl
@[go_sem] theorem nFld_71 : nFld Tryz.prog 71 = none := by kernel_rfl
@[go_sem] theorem zroT_71 : zroT Tryz.prog 71 = some (.nil (.slice none 0 0)) := by kernel_rfl
@[go_sem] theorem nk_71 : nilKind Tryz.prog 71 (.slice none 0 0) = true := by kernel_rfl
@[go_sem] theorem fOff_72_0 : fOff Tryz.prog 72 0 = some (0, 70, 1) := by kernel_rfl
@[go_sem] theorem fOff_72_1 : fOff Tryz.prog 72 1 = some (1, 71, 1) := by kernel_rfl
@[go_sem] theorem szOf_73 : szOf Tryz.prog 73 = some 2 := by kernel_rfl
@[go_sem] theorem aggT_73 : aggT Tryz.prog 73 = some true := by kernel_rfl
@[go_sem] theorem byT_73 : byT Tryz.prog 73 = some 32 := by kernel_rfl
@[go_sem] theorem ifcT_73 : ifcT Tryz.prog 73 = some false := by kernel_rfl
@[go_sem] theorem strT_73 : strT Tryz.prog 73 = false := by kernel_rfl
@[go_sem] theorem nFld_73 : nFld Tryz.prog 73 = some 2 := by kernel_rfl
@[go_sem] theorem fOff_73_0 : fOff Tryz.prog 73 0 = some (0, 70, 1) := by kernel_rfl
@[go_sem] theorem fOff_73_1 : fOff Tryz.prog 73 1 = some (1, 71, 1) := by kernel_rfl
@[go_sem] theorem plainT_73 : plainT Tryz.prog 73 = some [3, 3] := by kernel_rfl
@[go_sem] theorem zroT_73 : zroT Tryz.prog 73 = some (.agg [.nil (.pointer none), .nil (.slice none 0 0)]) := by kernel_rfl
@[go_sem] theorem szOf_74 : szOf Tryz.prog 74 = some 1 := by kernel_rfl
@[go_sem] theorem aggT_74 : aggT Tryz.prog 74 = some false := by kernel_rfl
@[go_sem] theorem byT_74 : byT Tryz.prog 74 = some 8 := by kernel_rfl
@[go_sem] theorem ifcT_74 : ifcT Tryz.prog 74 = some false := by kernel_rfl
@[go_sem] theorem strT_74 : strT Tryz.prog 74 = false := by kernel_rfl
@[go_sem] theorem nFld_74 : nFld Tryz.prog 74 = none := by kernel_rfl
@[go_sem] theorem zroT_74 : zroT Tryz.prog 74 = some (.nil .nilFunc) := by kernel_rfl
@[go_sem] theorem nk_74 : nilKind Tryz.prog 74 .nilFunc = true := by kernel_rfl
@[go_sem] theorem szOf_75 : szOf Tryz.prog 75 = some 1 := by kernel_rfl
@[go_sem] theorem aggT_75 : aggT Tryz.prog 75 = some false := by kernel_rfl
@[go_sem] theorem byT_75 : byT Tryz.prog 75 = some 16 := by kernel_rfl
@[go_sem] theorem ifcT_75 : ifcT Tryz.prog 75 = some true := by kernel_rfl
@[go_sem] theorem strT_75 : strT Tryz.prog 75 = false := by kernel_rfl
@[go_sem] theorem nFld_75 : nFld Tryz.prog 75 = none := by kernel_rfl
@[go_sem] theorem zroT_75 : zroT Tryz.prog 75 = some (.nil .nilIface) := by kernel_rfl
@[go_sem] theorem nk_75 : nilKind Tryz.prog 75 .nilIface = true := by kernel_rfl
@[go_sem] theorem szOf_76 : szOf Tryz.prog 76 = some 1 := by kernel_rfl
@[go_sem] theorem aggT_76 : aggT Tryz.prog 76 = some false := by kernel_rfl
@[go_sem] theorem byT_76 : byT Tryz.prog 76 = some 16 := by kernel_rfl
@[go_sem] theorem ifcT_76 : ifcT Tryz.prog 76 = some true := by kernel_rfl
@[go_sem] theorem strT_76 : strT Tryz.prog 76 = false := by kernel_rfl
@[go_sem] theorem nFld_76 : nFld Tryz.prog 76 = none := by kernel_rfl
@[go_sem] theorem zroT_76 : zroT Tryz.prog 76 = some (.nil .nilIface) := by kernel_rfl
@[go_sem] theorem nk_76 : nilKind Tryz.prog 76 .nilIface = true := by kernel_rfl
@[go_sem] theorem szOf_77 : szOf Tryz.prog 77 = some 1 := by kernel_rfl
@[go_sem] theorem aggT_77 : aggT Tryz.prog 77 = some false := by kernel_rfl
@[go_sem] theorem byT_77 : byT Tryz.prog 77 = some 0 := by kernel_rfl
@[go_sem] theorem ifcT_77 : ifcT Tryz.prog 77 = some false := by kernel_rfl
@[go_sem] theorem strT_77 : strT Tryz.prog 77 = false := by kernel_rfl
@[go_sem] theorem nFld_77 : nFld Tryz.prog 77 = none := by kernel_rfl
@[go_sem] theorem fOff_82_0 : fOff Tryz.prog 82 0 = some (0, 3, 1) := by kernel_rfl
@[go_sem] theorem fOff_82_1 : fOff Tryz.prog 82 1 = some (1, 9, 1) := by kernel_rfl
@[go_sem] theorem fOff_82_2 : fOff Tryz.prog 82 2 = some (2, 23, 1) := by kernel_rfl
@[go_sem] theorem fOff_82_3 : fOff Tryz.prog 82 3 = some (3, 9, 1) := by kernel_rfl
@[go_sem] theorem fOff_83_0 : fOff Tryz.prog 83 0 = some (0, 3, 1) := by kernel_rfl
@[go_sem] theorem fOff_83_1 : fOff Tryz.prog 83 1 = some (1, 9, 1) := by kernel_rfl
@[go_sem] theorem fOff_83_2 : fOff Tryz.prog 83 2 = some (2, 23, 1) := by kernel_rfl
@[go_sem] theorem fOff_83_3 : fOff Tryz.prog 83 3 = some (3, 9, 1) := by kernel_rfl
@[go_sem] theorem szOf_84 : szOf Tryz.prog 84 = some 1 := by kernel_rfl
@[go_sem] theorem aggT_84 : aggT Tryz.prog 84 = some false := by kernel_rfl
@[go_sem] theorem byT_84 : byT Tryz.prog 84 = some 8 := by kernel_rfl
@[go_sem] theorem ifcT_84 : ifcT Tryz.prog 84 = some false := by kernel_rfl
@[go_sem] theorem strT_84 : strT Tryz.prog 84 = false := by kernel_rfl
@[go_sem] theorem nFld_84 : nFld Tryz.prog 84 = none := by kernel_rfl
@[go_sem] theorem zroT_84 : zroT Tryz.prog 84 = some (.nil .nilFunc) := by kernel_rfl
@[go_sem] theorem nk_84 : nilKind Tryz.prog 84 .nilFunc = true := by kernel_rfl
@[go_sem] theorem szOf_85 : szOf Tryz.prog 85 = some 1 := by kernel_rfl
@[go_sem] theorem aggT_85 : aggT Tryz.prog 85 = some false := by kernel_rfl
@[go_sem] theorem byT_85 : byT Tryz.prog 85 = some 8 := by kernel_rfl
@[go_sem] theorem ifcT_85 : ifcT Tryz.prog 85 = some false := by kernel_rfl
@[go_sem] theorem strT_85 : strT Tryz.prog 85 = false := by kernel_rfl
@[go_sem] theorem nFld_85 : nFld Tryz.prog 85 = none := by kernel_rfl
@[go_sem] theorem zroT_85 : zroT Tryz.prog 85 = some (.nil .nilFunc) := by kernel_rfl
@[go_sem] theorem nk_85 : nilKind Tryz.prog 85 .nilFunc = true := by kernel_rfl
@[go_sem] theorem szOf_90 : szOf Tryz.prog 90 = some 1 := by kernel_rfl
@[go_sem] theorem aggT_90 : aggT Tryz.prog 90 = some false := by kernel_rfl
@[go_sem] theorem byT_90 : byT Tryz.prog 90 = some 8 := by kernel_rfl
@[go_sem] theorem ifcT_90 : ifcT Tryz.prog 90 = some false := by kernel_rfl
@[go_sem] theorem strT_90 : strT Tryz.prog 90 = false := by kernel_rfl
@[go_sem] theorem nFld_90 : nFld Tryz.prog 90 = none := by kernel_rfl
@[go_sem] theorem zroT_90 : zroT Tryz.prog 90 = some (.nil .nilFunc) := by kernel_rfl
@[go_sem] theorem nk_90 : nilKind Tryz.prog 90 .nilFunc = true := by kernel_rfl
@[go_sem] theorem szOf_91 : szOf Tryz.prog 91 = some 1 := by kernel_rfl
@[go_sem] theorem aggT_91 : aggT Tryz.prog 91 = some false := by kernel_rfl
@[go_sem] theorem byT_91 : byT Tryz.prog 91 = some 8 := by kernel_rfl
@[go_sem] theorem ifcT_91 : ifcT Tryz.prog 91 = some false := by kernel_rfl
@[go_sem] theorem strT_91 : strT Tryz.prog 91 = false := by kernel_rfl
@[go_sem] theorem nFld_91 : nFld Tryz.prog 91 = none := by kernel_rfl
@[go_sem] theorem zroT_91 : zroT Tryz.prog 91 = some (.nil .nilFunc) := by kernel_rfl
@[go_sem] theorem nk_91 : nilKind Tryz.prog 91 .nilFunc = true := by kernel_rfl
@[go_sem] theorem fOff_93_0 : fOff Tryz.prog 93 0 = some (0, 73, 2) := by kernel_rfl
@[go_sem] theorem fOff_94_0 : fOff Tryz.prog 94 0 = some (0, 73, 2) := by kernel_rfl
@[go_sem] theorem szOf_95 : szOf Tryz.prog 95 = some 1 := by kernel_rfl
@[go_sem] theorem aggT_95 : aggT Tryz.prog 95 = some false := by kernel_rfl
@[go_sem] theorem byT_95 : byT Tryz.prog 95 = some 8 := by kernel_rfl
@[go_sem] theorem ifcT_95 : ifcT Tryz.prog 95 = some false := by kernel_rfl
@[go_sem] theorem strT_95 : strT Tryz.prog 95 = false := by kernel_rfl
@[go_sem] theorem nFld_95 : nFld Tryz.prog 95 = none := by kernel_rfl
@[go_sem] theorem zroT_95 : zroT Tryz.prog 95 = some (.nil .nilFunc) := by kernel_rfl
@[go_sem] theorem nk_95 : nilKind Tryz.prog 95 .nilFunc = true := by kernel_rfl
@[go_sem] theorem szOf_97 : szOf Tryz.prog 97 = some 1 := by kernel_rfl
@[go_sem] theorem aggT_97 : aggT Tryz.prog 97 = some false := by kernel_rfl
@[go_sem] theorem byT_97 : byT Tryz.prog 97 = some 8 := by kernel_rfl
@[go_sem] theorem ifcT_97 : ifcT Tryz.prog 97 = some false := by kernel_rfl
@[go_sem] theorem strT_97 : strT Tryz.prog 97 = false := by kernel_rfl
@[go_sem] theorem nFld_97 : nFld Tryz.prog 97 = none := by kernel_rfl
@[go_sem] theorem zroT_97 : zroT Tryz.prog 97 = some (.nil .nilFunc) := by kernel_rfl
@[go_sem] theorem nk_97 : nilKind Tryz.prog 97 .nilFunc = true := by kernel_rfl
@[go_sem] theorem szOf_99 : szOf Tryz.prog 99 = some 1 := by kernel_rfl
@[go_sem] theorem aggT_99 : aggT Tryz.prog 99 = some false := by kernel_rfl
@[go_sem] theorem byT_99 : byT Tryz.prog 99 = some 8 := by kernel_rfl
@[go_sem] theorem ifcT_99 : ifcT Tryz.prog 99 = some false := by kernel_rfl
@[go_sem] theorem strT_99 : strT Tryz.prog 99 = false := by kernel_rfl
@[go_sem] theorem nFld_99 : nFld Tryz.prog 99 = none := by kernel_rfl
@[go_sem] theorem zroT_99 : zroT Tryz.prog 99 = some (.nil (.pointer none)) := by kernel_rfl
@[go_sem] theorem nk_99 : nilKind Tryz.prog 99 (.pointer none) = true := by kernel_rfl
@[go_sem] theorem fOff_100_0 : fOff Tryz.prog 100 0 = some (0, 9, 1) := by kernel_rfl
@[go_sem] theorem fOff_100_1 : fOff Tryz.prog 100 1 = some (1, 4, 1) := by kernel_rfl
@[go_sem] theorem fOff_101_0 : fOff Tryz.prog 101 0 = some (0, 9, 1) := by kernel_rfl
@[go_sem] theorem fOff_101_1 : fOff Tryz.prog 101 1 = some (1, 4, 1) := by kernel_rfl
@[go_sem] theorem szOf_104 : szOf Tryz.prog 104 = some 1 := by kernel_rfl
@[go_sem] theorem aggT_104 : aggT Tryz.prog 104 = some false := by kernel_rfl
@[go_sem] theorem byT_104 : byT Tryz.prog 104 = some 8 := by kernel_rfl
@[go_sem] theorem ifcT_104 : ifcT Tryz.prog 104 = some false := by kernel_rfl
@[go_sem] theorem strT_104 : strT Tryz.prog 104 = false := by kernel_rfl
@[go_sem] theorem nFld_104 : nFld Tryz.prog 104 = none := by kernel_rfl
@[go_sem] theorem zroT_104 : zroT Tryz.prog 104 = some (.nil (.pointer none)) := by kernel_rfl
@[go_sem] theorem nk_104 : nilKind Tryz.prog 104 (.pointer none) = true := by kernel_rfl
@[go_sem] theorem fOff_105_0 : fOff Tryz.prog 105 0 = some (0, 24, 1) := by kernel_rfl
@[go_sem] theorem fOff_105_1 : fOff Tryz.prog 105 1 = some (1, 24, 1) := by kernel_rfl
@[go_sem] theorem fOff_106_0 : fOff Tryz.prog 106 0 = some (0, 24, 1) := by kernel_rfl
@[go_sem] theorem fOff_106_1 : fOff Tryz.prog 106 1 = some (1, 24, 1) := by kernel_rfl
@[go_sem] theorem szOf_112 : szOf Tryz.prog 112 = some 1 := by kernel_rfl
@[go_sem] theorem aggT_112 : aggT Tryz.prog 112 = some false := by kernel_rfl
@[go_sem] theorem byT_112 : byT Tryz.prog 112 = some 8 := by kernel_rfl
@[go_sem] theorem ifcT_112 : ifcT Tryz.prog 112 = some false := by kernel_rfl
@[go_sem] theorem strT_112 : strT Tryz.prog 112 = false := by kernel_rfl
@[go_sem] theorem nFld_112 : nFld Tryz.prog 112 = none := by kernel_rfl
@[go_sem] theorem zroT_112 : zroT Tryz.prog 112 = some (.nil (.pointer none)) := by kernel_rfl
@[go_sem] theorem nk_112 : nilKind Tryz.prog 112 (.pointer none) = true := by kernel_rfl
@[go_sem] theorem szOf_116 : szOf Tryz.prog 116 = some 1 := by kernel_rfl
@[go_sem] theorem aggT_116 : aggT Tryz.prog 116 = some false := by kernel_rfl
@[go_sem] theorem byT_116 : byT Tryz.prog 116 = some 8 := by kernel_rfl
@[go_sem] theorem ifcT_116 : ifcT Tryz.prog 116 = some false := by kernel_rfl
@[go_sem] theorem strT_116 : strT Tryz.prog 116 = false := by kernel_rfl
@[go_sem] theorem nFld_116 : nFld Tryz.prog 116 = none := by kernel_rfl
@[go_sem] theorem zroT_116 : zroT Tryz.prog 116 = some (.nil .nilFunc) := by kernel_rfl
@[go_sem] theorem nk_116 : nilKind Tryz.prog 116 .nilFunc = true := by kernel_rfl
@[go_sem] theorem szOf_119 : szOf Tryz.prog 119 = some 1 := by kernel_rfl
@[go_sem] theorem aggT_119 : aggT Tryz.prog 119 = some false := by kernel_rfl
@[go_sem] theorem byT_119 : byT Tryz.prog 119 = some 8 := by kernel_rfl
@[go_sem] theorem ifcT_119 : ifcT Tryz.prog 119 = some false := by kernel_rfl
@[go_sem] theorem strT_119 : strT Tryz.prog 119 = false := by kernel_rfl
@[go_sem] theorem nFld_119 : nFld Tryz.prog 119 = none := by kernel_rfl
@[go_sem] theorem zroT_119 : zroT Tryz.prog 119 = some (.nil .nilFunc) := by kernel_rfl
@[go_sem] theorem nk_119 : nilKind Tryz.prog 119 .nilFunc = true := by kernel_rfl
@[go_sem] theorem szOf_122 : szOf Tryz.prog 122 = some 1 := by kernel_rfl
@[go_sem] theorem aggT_122 : aggT Tryz.prog 122 = some false := by kernel_rfl
@[go_sem] theorem byT_122 : byT Tryz.prog 122 = some 8 := by kernel_rfl
@[go_sem] theorem ifcT_122 : ifcT Tryz.prog 122 = some false := by kernel_rfl
@[go_sem] theorem strT_122 : strT Tryz.prog 122 = false := by kernel_rfl
@[go_sem] theorem nFld_122 : nFld Tryz.prog 122 = none := by kernel_rfl
@[go_sem] theorem zroT_122 : zroT Tryz.prog 122 = some (.nil .nilFunc) := by kernel_rfl
@[go_sem] theorem nk_122 : nilKind Tryz.prog 122 .nilFunc = true := by kernel_rfl
@[go_sem] theorem szOf_124 : szOf Tryz.prog 124 = some 1 := by kernel_rfl
@[go_sem] theorem aggT_124 : aggT Tryz.prog 124 = some false := by kernel_rfl
@[go_sem] theorem byT_124 : byT Tryz.prog 124 = some 0 := by kernel_rfl
@[go_sem] theorem ifcT_124 : ifcT Tryz.prog 124 = some false := by kernel_rfl
@[go_sem] theorem strT_124 : strT Tryz.prog 124 = false := by kernel_rfl
@[go_sem] theorem nFld_124 : nFld Tryz.prog 124 = none := by kernel_rfl
@[go_sem] theorem szOf_128 : szOf Tryz.prog 128 = some 1 := by kernel_rfl
@[go_sem] theorem aggT_128 : aggT Tryz.prog 128 = some false := by kernel_rfl
@[go_sem] theorem byT_128 : byT Tryz.prog 128 = some 8 := by kernel_rfl
@[go_sem] theorem ifcT_128 : ifcT Tryz.prog 128 = some false := by kernel_rfl
@[go_sem] theorem strT_128 : strT Tryz.prog 128 = false := by kernel_rfl
@[go_sem] theorem nFld_128 : nFld Tryz.prog 128 = none := by kernel_rfl
@[go_sem] theorem zroT_128 : zroT Tryz.prog 128 = some (.nil (.pointer none)) := by kernel_rfl
@[go_sem] theorem szOf_130 : szOf Tryz.prog 130 = some 1 := by kernel_rfl
@[go_sem] theorem aggT_130 : aggT Tryz.prog 130 = some false := by kernel_rfl
@[go_sem] theorem byT_130 : byT Tryz.prog 130 = some 24 := by kernel_rfl
@[go_sem] theorem elmT_130 : elmT Tryz.prog 130 = some 9 := by kernel_rfl
@[go_sem] theorem ifcT_130 : ifcT Tryz.prog 130 = some false := by kernel_rfl
@[go_sem] theorem strT_130 : strT Tryz.prog 130 = false := by kernel_rfl
@[go_sem] theorem nFld_130 : nFld Tryz.prog 130 = none := by kernel_rfl
@[go_sem] theorem zroT_130 : zroT Tryz.prog 130 = some (.nil (.slice none 0 0)) := by kernel_rfl
@[go_sem] theorem nk_130 : nilKind Tryz.prog 130 (.slice none 0 0) = true := by kernel_rfl
@[go_sem] theorem szOf_134 : szOf Tryz.prog 134 = some 1 := by kernel_rfl
@[go_sem] theorem aggT_134 : aggT Tryz.prog 134 = some false := by kernel_rfl
@[go_sem] theorem byT_134 : byT Tryz.prog 134 = some 8 := by kernel_rfl
@[go_sem] theorem ifcT_134 : ifcT Tryz.prog 134 = some false := by kernel_rfl
@[go_sem] theorem strT_134 : strT Tryz.prog 134 = false := by kernel_rfl
@[go_sem] theorem nFld_134 : nFld Tryz.prog 134 = none := by kernel_rfl
@[go_sem] theorem zroT_134 : zroT Tryz.prog 134 = some (.nil .nilFunc) := by kernel_rfl
@[go_sem] theorem nk_134 : nilKind Tryz.prog 134 .nilFunc = true := by kernel_rfl
@[go_sem] theorem szOf_135 : szOf Tryz.prog 135 = some 1 := by kernel_rfl
@[go_sem] theorem aggT_135 : aggT Tryz.prog 135 = some false := by kernel_rfl
@[go_sem] theorem byT_135 : byT Tryz.prog 135 = some 8 := by kernel_rfl
@[go_sem] theorem ifcT_135 : ifcT Tryz.prog 135 = some false := by kernel_rfl
@[go_sem] theorem strT_135 : strT Tryz.prog 135 = false := by kernel_rfl
@[go_sem] theorem nFld_135 : nFld Tryz.prog 135 = none := by kernel_rfl
@[go_sem] theorem zroT_135 : zroT Tryz.prog 135 = some (.nil .nilFunc) := by kernel_rfl
@[go_sem] theorem nk_135 : nilKind Tryz.prog 135 .nilFunc = true := by kernel_rfl
@[go_sem] theorem szOf_137 : szOf Tryz.prog 137 = some 1 := by kernel_rfl
@[go_sem] theorem aggT_137 : aggT Tryz.prog 137 = some false := by kernel_rfl
@[go_sem] theorem byT_137 : byT Tryz.prog 137 = some 0 := by kernel_rfl
@[go_sem] theorem ifcT_137 : ifcT Tryz.prog 137 = some false := by kernel_rfl
@[go_sem] theorem strT_137 : strT Tryz.prog 137 = false := by kernel_rfl
@[go_sem] theorem nFld_137 : nFld Tryz.prog 137 = none := by kernel_rfl
@[go_sem] theorem szOf_138 : szOf Tryz.prog 138 = some 1 := by kernel_rfl
@[go_sem] theorem aggT_138 : aggT Tryz.prog 138 = some false := by kernel_rfl
@[go_sem] theorem byT_138 : byT Tryz.prog 138 = some 8 := by kernel_rfl
@[go_sem] theorem ifcT_138 : ifcT Tryz.prog 138 = some false := by kernel_rfl
@[go_sem] theorem strT_138 : strT Tryz.prog 138 = false := by kernel_rfl
@[go_sem] theorem nFld_138 : nFld Tryz.prog 138 = none := by kernel_rfl
@[go_sem] theorem zroT_138 : zroT Tryz.prog 138 = some (.nil .nilFunc) := by kernel_rfl
@[go_sem] theorem nk_138 : nilKind Tryz.prog 138 .nilFunc = true := by kernel_rfl
@[go_sem] theorem szOf_146 : szOf Tryz.prog 146 = some 1 := by kernel_rfl
@[go_sem] theorem aggT_146 : aggT Tryz.prog 146 = some false := by kernel_rfl
@[go_sem] theorem byT_146 : byT Tryz.prog 146 = some 8 := by kernel_rfl
@[go_sem] theorem ifcT_146 : ifcT Tryz.prog 146 = some false := by kernel_rfl
@[go_sem] theorem strT_146 : strT Tryz.prog 146 = false := by kernel_rfl
@[go_sem] theorem nFld_146 : nFld Tryz.prog 146 = none := by kernel_rfl
@[go_sem] theorem zroT_146 : zroT Tryz.prog 146 = some (.nil .nilFunc) := by kernel_rfl
@[go_sem] theorem nk_146 : nilKind Tryz.prog 146 .nilFunc = true := by kernel_rfl
@[go_sem] theorem szOf_148 : szOf Tryz.prog 148 = some 1 := by kernel_rfl
@[go_sem] theorem aggT_148 : aggT Tryz.prog 148 = some false := by kernel_rfl
@[go_sem] theorem byT_148 : byT Tryz.prog 148 = some 0 := by kernel_rfl
@[go_sem] theorem ifcT_148 : ifcT Tryz.prog 148 = some false := by kernel_rfl
@[go_sem] theorem strT_148 : strT Tryz.prog 148 = false := by kernel_rfl
@[go_sem] theorem nFld_148 : nFld Tryz.prog 148 = none := by kernel_rfl
@[go_sem] theorem szOf_149 : szOf Tryz.prog 149 = some 1 := by kernel_rfl
@[go_sem] theorem aggT_149 : aggT Tryz.prog 149 = some false := by kernel_rfl
@[go_sem] theorem byT_149 : byT Tryz.prog 149 = some 8 := by kernel_rfl
@[go_sem] theorem ifcT_149 : ifcT Tryz.prog 149 = some false := by kernel_rfl
@[go_sem] theorem strT_149 : strT Tryz.prog 149 = false := by kernel_rfl
@[go_sem] theorem nFld_149 : nFld Tryz.prog 149 = none := by kernel_rfl
@[go_sem] theorem zroT_149 : zroT Tryz.prog 149 = some (.nil .nilFunc) := by kernel_rfl
@[go_sem] theorem nk_149 : nilKind Tryz.prog 149 .nilFunc = true := by kernel_rfl
@[go_sem] theorem szOf_150 : szOf Tryz.prog 150 = some 1 := by kernel_rfl
@[go_sem] theorem aggT_150 : aggT Tryz.prog 150 = some false := by kernel_rfl
@[go_sem] theorem byT_150 : byT Tryz.prog 150 = some 8 := by kernel_rfl
@[go_sem] theorem ifcT_150 : ifcT Tryz.prog 150 = some false := by kernel_rfl
@[go_sem] theorem strT_150 : strT Tryz.prog 150 = false := by kernel_rfl
@[go_sem] theorem nFld_150 : nFld Tryz.prog 150 = none := by kernel_rfl
@[go_sem] theorem zroT_150 : zroT Tryz.prog 150 = some (.nil .nilFunc) := by kernel_rfl
@[go_sem] theorem nk_150 : nilKind Tryz.prog 150 .nilFunc = true := by kernel_rfl
@[go_sem] theorem szOf_151 : szOf Tryz.prog 151 = some 1 := by kernel_rfl
@[go_sem] theorem aggT_151 : aggT Tryz.prog 151 = some false := by kernel_rfl
@[go_sem] theorem byT_151 : byT Tryz.prog 151 = some 8 := by kernel_rfl
@[go_sem] theorem ifcT_151 : ifcT Tryz.prog 151 = some false := by kernel_rfl
@[go_sem] theorem strT_151 : strT Tryz.prog 151 = false := by kernel_rfl
@[go_sem] theorem nFld_151 : nFld Tryz.prog 151 = none := by kernel_rfl
@[go_sem] theorem zroT_151 : zroT Tryz.prog 151 = some (.nil .nilFunc) := by kernel_rfl
@[go_sem] theorem nk_151 : nilKind Tryz.prog 151 .nilFunc = true := by kernel_rfl
@[go_sem] theorem szOf_152 : szOf Tryz.prog 152 = some 1 := by kernel_rfl
@[go_sem] theorem aggT_152 : aggT Tryz.prog 152 = some false := by kernel_rfl
@[go_sem] theorem byT_152 : byT Tryz.prog 152 = some 8 := by kernel_rfl
@[go_sem] theorem ifcT_152 : ifcT Tryz.prog 152 = some false := by kernel_rfl
@[go_sem] theorem strT_152 : strT Tryz.prog 152 = false := by kernel_rfl
@[go_sem] theorem nFld_152 : nFld Tryz.prog 152 = none := by kernel_rfl
@[go_sem] theorem zroT_152 : zroT Tryz.prog 152 = some (.nil .nilFunc) := by kernel_rfl
@[go_sem] theorem nk_152 : nilKind Tryz.prog 152 .nilFunc = true := by kernel_rfl
@[go_sem] theorem szOf_154 : szOf Tryz.prog 154 = some 1 := by kernel_rfl
@[go_sem] theorem aggT_154 : aggT Tryz.prog 154 = some false := by kernel_rfl
@[go_sem] theorem byT_154 : byT Tryz.prog 154 = some 8 := by kernel_rfl
@[go_sem] theorem ifcT_154 : ifcT Tryz.prog 154 = some false := by kernel_rfl
@[go_sem] theorem strT_154 : strT Tryz.prog 154 = false := by kernel_rfl
@[go_sem] theorem nFld_154 : nFld Tryz.prog 154 = none := by kernel_rfl
@[go_sem] theorem zroT_154 : zroT Tryz.prog 154 = some (.nil .nilFunc) := by kernel_rfl
@[go_sem] theorem nk_154 : nilKind Tryz.prog 154 .nilFunc = true := by kernel_rfl
@[go_sem] theorem szOf_161 : szOf Tryz.prog 161 = some 1 := by kernel_rfl
@[go_sem] theorem aggT_161 : aggT Tryz.prog 161 = some false := by kernel_rfl
@[go_sem] theorem byT_161 : byT Tryz.prog 161 = some 8 := by kernel_rfl
@[go_sem] theorem ifcT_161 : ifcT Tryz.prog 161 = some false := by kernel_rfl
@[go_sem] theorem strT_161 : strT Tryz.prog 161 = false := by kernel_rfl
@[go_sem] theorem nFld_161 : nFld Tryz.prog 161 = none := by kernel_rfl
@[go_sem] theorem zroT_161 : zroT Tryz.prog 161 = some (.nil (.pointer none)) := by kernel_rfl
@[go_sem] theorem nk_161 : nilKind Tryz.prog 161 (.pointer none) = true := by kernel_rfl
@[go_sem] theorem szOf_172 : szOf Tryz.prog 172 = some 2 := by kernel_rfl
@[go_sem] theorem aggT_172 : aggT Tryz.prog 172 = some true := by kernel_rfl
@[go_sem] theorem byT_172 : byT Tryz.prog 172 = some 2 := by kernel_rfl
@[go_sem] theorem ifcT_172 : ifcT Tryz.prog 172 = some false := by kernel_rfl
@[go_sem] theorem strT_172 : strT Tryz.prog 172 = false := by kernel_rfl
@[go_sem] theorem nFld_172 : nFld Tryz.prog 172 = some 2 := by kernel_rfl
@[go_sem] theorem fOff_172_0 : fOff Tryz.prog 172 0 = some (0, 5, 1) := by kernel_rfl
@[go_sem] theorem fOff_172_1 : fOff Tryz.prog 172 1 = some (1, 5, 1) := by kernel_rfl
@[go_sem] theorem plainT_172 : plainT Tryz.prog 172 = some [0, 0] := by kernel_rfl
@[go_sem] theorem zroT_172 : zroT Tryz.prog 172 = some (.agg [.int .u8 0, .int .u8 0]) := by kernel_rfl
@[go_sem] theorem fOff_173_0 : fOff Tryz.prog 173 0 = some (0, 5, 1) := by kernel_rfl
@[go_sem] theorem fOff_173_1 : fOff Tryz.prog 173 1 = some (1, 5, 1) := by kernel_rfl
@[go_sem] theorem szOf_174 : szOf Tryz.prog 174 = some 32 := by kernel_rfl
@[go_sem] theorem aggT_174 : aggT Tryz.prog 174 = some true := by kernel_rfl
@[go_sem] theorem byT_174 : byT Tryz.prog 174 = some 32 := by kernel_rfl
@[go_sem] theorem arrT_174 : arrT Tryz.prog 174 = some (16, 173) := by kernel_rfl
@[go_sem] theorem ifcT_174 : ifcT Tryz.prog 174 = some false := by kernel_rfl
@[go_sem] theorem strT_174 : strT Tryz.prog 174 = false := by kernel_rfl
@[go_sem] theorem nFld_174 : nFld Tryz.prog 174 = none := by kernel_rfl
@[go_sem] theorem zroT_174 : zroT Tryz.prog 174 = some (.agg [.int .u8 0, .int .u8 0, .int .u8 0, .int .u8 0, .int .u8 0, .int .u8 0, .int .u8 0, .int .u8 0, .int .u8 0, .int .u8 0, .int .u8 0, .int .u8 0, .int .u8 0, .int .u8 0, .int .u8 0, .int .u8 0, .int .u8 0, .int .u8 0, .int .u8 0, .int .u8 0, .int .u8 0, .int .u8 0, .int .u8 0, .int .u8 0, .int .u8 0, .int .u8 0, .int .u8 0, .int .u8 0, .int .u8 0, .int .u8 0, .int .u8 0, .int .u8 0]) := by kernel_rfl
@[go_sem] theorem fOff_175_0 : fOff Tryz.prog 175 0 = some (0, 17, 1) := by kernel_rfl
@[go_sem] theorem fOff_175_1 : fOff Tryz.prog 175 1 = some (1, 17, 1) := by kernel_rfl
@[go_sem] theorem fOff_175_2 : fOff Tryz.prog 175 2 = some (2, 17, 1) := by kernel_rfl
@[go_sem] theorem fOff_175_3 : fOff Tryz.prog 175 3 = some (3, 9, 1) := by kernel_rfl
@[go_sem] theorem szOf_176 : szOf Tryz.prog 176 = some 4 := by kernel_rfl
@[go_sem] theorem aggT_176 : aggT Tryz.prog 176 = some true := by kernel_rfl
@[go_sem] theorem byT_176 : byT Tryz.prog 176 = some 40 := by kernel_rfl
@[go_sem] theorem ifcT_176 : ifcT Tryz.prog 176 = some false := by kernel_rfl
@[go_sem] theorem strT_176 : strT Tryz.prog 176 = false := by kernel_rfl
@[go_sem] theorem nFld_176 : nFld Tryz.prog 176 = some 4 := by kernel_rfl
@[go_sem] theorem fOff_176_0 : fOff Tryz.prog 176 0 = some (0, 17, 1) := by kernel_rfl
@[go_sem] theorem fOff_176_1 : fOff Tryz.prog 176 1 = some (1, 17, 1) := by kernel_rfl
@[go_sem] theorem fOff_176_2 : fOff Tryz.prog 176 2 = some (2, 17, 1) := by kernel_rfl
@[go_sem] theorem fOff_176_3 : fOff Tryz.prog 176 3 = some (3, 9, 1) := by kernel_rfl
@[go_sem] theorem zroT_176 : zroT Tryz.prog 176 = some (.agg [.nil (.pointer none), .nil (.pointer none), .nil (.pointer none), .str []]) := by kernel_rfl
@[go_sem] theorem fOff_178_0 : fOff Tryz.prog 178 0 = some (0, 177, 0) := by kernel_rfl
@[go_sem] theorem fOff_179_0 : fOff Tryz.prog 179 0 = some (0, 177, 0) := by kernel_rfl
@[go_sem] theorem szOf_181 : szOf Tryz.prog 181 = some 1 := by kernel_rfl
@[go_sem] theorem aggT_181 : aggT Tryz.prog 181 = some false := by kernel_rfl
@[go_sem] theorem byT_181 : byT Tryz.prog 181 = some 1 := by kernel_rfl
@[go_sem] theorem intT_181 : intT Tryz.prog 181 = some .u8 := by kernel_rfl
@[go_sem] theorem ifcT_181 : ifcT Tryz.prog 181 = some false := by kernel_rfl
@[go_sem] theorem strT_181 : strT Tryz.prog 181 = false := by kernel_rfl
@[go_sem] theorem nFld_181 : nFld Tryz.prog 181 = none := by kernel_rfl
@[go_sem] theorem zroT_181 : zroT Tryz.prog 181 = some (.int .u8 0) := by kernel_rfl
@[go_sem] theorem und_181 : Program.underlying Tryz.prog 181 = some (.int .u8) := by kernel_rfl
@[go_sem] theorem fOff_185_0 : fOff Tryz.prog 185 0 = some (0, 12, 1) := by kernel_rfl
@[go_sem] theorem fOff_185_1 : fOff Tryz.prog 185 1 = some (1, 12, 1) := by kernel_rfl
@[go_sem] theorem fOff_185_2 : fOff Tryz.prog 185 2 = some (2, 165, 1) := by kernel_rfl
@[go_sem] theorem fOff_185_3 : fOff Tryz.prog 185 3 = some (3, 180, 1) := by kernel_rfl
@[go_sem] theorem fOff_185_4 : fOff Tryz.prog 185 4 = some (4, 5, 1) := by kernel_rfl
@[go_sem] theorem fOff_185_5 : fOff Tryz.prog 185 5 = some (5, 5, 1) := by kernel_rfl
@[go_sem] theorem fOff_185_6 : fOff Tryz.prog 185 6 = some (6, 181, 1) := by kernel_rfl
@[go_sem] theorem fOff_185_7 : fOff Tryz.prog 185 7 = some (7, 182, 1) := by kernel_rfl
@[go_sem] theorem fOff_185_8 : fOff Tryz.prog 185 8 = some (8, 112, 1) := by kernel_rfl
@[go_sem] theorem fOff_185_9 : fOff Tryz.prog 185 9 = some (9, 183, 1) := by kernel_rfl
@[go_sem] theorem fOff_185_10 : fOff Tryz.prog 185 10 = some (10, 184, 1) := by kernel_rfl
@[go_sem] theorem fOff_186_0 : fOff Tryz.prog 186 0 = some (0, 12, 1) := by kernel_rfl
@[go_sem] theorem fOff_186_1 : fOff Tryz.prog 186 1 = some (1, 12, 1) := by kernel_rfl
@[go_sem] theorem fOff_186_2 : fOff Tryz.prog 186 2 = some (2, 165, 1) := by kernel_rfl
@[go_sem] theorem fOff_186_3 : fOff Tryz.prog 186 3 = some (3, 180, 1) := by kernel_rfl
@[go_sem] theorem fOff_186_4 : fOff Tryz.prog 186 4 = some (4, 5, 1) := by kernel_rfl
@[go_sem] theorem fOff_186_5 : fOff Tryz.prog 186 5 = some (5, 5, 1) := by kernel_rfl
@[go_sem] theorem fOff_186_6 : fOff Tryz.prog 186 6 = some (6, 181, 1) := by kernel_rfl
@[go_sem] theorem fOff_186_7 : fOff Tryz.prog 186 7 = some (7, 182, 1) := by kernel_rfl
@[go_sem] theorem fOff_186_8 : fOff Tryz.prog 186 8 = some (8, 112, 1) := by kernel_rfl
@[go_sem] theorem fOff_186_9 : fOff Tryz.prog 186 9 = some (9, 183, 1) := by kernel_rfl
@[go_sem] theorem fOff_186_10 : fOff Tryz.prog 186 10 = some (10, 184, 1) := by kernel_rfl
end Go.Av.Ty
