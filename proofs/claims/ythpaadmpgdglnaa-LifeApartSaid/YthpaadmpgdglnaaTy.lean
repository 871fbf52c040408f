/- Closed facts on the types of the program, and that its functions are entered. No condition. -/
import Derived.Test.YthpaadmpgdglnaaK4
namespace Go.Proofs.Ythpaadmpgdglnaa
open Go Go.RowKit
theorem size_2 : (Try.prog.info? 2).map (·.size) = some 1 := by kernel_rfl
theorem one_2 : oneSize Try.prog 2 = true := by kernel_rfl
theorem zero_2 : zeroOf Try.prog 2 = some #[.int .i64 0] := by kernel_rfl
theorem size_3 : (Try.prog.info? 3).map (·.size) = some 1 := by kernel_rfl
theorem one_3 : oneSize Try.prog 3 = true := by kernel_rfl
theorem zero_3 : zeroOf Try.prog 3 = some #[.int .i64 0] := by kernel_rfl
theorem size_4 : (Try.prog.info? 4).map (·.size) = some 1 := by kernel_rfl
theorem one_4 : oneSize Try.prog 4 = true := by kernel_rfl
theorem bool_4 : Try.prog.underlying 4 = some .bool := by kernel_rfl
theorem zero_4 : zeroOf Try.prog 4 = some #[.bool false] := by kernel_rfl
theorem size_5 : (Try.prog.info? 5).map (·.size) = some 1 := by kernel_rfl
theorem one_5 : oneSize Try.prog 5 = true := by kernel_rfl
theorem size_6 : (Try.prog.info? 6).map (·.size) = some 1 := by kernel_rfl
theorem one_6 : oneSize Try.prog 6 = true := by kernel_rfl
theorem size_7 : (Try.prog.info? 7).map (·.size) = some 4 := by kernel_rfl
theorem agg_7 : aggSize Try.prog 7 = some 4 := by kernel_rfl
theorem foff_7_0 : fieldOff Try.prog 7 0 = some 0 := by kernel_rfl
theorem foff_7_1 : fieldOff Try.prog 7 1 = some 1 := by kernel_rfl
theorem foff_7_2 : fieldOff Try.prog 7 2 = some 2 := by kernel_rfl
theorem foff_7_3 : fieldOff Try.prog 7 3 = some 3 := by kernel_rfl
theorem size_8 : (Try.prog.info? 8).map (·.size) = some 4 := by kernel_rfl
theorem agg_8 : aggSize Try.prog 8 = some 4 := by kernel_rfl
theorem foff_8_0 : fieldOff Try.prog 8 0 = some 0 := by kernel_rfl
theorem foff_8_1 : fieldOff Try.prog 8 1 = some 1 := by kernel_rfl
theorem foff_8_2 : fieldOff Try.prog 8 2 = some 2 := by kernel_rfl
theorem foff_8_3 : fieldOff Try.prog 8 3 = some 3 := by kernel_rfl
theorem size_9 : (Try.prog.info? 9).map (·.size) = some 1 := by kernel_rfl
theorem one_9 : oneSize Try.prog 9 = true := by kernel_rfl
theorem size_10 : (Try.prog.info? 10).map (·.size) = some 1 := by kernel_rfl
theorem one_10 : oneSize Try.prog 10 = true := by kernel_rfl
theorem size_11 : (Try.prog.info? 11).map (·.size) = some 1 := by kernel_rfl
theorem one_11 : oneSize Try.prog 11 = true := by kernel_rfl
theorem size_12 : (Try.prog.info? 12).map (·.size) = some 1 := by kernel_rfl
theorem one_12 : oneSize Try.prog 12 = true := by kernel_rfl
theorem size_13 : (Try.prog.info? 13).map (·.size) = some 2 := by kernel_rfl
theorem agg_13 : aggSize Try.prog 13 = some 2 := by kernel_rfl
theorem foff_13_0 : fieldOff Try.prog 13 0 = some 0 := by kernel_rfl
theorem foff_13_1 : fieldOff Try.prog 13 1 = some 1 := by kernel_rfl
theorem size_14 : (Try.prog.info? 14).map (·.size) = some 2 := by kernel_rfl
theorem agg_14 : aggSize Try.prog 14 = some 2 := by kernel_rfl
theorem foff_14_0 : fieldOff Try.prog 14 0 = some 0 := by kernel_rfl
theorem foff_14_1 : fieldOff Try.prog 14 1 = some 1 := by kernel_rfl
theorem size_15 : (Try.prog.info? 15).map (·.size) = some 1 := by kernel_rfl
theorem one_15 : oneSize Try.prog 15 = true := by kernel_rfl
theorem zero_15 : zeroOf Try.prog 15 = some #[.pointer none] := by kernel_rfl
theorem size_16 : (Try.prog.info? 16).map (·.size) = some 1 := by kernel_rfl
theorem one_16 : oneSize Try.prog 16 = true := by kernel_rfl
theorem zero_16 : zeroOf Try.prog 16 = some #[.pointer none] := by kernel_rfl
theorem size_17 : (Try.prog.info? 17).map (·.size) = some 1 := by kernel_rfl
theorem one_17 : oneSize Try.prog 17 = true := by kernel_rfl
theorem zero_17 : zeroOf Try.prog 17 = some #[.pointer none] := by kernel_rfl
theorem size_18 : (Try.prog.info? 18).map (·.size) = some 1 := by kernel_rfl
theorem agg_18 : aggSize Try.prog 18 = some 1 := by kernel_rfl
theorem foff_18_0 : fieldOff Try.prog 18 0 = some 0 := by kernel_rfl
theorem zero_18 : zeroOf Try.prog 18 = some #[.pointer none] := by kernel_rfl
theorem size_19 : (Try.prog.info? 19).map (·.size) = some 1 := by kernel_rfl
theorem agg_19 : aggSize Try.prog 19 = some 1 := by kernel_rfl
theorem foff_19_0 : fieldOff Try.prog 19 0 = some 0 := by kernel_rfl
theorem zero_19 : zeroOf Try.prog 19 = some #[.pointer none] := by kernel_rfl
theorem size_21 : (Try.prog.info? 21).map (·.size) = some 1 := by kernel_rfl
theorem one_21 : oneSize Try.prog 21 = true := by kernel_rfl
theorem size_22 : (Try.prog.info? 22).map (·.size) = some 1 := by kernel_rfl
theorem one_22 : oneSize Try.prog 22 = true := by kernel_rfl
theorem el_22 : elOf Try.prog 22 = some (99, 5) := by kernel_rfl
theorem row_22 : elRow Try.prog 22 99 5 40 := row_of (by kernel_rfl)
theorem zero_22 : zeroOf Try.prog 22 = some #[.slice none 0 0] := by kernel_rfl
theorem size_23 : (Try.prog.info? 23).map (·.size) = some 1 := by kernel_rfl
theorem one_23 : oneSize Try.prog 23 = true := by kernel_rfl
theorem el_23 : elOf Try.prog 23 = some (45, 2) := by kernel_rfl
theorem row_23 : elRow Try.prog 23 45 2 16 := row_of (by kernel_rfl)
theorem zero_23 : zeroOf Try.prog 23 = some #[.slice none 0 0] := by kernel_rfl
theorem size_24 : (Try.prog.info? 24).map (·.size) = some 1 := by kernel_rfl
theorem one_24 : oneSize Try.prog 24 = true := by kernel_rfl
theorem el_24 : elOf Try.prog 24 = some (3, 1) := by kernel_rfl
theorem row_24 : elRow Try.prog 24 3 1 8 := row_of (by kernel_rfl)
theorem zero_24 : zeroOf Try.prog 24 = some #[.slice none 0 0] := by kernel_rfl
theorem size_26 : (Try.prog.info? 26).map (·.size) = some 1 := by kernel_rfl
theorem one_26 : oneSize Try.prog 26 = true := by kernel_rfl
theorem el_26 : elOf Try.prog 26 = some (34, 6) := by kernel_rfl
theorem row_26 : elRow Try.prog 26 34 6 48 := row_of (by kernel_rfl)
theorem zero_26 : zeroOf Try.prog 26 = some #[.slice none 0 0] := by kernel_rfl
theorem size_27 : (Try.prog.info? 27).map (·.size) = some 2 := by kernel_rfl
theorem agg_27 : aggSize Try.prog 27 = some 2 := by kernel_rfl
theorem foff_27_0 : fieldOff Try.prog 27 0 = some 0 := by kernel_rfl
theorem foff_27_1 : fieldOff Try.prog 27 1 = some 1 := by kernel_rfl
theorem zero_27 : zeroOf Try.prog 27 = some #[.slice none 0 0, .int .i64 0] := by kernel_rfl
theorem size_28 : (Try.prog.info? 28).map (·.size) = some 2 := by kernel_rfl
theorem agg_28 : aggSize Try.prog 28 = some 2 := by kernel_rfl
theorem foff_28_0 : fieldOff Try.prog 28 0 = some 0 := by kernel_rfl
theorem foff_28_1 : fieldOff Try.prog 28 1 = some 1 := by kernel_rfl
theorem zero_28 : zeroOf Try.prog 28 = some #[.slice none 0 0, .int .i64 0] := by kernel_rfl
theorem size_32 : (Try.prog.info? 32).map (·.size) = some 4 := by kernel_rfl
theorem agg_32 : aggSize Try.prog 32 = some 4 := by kernel_rfl
theorem arr_32 : arrOf Try.prog 32 = some (4, 1) := by kernel_rfl
theorem zero_32 : zeroOf Try.prog 32 = some #[.int .i64 0, .int .i64 0, .int .i64 0, .int .i64 0] := by kernel_rfl
theorem size_33 : (Try.prog.info? 33).map (·.size) = some 6 := by kernel_rfl
theorem agg_33 : aggSize Try.prog 33 = some 6 := by kernel_rfl
theorem foff_33_0 : fieldOff Try.prog 33 0 = some 0 := by kernel_rfl
theorem foff_33_1 : fieldOff Try.prog 33 1 = some 1 := by kernel_rfl
theorem foff_33_2 : fieldOff Try.prog 33 2 = some 5 := by kernel_rfl
theorem zero_33 : zeroOf Try.prog 33 = some #[.int .i64 0, .int .i64 0, .int .i64 0, .int .i64 0, .int .i64 0, .int .i64 0] := by kernel_rfl
theorem size_34 : (Try.prog.info? 34).map (·.size) = some 6 := by kernel_rfl
theorem agg_34 : aggSize Try.prog 34 = some 6 := by kernel_rfl
theorem foff_34_0 : fieldOff Try.prog 34 0 = some 0 := by kernel_rfl
theorem foff_34_1 : fieldOff Try.prog 34 1 = some 1 := by kernel_rfl
theorem foff_34_2 : fieldOff Try.prog 34 2 = some 5 := by kernel_rfl
theorem zero_34 : zeroOf Try.prog 34 = some #[.int .i64 0, .int .i64 0, .int .i64 0, .int .i64 0, .int .i64 0, .int .i64 0] := by kernel_rfl
theorem size_35 : (Try.prog.info? 35).map (·.size) = some 5 := by kernel_rfl
theorem agg_35 : aggSize Try.prog 35 = some 5 := by kernel_rfl
theorem foff_35_0 : fieldOff Try.prog 35 0 = some 0 := by kernel_rfl
theorem foff_35_1 : fieldOff Try.prog 35 1 = some 2 := by kernel_rfl
theorem foff_35_2 : fieldOff Try.prog 35 2 = some 3 := by kernel_rfl
theorem foff_35_3 : fieldOff Try.prog 35 3 = some 4 := by kernel_rfl
theorem zero_35 : zeroOf Try.prog 35 = some #[.slice none 0 0, .int .i64 0, .int .i64 0, .int .i64 0, .int .i64 0] := by kernel_rfl
theorem size_36 : (Try.prog.info? 36).map (·.size) = some 5 := by kernel_rfl
theorem agg_36 : aggSize Try.prog 36 = some 5 := by kernel_rfl
theorem foff_36_0 : fieldOff Try.prog 36 0 = some 0 := by kernel_rfl
theorem foff_36_1 : fieldOff Try.prog 36 1 = some 2 := by kernel_rfl
theorem foff_36_2 : fieldOff Try.prog 36 2 = some 3 := by kernel_rfl
theorem foff_36_3 : fieldOff Try.prog 36 3 = some 4 := by kernel_rfl
theorem zero_36 : zeroOf Try.prog 36 = some #[.slice none 0 0, .int .i64 0, .int .i64 0, .int .i64 0, .int .i64 0] := by kernel_rfl
theorem size_37 : (Try.prog.info? 37).map (·.size) = some 1 := by kernel_rfl
theorem one_37 : oneSize Try.prog 37 = true := by kernel_rfl
theorem zero_37 : zeroOf Try.prog 37 = some #[.int .i64 0] := by kernel_rfl
theorem size_45 : (Try.prog.info? 45).map (·.size) = some 2 := by kernel_rfl
theorem agg_45 : aggSize Try.prog 45 = some 2 := by kernel_rfl
theorem arr_45 : arrOf Try.prog 45 = some (2, 1) := by kernel_rfl
theorem zero_45 : zeroOf Try.prog 45 = some #[.int .i64 0, .int .i64 0] := by kernel_rfl
theorem size_46 : (Try.prog.info? 46).map (·.size) = some 1 := by kernel_rfl
theorem one_46 : oneSize Try.prog 46 = true := by kernel_rfl
theorem el_46 : elOf Try.prog 46 = some (55, 2) := by kernel_rfl
theorem row_46 : elRow Try.prog 46 55 2 16 := row_of (by kernel_rfl)
theorem zero_46 : zeroOf Try.prog 46 = some #[.slice none 0 0] := by kernel_rfl
theorem size_54 : (Try.prog.info? 54).map (·.size) = some 2 := by kernel_rfl
theorem agg_54 : aggSize Try.prog 54 = some 2 := by kernel_rfl
theorem foff_54_0 : fieldOff Try.prog 54 0 = some 0 := by kernel_rfl
theorem foff_54_1 : fieldOff Try.prog 54 1 = some 1 := by kernel_rfl
theorem zero_54 : zeroOf Try.prog 54 = some #[.int .i64 0, .int .i64 0] := by kernel_rfl
theorem size_55 : (Try.prog.info? 55).map (·.size) = some 2 := by kernel_rfl
theorem agg_55 : aggSize Try.prog 55 = some 2 := by kernel_rfl
theorem foff_55_0 : fieldOff Try.prog 55 0 = some 0 := by kernel_rfl
theorem foff_55_1 : fieldOff Try.prog 55 1 = some 1 := by kernel_rfl
theorem zero_55 : zeroOf Try.prog 55 = some #[.int .i64 0, .int .i64 0] := by kernel_rfl
theorem size_62 : (Try.prog.info? 62).map (·.size) = some 1 := by kernel_rfl
theorem one_62 : oneSize Try.prog 62 = true := by kernel_rfl
theorem el_62 : elOf Try.prog 62 = some (46, 1) := by kernel_rfl
theorem row_62 : elRow Try.prog 62 46 1 24 := row_of (by kernel_rfl)
theorem zero_62 : zeroOf Try.prog 62 = some #[.slice none 0 0] := by kernel_rfl
theorem size_68 : (Try.prog.info? 68).map (·.size) = some 4 := by kernel_rfl
theorem agg_68 : aggSize Try.prog 68 = some 4 := by kernel_rfl
theorem foff_68_0 : fieldOff Try.prog 68 0 = some 0 := by kernel_rfl
theorem foff_68_1 : fieldOff Try.prog 68 1 = some 1 := by kernel_rfl
theorem foff_68_2 : fieldOff Try.prog 68 2 = some 2 := by kernel_rfl
theorem foff_68_3 : fieldOff Try.prog 68 3 = some 3 := by kernel_rfl
theorem zero_68 : zeroOf Try.prog 68 = some #[.int .i64 0, .int .i64 0, .int .i64 0, .int .i64 0] := by kernel_rfl
theorem size_69 : (Try.prog.info? 69).map (·.size) = some 4 := by kernel_rfl
theorem agg_69 : aggSize Try.prog 69 = some 4 := by kernel_rfl
theorem foff_69_0 : fieldOff Try.prog 69 0 = some 0 := by kernel_rfl
theorem foff_69_1 : fieldOff Try.prog 69 1 = some 1 := by kernel_rfl
theorem foff_69_2 : fieldOff Try.prog 69 2 = some 2 := by kernel_rfl
theorem foff_69_3 : fieldOff Try.prog 69 3 = some 3 := by kernel_rfl
theorem zero_69 : zeroOf Try.prog 69 = some #[.int .i64 0, .int .i64 0, .int .i64 0, .int .i64 0] := by kernel_rfl
theorem size_78 : (Try.prog.info? 78).map (·.size) = some 1 := by kernel_rfl
theorem one_78 : oneSize Try.prog 78 = true := by kernel_rfl
theorem el_78 : elOf Try.prog 78 = some (4, 1) := by kernel_rfl
theorem row_78 : elRow Try.prog 78 4 1 1 := row_of (by kernel_rfl)
theorem zero_78 : zeroOf Try.prog 78 = some #[.slice none 0 0] := by kernel_rfl
theorem size_82 : (Try.prog.info? 82).map (·.size) = some 4 := by kernel_rfl
theorem agg_82 : aggSize Try.prog 82 = some 4 := by kernel_rfl
theorem arr_82 : arrOf Try.prog 82 = some (4, 1) := by kernel_rfl
theorem zero_82 : zeroOf Try.prog 82 = some #[.bool false, .bool false, .bool false, .bool false] := by kernel_rfl
theorem size_83 : (Try.prog.info? 83).map (·.size) = some 1 := by kernel_rfl
theorem one_83 : oneSize Try.prog 83 = true := by kernel_rfl
theorem el_83 : elOf Try.prog 83 = some (28, 2) := by kernel_rfl
theorem row_83 : elRow Try.prog 83 28 2 32 := row_of (by kernel_rfl)
theorem zero_83 : zeroOf Try.prog 83 = some #[.slice none 0 0] := by kernel_rfl
theorem size_99 : (Try.prog.info? 99).map (·.size) = some 5 := by kernel_rfl
theorem agg_99 : aggSize Try.prog 99 = some 5 := by kernel_rfl
theorem arr_99 : arrOf Try.prog 99 = some (5, 1) := by kernel_rfl
theorem zero_99 : zeroOf Try.prog 99 = some #[.int .i64 0, .int .i64 0, .int .i64 0, .int .i64 0, .int .i64 0] := by kernel_rfl
theorem size_100 : (Try.prog.info? 100).map (·.size) = some 1 := by kernel_rfl
theorem one_100 : oneSize Try.prog 100 = true := by kernel_rfl
theorem zero_100 : zeroOf Try.prog 100 = some #[.pointer none] := by kernel_rfl
theorem size_101 : (Try.prog.info? 101).map (·.size) = some 1 := by kernel_rfl
theorem agg_101 : aggSize Try.prog 101 = some 1 := by kernel_rfl
theorem foff_101_0 : fieldOff Try.prog 101 0 = some 0 := by kernel_rfl
theorem zero_101 : zeroOf Try.prog 101 = some #[.pointer none] := by kernel_rfl
theorem size_102 : (Try.prog.info? 102).map (·.size) = some 1 := by kernel_rfl
theorem agg_102 : aggSize Try.prog 102 = some 1 := by kernel_rfl
theorem foff_102_0 : fieldOff Try.prog 102 0 = some 0 := by kernel_rfl
theorem zero_102 : zeroOf Try.prog 102 = some #[.pointer none] := by kernel_rfl
theorem size_105 : (Try.prog.info? 105).map (·.size) = some 1 := by kernel_rfl
theorem one_105 : oneSize Try.prog 105 = true := by kernel_rfl
theorem zero_105 : zeroOf Try.prog 105 = some #[.pointer none] := by kernel_rfl
theorem size_106 : (Try.prog.info? 106).map (·.size) = some 1 := by kernel_rfl
theorem one_106 : oneSize Try.prog 106 = true := by kernel_rfl
theorem el_106 : elOf Try.prog 106 = some (24, 1) := by kernel_rfl
theorem row_106 : elRow Try.prog 106 24 1 24 := row_of (by kernel_rfl)
theorem zero_106 : zeroOf Try.prog 106 = some #[.slice none 0 0] := by kernel_rfl
theorem size_107 : (Try.prog.info? 107).map (·.size) = some 1 := by kernel_rfl
theorem one_107 : oneSize Try.prog 107 = true := by kernel_rfl
theorem map_107 : Try.prog.underlying 107 = some (.map 113 3) := by kernel_rfl
theorem zero_107 : zeroOf Try.prog 107 = some #[.map none] := by kernel_rfl
theorem size_108 : (Try.prog.info? 108).map (·.size) = some 1 := by kernel_rfl
theorem one_108 : oneSize Try.prog 108 = true := by kernel_rfl
theorem el_108 : elOf Try.prog 108 = some (169, 1) := by kernel_rfl
theorem row_108 : elRow Try.prog 108 169 1 8 := row_of (by kernel_rfl)
theorem zero_108 : zeroOf Try.prog 108 = some #[.slice none 0 0] := by kernel_rfl
theorem size_109 : (Try.prog.info? 109).map (·.size) = some 6 := by kernel_rfl
theorem agg_109 : aggSize Try.prog 109 = some 6 := by kernel_rfl
theorem foff_109_0 : fieldOff Try.prog 109 0 = some 0 := by kernel_rfl
theorem foff_109_1 : fieldOff Try.prog 109 1 = some 1 := by kernel_rfl
theorem foff_109_2 : fieldOff Try.prog 109 2 = some 2 := by kernel_rfl
theorem foff_109_3 : fieldOff Try.prog 109 3 = some 3 := by kernel_rfl
theorem foff_109_4 : fieldOff Try.prog 109 4 = some 4 := by kernel_rfl
theorem foff_109_5 : fieldOff Try.prog 109 5 = some 5 := by kernel_rfl
theorem zero_109 : zeroOf Try.prog 109 = some #[.pointer none, .slice none 0 0, .slice none 0 0, .map none, .int .i64 0, .bool false] := by kernel_rfl
theorem size_110 : (Try.prog.info? 110).map (·.size) = some 6 := by kernel_rfl
theorem agg_110 : aggSize Try.prog 110 = some 6 := by kernel_rfl
theorem foff_110_0 : fieldOff Try.prog 110 0 = some 0 := by kernel_rfl
theorem foff_110_1 : fieldOff Try.prog 110 1 = some 1 := by kernel_rfl
theorem foff_110_2 : fieldOff Try.prog 110 2 = some 2 := by kernel_rfl
theorem foff_110_3 : fieldOff Try.prog 110 3 = some 3 := by kernel_rfl
theorem foff_110_4 : fieldOff Try.prog 110 4 = some 4 := by kernel_rfl
theorem foff_110_5 : fieldOff Try.prog 110 5 = some 5 := by kernel_rfl
theorem zero_110 : zeroOf Try.prog 110 = some #[.pointer none, .slice none 0 0, .slice none 0 0, .map none, .int .i64 0, .bool false] := by kernel_rfl
theorem size_112 : (Try.prog.info? 112).map (·.size) = some 2 := by kernel_rfl
theorem agg_112 : aggSize Try.prog 112 = some 2 := by kernel_rfl
theorem foff_112_0 : fieldOff Try.prog 112 0 = some 0 := by kernel_rfl
theorem foff_112_1 : fieldOff Try.prog 112 1 = some 1 := by kernel_rfl
theorem zero_112 : zeroOf Try.prog 112 = some #[.int .i64 0, .int .i64 0] := by kernel_rfl
theorem size_113 : (Try.prog.info? 113).map (·.size) = some 2 := by kernel_rfl
theorem agg_113 : aggSize Try.prog 113 = some 2 := by kernel_rfl
theorem foff_113_0 : fieldOff Try.prog 113 0 = some 0 := by kernel_rfl
theorem foff_113_1 : fieldOff Try.prog 113 1 = some 1 := by kernel_rfl
theorem zero_113 : zeroOf Try.prog 113 = some #[.int .i64 0, .int .i64 0] := by kernel_rfl
theorem size_114 : (Try.prog.info? 114).map (·.size) = some 9 := by kernel_rfl
theorem agg_114 : aggSize Try.prog 114 = some 9 := by kernel_rfl
theorem arr_114 : arrOf Try.prog 114 = some (9, 1) := by kernel_rfl
theorem zero_114 : zeroOf Try.prog 114 = some #[.int .i64 0, .int .i64 0, .int .i64 0, .int .i64 0, .int .i64 0, .int .i64 0, .int .i64 0, .int .i64 0, .int .i64 0] := by kernel_rfl
theorem size_115 : (Try.prog.info? 115).map (·.size) = some 15 := by kernel_rfl
theorem agg_115 : aggSize Try.prog 115 = some 15 := by kernel_rfl
theorem foff_115_0 : fieldOff Try.prog 115 0 = some 0 := by kernel_rfl
theorem foff_115_1 : fieldOff Try.prog 115 1 = some 2 := by kernel_rfl
theorem foff_115_2 : fieldOff Try.prog 115 2 = some 3 := by kernel_rfl
theorem foff_115_3 : fieldOff Try.prog 115 3 = some 4 := by kernel_rfl
theorem foff_115_4 : fieldOff Try.prog 115 4 = some 5 := by kernel_rfl
theorem foff_115_5 : fieldOff Try.prog 115 5 = some 6 := by kernel_rfl
theorem zero_115 : zeroOf Try.prog 115 = some #[.int .i64 0, .int .i64 0, .int .i64 0, .int .i64 0, .int .i64 0, .int .i64 0, .int .i64 0, .int .i64 0, .int .i64 0, .int .i64 0, .int .i64 0, .int .i64 0, .int .i64 0, .int .i64 0, .int .i64 0] := by kernel_rfl
theorem size_116 : (Try.prog.info? 116).map (·.size) = some 15 := by kernel_rfl
theorem agg_116 : aggSize Try.prog 116 = some 15 := by kernel_rfl
theorem foff_116_0 : fieldOff Try.prog 116 0 = some 0 := by kernel_rfl
theorem foff_116_1 : fieldOff Try.prog 116 1 = some 2 := by kernel_rfl
theorem foff_116_2 : fieldOff Try.prog 116 2 = some 3 := by kernel_rfl
theorem foff_116_3 : fieldOff Try.prog 116 3 = some 4 := by kernel_rfl
theorem foff_116_4 : fieldOff Try.prog 116 4 = some 5 := by kernel_rfl
theorem foff_116_5 : fieldOff Try.prog 116 5 = some 6 := by kernel_rfl
theorem zero_116 : zeroOf Try.prog 116 = some #[.int .i64 0, .int .i64 0, .int .i64 0, .int .i64 0, .int .i64 0, .int .i64 0, .int .i64 0, .int .i64 0, .int .i64 0, .int .i64 0, .int .i64 0, .int .i64 0, .int .i64 0, .int .i64 0, .int .i64 0] := by kernel_rfl
theorem size_119 : (Try.prog.info? 119).map (·.size) = some 1 := by kernel_rfl
theorem one_119 : oneSize Try.prog 119 = true := by kernel_rfl
theorem map_119 : Try.prog.underlying 119 = some (.map 32 3) := by kernel_rfl
theorem zero_119 : zeroOf Try.prog 119 = some #[.map none] := by kernel_rfl
theorem size_120 : (Try.prog.info? 120).map (·.size) = some 3 := by kernel_rfl
theorem agg_120 : aggSize Try.prog 120 = some 3 := by kernel_rfl
theorem foff_120_0 : fieldOff Try.prog 120 0 = some 0 := by kernel_rfl
theorem foff_120_1 : fieldOff Try.prog 120 1 = some 2 := by kernel_rfl
theorem zero_120 : zeroOf Try.prog 120 = some #[.slice none 0 0, .int .i64 0, .map none] := by kernel_rfl
theorem size_121 : (Try.prog.info? 121).map (·.size) = some 3 := by kernel_rfl
theorem agg_121 : aggSize Try.prog 121 = some 3 := by kernel_rfl
theorem foff_121_0 : fieldOff Try.prog 121 0 = some 0 := by kernel_rfl
theorem foff_121_1 : fieldOff Try.prog 121 1 = some 2 := by kernel_rfl
theorem zero_121 : zeroOf Try.prog 121 = some #[.slice none 0 0, .int .i64 0, .map none] := by kernel_rfl
theorem size_123 : (Try.prog.info? 123).map (·.size) = some 1 := by kernel_rfl
theorem one_123 : oneSize Try.prog 123 = true := by kernel_rfl
theorem zero_123 : zeroOf Try.prog 123 = some #[.pointer none] := by kernel_rfl
theorem size_124 : (Try.prog.info? 124).map (·.size) = some 1 := by kernel_rfl
theorem one_124 : oneSize Try.prog 124 = true := by kernel_rfl
theorem el_124 : elOf Try.prog 124 = some (174, 3) := by kernel_rfl
theorem row_124 : elRow Try.prog 124 174 3 24 := row_of (by kernel_rfl)
theorem zero_124 : zeroOf Try.prog 124 = some #[.slice none 0 0] := by kernel_rfl
theorem size_125 : (Try.prog.info? 125).map (·.size) = some 4 := by kernel_rfl
theorem agg_125 : aggSize Try.prog 125 = some 4 := by kernel_rfl
theorem foff_125_0 : fieldOff Try.prog 125 0 = some 0 := by kernel_rfl
theorem foff_125_1 : fieldOff Try.prog 125 1 = some 2 := by kernel_rfl
theorem foff_125_2 : fieldOff Try.prog 125 2 = some 3 := by kernel_rfl
theorem zero_125 : zeroOf Try.prog 125 = some #[.slice none 0 0, .int .i64 0, .slice none 0 0, .int .i64 0] := by kernel_rfl
theorem size_126 : (Try.prog.info? 126).map (·.size) = some 4 := by kernel_rfl
theorem agg_126 : aggSize Try.prog 126 = some 4 := by kernel_rfl
theorem foff_126_0 : fieldOff Try.prog 126 0 = some 0 := by kernel_rfl
theorem foff_126_1 : fieldOff Try.prog 126 1 = some 2 := by kernel_rfl
theorem foff_126_2 : fieldOff Try.prog 126 2 = some 3 := by kernel_rfl
theorem zero_126 : zeroOf Try.prog 126 = some #[.slice none 0 0, .int .i64 0, .slice none 0 0, .int .i64 0] := by kernel_rfl
theorem size_131 : (Try.prog.info? 131).map (·.size) = some 1 := by kernel_rfl
theorem one_131 : oneSize Try.prog 131 = true := by kernel_rfl
theorem map_131 : Try.prog.underlying 131 = some (.map 55 3) := by kernel_rfl
theorem zero_131 : zeroOf Try.prog 131 = some #[.map none] := by kernel_rfl
theorem size_142 : (Try.prog.info? 142).map (·.size) = some 2 := by kernel_rfl
theorem agg_142 : aggSize Try.prog 142 = some 2 := by kernel_rfl
theorem foff_142_0 : fieldOff Try.prog 142 0 = some 0 := by kernel_rfl
theorem foff_142_1 : fieldOff Try.prog 142 1 = some 1 := by kernel_rfl
theorem zero_142 : zeroOf Try.prog 142 = some #[.int .i64 0, .int .i64 0] := by kernel_rfl
theorem size_148 : (Try.prog.info? 148).map (·.size) = some 1 := by kernel_rfl
theorem agg_148 : aggSize Try.prog 148 = some 1 := by kernel_rfl
theorem foff_148_0 : fieldOff Try.prog 148 0 = some 0 := by kernel_rfl
theorem zero_148 : zeroOf Try.prog 148 = some #[.pointer none] := by kernel_rfl
theorem size_152 : (Try.prog.info? 152).map (·.size) = some 1 := by kernel_rfl
theorem one_152 : oneSize Try.prog 152 = true := by kernel_rfl
theorem el_152 : elOf Try.prog 152 = some (154, 2) := by kernel_rfl
theorem row_152 : elRow Try.prog 152 154 2 16 := row_of (by kernel_rfl)
theorem zero_152 : zeroOf Try.prog 152 = some #[.slice none 0 0] := by kernel_rfl
theorem size_153 : (Try.prog.info? 153).map (·.size) = some 2 := by kernel_rfl
theorem agg_153 : aggSize Try.prog 153 = some 2 := by kernel_rfl
theorem foff_153_0 : fieldOff Try.prog 153 0 = some 0 := by kernel_rfl
theorem foff_153_1 : fieldOff Try.prog 153 1 = some 1 := by kernel_rfl
theorem zero_153 : zeroOf Try.prog 153 = some #[.int .i64 0, .int .i64 0] := by kernel_rfl
theorem size_154 : (Try.prog.info? 154).map (·.size) = some 2 := by kernel_rfl
theorem agg_154 : aggSize Try.prog 154 = some 2 := by kernel_rfl
theorem foff_154_0 : fieldOff Try.prog 154 0 = some 0 := by kernel_rfl
theorem foff_154_1 : fieldOff Try.prog 154 1 = some 1 := by kernel_rfl
theorem zero_154 : zeroOf Try.prog 154 = some #[.int .i64 0, .int .i64 0] := by kernel_rfl
theorem size_155 : (Try.prog.info? 155).map (·.size) = some 1 := by kernel_rfl
theorem one_155 : oneSize Try.prog 155 = true := by kernel_rfl
theorem size_157 : (Try.prog.info? 157).map (·.size) = some 1 := by kernel_rfl
theorem one_157 : oneSize Try.prog 157 = true := by kernel_rfl
theorem el_157 : elOf Try.prog 157 = some (69, 4) := by kernel_rfl
theorem row_157 : elRow Try.prog 157 69 4 32 := row_of (by kernel_rfl)
theorem zero_157 : zeroOf Try.prog 157 = some #[.slice none 0 0] := by kernel_rfl
theorem size_169 : (Try.prog.info? 169).map (·.size) = some 1 := by kernel_rfl
theorem one_169 : oneSize Try.prog 169 = true := by kernel_rfl
theorem zero_169 : zeroOf Try.prog 169 = some #[.pointer none] := by kernel_rfl
theorem size_173 : (Try.prog.info? 173).map (·.size) = some 3 := by kernel_rfl
theorem agg_173 : aggSize Try.prog 173 = some 3 := by kernel_rfl
theorem foff_173_0 : fieldOff Try.prog 173 0 = some 0 := by kernel_rfl
theorem foff_173_1 : fieldOff Try.prog 173 1 = some 1 := by kernel_rfl
theorem foff_173_2 : fieldOff Try.prog 173 2 = some 2 := by kernel_rfl
theorem zero_173 : zeroOf Try.prog 173 = some #[.int .i64 0, .int .i64 0, .int .i64 0] := by kernel_rfl
theorem size_174 : (Try.prog.info? 174).map (·.size) = some 3 := by kernel_rfl
theorem agg_174 : aggSize Try.prog 174 = some 3 := by kernel_rfl
theorem foff_174_0 : fieldOff Try.prog 174 0 = some 0 := by kernel_rfl
theorem foff_174_1 : fieldOff Try.prog 174 1 = some 1 := by kernel_rfl
theorem foff_174_2 : fieldOff Try.prog 174 2 = some 2 := by kernel_rfl
theorem zero_174 : zeroOf Try.prog 174 = some #[.int .i64 0, .int .i64 0, .int .i64 0] := by kernel_rfl
theorem size_177 : (Try.prog.info? 177).map (·.size) = some 4 := by kernel_rfl
theorem agg_177 : aggSize Try.prog 177 = some 4 := by kernel_rfl
theorem arr_177 : arrOf Try.prog 177 = some (4, 1) := by kernel_rfl
theorem zero_177 : zeroOf Try.prog 177 = some #[.slice none 0 0, .slice none 0 0, .slice none 0 0, .slice none 0 0] := by kernel_rfl
theorem size_198 : (Try.prog.info? 198).map (·.size) = some 1 := by kernel_rfl
theorem one_198 : oneSize Try.prog 198 = true := by kernel_rfl
theorem zero_198 : zeroOf Try.prog 198 = some #[.int .i64 0] := by kernel_rfl
theorem size_205 : (Try.prog.info? 205).map (·.size) = some 1 := by kernel_rfl
theorem one_205 : oneSize Try.prog 205 = true := by kernel_rfl
theorem size_207 : (Try.prog.info? 207).map (·.size) = some 1 := by kernel_rfl
theorem one_207 : oneSize Try.prog 207 = true := by kernel_rfl
theorem size_219 : (Try.prog.info? 219).map (·.size) = some 1 := by kernel_rfl
theorem one_219 : oneSize Try.prog 219 = true := by kernel_rfl
theorem size_223 : (Try.prog.info? 223).map (·.size) = some 1 := by kernel_rfl
theorem one_223 : oneSize Try.prog 223 = true := by kernel_rfl
theorem zero_223 : zeroOf Try.prog 223 = some #[.pointer none] := by kernel_rfl
theorem size_226 : (Try.prog.info? 226).map (·.size) = some 16 := by kernel_rfl
theorem agg_226 : aggSize Try.prog 226 = some 16 := by kernel_rfl
theorem arr_226 : arrOf Try.prog 226 = some (16, 1) := by kernel_rfl
theorem zero_226 : zeroOf Try.prog 226 = some #[.int .i64 0, .int .i64 0, .int .i64 0, .int .i64 0, .int .i64 0, .int .i64 0, .int .i64 0, .int .i64 0, .int .i64 0, .int .i64 0, .int .i64 0, .int .i64 0, .int .i64 0, .int .i64 0, .int .i64 0, .int .i64 0] := by kernel_rfl
theorem size_227 : (Try.prog.info? 227).map (·.size) = some 16 := by kernel_rfl
theorem agg_227 : aggSize Try.prog 227 = some 16 := by kernel_rfl
theorem arr_227 : arrOf Try.prog 227 = some (16, 1) := by kernel_rfl
theorem zero_227 : zeroOf Try.prog 227 = some #[.int .i64 0, .int .i64 0, .int .i64 0, .int .i64 0, .int .i64 0, .int .i64 0, .int .i64 0, .int .i64 0, .int .i64 0, .int .i64 0, .int .i64 0, .int .i64 0, .int .i64 0, .int .i64 0, .int .i64 0, .int .i64 0] := by kernel_rfl
theorem size_230 : (Try.prog.info? 230).map (·.size) = some 1 := by kernel_rfl
theorem one_230 : oneSize Try.prog 230 = true := by kernel_rfl
theorem zero_230 : zeroOf Try.prog 230 = some #[.pointer none] := by kernel_rfl
theorem size_234 : (Try.prog.info? 234).map (·.size) = some 4 := by kernel_rfl
theorem agg_234 : aggSize Try.prog 234 = some 4 := by kernel_rfl
theorem foff_234_0 : fieldOff Try.prog 234 0 = some 0 := by kernel_rfl
theorem foff_234_1 : fieldOff Try.prog 234 1 = some 1 := by kernel_rfl
theorem foff_234_2 : fieldOff Try.prog 234 2 = some 2 := by kernel_rfl
theorem foff_234_3 : fieldOff Try.prog 234 3 = some 3 := by kernel_rfl
theorem size_235 : (Try.prog.info? 235).map (·.size) = some 4 := by kernel_rfl
theorem agg_235 : aggSize Try.prog 235 = some 4 := by kernel_rfl
theorem foff_235_0 : fieldOff Try.prog 235 0 = some 0 := by kernel_rfl
theorem foff_235_1 : fieldOff Try.prog 235 1 = some 1 := by kernel_rfl
theorem foff_235_2 : fieldOff Try.prog 235 2 = some 2 := by kernel_rfl
theorem foff_235_3 : fieldOff Try.prog 235 3 = some 3 := by kernel_rfl
theorem size_236 : (Try.prog.info? 236).map (·.size) = some 0 := by kernel_rfl
theorem agg_236 : aggSize Try.prog 236 = some 0 := by kernel_rfl
theorem arr_236 : arrOf Try.prog 236 = some (0, 1) := by kernel_rfl
theorem zero_236 : zeroOf Try.prog 236 = some #[] := by kernel_rfl
theorem size_237 : (Try.prog.info? 237).map (·.size) = some 0 := by kernel_rfl
theorem agg_237 : aggSize Try.prog 237 = some 0 := by kernel_rfl
theorem zero_237 : zeroOf Try.prog 237 = some #[] := by kernel_rfl
theorem size_238 : (Try.prog.info? 238).map (·.size) = some 0 := by kernel_rfl
theorem agg_238 : aggSize Try.prog 238 = some 0 := by kernel_rfl
theorem zero_238 : zeroOf Try.prog 238 = some #[] := by kernel_rfl
theorem size_240 : (Try.prog.info? 240).map (·.size) = some 1 := by kernel_rfl
theorem one_240 : oneSize Try.prog 240 = true := by kernel_rfl
theorem size_241 : (Try.prog.info? 241).map (·.size) = some 1 := by kernel_rfl
theorem one_241 : oneSize Try.prog 241 = true := by kernel_rfl
theorem size_243 : (Try.prog.info? 243).map (·.size) = some 1 := by kernel_rfl
theorem one_243 : oneSize Try.prog 243 = true := by kernel_rfl
theorem zero_243 : zeroOf Try.prog 243 = some #[.pointer none] := by kernel_rfl
theorem size_244 : (Try.prog.info? 244).map (·.size) = some 1 := by kernel_rfl
theorem one_244 : oneSize Try.prog 244 = true := by kernel_rfl
theorem size_245 : (Try.prog.info? 245).map (·.size) = some 1 := by kernel_rfl
theorem one_245 : oneSize Try.prog 245 = true := by kernel_rfl
theorem size_246 : (Try.prog.info? 246).map (·.size) = some 11 := by kernel_rfl
theorem agg_246 : aggSize Try.prog 246 = some 11 := by kernel_rfl
theorem foff_246_0 : fieldOff Try.prog 246 0 = some 0 := by kernel_rfl
theorem foff_246_1 : fieldOff Try.prog 246 1 = some 1 := by kernel_rfl
theorem foff_246_2 : fieldOff Try.prog 246 2 = some 2 := by kernel_rfl
theorem foff_246_3 : fieldOff Try.prog 246 3 = some 3 := by kernel_rfl
theorem foff_246_4 : fieldOff Try.prog 246 4 = some 4 := by kernel_rfl
theorem foff_246_5 : fieldOff Try.prog 246 5 = some 5 := by kernel_rfl
theorem foff_246_6 : fieldOff Try.prog 246 6 = some 6 := by kernel_rfl
theorem foff_246_8 : fieldOff Try.prog 246 8 = some 8 := by kernel_rfl
theorem foff_246_9 : fieldOff Try.prog 246 9 = some 9 := by kernel_rfl
theorem foff_246_10 : fieldOff Try.prog 246 10 = some 10 := by kernel_rfl
theorem size_247 : (Try.prog.info? 247).map (·.size) = some 11 := by kernel_rfl
theorem agg_247 : aggSize Try.prog 247 = some 11 := by kernel_rfl
theorem foff_247_0 : fieldOff Try.prog 247 0 = some 0 := by kernel_rfl
theorem foff_247_1 : fieldOff Try.prog 247 1 = some 1 := by kernel_rfl
theorem foff_247_2 : fieldOff Try.prog 247 2 = some 2 := by kernel_rfl
theorem foff_247_3 : fieldOff Try.prog 247 3 = some 3 := by kernel_rfl
theorem foff_247_4 : fieldOff Try.prog 247 4 = some 4 := by kernel_rfl
theorem foff_247_5 : fieldOff Try.prog 247 5 = some 5 := by kernel_rfl
theorem foff_247_6 : fieldOff Try.prog 247 6 = some 6 := by kernel_rfl
theorem foff_247_8 : fieldOff Try.prog 247 8 = some 8 := by kernel_rfl
theorem foff_247_9 : fieldOff Try.prog 247 9 = some 9 := by kernel_rfl
theorem foff_247_10 : fieldOff Try.prog 247 10 = some 10 := by kernel_rfl
theorem ent_3 : Enters Try.prog 3 := enters Try.func3 (by kernel_rfl) rfl
theorem ent_4 : Enters Try.prog 4 := enters Try.func4 (by kernel_rfl) rfl
theorem ent_5 : Enters Try.prog 5 := enters Try.func5 (by kernel_rfl) rfl
theorem ent_6 : Enters Try.prog 6 := enters Try.func6 (by kernel_rfl) rfl
theorem ent_7 : Enters Try.prog 7 := enters Try.func7 (by kernel_rfl) rfl
theorem ent_8 : Enters Try.prog 8 := enters Try.func8 (by kernel_rfl) rfl
theorem ent_9 : Enters Try.prog 9 := enters Try.func9 (by kernel_rfl) rfl
theorem ent_10 : Enters Try.prog 10 := enters Try.func10 (by kernel_rfl) rfl
theorem ent_11 : Enters Try.prog 11 := enters Try.func11 (by kernel_rfl) rfl
theorem ent_12 : Enters Try.prog 12 := enters Try.func12 (by kernel_rfl) rfl
theorem ent_13 : Enters Try.prog 13 := enters Try.func13 (by kernel_rfl) rfl
theorem ent_14 : Enters Try.prog 14 := enters Try.func14 (by kernel_rfl) rfl
theorem ent_15 : Enters Try.prog 15 := enters Try.func15 (by kernel_rfl) rfl
theorem ent_16 : Enters Try.prog 16 := enters Try.func16 (by kernel_rfl) rfl
theorem ent_17 : Enters Try.prog 17 := enters Try.func17 (by kernel_rfl) rfl
theorem ent_18 : Enters Try.prog 18 := enters Try.func18 (by kernel_rfl) rfl
theorem ent_19 : Enters Try.prog 19 := enters Try.func19 (by kernel_rfl) rfl
theorem ent_20 : Enters Try.prog 20 := enters Try.func20 (by kernel_rfl) rfl
theorem ent_21 : Enters Try.prog 21 := enters Try.func21 (by kernel_rfl) rfl
theorem ent_22 : Enters Try.prog 22 := enters Try.func22 (by kernel_rfl) rfl
theorem ent_23 : Enters Try.prog 23 := enters Try.func23 (by kernel_rfl) rfl
theorem ent_24 : Enters Try.prog 24 := enters Try.func24 (by kernel_rfl) rfl
theorem ent_25 : Enters Try.prog 25 := enters Try.func25 (by kernel_rfl) rfl
theorem ent_26 : Enters Try.prog 26 := enters Try.func26 (by kernel_rfl) rfl
theorem ent_27 : Enters Try.prog 27 := enters Try.func27 (by kernel_rfl) rfl
theorem ent_28 : Enters Try.prog 28 := enters Try.func28 (by kernel_rfl) rfl
theorem ent_29 : Enters Try.prog 29 := enters Try.func29 (by kernel_rfl) rfl
theorem ent_30 : Enters Try.prog 30 := enters Try.func30 (by kernel_rfl) rfl
theorem ent_31 : Enters Try.prog 31 := enters Try.func31 (by kernel_rfl) rfl
theorem ent_32 : Enters Try.prog 32 := enters Try.func32 (by kernel_rfl) rfl
theorem ent_33 : Enters Try.prog 33 := enters Try.func33 (by kernel_rfl) rfl
theorem ent_34 : Enters Try.prog 34 := enters Try.func34 (by kernel_rfl) rfl
theorem ent_35 : Enters Try.prog 35 := enters Try.func35 (by kernel_rfl) rfl
theorem ent_36 : Enters Try.prog 36 := enters Try.func36 (by kernel_rfl) rfl
theorem ent_37 : Enters Try.prog 37 := enters Try.func37 (by kernel_rfl) rfl
theorem ent_38 : Enters Try.prog 38 := enters Try.func38 (by kernel_rfl) rfl
theorem ent_39 : Enters Try.prog 39 := enters Try.func39 (by kernel_rfl) rfl
theorem ent_40 : Enters Try.prog 40 := enters Try.func40 (by kernel_rfl) rfl
theorem ent_41 : Enters Try.prog 41 := enters Try.func41 (by kernel_rfl) rfl
theorem ent_42 : Enters Try.prog 42 := enters Try.func42 (by kernel_rfl) rfl
theorem ent_43 : Enters Try.prog 43 := enters Try.func43 (by kernel_rfl) rfl
theorem ent_44 : Enters Try.prog 44 := enters Try.func44 (by kernel_rfl) rfl
theorem ent_45 : Enters Try.prog 45 := enters Try.func45 (by kernel_rfl) rfl
theorem ent_46 : Enters Try.prog 46 := enters Try.func46 (by kernel_rfl) rfl
theorem ent_47 : Enters Try.prog 47 := enters Try.func47 (by kernel_rfl) rfl
theorem ent_48 : Enters Try.prog 48 := enters Try.func48 (by kernel_rfl) rfl
theorem ent_49 : Enters Try.prog 49 := enters Try.func49 (by kernel_rfl) rfl
theorem ent_50 : Enters Try.prog 50 := enters Try.func50 (by kernel_rfl) rfl
theorem ent_51 : Enters Try.prog 51 := enters Try.func51 (by kernel_rfl) rfl
theorem ent_52 : Enters Try.prog 52 := enters Try.func52 (by kernel_rfl) rfl
theorem ent_53 : Enters Try.prog 53 := enters Try.func53 (by kernel_rfl) rfl
theorem ent_54 : Enters Try.prog 54 := enters Try.func54 (by kernel_rfl) rfl
theorem ent_55 : Enters Try.prog 55 := enters Try.func55 (by kernel_rfl) rfl
theorem ent_56 : Enters Try.prog 56 := enters Try.func56 (by kernel_rfl) rfl
theorem ent_57 : Enters Try.prog 57 := enters Try.func57 (by kernel_rfl) rfl
theorem ent_58 : Enters Try.prog 58 := enters Try.func58 (by kernel_rfl) rfl
theorem ent_59 : Enters Try.prog 59 := enters Try.func59 (by kernel_rfl) rfl
theorem ent_60 : Enters Try.prog 60 := enters Try.func60 (by kernel_rfl) rfl
theorem ent_61 : Enters Try.prog 61 := enters Try.func61 (by kernel_rfl) rfl
theorem ent_62 : Enters Try.prog 62 := enters Try.func62 (by kernel_rfl) rfl
theorem ent_63 : Enters Try.prog 63 := enters Try.func63 (by kernel_rfl) rfl
theorem ent_64 : Enters Try.prog 64 := enters Try.func64 (by kernel_rfl) rfl
theorem ent_65 : Enters Try.prog 65 := enters Try.func65 (by kernel_rfl) rfl
theorem ent_66 : Enters Try.prog 66 := enters Try.func66 (by kernel_rfl) rfl
theorem ent_67 : Enters Try.prog 67 := enters Try.func67 (by kernel_rfl) rfl
theorem ent_68 : Enters Try.prog 68 := enters Try.func68 (by kernel_rfl) rfl
theorem ent_69 : Enters Try.prog 69 := enters Try.func69 (by kernel_rfl) rfl
theorem ent_70 : Enters Try.prog 70 := enters Try.func70 (by kernel_rfl) rfl
theorem ent_71 : Enters Try.prog 71 := enters Try.func71 (by kernel_rfl) rfl
theorem ent_72 : Enters Try.prog 72 := enters Try.func72 (by kernel_rfl) rfl
theorem ent_73 : Enters Try.prog 73 := enters Try.func73 (by kernel_rfl) rfl
theorem ent_74 : Enters Try.prog 74 := enters Try.func74 (by kernel_rfl) rfl
theorem ent_75 : Enters Try.prog 75 := enters Try.func75 (by kernel_rfl) rfl
theorem ent_76 : Enters Try.prog 76 := enters Try.func76 (by kernel_rfl) rfl
theorem ent_77 : Enters Try.prog 77 := enters Try.func77 (by kernel_rfl) rfl
theorem ent_78 : Enters Try.prog 78 := enters Try.func78 (by kernel_rfl) rfl
theorem ent_79 : Enters Try.prog 79 := enters Try.func79 (by kernel_rfl) rfl
theorem ent_80 : Enters Try.prog 80 := enters Try.func80 (by kernel_rfl) rfl
theorem ent_81 : Enters Try.prog 81 := enters Try.func81 (by kernel_rfl) rfl
theorem ent_82 : Enters Try.prog 82 := enters Try.func82 (by kernel_rfl) rfl
theorem ent_83 : Enters Try.prog 83 := enters Try.func83 (by kernel_rfl) rfl
theorem ent_84 : Enters Try.prog 84 := enters Try.func84 (by kernel_rfl) rfl
theorem ent_85 : Enters Try.prog 85 := enters Try.func85 (by kernel_rfl) rfl
theorem ent_86 : Enters Try.prog 86 := enters Try.func86 (by kernel_rfl) rfl
theorem ent_87 : Enters Try.prog 87 := enters Try.func87 (by kernel_rfl) rfl
theorem ent_88 : Enters Try.prog 88 := enters Try.func88 (by kernel_rfl) rfl
theorem ent_89 : Enters Try.prog 89 := enters Try.func89 (by kernel_rfl) rfl
theorem ent_90 : Enters Try.prog 90 := enters Try.func90 (by kernel_rfl) rfl
theorem ent_91 : Enters Try.prog 91 := enters Try.func91 (by kernel_rfl) rfl
theorem ent_92 : Enters Try.prog 92 := enters Try.func92 (by kernel_rfl) rfl
theorem ent_93 : Enters Try.prog 93 := enters Try.func93 (by kernel_rfl) rfl
theorem ent_94 : Enters Try.prog 94 := enters Try.func94 (by kernel_rfl) rfl
theorem ent_95 : Enters Try.prog 95 := enters Try.func95 (by kernel_rfl) rfl
theorem ent_96 : Enters Try.prog 96 := enters Try.func96 (by kernel_rfl) rfl
theorem ent_97 : Enters Try.prog 97 := enters Try.func97 (by kernel_rfl) rfl
theorem ent_98 : Enters Try.prog 98 := enters Try.func98 (by kernel_rfl) rfl
theorem ent_99 : Enters Try.prog 99 := enters Try.func99 (by kernel_rfl) rfl
theorem ent_100 : Enters Try.prog 100 := enters Try.func100 (by kernel_rfl) rfl
theorem ent_101 : Enters Try.prog 101 := enters Try.func101 (by kernel_rfl) rfl
theorem ent_102 : Enters Try.prog 102 := enters Try.func102 (by kernel_rfl) rfl
theorem ent_103 : Enters Try.prog 103 := enters Try.func103 (by kernel_rfl) rfl
theorem ent_104 : Enters Try.prog 104 := enters Try.func104 (by kernel_rfl) rfl
theorem ent_105 : Enters Try.prog 105 := enters Try.func105 (by kernel_rfl) rfl
theorem ent_106 : Enters Try.prog 106 := enters Try.func106 (by kernel_rfl) rfl
theorem ent_107 : Enters Try.prog 107 := enters Try.func107 (by kernel_rfl) rfl
theorem ent_108 : Enters Try.prog 108 := enters Try.func108 (by kernel_rfl) rfl
theorem ent_109 : Enters Try.prog 109 := enters Try.func109 (by kernel_rfl) rfl
theorem ent_110 : Enters Try.prog 110 := enters Try.func110 (by kernel_rfl) rfl
theorem ent_111 : Enters Try.prog 111 := enters Try.func111 (by kernel_rfl) rfl
theorem ent_112 : Enters Try.prog 112 := enters Try.func112 (by kernel_rfl) rfl
theorem ent_113 : Enters Try.prog 113 := enters Try.func113 (by kernel_rfl) rfl
theorem ent_114 : Enters Try.prog 114 := enters Try.func114 (by kernel_rfl) rfl
theorem ent_115 : Enters Try.prog 115 := enters Try.func115 (by kernel_rfl) rfl
theorem ent_116 : Enters Try.prog 116 := enters Try.func116 (by kernel_rfl) rfl
theorem ent_117 : Enters Try.prog 117 := enters Try.func117 (by kernel_rfl) rfl
theorem ent_118 : Enters Try.prog 118 := enters Try.func118 (by kernel_rfl) rfl
theorem ent_119 : Enters Try.prog 119 := enters Try.func119 (by kernel_rfl) rfl
theorem ent_120 : Enters Try.prog 120 := enters Try.func120 (by kernel_rfl) rfl
theorem ent_121 : Enters Try.prog 121 := enters Try.func121 (by kernel_rfl) rfl
theorem ent_122 : Enters Try.prog 122 := enters Try.func122 (by kernel_rfl) rfl
theorem ent_123 : Enters Try.prog 123 := enters Try.func123 (by kernel_rfl) rfl
theorem ent_124 : Enters Try.prog 124 := enters Try.func124 (by kernel_rfl) rfl
theorem ent_125 : Enters Try.prog 125 := enters Try.func125 (by kernel_rfl) rfl
theorem ent_126 : Enters Try.prog 126 := enters Try.func126 (by kernel_rfl) rfl
theorem ent_127 : Enters Try.prog 127 := enters Try.func127 (by kernel_rfl) rfl
theorem ent_128 : Enters Try.prog 128 := enters Try.func128 (by kernel_rfl) rfl
theorem ent_129 : Enters Try.prog 129 := enters Try.func129 (by kernel_rfl) rfl
theorem ent_130 : Enters Try.prog 130 := enters Try.func130 (by kernel_rfl) rfl
theorem ent_131 : Enters Try.prog 131 := enters Try.func131 (by kernel_rfl) rfl
theorem ent_132 : Enters Try.prog 132 := enters Try.func132 (by kernel_rfl) rfl
theorem ent_133 : Enters Try.prog 133 := enters Try.func133 (by kernel_rfl) rfl
theorem ent_134 : Enters Try.prog 134 := enters Try.func134 (by kernel_rfl) rfl
theorem ent_135 : Enters Try.prog 135 := enters Try.func135 (by kernel_rfl) rfl
theorem ent_136 : Enters Try.prog 136 := enters Try.func136 (by kernel_rfl) rfl
theorem ent_137 : Enters Try.prog 137 := enters Try.func137 (by kernel_rfl) rfl
theorem ent_138 : Enters Try.prog 138 := enters Try.func138 (by kernel_rfl) rfl
theorem ent_139 : Enters Try.prog 139 := enters Try.func139 (by kernel_rfl) rfl
theorem ent_140 : Enters Try.prog 140 := enters Try.func140 (by kernel_rfl) rfl
theorem ent_141 : Enters Try.prog 141 := enters Try.func141 (by kernel_rfl) rfl
theorem ent_142 : Enters Try.prog 142 := enters Try.func142 (by kernel_rfl) rfl
theorem ent_143 : Enters Try.prog 143 := enters Try.func143 (by kernel_rfl) rfl
theorem ent_144 : Enters Try.prog 144 := enters Try.func144 (by kernel_rfl) rfl
theorem ent_145 : Enters Try.prog 145 := enters Try.func145 (by kernel_rfl) rfl
theorem ent_146 : Enters Try.prog 146 := enters Try.func146 (by kernel_rfl) rfl
theorem ent_148 : Enters Try.prog 148 := enters Try.func148 (by kernel_rfl) rfl
theorem ent_149 : Enters Try.prog 149 := enters Try.func149 (by kernel_rfl) rfl
theorem ent_150 : Enters Try.prog 150 := enters Try.func150 (by kernel_rfl) rfl
theorem ent_151 : Enters Try.prog 151 := enters Try.func151 (by kernel_rfl) rfl
theorem ent_152 : Enters Try.prog 152 := enters Try.func152 (by kernel_rfl) rfl
theorem ent_153 : Enters Try.prog 153 := enters Try.func153 (by kernel_rfl) rfl
theorem ent_154 : Enters Try.prog 154 := enters Try.func154 (by kernel_rfl) rfl
theorem ent_155 : Enters Try.prog 155 := enters Try.func155 (by kernel_rfl) rfl
theorem ent_156 : Enters Try.prog 156 := enters Try.func156 (by kernel_rfl) rfl
theorem ent_157 : Enters Try.prog 157 := enters Try.func157 (by kernel_rfl) rfl
theorem ent_158 : Enters Try.prog 158 := enters Try.func158 (by kernel_rfl) rfl
theorem ent_159 : Enters Try.prog 159 := enters Try.func159 (by kernel_rfl) rfl
theorem ent_160 : Enters Try.prog 160 := enters Try.func160 (by kernel_rfl) rfl
theorem ent_161 : Enters Try.prog 161 := enters Try.func161 (by kernel_rfl) rfl
theorem ent_162 : Enters Try.prog 162 := enters Try.func162 (by kernel_rfl) rfl
theorem ent_163 : Enters Try.prog 163 := enters Try.func163 (by kernel_rfl) rfl
theorem ent_164 : Enters Try.prog 164 := enters Try.func164 (by kernel_rfl) rfl
theorem ent_165 : Enters Try.prog 165 := enters Try.func165 (by kernel_rfl) rfl
theorem ent_166 : Enters Try.prog 166 := enters Try.func166 (by kernel_rfl) rfl
theorem ent_167 : Enters Try.prog 167 := enters Try.func167 (by kernel_rfl) rfl
theorem ent_168 : Enters Try.prog 168 := enters Try.func168 (by kernel_rfl) rfl
theorem ent_169 : Enters Try.prog 169 := enters Try.func169 (by kernel_rfl) rfl
theorem ent_170 : Enters Try.prog 170 := enters Try.func170 (by kernel_rfl) rfl
theorem ent_171 : Enters Try.prog 171 := enters Try.func171 (by kernel_rfl) rfl
theorem ent_172 : Enters Try.prog 172 := enters Try.func172 (by kernel_rfl) rfl
theorem ent_173 : Enters Try.prog 173 := enters Try.func173 (by kernel_rfl) rfl
theorem ent_174 : Enters Try.prog 174 := enters Try.func174 (by kernel_rfl) rfl
theorem ent_175 : Enters Try.prog 175 := enters Try.func175 (by kernel_rfl) rfl
theorem ent_176 : Enters Try.prog 176 := enters Try.func176 (by kernel_rfl) rfl
theorem ent_177 : Enters Try.prog 177 := enters Try.func177 (by kernel_rfl) rfl
theorem ent_178 : Enters Try.prog 178 := enters Try.func178 (by kernel_rfl) rfl
theorem ent_179 : Enters Try.prog 179 := enters Try.func179 (by kernel_rfl) rfl
theorem ent_180 : Enters Try.prog 180 := enters Try.func180 (by kernel_rfl) rfl
theorem ent_181 : Enters Try.prog 181 := enters Try.func181 (by kernel_rfl) rfl
theorem ent_182 : Enters Try.prog 182 := enters Try.func182 (by kernel_rfl) rfl
theorem ent_183 : Enters Try.prog 183 := enters Try.func183 (by kernel_rfl) rfl
theorem ent_184 : Enters Try.prog 184 := enters Try.func184 (by kernel_rfl) rfl
theorem ent_185 : Enters Try.prog 185 := enters Try.func185 (by kernel_rfl) rfl
theorem ent_186 : Enters Try.prog 186 := enters Try.func186 (by kernel_rfl) rfl
theorem ent_187 : Enters Try.prog 187 := enters Try.func187 (by kernel_rfl) rfl
theorem ent_188 : Enters Try.prog 188 := enters Try.func188 (by kernel_rfl) rfl
theorem ent_189 : Enters Try.prog 189 := enters Try.func189 (by kernel_rfl) rfl
theorem ent_190 : Enters Try.prog 190 := enters Try.func190 (by kernel_rfl) rfl
theorem ent_191 : Enters Try.prog 191 := enters Try.func191 (by kernel_rfl) rfl
theorem ent_192 : Enters Try.prog 192 := enters Try.func192 (by kernel_rfl) rfl
theorem ent_193 : Enters Try.prog 193 := enters Try.func193 (by kernel_rfl) rfl
theorem ent_194 : Enters Try.prog 194 := enters Try.func194 (by kernel_rfl) rfl
theorem ent_195 : Enters Try.prog 195 := enters Try.func195 (by kernel_rfl) rfl
theorem ent_196 : Enters Try.prog 196 := enters Try.func196 (by kernel_rfl) rfl
theorem ent_197 : Enters Try.prog 197 := enters Try.func197 (by kernel_rfl) rfl
theorem mixed : Try.prog.follows .mixedOrders = true := by kernel_rfl
end Go.Proofs.Ythpaadmpgdglnaa
