/- More closed facts on the types of the program. No condition. -/
import Derived.Test.YthpaadmpgdglnaaKb
namespace Go.Proofs.Ythpaadmpgdglnaa
open Go Go.RowKit
theorem one_1 : oneSize Try.prog 1 = true := by kernel_rfl
theorem size_1 : (Try.prog.info? 1).map (·.size) = some 1 := by kernel_rfl
theorem und_int_2 : Try.prog.underlying 2 = some (.int .i64) := by kernel_rfl
theorem zv_2 : ∀ w, (zeroValue 2).run Try.prog w = .ok (.int .i64 0) w := fun w => by kernel_rfl
theorem und_int_3 : Try.prog.underlying 3 = some (.int .i64) := by kernel_rfl
theorem zv_3 : ∀ w, (zeroValue 3).run Try.prog w = .ok (.int .i64 0) w := fun w => by kernel_rfl
theorem zv_4 : ∀ w, (zeroValue 4).run Try.prog w = .ok (.bool false) w := fun w => by kernel_rfl
theorem und_int_5 : Try.prog.underlying 5 = some (.int .u8) := by kernel_rfl
theorem und_int_6 : Try.prog.underlying 6 = some (.int .u8) := by kernel_rfl
theorem und_int_12 : Try.prog.underlying 12 = some (.int .u64) := by kernel_rfl
theorem zv_15 : ∀ w, (zeroValue 15).run Try.prog w = .ok (.pointer none) w := fun w => by kernel_rfl
theorem zv_16 : ∀ w, (zeroValue 16).run Try.prog w = .ok (.pointer none) w := fun w => by kernel_rfl
theorem zv_17 : ∀ w, (zeroValue 17).run Try.prog w = .ok (.pointer none) w := fun w => by kernel_rfl
theorem zv_18 : ∀ w, (zeroValue 18).run Try.prog w = .ok (.agg #[.pointer none]) w := fun w => by kernel_rfl
theorem zv_19 : ∀ w, (zeroValue 19).run Try.prog w = .ok (.agg #[.pointer none]) w := fun w => by kernel_rfl
theorem und_int_21 : Try.prog.underlying 21 = some (.int .i32) := by kernel_rfl
theorem und_sl_22 : Try.prog.underlying 22 = some (.slice 99) := by kernel_rfl
theorem zv_22 : ∀ w, (zeroValue 22).run Try.prog w = .ok (.slice none 0 0) w := fun w => by kernel_rfl
theorem und_sl_23 : Try.prog.underlying 23 = some (.slice 45) := by kernel_rfl
theorem zv_23 : ∀ w, (zeroValue 23).run Try.prog w = .ok (.slice none 0 0) w := fun w => by kernel_rfl
theorem und_sl_24 : Try.prog.underlying 24 = some (.slice 3) := by kernel_rfl
theorem zv_24 : ∀ w, (zeroValue 24).run Try.prog w = .ok (.slice none 0 0) w := fun w => by kernel_rfl
theorem one_25 : oneSize Try.prog 25 = true := by kernel_rfl
theorem size_25 : (Try.prog.info? 25).map (·.size) = some 1 := by kernel_rfl
theorem und_sl_26 : Try.prog.underlying 26 = some (.slice 34) := by kernel_rfl
theorem zv_26 : ∀ w, (zeroValue 26).run Try.prog w = .ok (.slice none 0 0) w := fun w => by kernel_rfl
theorem zv_27 : ∀ w, (zeroValue 27).run Try.prog w = .ok (.agg #[.slice none 0 0, .int .i64 0]) w := fun w => by kernel_rfl
theorem zv_28 : ∀ w, (zeroValue 28).run Try.prog w = .ok (.agg #[.slice none 0 0, .int .i64 0]) w := fun w => by kernel_rfl
theorem one_30 : oneSize Try.prog 30 = true := by kernel_rfl
theorem size_30 : (Try.prog.info? 30).map (·.size) = some 1 := by kernel_rfl
theorem one_31 : oneSize Try.prog 31 = true := by kernel_rfl
theorem size_31 : (Try.prog.info? 31).map (·.size) = some 1 := by kernel_rfl
theorem zv_32 : ∀ w, (zeroValue 32).run Try.prog w = .ok (.agg #[.int .i64 0, .int .i64 0, .int .i64 0, .int .i64 0]) w := fun w => by kernel_rfl
theorem zv_33 : ∀ w, (zeroValue 33).run Try.prog w = .ok (.agg #[.int .i64 0, .int .i64 0, .int .i64 0, .int .i64 0, .int .i64 0, .int .i64 0]) w := fun w => by kernel_rfl
theorem zv_34 : ∀ w, (zeroValue 34).run Try.prog w = .ok (.agg #[.int .i64 0, .int .i64 0, .int .i64 0, .int .i64 0, .int .i64 0, .int .i64 0]) w := fun w => by kernel_rfl
theorem zv_35 : ∀ w, (zeroValue 35).run Try.prog w = .ok (.agg #[.slice none 0 0, .int .i64 0, .int .i64 0, .int .i64 0, .int .i64 0]) w := fun w => by kernel_rfl
theorem zv_36 : ∀ w, (zeroValue 36).run Try.prog w = .ok (.agg #[.slice none 0 0, .int .i64 0, .int .i64 0, .int .i64 0, .int .i64 0]) w := fun w => by kernel_rfl
theorem und_int_37 : Try.prog.underlying 37 = some (.int .i64) := by kernel_rfl
theorem zv_37 : ∀ w, (zeroValue 37).run Try.prog w = .ok (.int .i64 0) w := fun w => by kernel_rfl
theorem one_39 : oneSize Try.prog 39 = true := by kernel_rfl
theorem size_39 : (Try.prog.info? 39).map (·.size) = some 1 := by kernel_rfl
theorem one_41 : oneSize Try.prog 41 = true := by kernel_rfl
theorem size_41 : (Try.prog.info? 41).map (·.size) = some 1 := by kernel_rfl
theorem one_42 : oneSize Try.prog 42 = true := by kernel_rfl
theorem size_42 : (Try.prog.info? 42).map (·.size) = some 1 := by kernel_rfl
theorem one_43 : oneSize Try.prog 43 = true := by kernel_rfl
theorem size_43 : (Try.prog.info? 43).map (·.size) = some 1 := by kernel_rfl
theorem one_44 : oneSize Try.prog 44 = true := by kernel_rfl
theorem size_44 : (Try.prog.info? 44).map (·.size) = some 1 := by kernel_rfl
theorem zv_45 : ∀ w, (zeroValue 45).run Try.prog w = .ok (.agg #[.int .i64 0, .int .i64 0]) w := fun w => by kernel_rfl
theorem und_sl_46 : Try.prog.underlying 46 = some (.slice 55) := by kernel_rfl
theorem zv_46 : ∀ w, (zeroValue 46).run Try.prog w = .ok (.slice none 0 0) w := fun w => by kernel_rfl
theorem one_48 : oneSize Try.prog 48 = true := by kernel_rfl
theorem size_48 : (Try.prog.info? 48).map (·.size) = some 1 := by kernel_rfl
theorem one_49 : oneSize Try.prog 49 = true := by kernel_rfl
theorem size_49 : (Try.prog.info? 49).map (·.size) = some 1 := by kernel_rfl
theorem one_50 : oneSize Try.prog 50 = true := by kernel_rfl
theorem size_50 : (Try.prog.info? 50).map (·.size) = some 1 := by kernel_rfl
theorem one_51 : oneSize Try.prog 51 = true := by kernel_rfl
theorem size_51 : (Try.prog.info? 51).map (·.size) = some 1 := by kernel_rfl
theorem one_52 : oneSize Try.prog 52 = true := by kernel_rfl
theorem size_52 : (Try.prog.info? 52).map (·.size) = some 1 := by kernel_rfl
theorem one_53 : oneSize Try.prog 53 = true := by kernel_rfl
theorem size_53 : (Try.prog.info? 53).map (·.size) = some 1 := by kernel_rfl
theorem zv_54 : ∀ w, (zeroValue 54).run Try.prog w = .ok (.agg #[.int .i64 0, .int .i64 0]) w := fun w => by kernel_rfl
theorem zv_55 : ∀ w, (zeroValue 55).run Try.prog w = .ok (.agg #[.int .i64 0, .int .i64 0]) w := fun w => by kernel_rfl
theorem one_56 : oneSize Try.prog 56 = true := by kernel_rfl
theorem size_56 : (Try.prog.info? 56).map (·.size) = some 1 := by kernel_rfl
theorem one_57 : oneSize Try.prog 57 = true := by kernel_rfl
theorem size_57 : (Try.prog.info? 57).map (·.size) = some 1 := by kernel_rfl
theorem one_58 : oneSize Try.prog 58 = true := by kernel_rfl
theorem size_58 : (Try.prog.info? 58).map (·.size) = some 1 := by kernel_rfl
theorem one_59 : oneSize Try.prog 59 = true := by kernel_rfl
theorem size_59 : (Try.prog.info? 59).map (·.size) = some 1 := by kernel_rfl
theorem one_60 : oneSize Try.prog 60 = true := by kernel_rfl
theorem size_60 : (Try.prog.info? 60).map (·.size) = some 1 := by kernel_rfl
theorem one_61 : oneSize Try.prog 61 = true := by kernel_rfl
theorem size_61 : (Try.prog.info? 61).map (·.size) = some 1 := by kernel_rfl
theorem und_sl_62 : Try.prog.underlying 62 = some (.slice 46) := by kernel_rfl
theorem zv_62 : ∀ w, (zeroValue 62).run Try.prog w = .ok (.slice none 0 0) w := fun w => by kernel_rfl
theorem one_63 : oneSize Try.prog 63 = true := by kernel_rfl
theorem size_63 : (Try.prog.info? 63).map (·.size) = some 1 := by kernel_rfl
theorem one_64 : oneSize Try.prog 64 = true := by kernel_rfl
theorem size_64 : (Try.prog.info? 64).map (·.size) = some 1 := by kernel_rfl
theorem one_65 : oneSize Try.prog 65 = true := by kernel_rfl
theorem size_65 : (Try.prog.info? 65).map (·.size) = some 1 := by kernel_rfl
theorem one_66 : oneSize Try.prog 66 = true := by kernel_rfl
theorem size_66 : (Try.prog.info? 66).map (·.size) = some 1 := by kernel_rfl
theorem one_67 : oneSize Try.prog 67 = true := by kernel_rfl
theorem size_67 : (Try.prog.info? 67).map (·.size) = some 1 := by kernel_rfl
theorem zv_68 : ∀ w, (zeroValue 68).run Try.prog w = .ok (.agg #[.int .i64 0, .int .i64 0, .int .i64 0, .int .i64 0]) w := fun w => by kernel_rfl
theorem zv_69 : ∀ w, (zeroValue 69).run Try.prog w = .ok (.agg #[.int .i64 0, .int .i64 0, .int .i64 0, .int .i64 0]) w := fun w => by kernel_rfl
theorem one_71 : oneSize Try.prog 71 = true := by kernel_rfl
theorem size_71 : (Try.prog.info? 71).map (·.size) = some 1 := by kernel_rfl
theorem one_72 : oneSize Try.prog 72 = true := by kernel_rfl
theorem size_72 : (Try.prog.info? 72).map (·.size) = some 1 := by kernel_rfl
theorem one_73 : oneSize Try.prog 73 = true := by kernel_rfl
theorem size_73 : (Try.prog.info? 73).map (·.size) = some 1 := by kernel_rfl
theorem one_74 : oneSize Try.prog 74 = true := by kernel_rfl
theorem size_74 : (Try.prog.info? 74).map (·.size) = some 1 := by kernel_rfl
theorem one_75 : oneSize Try.prog 75 = true := by kernel_rfl
theorem size_75 : (Try.prog.info? 75).map (·.size) = some 1 := by kernel_rfl
theorem one_76 : oneSize Try.prog 76 = true := by kernel_rfl
theorem size_76 : (Try.prog.info? 76).map (·.size) = some 1 := by kernel_rfl
theorem one_77 : oneSize Try.prog 77 = true := by kernel_rfl
theorem size_77 : (Try.prog.info? 77).map (·.size) = some 1 := by kernel_rfl
theorem und_sl_78 : Try.prog.underlying 78 = some (.slice 4) := by kernel_rfl
theorem zv_78 : ∀ w, (zeroValue 78).run Try.prog w = .ok (.slice none 0 0) w := fun w => by kernel_rfl
theorem one_79 : oneSize Try.prog 79 = true := by kernel_rfl
theorem size_79 : (Try.prog.info? 79).map (·.size) = some 1 := by kernel_rfl
theorem one_80 : oneSize Try.prog 80 = true := by kernel_rfl
theorem size_80 : (Try.prog.info? 80).map (·.size) = some 1 := by kernel_rfl
theorem one_81 : oneSize Try.prog 81 = true := by kernel_rfl
theorem size_81 : (Try.prog.info? 81).map (·.size) = some 1 := by kernel_rfl
theorem zv_82 : ∀ w, (zeroValue 82).run Try.prog w = .ok (.agg #[.bool false, .bool false, .bool false, .bool false]) w := fun w => by kernel_rfl
theorem und_sl_83 : Try.prog.underlying 83 = some (.slice 28) := by kernel_rfl
theorem zv_83 : ∀ w, (zeroValue 83).run Try.prog w = .ok (.slice none 0 0) w := fun w => by kernel_rfl
theorem one_84 : oneSize Try.prog 84 = true := by kernel_rfl
theorem size_84 : (Try.prog.info? 84).map (·.size) = some 1 := by kernel_rfl
theorem one_85 : oneSize Try.prog 85 = true := by kernel_rfl
theorem size_85 : (Try.prog.info? 85).map (·.size) = some 1 := by kernel_rfl
theorem one_86 : oneSize Try.prog 86 = true := by kernel_rfl
theorem size_86 : (Try.prog.info? 86).map (·.size) = some 1 := by kernel_rfl
theorem one_88 : oneSize Try.prog 88 = true := by kernel_rfl
theorem size_88 : (Try.prog.info? 88).map (·.size) = some 1 := by kernel_rfl
theorem one_89 : oneSize Try.prog 89 = true := by kernel_rfl
theorem size_89 : (Try.prog.info? 89).map (·.size) = some 1 := by kernel_rfl
theorem one_90 : oneSize Try.prog 90 = true := by kernel_rfl
theorem size_90 : (Try.prog.info? 90).map (·.size) = some 1 := by kernel_rfl
theorem one_91 : oneSize Try.prog 91 = true := by kernel_rfl
theorem size_91 : (Try.prog.info? 91).map (·.size) = some 1 := by kernel_rfl
theorem one_92 : oneSize Try.prog 92 = true := by kernel_rfl
theorem size_92 : (Try.prog.info? 92).map (·.size) = some 1 := by kernel_rfl
theorem one_93 : oneSize Try.prog 93 = true := by kernel_rfl
theorem size_93 : (Try.prog.info? 93).map (·.size) = some 1 := by kernel_rfl
theorem one_94 : oneSize Try.prog 94 = true := by kernel_rfl
theorem size_94 : (Try.prog.info? 94).map (·.size) = some 1 := by kernel_rfl
theorem one_95 : oneSize Try.prog 95 = true := by kernel_rfl
theorem size_95 : (Try.prog.info? 95).map (·.size) = some 1 := by kernel_rfl
theorem one_96 : oneSize Try.prog 96 = true := by kernel_rfl
theorem size_96 : (Try.prog.info? 96).map (·.size) = some 1 := by kernel_rfl
theorem one_97 : oneSize Try.prog 97 = true := by kernel_rfl
theorem size_97 : (Try.prog.info? 97).map (·.size) = some 1 := by kernel_rfl
theorem one_98 : oneSize Try.prog 98 = true := by kernel_rfl
theorem size_98 : (Try.prog.info? 98).map (·.size) = some 1 := by kernel_rfl
theorem zv_99 : ∀ w, (zeroValue 99).run Try.prog w = .ok (.agg #[.int .i64 0, .int .i64 0, .int .i64 0, .int .i64 0, .int .i64 0]) w := fun w => by kernel_rfl
theorem zv_100 : ∀ w, (zeroValue 100).run Try.prog w = .ok (.pointer none) w := fun w => by kernel_rfl
theorem zv_101 : ∀ w, (zeroValue 101).run Try.prog w = .ok (.agg #[.pointer none]) w := fun w => by kernel_rfl
theorem zv_102 : ∀ w, (zeroValue 102).run Try.prog w = .ok (.agg #[.pointer none]) w := fun w => by kernel_rfl
theorem one_104 : oneSize Try.prog 104 = true := by kernel_rfl
theorem size_104 : (Try.prog.info? 104).map (·.size) = some 1 := by kernel_rfl
theorem zv_105 : ∀ w, (zeroValue 105).run Try.prog w = .ok (.pointer none) w := fun w => by kernel_rfl
theorem und_sl_106 : Try.prog.underlying 106 = some (.slice 24) := by kernel_rfl
theorem zv_106 : ∀ w, (zeroValue 106).run Try.prog w = .ok (.slice none 0 0) w := fun w => by kernel_rfl
theorem zv_107 : ∀ w, (zeroValue 107).run Try.prog w = .ok (.map none) w := fun w => by kernel_rfl
theorem und_sl_108 : Try.prog.underlying 108 = some (.slice 169) := by kernel_rfl
theorem zv_108 : ∀ w, (zeroValue 108).run Try.prog w = .ok (.slice none 0 0) w := fun w => by kernel_rfl
theorem zv_109 : ∀ w, (zeroValue 109).run Try.prog w = .ok (.agg #[.pointer none, .slice none 0 0, .slice none 0 0, .map none, .int .i64 0, .bool false]) w := fun w => by kernel_rfl
theorem zv_110 : ∀ w, (zeroValue 110).run Try.prog w = .ok (.agg #[.pointer none, .slice none 0 0, .slice none 0 0, .map none, .int .i64 0, .bool false]) w := fun w => by kernel_rfl
theorem one_111 : oneSize Try.prog 111 = true := by kernel_rfl
theorem size_111 : (Try.prog.info? 111).map (·.size) = some 1 := by kernel_rfl
theorem zv_112 : ∀ w, (zeroValue 112).run Try.prog w = .ok (.agg #[.int .i64 0, .int .i64 0]) w := fun w => by kernel_rfl
theorem zv_113 : ∀ w, (zeroValue 113).run Try.prog w = .ok (.agg #[.int .i64 0, .int .i64 0]) w := fun w => by kernel_rfl
theorem zv_114 : ∀ w, (zeroValue 114).run Try.prog w = .ok (.agg #[.int .i64 0, .int .i64 0, .int .i64 0, .int .i64 0, .int .i64 0, .int .i64 0, .int .i64 0, .int .i64 0, .int .i64 0]) w := fun w => by kernel_rfl
theorem zv_115 : ∀ w, (zeroValue 115).run Try.prog w = .ok (.agg #[.int .i64 0, .int .i64 0, .int .i64 0, .int .i64 0, .int .i64 0, .int .i64 0, .int .i64 0, .int .i64 0, .int .i64 0, .int .i64 0, .int .i64 0, .int .i64 0, .int .i64 0, .int .i64 0, .int .i64 0]) w := fun w => by kernel_rfl
theorem zv_116 : ∀ w, (zeroValue 116).run Try.prog w = .ok (.agg #[.int .i64 0, .int .i64 0, .int .i64 0, .int .i64 0, .int .i64 0, .int .i64 0, .int .i64 0, .int .i64 0, .int .i64 0, .int .i64 0, .int .i64 0, .int .i64 0, .int .i64 0, .int .i64 0, .int .i64 0]) w := fun w => by kernel_rfl
theorem one_118 : oneSize Try.prog 118 = true := by kernel_rfl
theorem size_118 : (Try.prog.info? 118).map (·.size) = some 1 := by kernel_rfl
theorem zv_119 : ∀ w, (zeroValue 119).run Try.prog w = .ok (.map none) w := fun w => by kernel_rfl
theorem zv_120 : ∀ w, (zeroValue 120).run Try.prog w = .ok (.agg #[.slice none 0 0, .int .i64 0, .map none]) w := fun w => by kernel_rfl
theorem zv_121 : ∀ w, (zeroValue 121).run Try.prog w = .ok (.agg #[.slice none 0 0, .int .i64 0, .map none]) w := fun w => by kernel_rfl
theorem one_122 : oneSize Try.prog 122 = true := by kernel_rfl
theorem size_122 : (Try.prog.info? 122).map (·.size) = some 1 := by kernel_rfl
theorem zv_123 : ∀ w, (zeroValue 123).run Try.prog w = .ok (.pointer none) w := fun w => by kernel_rfl
theorem und_sl_124 : Try.prog.underlying 124 = some (.slice 174) := by kernel_rfl
theorem zv_124 : ∀ w, (zeroValue 124).run Try.prog w = .ok (.slice none 0 0) w := fun w => by kernel_rfl
theorem zv_125 : ∀ w, (zeroValue 125).run Try.prog w = .ok (.agg #[.slice none 0 0, .int .i64 0, .slice none 0 0, .int .i64 0]) w := fun w => by kernel_rfl
theorem zv_126 : ∀ w, (zeroValue 126).run Try.prog w = .ok (.agg #[.slice none 0 0, .int .i64 0, .slice none 0 0, .int .i64 0]) w := fun w => by kernel_rfl
theorem one_127 : oneSize Try.prog 127 = true := by kernel_rfl
theorem size_127 : (Try.prog.info? 127).map (·.size) = some 1 := by kernel_rfl
theorem one_128 : oneSize Try.prog 128 = true := by kernel_rfl
theorem size_128 : (Try.prog.info? 128).map (·.size) = some 1 := by kernel_rfl
theorem one_129 : oneSize Try.prog 129 = true := by kernel_rfl
theorem size_129 : (Try.prog.info? 129).map (·.size) = some 1 := by kernel_rfl
theorem one_130 : oneSize Try.prog 130 = true := by kernel_rfl
theorem size_130 : (Try.prog.info? 130).map (·.size) = some 1 := by kernel_rfl
theorem zv_131 : ∀ w, (zeroValue 131).run Try.prog w = .ok (.map none) w := fun w => by kernel_rfl
theorem one_132 : oneSize Try.prog 132 = true := by kernel_rfl
theorem size_132 : (Try.prog.info? 132).map (·.size) = some 1 := by kernel_rfl
theorem one_133 : oneSize Try.prog 133 = true := by kernel_rfl
theorem size_133 : (Try.prog.info? 133).map (·.size) = some 1 := by kernel_rfl
theorem one_134 : oneSize Try.prog 134 = true := by kernel_rfl
theorem size_134 : (Try.prog.info? 134).map (·.size) = some 1 := by kernel_rfl
theorem one_135 : oneSize Try.prog 135 = true := by kernel_rfl
theorem size_135 : (Try.prog.info? 135).map (·.size) = some 1 := by kernel_rfl
theorem one_136 : oneSize Try.prog 136 = true := by kernel_rfl
theorem size_136 : (Try.prog.info? 136).map (·.size) = some 1 := by kernel_rfl
theorem one_137 : oneSize Try.prog 137 = true := by kernel_rfl
theorem size_137 : (Try.prog.info? 137).map (·.size) = some 1 := by kernel_rfl
theorem one_138 : oneSize Try.prog 138 = true := by kernel_rfl
theorem size_138 : (Try.prog.info? 138).map (·.size) = some 1 := by kernel_rfl
theorem one_139 : oneSize Try.prog 139 = true := by kernel_rfl
theorem size_139 : (Try.prog.info? 139).map (·.size) = some 1 := by kernel_rfl
theorem one_140 : oneSize Try.prog 140 = true := by kernel_rfl
theorem size_140 : (Try.prog.info? 140).map (·.size) = some 1 := by kernel_rfl
theorem one_141 : oneSize Try.prog 141 = true := by kernel_rfl
theorem size_141 : (Try.prog.info? 141).map (·.size) = some 1 := by kernel_rfl
theorem zv_142 : ∀ w, (zeroValue 142).run Try.prog w = .ok (.agg #[.int .i64 0, .int .i64 0]) w := fun w => by kernel_rfl
theorem one_144 : oneSize Try.prog 144 = true := by kernel_rfl
theorem size_144 : (Try.prog.info? 144).map (·.size) = some 1 := by kernel_rfl
theorem one_145 : oneSize Try.prog 145 = true := by kernel_rfl
theorem size_145 : (Try.prog.info? 145).map (·.size) = some 1 := by kernel_rfl
theorem one_146 : oneSize Try.prog 146 = true := by kernel_rfl
theorem size_146 : (Try.prog.info? 146).map (·.size) = some 1 := by kernel_rfl
theorem one_147 : oneSize Try.prog 147 = true := by kernel_rfl
theorem size_147 : (Try.prog.info? 147).map (·.size) = some 1 := by kernel_rfl
theorem zv_148 : ∀ w, (zeroValue 148).run Try.prog w = .ok (.agg #[.pointer none]) w := fun w => by kernel_rfl
theorem one_149 : oneSize Try.prog 149 = true := by kernel_rfl
theorem size_149 : (Try.prog.info? 149).map (·.size) = some 1 := by kernel_rfl
theorem one_150 : oneSize Try.prog 150 = true := by kernel_rfl
theorem size_150 : (Try.prog.info? 150).map (·.size) = some 1 := by kernel_rfl
theorem one_151 : oneSize Try.prog 151 = true := by kernel_rfl
theorem size_151 : (Try.prog.info? 151).map (·.size) = some 1 := by kernel_rfl
theorem und_sl_152 : Try.prog.underlying 152 = some (.slice 154) := by kernel_rfl
theorem zv_152 : ∀ w, (zeroValue 152).run Try.prog w = .ok (.slice none 0 0) w := fun w => by kernel_rfl
theorem zv_153 : ∀ w, (zeroValue 153).run Try.prog w = .ok (.agg #[.int .i64 0, .int .i64 0]) w := fun w => by kernel_rfl
theorem zv_154 : ∀ w, (zeroValue 154).run Try.prog w = .ok (.agg #[.int .i64 0, .int .i64 0]) w := fun w => by kernel_rfl
theorem und_int_155 : Try.prog.underlying 155 = some (.int .u64) := by kernel_rfl
theorem one_156 : oneSize Try.prog 156 = true := by kernel_rfl
theorem size_156 : (Try.prog.info? 156).map (·.size) = some 1 := by kernel_rfl
theorem und_sl_157 : Try.prog.underlying 157 = some (.slice 69) := by kernel_rfl
theorem zv_157 : ∀ w, (zeroValue 157).run Try.prog w = .ok (.slice none 0 0) w := fun w => by kernel_rfl
theorem one_158 : oneSize Try.prog 158 = true := by kernel_rfl
theorem size_158 : (Try.prog.info? 158).map (·.size) = some 1 := by kernel_rfl
theorem one_159 : oneSize Try.prog 159 = true := by kernel_rfl
theorem size_159 : (Try.prog.info? 159).map (·.size) = some 1 := by kernel_rfl
theorem one_160 : oneSize Try.prog 160 = true := by kernel_rfl
theorem size_160 : (Try.prog.info? 160).map (·.size) = some 1 := by kernel_rfl
theorem one_161 : oneSize Try.prog 161 = true := by kernel_rfl
theorem size_161 : (Try.prog.info? 161).map (·.size) = some 1 := by kernel_rfl
theorem one_163 : oneSize Try.prog 163 = true := by kernel_rfl
theorem size_163 : (Try.prog.info? 163).map (·.size) = some 1 := by kernel_rfl
theorem one_164 : oneSize Try.prog 164 = true := by kernel_rfl
theorem size_164 : (Try.prog.info? 164).map (·.size) = some 1 := by kernel_rfl
theorem one_165 : oneSize Try.prog 165 = true := by kernel_rfl
theorem size_165 : (Try.prog.info? 165).map (·.size) = some 1 := by kernel_rfl
theorem one_166 : oneSize Try.prog 166 = true := by kernel_rfl
theorem size_166 : (Try.prog.info? 166).map (·.size) = some 1 := by kernel_rfl
theorem one_168 : oneSize Try.prog 168 = true := by kernel_rfl
theorem size_168 : (Try.prog.info? 168).map (·.size) = some 1 := by kernel_rfl
theorem zv_169 : ∀ w, (zeroValue 169).run Try.prog w = .ok (.pointer none) w := fun w => by kernel_rfl
theorem one_170 : oneSize Try.prog 170 = true := by kernel_rfl
theorem size_170 : (Try.prog.info? 170).map (·.size) = some 1 := by kernel_rfl
theorem one_171 : oneSize Try.prog 171 = true := by kernel_rfl
theorem size_171 : (Try.prog.info? 171).map (·.size) = some 1 := by kernel_rfl
theorem one_172 : oneSize Try.prog 172 = true := by kernel_rfl
theorem size_172 : (Try.prog.info? 172).map (·.size) = some 1 := by kernel_rfl
theorem zv_173 : ∀ w, (zeroValue 173).run Try.prog w = .ok (.agg #[.int .i64 0, .int .i64 0, .int .i64 0]) w := fun w => by kernel_rfl
theorem zv_174 : ∀ w, (zeroValue 174).run Try.prog w = .ok (.agg #[.int .i64 0, .int .i64 0, .int .i64 0]) w := fun w => by kernel_rfl
theorem one_175 : oneSize Try.prog 175 = true := by kernel_rfl
theorem size_175 : (Try.prog.info? 175).map (·.size) = some 1 := by kernel_rfl
theorem one_176 : oneSize Try.prog 176 = true := by kernel_rfl
theorem size_176 : (Try.prog.info? 176).map (·.size) = some 1 := by kernel_rfl
theorem zv_177 : ∀ w, (zeroValue 177).run Try.prog w = .ok (.agg #[.slice none 0 0, .slice none 0 0, .slice none 0 0, .slice none 0 0]) w := fun w => by kernel_rfl
theorem one_178 : oneSize Try.prog 178 = true := by kernel_rfl
theorem size_178 : (Try.prog.info? 178).map (·.size) = some 1 := by kernel_rfl
theorem one_179 : oneSize Try.prog 179 = true := by kernel_rfl
theorem size_179 : (Try.prog.info? 179).map (·.size) = some 1 := by kernel_rfl
theorem one_180 : oneSize Try.prog 180 = true := by kernel_rfl
theorem size_180 : (Try.prog.info? 180).map (·.size) = some 1 := by kernel_rfl
theorem one_181 : oneSize Try.prog 181 = true := by kernel_rfl
theorem size_181 : (Try.prog.info? 181).map (·.size) = some 1 := by kernel_rfl
theorem one_182 : oneSize Try.prog 182 = true := by kernel_rfl
theorem size_182 : (Try.prog.info? 182).map (·.size) = some 1 := by kernel_rfl
theorem one_183 : oneSize Try.prog 183 = true := by kernel_rfl
theorem size_183 : (Try.prog.info? 183).map (·.size) = some 1 := by kernel_rfl
theorem one_185 : oneSize Try.prog 185 = true := by kernel_rfl
theorem size_185 : (Try.prog.info? 185).map (·.size) = some 1 := by kernel_rfl
theorem one_186 : oneSize Try.prog 186 = true := by kernel_rfl
theorem size_186 : (Try.prog.info? 186).map (·.size) = some 1 := by kernel_rfl
theorem one_188 : oneSize Try.prog 188 = true := by kernel_rfl
theorem size_188 : (Try.prog.info? 188).map (·.size) = some 1 := by kernel_rfl
theorem one_189 : oneSize Try.prog 189 = true := by kernel_rfl
theorem size_189 : (Try.prog.info? 189).map (·.size) = some 1 := by kernel_rfl
theorem one_190 : oneSize Try.prog 190 = true := by kernel_rfl
theorem size_190 : (Try.prog.info? 190).map (·.size) = some 1 := by kernel_rfl
theorem one_191 : oneSize Try.prog 191 = true := by kernel_rfl
theorem size_191 : (Try.prog.info? 191).map (·.size) = some 1 := by kernel_rfl
theorem one_192 : oneSize Try.prog 192 = true := by kernel_rfl
theorem size_192 : (Try.prog.info? 192).map (·.size) = some 1 := by kernel_rfl
theorem one_193 : oneSize Try.prog 193 = true := by kernel_rfl
theorem size_193 : (Try.prog.info? 193).map (·.size) = some 1 := by kernel_rfl
theorem one_195 : oneSize Try.prog 195 = true := by kernel_rfl
theorem size_195 : (Try.prog.info? 195).map (·.size) = some 1 := by kernel_rfl
theorem one_196 : oneSize Try.prog 196 = true := by kernel_rfl
theorem size_196 : (Try.prog.info? 196).map (·.size) = some 1 := by kernel_rfl
theorem one_197 : oneSize Try.prog 197 = true := by kernel_rfl
theorem size_197 : (Try.prog.info? 197).map (·.size) = some 1 := by kernel_rfl
theorem und_int_198 : Try.prog.underlying 198 = some (.int .i64) := by kernel_rfl
theorem zv_198 : ∀ w, (zeroValue 198).run Try.prog w = .ok (.int .i64 0) w := fun w => by kernel_rfl
theorem one_200 : oneSize Try.prog 200 = true := by kernel_rfl
theorem size_200 : (Try.prog.info? 200).map (·.size) = some 1 := by kernel_rfl
theorem one_201 : oneSize Try.prog 201 = true := by kernel_rfl
theorem size_201 : (Try.prog.info? 201).map (·.size) = some 1 := by kernel_rfl
theorem one_202 : oneSize Try.prog 202 = true := by kernel_rfl
theorem size_202 : (Try.prog.info? 202).map (·.size) = some 1 := by kernel_rfl
theorem one_203 : oneSize Try.prog 203 = true := by kernel_rfl
theorem size_203 : (Try.prog.info? 203).map (·.size) = some 1 := by kernel_rfl
theorem one_204 : oneSize Try.prog 204 = true := by kernel_rfl
theorem size_204 : (Try.prog.info? 204).map (·.size) = some 1 := by kernel_rfl
theorem und_int_205 : Try.prog.underlying 205 = some (.int .u32) := by kernel_rfl
theorem one_206 : oneSize Try.prog 206 = true := by kernel_rfl
theorem size_206 : (Try.prog.info? 206).map (·.size) = some 1 := by kernel_rfl
theorem und_int_207 : Try.prog.underlying 207 = some (.int .u64) := by kernel_rfl
theorem one_209 : oneSize Try.prog 209 = true := by kernel_rfl
theorem size_209 : (Try.prog.info? 209).map (·.size) = some 1 := by kernel_rfl
theorem one_211 : oneSize Try.prog 211 = true := by kernel_rfl
theorem size_211 : (Try.prog.info? 211).map (·.size) = some 1 := by kernel_rfl
theorem one_212 : oneSize Try.prog 212 = true := by kernel_rfl
theorem size_212 : (Try.prog.info? 212).map (·.size) = some 1 := by kernel_rfl
theorem one_213 : oneSize Try.prog 213 = true := by kernel_rfl
theorem size_213 : (Try.prog.info? 213).map (·.size) = some 1 := by kernel_rfl
theorem one_215 : oneSize Try.prog 215 = true := by kernel_rfl
theorem size_215 : (Try.prog.info? 215).map (·.size) = some 1 := by kernel_rfl
theorem one_216 : oneSize Try.prog 216 = true := by kernel_rfl
theorem size_216 : (Try.prog.info? 216).map (·.size) = some 1 := by kernel_rfl
theorem one_217 : oneSize Try.prog 217 = true := by kernel_rfl
theorem size_217 : (Try.prog.info? 217).map (·.size) = some 1 := by kernel_rfl
theorem one_218 : oneSize Try.prog 218 = true := by kernel_rfl
theorem size_218 : (Try.prog.info? 218).map (·.size) = some 1 := by kernel_rfl
theorem und_int_219 : Try.prog.underlying 219 = some (.int .u64) := by kernel_rfl
theorem one_220 : oneSize Try.prog 220 = true := by kernel_rfl
theorem size_220 : (Try.prog.info? 220).map (·.size) = some 1 := by kernel_rfl
theorem one_221 : oneSize Try.prog 221 = true := by kernel_rfl
theorem size_221 : (Try.prog.info? 221).map (·.size) = some 1 := by kernel_rfl
theorem one_222 : oneSize Try.prog 222 = true := by kernel_rfl
theorem size_222 : (Try.prog.info? 222).map (·.size) = some 1 := by kernel_rfl
theorem zv_223 : ∀ w, (zeroValue 223).run Try.prog w = .ok (.pointer none) w := fun w => by kernel_rfl
theorem one_224 : oneSize Try.prog 224 = true := by kernel_rfl
theorem size_224 : (Try.prog.info? 224).map (·.size) = some 1 := by kernel_rfl
theorem one_225 : oneSize Try.prog 225 = true := by kernel_rfl
theorem size_225 : (Try.prog.info? 225).map (·.size) = some 1 := by kernel_rfl
theorem zv_226 : ∀ w, (zeroValue 226).run Try.prog w = .ok (.agg #[.int .i64 0, .int .i64 0, .int .i64 0, .int .i64 0, .int .i64 0, .int .i64 0, .int .i64 0, .int .i64 0, .int .i64 0, .int .i64 0, .int .i64 0, .int .i64 0, .int .i64 0, .int .i64 0, .int .i64 0, .int .i64 0]) w := fun w => by kernel_rfl
theorem zv_227 : ∀ w, (zeroValue 227).run Try.prog w = .ok (.agg #[.int .i64 0, .int .i64 0, .int .i64 0, .int .i64 0, .int .i64 0, .int .i64 0, .int .i64 0, .int .i64 0, .int .i64 0, .int .i64 0, .int .i64 0, .int .i64 0, .int .i64 0, .int .i64 0, .int .i64 0, .int .i64 0]) w := fun w => by kernel_rfl
theorem one_228 : oneSize Try.prog 228 = true := by kernel_rfl
theorem size_228 : (Try.prog.info? 228).map (·.size) = some 1 := by kernel_rfl
theorem one_229 : oneSize Try.prog 229 = true := by kernel_rfl
theorem size_229 : (Try.prog.info? 229).map (·.size) = some 1 := by kernel_rfl
theorem zv_230 : ∀ w, (zeroValue 230).run Try.prog w = .ok (.pointer none) w := fun w => by kernel_rfl
theorem one_232 : oneSize Try.prog 232 = true := by kernel_rfl
theorem size_232 : (Try.prog.info? 232).map (·.size) = some 1 := by kernel_rfl
theorem one_233 : oneSize Try.prog 233 = true := by kernel_rfl
theorem size_233 : (Try.prog.info? 233).map (·.size) = some 1 := by kernel_rfl
theorem zv_236 : ∀ w, (zeroValue 236).run Try.prog w = .ok (.agg #[]) w := fun w => by kernel_rfl
theorem zv_237 : ∀ w, (zeroValue 237).run Try.prog w = .ok (.agg #[]) w := fun w => by kernel_rfl
theorem zv_238 : ∀ w, (zeroValue 238).run Try.prog w = .ok (.agg #[]) w := fun w => by kernel_rfl
theorem one_239 : oneSize Try.prog 239 = true := by kernel_rfl
theorem size_239 : (Try.prog.info? 239).map (·.size) = some 1 := by kernel_rfl
theorem und_int_240 : Try.prog.underlying 240 = some (.int .u8) := by kernel_rfl
theorem und_int_241 : Try.prog.underlying 241 = some (.int .u8) := by kernel_rfl
theorem one_242 : oneSize Try.prog 242 = true := by kernel_rfl
theorem size_242 : (Try.prog.info? 242).map (·.size) = some 1 := by kernel_rfl
theorem zv_243 : ∀ w, (zeroValue 243).run Try.prog w = .ok (.pointer none) w := fun w => by kernel_rfl
theorem und_int_244 : Try.prog.underlying 244 = some (.int .i32) := by kernel_rfl
theorem und_int_245 : Try.prog.underlying 245 = some (.int .i32) := by kernel_rfl
end Go.Proofs.Ythpaadmpgdglnaa
