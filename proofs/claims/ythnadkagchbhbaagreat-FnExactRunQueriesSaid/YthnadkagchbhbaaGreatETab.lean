/- What the program says of its types and functions: closed facts, by program. -/
import Derived.Test.YthnadkagchbhbaaGreatF2
import Derived.Test.YthnadkagchbhbaaGreatProg
namespace Go.Proofs.YthnadkagchbhbaaGreat.E
open Go Go.Proofs

theorem ty_3 : tyIs Tryz.prog 3 = some (false, 1) := by kernel_rfl
theorem by_3 : (Tryz.prog.info? 3).map (·.bytes) = some 8 := by kernel_rfl
theorem za_3 : zav Tryz.prog 3 = some [.sc (.int .i64 0)] := by kernel_rfl
theorem bo_4 : Tryz.prog.underlying 4 = some .bool := by kernel_rfl
theorem ty_22 : tyIs Tryz.prog 22 = some (false, 1) := by kernel_rfl
theorem by_22 : (Tryz.prog.info? 22).map (·.bytes) = some 24 := by kernel_rfl
theorem za_22 : zav Tryz.prog 22 = some [.sc (.slice none 0 0)] := by kernel_rfl
theorem sl_22 : isSlice Tryz.prog 22 = some 3 := by kernel_rfl
theorem ty_24 : tyIs Tryz.prog 24 = some (true, 3) := by kernel_rfl
theorem fo_24_0 : fofs Tryz.prog 24 0 = some 0 := by kernel_rfl
theorem fo_24_1 : fofs Tryz.prog 24 1 = some 1 := by kernel_rfl
theorem fo_24_2 : fofs Tryz.prog 24 2 = some 2 := by kernel_rfl
theorem sl_25 : isSlice Tryz.prog 25 = some 56 := by kernel_rfl
theorem ty_27 : tyIs Tryz.prog 27 = some (false, 1) := by kernel_rfl
theorem sl_27 : isSlice Tryz.prog 27 = some 76 := by kernel_rfl
theorem ty_29 : tyIs Tryz.prog 29 = some (true, 3) := by kernel_rfl
theorem za_29 : zav Tryz.prog 29 = some [.sc (.slice none 0 0), .sc (.slice none 0 0), .sc (.slice none 0 0)] := by kernel_rfl
theorem fo_29_0 : fofs Tryz.prog 29 0 = some 0 := by kernel_rfl
theorem fo_29_1 : fofs Tryz.prog 29 1 = some 1 := by kernel_rfl
theorem fo_29_2 : fofs Tryz.prog 29 2 = some 2 := by kernel_rfl
theorem bd_29 : bld Tryz.prog 29 = some ([(.slice none 0 0), (.slice none 0 0), (.slice none 0 0)], [(0, 1), (1, 1), (2, 1)]) := by kernel_rfl
theorem sl_30 : isSlice Tryz.prog 30 = some 22 := by kernel_rfl
theorem ty_34 : tyIs Tryz.prog 34 = some (true, 3) := by kernel_rfl
theorem za_34 : zav Tryz.prog 34 = some [.sc (.int .i64 0), .sc (.int .i64 0), .sc (.int .i64 0)] := by kernel_rfl
theorem fo_34_0 : fofs Tryz.prog 34 0 = some 0 := by kernel_rfl
theorem fo_34_1 : fofs Tryz.prog 34 1 = some 1 := by kernel_rfl
theorem fo_34_2 : fofs Tryz.prog 34 2 = some 2 := by kernel_rfl
theorem sl_36 : isSlice Tryz.prog 36 = some 54 := by kernel_rfl
theorem ty_54 : tyIs Tryz.prog 54 = some (true, 2) := by kernel_rfl
theorem by_54 : (Tryz.prog.info? 54).map (·.bytes) = some 16 := by kernel_rfl
theorem za_54 : zav Tryz.prog 54 = some [.sc (.int .i64 0), .sc (.int .i64 0)] := by kernel_rfl
theorem fo_54_0 : fofs Tryz.prog 54 0 = some 0 := by kernel_rfl
theorem fo_54_1 : fofs Tryz.prog 54 1 = some 1 := by kernel_rfl
theorem ty_56 : tyIs Tryz.prog 56 = some (true, 2) := by kernel_rfl
theorem fo_56_0 : fofs Tryz.prog 56 0 = some 0 := by kernel_rfl
theorem fo_56_1 : fofs Tryz.prog 56 1 = some 1 := by kernel_rfl
theorem ty_76 : tyIs Tryz.prog 76 = some (true, 2) := by kernel_rfl
theorem by_76 : (Tryz.prog.info? 76).map (·.bytes) = some 16 := by kernel_rfl
theorem za_76 : zav Tryz.prog 76 = some [.sc (.int .i64 0), .sc (.int .i64 0)] := by kernel_rfl
theorem fo_76_0 : fofs Tryz.prog 76 0 = some 0 := by kernel_rfl
theorem fo_76_1 : fofs Tryz.prog 76 1 = some 1 := by kernel_rfl
theorem bd_76 : bld Tryz.prog 76 = some ([(.int .i64 0), (.int .i64 0)], [(0, 1), (1, 1)]) := by kernel_rfl
theorem ty_79 : tyIs Tryz.prog 79 = some (false, 1) := by kernel_rfl
theorem za_79 : zav Tryz.prog 79 = some [.sc (.slice none 0 0)] := by kernel_rfl
theorem sl_79 : isSlice Tryz.prog 79 = some 93 := by kernel_rfl
theorem ty_93 : tyIs Tryz.prog 93 = some (true, 5) := by kernel_rfl
theorem by_93 : (Tryz.prog.info? 93).map (·.bytes) = some 40 := by kernel_rfl
theorem za_93 : zav Tryz.prog 93 = some [.sc (.int .i64 0), .sc (.int .i64 0), .sc (.int .i64 0), .sc (.int .i64 0), .sc (.int .i64 0)] := by kernel_rfl
theorem fo_93_4 : fofs Tryz.prog 93 4 = some 4 := by kernel_rfl
theorem bd_93 : bld Tryz.prog 93 = some ([(.int .i64 0), (.int .i64 0), (.int .i64 0), (.int .i64 0), (.int .i64 0)], [(0, 1), (1, 1), (2, 1), (3, 1), (4, 1)]) := by kernel_rfl
theorem sl_99 : isSlice Tryz.prog 99 = some 120 := by kernel_rfl
theorem ty_120 : tyIs Tryz.prog 120 = some (true, 2) := by kernel_rfl
theorem by_120 : (Tryz.prog.info? 120).map (·.bytes) = some 16 := by kernel_rfl
theorem za_120 : zav Tryz.prog 120 = some [.sc (.int .i64 0), .sc (.int .i64 0)] := by kernel_rfl
theorem fo_120_0 : fofs Tryz.prog 120 0 = some 0 := by kernel_rfl
theorem fo_120_1 : fofs Tryz.prog 120 1 = some 1 := by kernel_rfl
theorem bd_120 : bld Tryz.prog 120 = some ([(.int .i64 0), (.int .i64 0)], [(0, 1), (1, 1)]) := by kernel_rfl
theorem ca_4 : callable Tryz.prog 4 = true := by kernel_rfl
theorem ca_5 : callable Tryz.prog 5 = true := by kernel_rfl
theorem ca_6 : callable Tryz.prog 6 = true := by kernel_rfl
theorem ca_7 : callable Tryz.prog 7 = true := by kernel_rfl
theorem ca_8 : callable Tryz.prog 8 = true := by kernel_rfl
theorem ca_9 : callable Tryz.prog 9 = true := by kernel_rfl
theorem ca_10 : callable Tryz.prog 10 = true := by kernel_rfl
theorem ca_11 : callable Tryz.prog 11 = true := by kernel_rfl
theorem ca_12 : callable Tryz.prog 12 = true := by kernel_rfl
theorem ca_13 : callable Tryz.prog 13 = true := by kernel_rfl
theorem ca_14 : callable Tryz.prog 14 = true := by kernel_rfl
theorem ca_15 : callable Tryz.prog 15 = true := by kernel_rfl
theorem ca_16 : callable Tryz.prog 16 = true := by kernel_rfl
theorem ca_17 : callable Tryz.prog 17 = true := by kernel_rfl
theorem ca_18 : callable Tryz.prog 18 = true := by kernel_rfl
theorem ca_19 : callable Tryz.prog 19 = true := by kernel_rfl
theorem ca_20 : callable Tryz.prog 20 = true := by kernel_rfl
theorem ca_21 : callable Tryz.prog 21 = true := by kernel_rfl
theorem ca_22 : callable Tryz.prog 22 = true := by kernel_rfl
theorem ca_23 : callable Tryz.prog 23 = true := by kernel_rfl
theorem ca_24 : callable Tryz.prog 24 = true := by kernel_rfl
theorem ca_25 : callable Tryz.prog 25 = true := by kernel_rfl
theorem ca_26 : callable Tryz.prog 26 = true := by kernel_rfl
theorem ca_27 : callable Tryz.prog 27 = true := by kernel_rfl
theorem ca_28 : callable Tryz.prog 28 = true := by kernel_rfl
theorem ca_29 : callable Tryz.prog 29 = true := by kernel_rfl
theorem ca_30 : callable Tryz.prog 30 = true := by kernel_rfl
theorem ca_31 : callable Tryz.prog 31 = true := by kernel_rfl
theorem ca_32 : callable Tryz.prog 32 = true := by kernel_rfl
theorem ca_33 : callable Tryz.prog 33 = true := by kernel_rfl
theorem ca_34 : callable Tryz.prog 34 = true := by kernel_rfl
theorem ca_35 : callable Tryz.prog 35 = true := by kernel_rfl
theorem ca_36 : callable Tryz.prog 36 = true := by kernel_rfl
theorem ca_37 : callable Tryz.prog 37 = true := by kernel_rfl
theorem ca_38 : callable Tryz.prog 38 = true := by kernel_rfl
theorem ca_39 : callable Tryz.prog 39 = true := by kernel_rfl
theorem ca_40 : callable Tryz.prog 40 = true := by kernel_rfl
theorem ca_41 : callable Tryz.prog 41 = true := by kernel_rfl
theorem ca_42 : callable Tryz.prog 42 = true := by kernel_rfl
theorem ca_43 : callable Tryz.prog 43 = true := by kernel_rfl
theorem ca_44 : callable Tryz.prog 44 = true := by kernel_rfl
theorem ca_45 : callable Tryz.prog 45 = true := by kernel_rfl
theorem ca_46 : callable Tryz.prog 46 = true := by kernel_rfl
theorem ca_47 : callable Tryz.prog 47 = true := by kernel_rfl
theorem ca_48 : callable Tryz.prog 48 = true := by kernel_rfl
theorem ca_49 : callable Tryz.prog 49 = true := by kernel_rfl
theorem ca_50 : callable Tryz.prog 50 = true := by kernel_rfl
theorem ca_51 : callable Tryz.prog 51 = true := by kernel_rfl
theorem ca_52 : callable Tryz.prog 52 = true := by kernel_rfl
theorem ca_53 : callable Tryz.prog 53 = true := by kernel_rfl
theorem ca_54 : callable Tryz.prog 54 = true := by kernel_rfl
theorem ca_55 : callable Tryz.prog 55 = true := by kernel_rfl
theorem ca_56 : callable Tryz.prog 56 = true := by kernel_rfl
theorem ca_57 : callable Tryz.prog 57 = true := by kernel_rfl
theorem ca_58 : callable Tryz.prog 58 = true := by kernel_rfl
theorem ca_59 : callable Tryz.prog 59 = true := by kernel_rfl
theorem ca_60 : callable Tryz.prog 60 = true := by kernel_rfl
theorem ca_61 : callable Tryz.prog 61 = true := by kernel_rfl
theorem ca_62 : callable Tryz.prog 62 = true := by kernel_rfl
theorem ca_63 : callable Tryz.prog 63 = true := by kernel_rfl
theorem ca_64 : callable Tryz.prog 64 = true := by kernel_rfl
theorem ca_65 : callable Tryz.prog 65 = true := by kernel_rfl
theorem ca_66 : callable Tryz.prog 66 = true := by kernel_rfl
theorem ca_67 : callable Tryz.prog 67 = true := by kernel_rfl
theorem ca_68 : callable Tryz.prog 68 = true := by kernel_rfl
theorem ca_69 : callable Tryz.prog 69 = true := by kernel_rfl
theorem ca_70 : callable Tryz.prog 70 = true := by kernel_rfl
theorem ca_71 : callable Tryz.prog 71 = true := by kernel_rfl
theorem ca_72 : callable Tryz.prog 72 = true := by kernel_rfl
theorem ca_73 : callable Tryz.prog 73 = true := by kernel_rfl
theorem ca_74 : callable Tryz.prog 74 = true := by kernel_rfl
theorem ca_75 : callable Tryz.prog 75 = true := by kernel_rfl
theorem ca_76 : callable Tryz.prog 76 = true := by kernel_rfl
theorem ca_77 : callable Tryz.prog 77 = true := by kernel_rfl
theorem ca_78 : callable Tryz.prog 78 = true := by kernel_rfl
theorem ca_79 : callable Tryz.prog 79 = true := by kernel_rfl
theorem ca_80 : callable Tryz.prog 80 = true := by kernel_rfl
theorem ca_81 : callable Tryz.prog 81 = true := by kernel_rfl
theorem ca_82 : callable Tryz.prog 82 = true := by kernel_rfl
theorem ca_83 : callable Tryz.prog 83 = true := by kernel_rfl
theorem ca_84 : callable Tryz.prog 84 = true := by kernel_rfl
theorem ca_85 : callable Tryz.prog 85 = true := by kernel_rfl
theorem ca_86 : callable Tryz.prog 86 = true := by kernel_rfl
theorem ca_87 : callable Tryz.prog 87 = true := by kernel_rfl
theorem ca_88 : callable Tryz.prog 88 = true := by kernel_rfl
theorem ca_89 : callable Tryz.prog 89 = true := by kernel_rfl
theorem ca_90 : callable Tryz.prog 90 = true := by kernel_rfl
theorem ca_91 : callable Tryz.prog 91 = true := by kernel_rfl
theorem ca_92 : callable Tryz.prog 92 = true := by kernel_rfl
theorem ca_93 : callable Tryz.prog 93 = true := by kernel_rfl
theorem ca_94 : callable Tryz.prog 94 = true := by kernel_rfl
theorem ca_95 : callable Tryz.prog 95 = true := by kernel_rfl
theorem ca_96 : callable Tryz.prog 96 = true := by kernel_rfl
theorem ca_97 : callable Tryz.prog 97 = true := by kernel_rfl
theorem mixed : Tryz.prog.follows .mixedOrders = true := by kernel_rfl

end Go.Proofs.YthnadkagchbhbaaGreat.E
