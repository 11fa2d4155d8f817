/- What the program says of its types and functions: closed facts, by program. -/
import Derived.Test.YtlodlnbhjghjoaaF2
import Derived.Test.YtlodlnbhjghjoaaProg
namespace Go.Proofs.Ytlodlnbhjghjoaa.E
open Go Go.Proofs

theorem ty_3 : tyIs Try.prog 3 = some (false, 1) := by kernel_rfl
theorem by_3 : (Try.prog.info? 3).map (·.bytes) = some 8 := by kernel_rfl
theorem za_3 : zav Try.prog 3 = some [.sc (.int .i64 0)] := by kernel_rfl
theorem bo_4 : Try.prog.underlying 4 = some .bool := by kernel_rfl
theorem ty_22 : tyIs Try.prog 22 = some (false, 1) := by kernel_rfl
theorem sl_22 : isSlice Try.prog 22 = some 3 := by kernel_rfl
theorem ty_23 : tyIs Try.prog 23 = some (false, 1) := by kernel_rfl
theorem sl_23 : isSlice Try.prog 23 = some 109 := by kernel_rfl
theorem ty_25 : tyIs Try.prog 25 = some (true, 3) := by kernel_rfl
theorem fo_25_0 : fofs Try.prog 25 0 = some 0 := by kernel_rfl
theorem fo_25_1 : fofs Try.prog 25 1 = some 1 := by kernel_rfl
theorem fo_25_2 : fofs Try.prog 25 2 = some 2 := by kernel_rfl
theorem ty_26 : tyIs Try.prog 26 = some (false, 1) := by kernel_rfl
theorem sl_26 : isSlice Try.prog 26 = some 111 := by kernel_rfl
theorem ty_28 : tyIs Try.prog 28 = some (true, 2) := by kernel_rfl
theorem fo_28_0 : fofs Try.prog 28 0 = some 0 := by kernel_rfl
theorem fo_28_1 : fofs Try.prog 28 1 = some 1 := by kernel_rfl
theorem ty_30 : tyIs Try.prog 30 = some (true, 2) := by kernel_rfl
theorem fo_30_0 : fofs Try.prog 30 0 = some 0 := by kernel_rfl
theorem fo_30_1 : fofs Try.prog 30 1 = some 1 := by kernel_rfl
theorem ty_33 : tyIs Try.prog 33 = some (false, 1) := by kernel_rfl
theorem sl_33 : isSlice Try.prog 33 = some 101 := by kernel_rfl
theorem ty_35 : tyIs Try.prog 35 = some (true, 3) := by kernel_rfl
theorem za_35 : zav Try.prog 35 = some [.sc (.slice none 0 0), .sc (.slice none 0 0), .sc (.slice none 0 0)] := by kernel_rfl
theorem fo_35_0 : fofs Try.prog 35 0 = some 0 := by kernel_rfl
theorem fo_35_1 : fofs Try.prog 35 1 = some 1 := by kernel_rfl
theorem fo_35_2 : fofs Try.prog 35 2 = some 2 := by kernel_rfl
theorem bd_35 : bld Try.prog 35 = some ([(.slice none 0 0), (.slice none 0 0), (.slice none 0 0)], [(0, 1), (1, 1), (2, 1)]) := by kernel_rfl
theorem ty_36 : tyIs Try.prog 36 = some (false, 1) := by kernel_rfl
theorem sl_36 : isSlice Try.prog 36 = some 76 := by kernel_rfl
theorem ty_38 : tyIs Try.prog 38 = some (true, 2) := by kernel_rfl
theorem za_38 : zav Try.prog 38 = some [.sc (.slice none 0 0), .sc (.slice none 0 0)] := by kernel_rfl
theorem fo_38_0 : fofs Try.prog 38 0 = some 0 := by kernel_rfl
theorem fo_38_1 : fofs Try.prog 38 1 = some 1 := by kernel_rfl
theorem bd_38 : bld Try.prog 38 = some ([(.slice none 0 0), (.slice none 0 0)], [(0, 1), (1, 1)]) := by kernel_rfl
theorem ty_43 : tyIs Try.prog 43 = some (true, 2) := by kernel_rfl
theorem za_43 : zav Try.prog 43 = some [.sc (.int .i64 0), .sc (.int .i64 0)] := by kernel_rfl
theorem fo_43_0 : fofs Try.prog 43 0 = some 0 := by kernel_rfl
theorem fo_43_1 : fofs Try.prog 43 1 = some 1 := by kernel_rfl
theorem ty_76 : tyIs Try.prog 76 = some (true, 2) := by kernel_rfl
theorem by_76 : (Try.prog.info? 76).map (·.bytes) = some 16 := by kernel_rfl
theorem za_76 : zav Try.prog 76 = some [.sc (.int .i64 0), .sc (.int .i64 0)] := by kernel_rfl
theorem fo_76_0 : fofs Try.prog 76 0 = some 0 := by kernel_rfl
theorem fo_76_1 : fofs Try.prog 76 1 = some 1 := by kernel_rfl
theorem ty_101 : tyIs Try.prog 101 = some (true, 2) := by kernel_rfl
theorem by_101 : (Try.prog.info? 101).map (·.bytes) = some 16 := by kernel_rfl
theorem za_101 : zav Try.prog 101 = some [.sc (.int .i64 0), .sc (.int .i64 0)] := by kernel_rfl
theorem fo_101_0 : fofs Try.prog 101 0 = some 0 := by kernel_rfl
theorem fo_101_1 : fofs Try.prog 101 1 = some 1 := by kernel_rfl
theorem ty_109 : tyIs Try.prog 109 = some (true, 2) := by kernel_rfl
theorem fo_109_0 : fofs Try.prog 109 0 = some 0 := by kernel_rfl
theorem fo_109_1 : fofs Try.prog 109 1 = some 1 := by kernel_rfl
theorem ty_111 : tyIs Try.prog 111 = some (true, 2) := by kernel_rfl
theorem fo_111_0 : fofs Try.prog 111 0 = some 0 := by kernel_rfl
theorem fo_111_1 : fofs Try.prog 111 1 = some 1 := by kernel_rfl
theorem ca_5 : callable Try.prog 5 = true := by kernel_rfl
theorem ca_6 : callable Try.prog 6 = true := by kernel_rfl
theorem ca_7 : callable Try.prog 7 = true := by kernel_rfl
theorem ca_8 : callable Try.prog 8 = true := by kernel_rfl
theorem ca_9 : callable Try.prog 9 = true := by kernel_rfl
theorem ca_10 : callable Try.prog 10 = true := by kernel_rfl
theorem ca_11 : callable Try.prog 11 = true := by kernel_rfl
theorem ca_12 : callable Try.prog 12 = true := by kernel_rfl
theorem ca_13 : callable Try.prog 13 = true := by kernel_rfl
theorem ca_14 : callable Try.prog 14 = true := by kernel_rfl
theorem ca_15 : callable Try.prog 15 = true := by kernel_rfl
theorem ca_16 : callable Try.prog 16 = true := by kernel_rfl
theorem ca_17 : callable Try.prog 17 = true := by kernel_rfl
theorem ca_26 : callable Try.prog 26 = true := by kernel_rfl
theorem ca_29 : callable Try.prog 29 = true := by kernel_rfl
theorem ca_30 : callable Try.prog 30 = true := by kernel_rfl
theorem ca_31 : callable Try.prog 31 = true := by kernel_rfl
theorem ca_32 : callable Try.prog 32 = true := by kernel_rfl
theorem ca_33 : callable Try.prog 33 = true := by kernel_rfl
theorem ca_34 : callable Try.prog 34 = true := by kernel_rfl
theorem ca_35 : callable Try.prog 35 = true := by kernel_rfl
theorem ca_36 : callable Try.prog 36 = true := by kernel_rfl
theorem ca_37 : callable Try.prog 37 = true := by kernel_rfl
theorem ca_38 : callable Try.prog 38 = true := by kernel_rfl
theorem ca_39 : callable Try.prog 39 = true := by kernel_rfl
theorem ca_40 : callable Try.prog 40 = true := by kernel_rfl
theorem ca_41 : callable Try.prog 41 = true := by kernel_rfl
theorem ca_42 : callable Try.prog 42 = true := by kernel_rfl
theorem ca_43 : callable Try.prog 43 = true := by kernel_rfl
theorem ca_44 : callable Try.prog 44 = true := by kernel_rfl
theorem ca_45 : callable Try.prog 45 = true := by kernel_rfl
theorem ca_46 : callable Try.prog 46 = true := by kernel_rfl
theorem ca_47 : callable Try.prog 47 = true := by kernel_rfl
theorem ca_48 : callable Try.prog 48 = true := by kernel_rfl
theorem ca_49 : callable Try.prog 49 = true := by kernel_rfl
theorem ca_50 : callable Try.prog 50 = true := by kernel_rfl
theorem ca_51 : callable Try.prog 51 = true := by kernel_rfl
theorem ca_52 : callable Try.prog 52 = true := by kernel_rfl
theorem ca_53 : callable Try.prog 53 = true := by kernel_rfl
theorem ca_54 : callable Try.prog 54 = true := by kernel_rfl
theorem ca_55 : callable Try.prog 55 = true := by kernel_rfl
theorem ca_56 : callable Try.prog 56 = true := by kernel_rfl
theorem ca_57 : callable Try.prog 57 = true := by kernel_rfl
theorem ca_58 : callable Try.prog 58 = true := by kernel_rfl
theorem ca_59 : callable Try.prog 59 = true := by kernel_rfl
theorem ca_65 : callable Try.prog 65 = true := by kernel_rfl
theorem ca_67 : callable Try.prog 67 = true := by kernel_rfl
theorem ca_68 : callable Try.prog 68 = true := by kernel_rfl
theorem ca_77 : callable Try.prog 77 = true := by kernel_rfl
theorem ca_78 : callable Try.prog 78 = true := by kernel_rfl
theorem ca_79 : callable Try.prog 79 = true := by kernel_rfl
theorem ca_81 : callable Try.prog 81 = true := by kernel_rfl
theorem ca_82 : callable Try.prog 82 = true := by kernel_rfl
theorem ca_83 : callable Try.prog 83 = true := by kernel_rfl
theorem ca_84 : callable Try.prog 84 = true := by kernel_rfl
theorem ca_85 : callable Try.prog 85 = true := by kernel_rfl
theorem ca_86 : callable Try.prog 86 = true := by kernel_rfl
theorem ca_87 : callable Try.prog 87 = true := by kernel_rfl
theorem ca_88 : callable Try.prog 88 = true := by kernel_rfl
theorem ca_89 : callable Try.prog 89 = true := by kernel_rfl
theorem ca_90 : callable Try.prog 90 = true := by kernel_rfl
theorem ca_91 : callable Try.prog 91 = true := by kernel_rfl
theorem ca_92 : callable Try.prog 92 = true := by kernel_rfl
theorem ca_93 : callable Try.prog 93 = true := by kernel_rfl
theorem ca_94 : callable Try.prog 94 = true := by kernel_rfl
theorem ca_95 : callable Try.prog 95 = true := by kernel_rfl
theorem ca_96 : callable Try.prog 96 = true := by kernel_rfl
theorem ca_103 : callable Try.prog 103 = true := by kernel_rfl
theorem ca_104 : callable Try.prog 104 = true := by kernel_rfl
theorem ca_107 : callable Try.prog 107 = true := by kernel_rfl
theorem ca_108 : callable Try.prog 108 = true := by kernel_rfl
theorem ca_109 : callable Try.prog 109 = true := by kernel_rfl
theorem ca_117 : callable Try.prog 117 = true := by kernel_rfl
theorem mixed : Try.prog.follows .mixedOrders = true := by kernel_rfl

end Go.Proofs.Ytlodlnbhjghjoaa.E
