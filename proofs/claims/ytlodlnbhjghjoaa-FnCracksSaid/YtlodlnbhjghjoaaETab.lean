/- What the program says of its types and functions: closed facts, by program. -/
import Derived.Test.YtlodlnbhjghjoaaF2
import Derived.Test.YtlodlnbhjghjoaaProg
namespace Go.Proofs.Ytlodlnbhjghjoaa.E
open Go Go.Proofs

theorem ty_3 : tyIs Try.prog 3 = some (false, 1) := by kernel_rfl
theorem by_3 : (Try.prog.info? 3).map (·.bytes) = some 8 := by kernel_rfl
theorem za_3 : zav Try.prog 3 = some [.sc (.int .i64 0)] := by kernel_rfl
theorem bo_4 : Try.prog.underlying 4 = some .bool := by kernel_rfl
theorem ty_5 : tyIs Try.prog 5 = some (false, 1) := by kernel_rfl
theorem ty_22 : tyIs Try.prog 22 = some (false, 1) := by kernel_rfl
theorem sl_22 : isSlice Try.prog 22 = some 3 := by kernel_rfl
theorem ty_33 : tyIs Try.prog 33 = some (false, 1) := by kernel_rfl
theorem sl_33 : isSlice Try.prog 33 = some 101 := by kernel_rfl
theorem ty_35 : tyIs Try.prog 35 = some (true, 3) := by kernel_rfl
theorem za_35 : zav Try.prog 35 = some [.sc (.slice none 0 0), .sc (.slice none 0 0), .sc (.slice none 0 0)] := by kernel_rfl
theorem fo_35_0 : fofs Try.prog 35 0 = some 0 := by kernel_rfl
theorem fo_35_1 : fofs Try.prog 35 1 = some 1 := by kernel_rfl
theorem fo_35_2 : fofs Try.prog 35 2 = some 2 := by kernel_rfl
theorem bd_35 : bld Try.prog 35 = some ([(.slice none 0 0), (.slice none 0 0), (.slice none 0 0)], [(0, 1), (1, 1), (2, 1)]) := by kernel_rfl
theorem ty_50 : tyIs Try.prog 50 = some (false, 1) := by kernel_rfl
theorem sl_50 : isSlice Try.prog 50 = some 5 := by kernel_rfl
theorem sl_54 : isSlice Try.prog 54 = some 126 := by kernel_rfl
theorem ty_101 : tyIs Try.prog 101 = some (true, 2) := by kernel_rfl
theorem by_101 : (Try.prog.info? 101).map (·.bytes) = some 16 := by kernel_rfl
theorem za_101 : zav Try.prog 101 = some [.sc (.int .i64 0), .sc (.int .i64 0)] := by kernel_rfl
theorem fo_101_0 : fofs Try.prog 101 0 = some 0 := by kernel_rfl
theorem fo_101_1 : fofs Try.prog 101 1 = some 1 := by kernel_rfl
theorem se_101 : intStruct Try.prog 101 = true := by kernel_rfl
theorem fd_101 : (Try.prog.fieldsOf 101).size = 2 := by kernel_rfl
theorem bd_101 : bld Try.prog 101 = some ([(.int .i64 0), (.int .i64 0)], [(0, 1), (1, 1)]) := by kernel_rfl
theorem fo_119_0 : fofs Try.prog 119 0 = some 0 := by kernel_rfl
theorem fo_119_1 : fofs Try.prog 119 1 = some 1 := by kernel_rfl
theorem fo_119_2 : fofs Try.prog 119 2 = some 2 := by kernel_rfl
theorem bd_119 : bld Try.prog 119 = some ([(.slice none 0 0), (.int .i64 0), (.int .i64 0)], [(0, 1), (1, 1), (2, 1)]) := by kernel_rfl
theorem ty_126 : tyIs Try.prog 126 = some (true, 2) := by kernel_rfl
theorem by_126 : (Try.prog.info? 126).map (·.bytes) = some 16 := by kernel_rfl
theorem za_126 : zav Try.prog 126 = some [.sc (.int .i64 0), .sc (.int .i64 0)] := by kernel_rfl
theorem fo_126_0 : fofs Try.prog 126 0 = some 0 := by kernel_rfl
theorem fo_126_1 : fofs Try.prog 126 1 = some 1 := by kernel_rfl
theorem bd_126 : bld Try.prog 126 = some ([(.int .i64 0), (.int .i64 0)], [(0, 1), (1, 1)]) := by kernel_rfl
theorem ca_18 : callable Try.prog 18 = true := by kernel_rfl
theorem ca_19 : callable Try.prog 19 = true := by kernel_rfl
theorem ca_20 : callable Try.prog 20 = true := by kernel_rfl
theorem ca_21 : callable Try.prog 21 = true := by kernel_rfl
theorem ca_22 : callable Try.prog 22 = true := by kernel_rfl
theorem ca_23 : callable Try.prog 23 = true := by kernel_rfl
theorem ca_24 : callable Try.prog 24 = true := by kernel_rfl
theorem ca_25 : callable Try.prog 25 = true := by kernel_rfl
theorem ca_26 : callable Try.prog 26 = true := by kernel_rfl
theorem ca_27 : callable Try.prog 27 = true := by kernel_rfl
theorem ca_28 : callable Try.prog 28 = true := by kernel_rfl
theorem ca_32 : callable Try.prog 32 = true := by kernel_rfl
theorem ca_43 : callable Try.prog 43 = true := by kernel_rfl
theorem ca_60 : callable Try.prog 60 = true := by kernel_rfl
theorem ca_61 : callable Try.prog 61 = true := by kernel_rfl
theorem ca_62 : callable Try.prog 62 = true := by kernel_rfl
theorem ca_63 : callable Try.prog 63 = true := by kernel_rfl
theorem ca_64 : callable Try.prog 64 = true := by kernel_rfl
theorem ca_65 : callable Try.prog 65 = true := by kernel_rfl
theorem ca_66 : callable Try.prog 66 = true := by kernel_rfl
theorem ca_67 : callable Try.prog 67 = true := by kernel_rfl
theorem ca_68 : callable Try.prog 68 = true := by kernel_rfl
theorem ca_69 : callable Try.prog 69 = true := by kernel_rfl
theorem ca_70 : callable Try.prog 70 = true := by kernel_rfl
theorem ca_71 : callable Try.prog 71 = true := by kernel_rfl
theorem ca_72 : callable Try.prog 72 = true := by kernel_rfl
theorem ca_73 : callable Try.prog 73 = true := by kernel_rfl
theorem ca_74 : callable Try.prog 74 = true := by kernel_rfl
theorem ca_75 : callable Try.prog 75 = true := by kernel_rfl
theorem ca_76 : callable Try.prog 76 = true := by kernel_rfl
theorem ca_77 : callable Try.prog 77 = true := by kernel_rfl
theorem ca_78 : callable Try.prog 78 = true := by kernel_rfl
theorem ca_79 : callable Try.prog 79 = true := by kernel_rfl
theorem ca_80 : callable Try.prog 80 = true := by kernel_rfl
theorem ca_83 : callable Try.prog 83 = true := by kernel_rfl
theorem ca_87 : callable Try.prog 87 = true := by kernel_rfl
theorem ca_88 : callable Try.prog 88 = true := by kernel_rfl
theorem ca_93 : callable Try.prog 93 = true := by kernel_rfl
theorem ca_97 : callable Try.prog 97 = true := by kernel_rfl
theorem ca_98 : callable Try.prog 98 = true := by kernel_rfl
theorem ca_99 : callable Try.prog 99 = true := by kernel_rfl
theorem ca_100 : callable Try.prog 100 = true := by kernel_rfl
theorem ca_101 : callable Try.prog 101 = true := by kernel_rfl
theorem ca_102 : callable Try.prog 102 = true := by kernel_rfl
theorem ca_103 : callable Try.prog 103 = true := by kernel_rfl
theorem ca_104 : callable Try.prog 104 = true := by kernel_rfl
theorem ca_105 : callable Try.prog 105 = true := by kernel_rfl
theorem ca_106 : callable Try.prog 106 = true := by kernel_rfl
theorem ca_107 : callable Try.prog 107 = true := by kernel_rfl
theorem ca_108 : callable Try.prog 108 = true := by kernel_rfl
theorem ca_110 : callable Try.prog 110 = true := by kernel_rfl
theorem ca_111 : callable Try.prog 111 = true := by kernel_rfl
theorem ca_112 : callable Try.prog 112 = true := by kernel_rfl
theorem ca_113 : callable Try.prog 113 = true := by kernel_rfl
theorem ca_114 : callable Try.prog 114 = true := by kernel_rfl
theorem ca_115 : callable Try.prog 115 = true := by kernel_rfl
theorem ca_116 : callable Try.prog 116 = true := by kernel_rfl
theorem ca_117 : callable Try.prog 117 = true := by kernel_rfl
theorem mixed : Try.prog.follows .mixedOrders = true := by kernel_rfl

end Go.Proofs.Ytlodlnbhjghjoaa.E
