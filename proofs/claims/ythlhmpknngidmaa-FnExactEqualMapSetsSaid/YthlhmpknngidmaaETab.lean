/- What the program says of its types and functions: closed facts, by program. -/
import Derived.Test.YthlhmpknngidmaaF2
import Derived.Test.YthlhmpknngidmaaProg
namespace Go.Proofs.Ythlhmpknngidmaa.E
open Go Go.Proofs

theorem ty_3 : tyIs Try.prog 3 = some (false, 1) := by kernel_rfl
theorem by_3 : (Try.prog.info? 3).map (·.bytes) = some 8 := by kernel_rfl
theorem za_3 : zav Try.prog 3 = some [.sc (.int .i64 0)] := by kernel_rfl
theorem ty_4 : tyIs Try.prog 4 = some (false, 1) := by kernel_rfl
theorem by_4 : (Try.prog.info? 4).map (·.bytes) = some 1 := by kernel_rfl
theorem za_4 : zav Try.prog 4 = some [.sc (.bool false)] := by kernel_rfl
theorem bo_4 : Try.prog.underlying 4 = some .bool := by kernel_rfl
theorem ty_22 : tyIs Try.prog 22 = some (false, 1) := by kernel_rfl
theorem sl_22 : isSlice Try.prog 22 = some 27 := by kernel_rfl
theorem ty_27 : tyIs Try.prog 27 = some (false, 1) := by kernel_rfl
theorem by_27 : (Try.prog.info? 27).map (·.bytes) = some 24 := by kernel_rfl
theorem za_27 : zav Try.prog 27 = some [.sc (.slice none 0 0)] := by kernel_rfl
theorem sl_27 : isSlice Try.prog 27 = some 3 := by kernel_rfl
theorem ty_28 : tyIs Try.prog 28 = some (false, 1) := by kernel_rfl
theorem sl_28 : isSlice Try.prog 28 = some 99 := by kernel_rfl
theorem ty_29 : tyIs Try.prog 29 = some (false, 1) := by kernel_rfl
theorem sl_29 : isSlice Try.prog 29 = some 4 := by kernel_rfl
theorem ty_31 : tyIs Try.prog 31 = some (true, 8) := by kernel_rfl
theorem fo_31_0 : fofs Try.prog 31 0 = some 0 := by kernel_rfl
theorem fo_31_1 : fofs Try.prog 31 1 = some 1 := by kernel_rfl
theorem fo_31_2 : fofs Try.prog 31 2 = some 2 := by kernel_rfl
theorem fo_31_3 : fofs Try.prog 31 3 = some 3 := by kernel_rfl
theorem fo_31_4 : fofs Try.prog 31 4 = some 4 := by kernel_rfl
theorem fo_31_5 : fofs Try.prog 31 5 = some 5 := by kernel_rfl
theorem fo_31_6 : fofs Try.prog 31 6 = some 6 := by kernel_rfl
theorem fo_31_7 : fofs Try.prog 31 7 = some 7 := by kernel_rfl
theorem ty_34 : tyIs Try.prog 34 = some (false, 1) := by kernel_rfl
theorem sl_34 : isSlice Try.prog 34 = some 74 := by kernel_rfl
theorem ty_36 : tyIs Try.prog 36 = some (true, 8) := by kernel_rfl
theorem za_36 : zav Try.prog 36 = some [.sc (.slice none 0 0), .sc (.slice none 0 0), .sc (.slice none 0 0), .sc (.slice none 0 0), .sc (.slice none 0 0), .sc (.slice none 0 0), .sc (.int .i64 0), .sc (.int .i64 0)] := by kernel_rfl
theorem fo_36_0 : fofs Try.prog 36 0 = some 0 := by kernel_rfl
theorem fo_36_1 : fofs Try.prog 36 1 = some 1 := by kernel_rfl
theorem fo_36_2 : fofs Try.prog 36 2 = some 2 := by kernel_rfl
theorem fo_36_3 : fofs Try.prog 36 3 = some 3 := by kernel_rfl
theorem fo_36_4 : fofs Try.prog 36 4 = some 4 := by kernel_rfl
theorem fo_36_5 : fofs Try.prog 36 5 = some 5 := by kernel_rfl
theorem fo_36_6 : fofs Try.prog 36 6 = some 6 := by kernel_rfl
theorem fo_36_7 : fofs Try.prog 36 7 = some 7 := by kernel_rfl
theorem ty_70 : tyIs Try.prog 70 = some (false, 1) := by kernel_rfl
theorem sl_70 : isSlice Try.prog 70 = some 132 := by kernel_rfl
theorem ty_72 : tyIs Try.prog 72 = some (true, 3) := by kernel_rfl
theorem za_72 : zav Try.prog 72 = some [.sc (.slice none 0 0), .sc (.slice none 0 0), .sc (.slice none 0 0)] := by kernel_rfl
theorem fo_72_0 : fofs Try.prog 72 0 = some 0 := by kernel_rfl
theorem fo_72_1 : fofs Try.prog 72 1 = some 1 := by kernel_rfl
theorem fo_72_2 : fofs Try.prog 72 2 = some 2 := by kernel_rfl
theorem ty_74 : tyIs Try.prog 74 = some (true, 5) := by kernel_rfl
theorem by_74 : (Try.prog.info? 74).map (·.bytes) = some 104 := by kernel_rfl
theorem za_74 : zav Try.prog 74 = some [.sc (.slice none 0 0), .sc (.slice none 0 0), .sc (.slice none 0 0), .sc (.slice none 0 0), .sc (.int .i64 0)] := by kernel_rfl
theorem fo_74_0 : fofs Try.prog 74 0 = some 0 := by kernel_rfl
theorem fo_74_1 : fofs Try.prog 74 1 = some 3 := by kernel_rfl
theorem fo_74_2 : fofs Try.prog 74 2 = some 4 := by kernel_rfl
theorem ty_95 : tyIs Try.prog 95 = some (false, 1) := by kernel_rfl
theorem sl_95 : isSlice Try.prog 95 = some 172 := by kernel_rfl
theorem ty_97 : tyIs Try.prog 97 = some (true, 3) := by kernel_rfl
theorem fo_97_0 : fofs Try.prog 97 0 = some 0 := by kernel_rfl
theorem fo_97_1 : fofs Try.prog 97 1 = some 1 := by kernel_rfl
theorem fo_97_2 : fofs Try.prog 97 2 = some 2 := by kernel_rfl
theorem ty_99 : tyIs Try.prog 99 = some (true, 5) := by kernel_rfl
theorem fo_99_0 : fofs Try.prog 99 0 = some 0 := by kernel_rfl
theorem fo_99_1 : fofs Try.prog 99 1 = some 3 := by kernel_rfl
theorem fo_99_2 : fofs Try.prog 99 2 = some 4 := by kernel_rfl
theorem ty_132 : tyIs Try.prog 132 = some (true, 2) := by kernel_rfl
theorem by_132 : (Try.prog.info? 132).map (·.bytes) = some 16 := by kernel_rfl
theorem za_132 : zav Try.prog 132 = some [.sc (.int .i64 0), .sc (.int .i64 0)] := by kernel_rfl
theorem fo_132_0 : fofs Try.prog 132 0 = some 0 := by kernel_rfl
theorem fo_132_1 : fofs Try.prog 132 1 = some 1 := by kernel_rfl
theorem se_132 : intStruct Try.prog 132 = true := by kernel_rfl
theorem fd_132 : (Try.prog.fieldsOf 132).size = 2 := by kernel_rfl
theorem ty_172 : tyIs Try.prog 172 = some (true, 2) := by kernel_rfl
theorem fo_172_0 : fofs Try.prog 172 0 = some 0 := by kernel_rfl
theorem fo_172_1 : fofs Try.prog 172 1 = some 1 := by kernel_rfl
theorem ca_9 : callable Try.prog 9 = true := by kernel_rfl
theorem ca_11 : callable Try.prog 11 = true := by kernel_rfl
theorem ca_13 : callable Try.prog 13 = true := by kernel_rfl
theorem ca_18 : callable Try.prog 18 = true := by kernel_rfl
theorem ca_20 : callable Try.prog 20 = true := by kernel_rfl
theorem ca_22 : callable Try.prog 22 = true := by kernel_rfl
theorem ca_23 : callable Try.prog 23 = true := by kernel_rfl
theorem ca_27 : callable Try.prog 27 = true := by kernel_rfl
theorem ca_28 : callable Try.prog 28 = true := by kernel_rfl
theorem ca_38 : callable Try.prog 38 = true := by kernel_rfl
theorem ca_40 : callable Try.prog 40 = true := by kernel_rfl
theorem ca_44 : callable Try.prog 44 = true := by kernel_rfl
theorem ca_45 : callable Try.prog 45 = true := by kernel_rfl
theorem ca_46 : callable Try.prog 46 = true := by kernel_rfl
theorem ca_47 : callable Try.prog 47 = true := by kernel_rfl
theorem ca_48 : callable Try.prog 48 = true := by kernel_rfl
theorem ca_49 : callable Try.prog 49 = true := by kernel_rfl
theorem ca_50 : callable Try.prog 50 = true := by kernel_rfl
theorem ca_51 : callable Try.prog 51 = true := by kernel_rfl
theorem ca_52 : callable Try.prog 52 = true := by kernel_rfl
theorem ca_55 : callable Try.prog 55 = true := by kernel_rfl
theorem ca_56 : callable Try.prog 56 = true := by kernel_rfl
theorem ca_57 : callable Try.prog 57 = true := by kernel_rfl
theorem ca_58 : callable Try.prog 58 = true := by kernel_rfl
theorem ca_59 : callable Try.prog 59 = true := by kernel_rfl
theorem ca_80 : callable Try.prog 80 = true := by kernel_rfl
theorem ca_81 : callable Try.prog 81 = true := by kernel_rfl
theorem ca_82 : callable Try.prog 82 = true := by kernel_rfl
theorem ca_84 : callable Try.prog 84 = true := by kernel_rfl
theorem ca_85 : callable Try.prog 85 = true := by kernel_rfl
theorem ca_112 : callable Try.prog 112 = true := by kernel_rfl
theorem ca_113 : callable Try.prog 113 = true := by kernel_rfl
theorem ca_114 : callable Try.prog 114 = true := by kernel_rfl
theorem ca_115 : callable Try.prog 115 = true := by kernel_rfl
theorem ca_116 : callable Try.prog 116 = true := by kernel_rfl
theorem ca_132 : callable Try.prog 132 = true := by kernel_rfl
theorem ca_133 : callable Try.prog 133 = true := by kernel_rfl
theorem ca_134 : callable Try.prog 134 = true := by kernel_rfl
theorem ca_146 : callable Try.prog 146 = true := by kernel_rfl
theorem ca_147 : callable Try.prog 147 = true := by kernel_rfl
theorem mixed : Try.prog.follows .mixedOrders = true := by kernel_rfl

end Go.Proofs.Ythlhmpknngidmaa.E
