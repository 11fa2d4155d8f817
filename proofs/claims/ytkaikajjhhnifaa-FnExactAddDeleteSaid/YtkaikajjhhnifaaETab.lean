/- What the program says of its types and functions: closed facts, by program. -/
import Derived.Test.YtkaikajjhhnifaaF2
import Derived.Test.YtkaikajjhhnifaaProg
namespace Go.Proofs.Ytkaikajjhhnifaa.E
open Go Go.Proofs

theorem ty_2 : tyIs Try.prog 2 = some (false, 1) := by kernel_rfl
theorem by_2 : (Try.prog.info? 2).map (·.bytes) = some 8 := by kernel_rfl
theorem za_2 : zav Try.prog 2 = some [.sc (.int .i64 0)] := by kernel_rfl
theorem ty_3 : tyIs Try.prog 3 = some (false, 1) := by kernel_rfl
theorem by_3 : (Try.prog.info? 3).map (·.bytes) = some 8 := by kernel_rfl
theorem za_3 : zav Try.prog 3 = some [.sc (.int .i64 0)] := by kernel_rfl
theorem ty_4 : tyIs Try.prog 4 = some (false, 1) := by kernel_rfl
theorem by_4 : (Try.prog.info? 4).map (·.bytes) = some 1 := by kernel_rfl
theorem za_4 : zav Try.prog 4 = some [.sc (.bool false)] := by kernel_rfl
theorem bo_4 : Try.prog.underlying 4 = some .bool := by kernel_rfl
theorem ty_5 : tyIs Try.prog 5 = some (false, 1) := by kernel_rfl
theorem by_5 : (Try.prog.info? 5).map (·.bytes) = some 1 := by kernel_rfl
theorem za_5 : zav Try.prog 5 = some [.sc (.int .u8 0)] := by kernel_rfl
theorem ty_9 : tyIs Try.prog 9 = some (false, 1) := by kernel_rfl
theorem by_9 : (Try.prog.info? 9).map (·.bytes) = some 16 := by kernel_rfl
theorem za_9 : zav Try.prog 9 = some [.sc (.string ⟨#[]⟩)] := by kernel_rfl
theorem st_9 : Try.prog.underlying 9 = some .string := by kernel_rfl
theorem ty_21 : tyIs Try.prog 21 = some (false, 1) := by kernel_rfl
theorem by_21 : (Try.prog.info? 21).map (·.bytes) = some 4 := by kernel_rfl
theorem za_21 : zav Try.prog 21 = some [.sc (.int .i32 0)] := by kernel_rfl
theorem ty_22 : tyIs Try.prog 22 = some (false, 1) := by kernel_rfl
theorem by_22 : (Try.prog.info? 22).map (·.bytes) = some 24 := by kernel_rfl
theorem za_22 : zav Try.prog 22 = some [.sc (.slice none 0 0)] := by kernel_rfl
theorem sl_22 : isSlice Try.prog 22 = some 3 := by kernel_rfl
theorem ty_23 : tyIs Try.prog 23 = some (false, 1) := by kernel_rfl
theorem by_23 : (Try.prog.info? 23).map (·.bytes) = some 24 := by kernel_rfl
theorem za_23 : zav Try.prog 23 = some [.sc (.slice none 0 0)] := by kernel_rfl
theorem sl_23 : isSlice Try.prog 23 = some 166 := by kernel_rfl
theorem ty_24 : tyIs Try.prog 24 = some (true, 3) := by kernel_rfl
theorem by_24 : (Try.prog.info? 24).map (·.bytes) = some 72 := by kernel_rfl
theorem za_24 : zav Try.prog 24 = some [.sc (.slice none 0 0), .sc (.slice none 0 0), .sc (.slice none 0 0)] := by kernel_rfl
theorem fo_24_0 : fofs Try.prog 24 0 = some 0 := by kernel_rfl
theorem fo_24_1 : fofs Try.prog 24 1 = some 1 := by kernel_rfl
theorem fo_24_2 : fofs Try.prog 24 2 = some 2 := by kernel_rfl
theorem bd_24 : bld Try.prog 24 = some ([(.slice none 0 0), (.slice none 0 0), (.slice none 0 0)], [(0, 1), (1, 1), (2, 1)]) := by kernel_rfl
theorem ty_25 : tyIs Try.prog 25 = some (true, 3) := by kernel_rfl
theorem by_25 : (Try.prog.info? 25).map (·.bytes) = some 72 := by kernel_rfl
theorem za_25 : zav Try.prog 25 = some [.sc (.slice none 0 0), .sc (.slice none 0 0), .sc (.slice none 0 0)] := by kernel_rfl
theorem fo_25_0 : fofs Try.prog 25 0 = some 0 := by kernel_rfl
theorem fo_25_1 : fofs Try.prog 25 1 = some 1 := by kernel_rfl
theorem fo_25_2 : fofs Try.prog 25 2 = some 2 := by kernel_rfl
theorem bd_25 : bld Try.prog 25 = some ([(.slice none 0 0), (.slice none 0 0), (.slice none 0 0)], [(0, 1), (1, 1), (2, 1)]) := by kernel_rfl
theorem ty_27 : tyIs Try.prog 27 = some (false, 1) := by kernel_rfl
theorem by_27 : (Try.prog.info? 27).map (·.bytes) = some 24 := by kernel_rfl
theorem za_27 : zav Try.prog 27 = some [.sc (.slice none 0 0)] := by kernel_rfl
theorem sl_27 : isSlice Try.prog 27 = some 106 := by kernel_rfl
theorem ty_29 : tyIs Try.prog 29 = some (false, 1) := by kernel_rfl
theorem by_29 : (Try.prog.info? 29).map (·.bytes) = some 24 := by kernel_rfl
theorem za_29 : zav Try.prog 29 = some [.sc (.slice none 0 0)] := by kernel_rfl
theorem sl_29 : isSlice Try.prog 29 = some 144 := by kernel_rfl
theorem ty_30 : tyIs Try.prog 30 = some (true, 3) := by kernel_rfl
theorem by_30 : (Try.prog.info? 30).map (·.bytes) = some 72 := by kernel_rfl
theorem za_30 : zav Try.prog 30 = some [.sc (.slice none 0 0), .sc (.slice none 0 0), .sc (.slice none 0 0)] := by kernel_rfl
theorem fo_30_0 : fofs Try.prog 30 0 = some 0 := by kernel_rfl
theorem fo_30_1 : fofs Try.prog 30 1 = some 1 := by kernel_rfl
theorem fo_30_2 : fofs Try.prog 30 2 = some 2 := by kernel_rfl
theorem bd_30 : bld Try.prog 30 = some ([(.slice none 0 0), (.slice none 0 0), (.slice none 0 0)], [(0, 1), (1, 1), (2, 1)]) := by kernel_rfl
theorem ty_31 : tyIs Try.prog 31 = some (true, 3) := by kernel_rfl
theorem by_31 : (Try.prog.info? 31).map (·.bytes) = some 72 := by kernel_rfl
theorem za_31 : zav Try.prog 31 = some [.sc (.slice none 0 0), .sc (.slice none 0 0), .sc (.slice none 0 0)] := by kernel_rfl
theorem fo_31_0 : fofs Try.prog 31 0 = some 0 := by kernel_rfl
theorem fo_31_1 : fofs Try.prog 31 1 = some 1 := by kernel_rfl
theorem fo_31_2 : fofs Try.prog 31 2 = some 2 := by kernel_rfl
theorem bd_31 : bld Try.prog 31 = some ([(.slice none 0 0), (.slice none 0 0), (.slice none 0 0)], [(0, 1), (1, 1), (2, 1)]) := by kernel_rfl
theorem ty_38 : tyIs Try.prog 38 = some (false, 1) := by kernel_rfl
theorem by_38 : (Try.prog.info? 38).map (·.bytes) = some 24 := by kernel_rfl
theorem za_38 : zav Try.prog 38 = some [.sc (.slice none 0 0)] := by kernel_rfl
theorem sl_38 : isSlice Try.prog 38 = some 42 := by kernel_rfl
theorem ty_39 : tyIs Try.prog 39 = some (true, 2) := by kernel_rfl
theorem by_39 : (Try.prog.info? 39).map (·.bytes) = some 48 := by kernel_rfl
theorem za_39 : zav Try.prog 39 = some [.sc (.slice none 0 0), .sc (.slice none 0 0)] := by kernel_rfl
theorem fo_39_0 : fofs Try.prog 39 0 = some 0 := by kernel_rfl
theorem fo_39_1 : fofs Try.prog 39 1 = some 1 := by kernel_rfl
theorem bd_39 : bld Try.prog 39 = some ([(.slice none 0 0), (.slice none 0 0)], [(0, 1), (1, 1)]) := by kernel_rfl
theorem ty_40 : tyIs Try.prog 40 = some (true, 2) := by kernel_rfl
theorem by_40 : (Try.prog.info? 40).map (·.bytes) = some 48 := by kernel_rfl
theorem za_40 : zav Try.prog 40 = some [.sc (.slice none 0 0), .sc (.slice none 0 0)] := by kernel_rfl
theorem fo_40_0 : fofs Try.prog 40 0 = some 0 := by kernel_rfl
theorem fo_40_1 : fofs Try.prog 40 1 = some 1 := by kernel_rfl
theorem bd_40 : bld Try.prog 40 = some ([(.slice none 0 0), (.slice none 0 0)], [(0, 1), (1, 1)]) := by kernel_rfl
theorem ty_41 : tyIs Try.prog 41 = some (true, 2) := by kernel_rfl
theorem by_41 : (Try.prog.info? 41).map (·.bytes) = some 16 := by kernel_rfl
theorem za_41 : zav Try.prog 41 = some [.sc (.int .i64 0), .sc (.int .i64 0)] := by kernel_rfl
theorem fo_41_0 : fofs Try.prog 41 0 = some 0 := by kernel_rfl
theorem fo_41_1 : fofs Try.prog 41 1 = some 1 := by kernel_rfl
theorem se_41 : intStruct Try.prog 41 = true := by kernel_rfl
theorem fd_41 : (Try.prog.fieldsOf 41).size = 2 := by kernel_rfl
theorem bd_41 : bld Try.prog 41 = some ([(.int .i64 0), (.int .i64 0)], [(0, 1), (1, 1)]) := by kernel_rfl
theorem ty_42 : tyIs Try.prog 42 = some (true, 2) := by kernel_rfl
theorem by_42 : (Try.prog.info? 42).map (·.bytes) = some 16 := by kernel_rfl
theorem za_42 : zav Try.prog 42 = some [.sc (.int .i64 0), .sc (.int .i64 0)] := by kernel_rfl
theorem fo_42_0 : fofs Try.prog 42 0 = some 0 := by kernel_rfl
theorem fo_42_1 : fofs Try.prog 42 1 = some 1 := by kernel_rfl
theorem se_42 : intStruct Try.prog 42 = true := by kernel_rfl
theorem fd_42 : (Try.prog.fieldsOf 42).size = 2 := by kernel_rfl
theorem bd_42 : bld Try.prog 42 = some ([(.int .i64 0), (.int .i64 0)], [(0, 1), (1, 1)]) := by kernel_rfl
theorem ty_44 : tyIs Try.prog 44 = some (false, 1) := by kernel_rfl
theorem by_44 : (Try.prog.info? 44).map (·.bytes) = some 24 := by kernel_rfl
theorem za_44 : zav Try.prog 44 = some [.sc (.slice none 0 0)] := by kernel_rfl
theorem sl_44 : isSlice Try.prog 44 = some 50 := by kernel_rfl
theorem ty_45 : tyIs Try.prog 45 = some (true, 2) := by kernel_rfl
theorem by_45 : (Try.prog.info? 45).map (·.bytes) = some 48 := by kernel_rfl
theorem za_45 : zav Try.prog 45 = some [.sc (.slice none 0 0), .sc (.slice none 0 0)] := by kernel_rfl
theorem fo_45_0 : fofs Try.prog 45 0 = some 0 := by kernel_rfl
theorem fo_45_1 : fofs Try.prog 45 1 = some 1 := by kernel_rfl
theorem bd_45 : bld Try.prog 45 = some ([(.slice none 0 0), (.slice none 0 0)], [(0, 1), (1, 1)]) := by kernel_rfl
theorem ty_46 : tyIs Try.prog 46 = some (true, 2) := by kernel_rfl
theorem by_46 : (Try.prog.info? 46).map (·.bytes) = some 48 := by kernel_rfl
theorem za_46 : zav Try.prog 46 = some [.sc (.slice none 0 0), .sc (.slice none 0 0)] := by kernel_rfl
theorem fo_46_0 : fofs Try.prog 46 0 = some 0 := by kernel_rfl
theorem fo_46_1 : fofs Try.prog 46 1 = some 1 := by kernel_rfl
theorem bd_46 : bld Try.prog 46 = some ([(.slice none 0 0), (.slice none 0 0)], [(0, 1), (1, 1)]) := by kernel_rfl
theorem ty_50 : tyIs Try.prog 50 = some (true, 2) := by kernel_rfl
theorem by_50 : (Try.prog.info? 50).map (·.bytes) = some 16 := by kernel_rfl
theorem za_50 : zav Try.prog 50 = some [.sc (.int .i64 0), .sc (.int .i64 0)] := by kernel_rfl
theorem fo_50_0 : fofs Try.prog 50 0 = some 0 := by kernel_rfl
theorem fo_50_1 : fofs Try.prog 50 1 = some 1 := by kernel_rfl
theorem se_50 : intStruct Try.prog 50 = true := by kernel_rfl
theorem fd_50 : (Try.prog.fieldsOf 50).size = 2 := by kernel_rfl
theorem bd_50 : bld Try.prog 50 = some ([(.int .i64 0), (.int .i64 0)], [(0, 1), (1, 1)]) := by kernel_rfl
theorem ty_57 : tyIs Try.prog 57 = some (false, 1) := by kernel_rfl
theorem by_57 : (Try.prog.info? 57).map (·.bytes) = some 24 := by kernel_rfl
theorem za_57 : zav Try.prog 57 = some [.sc (.slice none 0 0)] := by kernel_rfl
theorem sl_57 : isSlice Try.prog 57 = some 22 := by kernel_rfl
theorem ty_62 : tyIs Try.prog 62 = some (false, 1) := by kernel_rfl
theorem by_62 : (Try.prog.info? 62).map (·.bytes) = some 24 := by kernel_rfl
theorem za_62 : zav Try.prog 62 = some [.sc (.slice none 0 0)] := by kernel_rfl
theorem sl_62 : isSlice Try.prog 62 = some 5 := by kernel_rfl
theorem ty_66 : tyIs Try.prog 66 = some (false, 1) := by kernel_rfl
theorem by_66 : (Try.prog.info? 66).map (·.bytes) = some 24 := by kernel_rfl
theorem za_66 : zav Try.prog 66 = some [.sc (.slice none 0 0)] := by kernel_rfl
theorem sl_66 : isSlice Try.prog 66 = some 158 := by kernel_rfl
theorem ty_77 : tyIs Try.prog 77 = some (true, 2) := by kernel_rfl
theorem by_77 : (Try.prog.info? 77).map (·.bytes) = some 16 := by kernel_rfl
theorem za_77 : zav Try.prog 77 = some [.sc (.int .i64 0), .sc (.int .i64 0)] := by kernel_rfl
theorem fo_77_0 : fofs Try.prog 77 0 = some 0 := by kernel_rfl
theorem fo_77_1 : fofs Try.prog 77 1 = some 1 := by kernel_rfl
theorem se_77 : intStruct Try.prog 77 = true := by kernel_rfl
theorem fd_77 : (Try.prog.fieldsOf 77).size = 2 := by kernel_rfl
theorem bd_77 : bld Try.prog 77 = some ([(.int .i64 0), (.int .i64 0)], [(0, 1), (1, 1)]) := by kernel_rfl
theorem ty_78 : tyIs Try.prog 78 = some (true, 2) := by kernel_rfl
theorem by_78 : (Try.prog.info? 78).map (·.bytes) = some 16 := by kernel_rfl
theorem za_78 : zav Try.prog 78 = some [.sc (.int .i64 0), .sc (.int .i64 0)] := by kernel_rfl
theorem fo_78_0 : fofs Try.prog 78 0 = some 0 := by kernel_rfl
theorem fo_78_1 : fofs Try.prog 78 1 = some 1 := by kernel_rfl
theorem se_78 : intStruct Try.prog 78 = true := by kernel_rfl
theorem fd_78 : (Try.prog.fieldsOf 78).size = 2 := by kernel_rfl
theorem bd_78 : bld Try.prog 78 = some ([(.int .i64 0), (.int .i64 0)], [(0, 1), (1, 1)]) := by kernel_rfl
theorem ty_81 : tyIs Try.prog 81 = some (true, 2) := by kernel_rfl
theorem by_81 : (Try.prog.info? 81).map (·.bytes) = some 16 := by kernel_rfl
theorem za_81 : zav Try.prog 81 = some [.sc (.int .i64 0), .sc (.int .i64 0)] := by kernel_rfl
theorem fo_81_0 : fofs Try.prog 81 0 = some 0 := by kernel_rfl
theorem fo_81_1 : fofs Try.prog 81 1 = some 1 := by kernel_rfl
theorem se_81 : intStruct Try.prog 81 = true := by kernel_rfl
theorem fd_81 : (Try.prog.fieldsOf 81).size = 2 := by kernel_rfl
theorem bd_81 : bld Try.prog 81 = some ([(.int .i64 0), (.int .i64 0)], [(0, 1), (1, 1)]) := by kernel_rfl
theorem ty_84 : tyIs Try.prog 84 = some (false, 1) := by kernel_rfl
theorem by_84 : (Try.prog.info? 84).map (·.bytes) = some 24 := by kernel_rfl
theorem za_84 : zav Try.prog 84 = some [.sc (.slice none 0 0)] := by kernel_rfl
theorem sl_84 : isSlice Try.prog 84 = some 153 := by kernel_rfl
theorem ty_89 : tyIs Try.prog 89 = some (false, 1) := by kernel_rfl
theorem by_89 : (Try.prog.info? 89).map (·.bytes) = some 24 := by kernel_rfl
theorem za_89 : zav Try.prog 89 = some [.sc (.slice none 0 0)] := by kernel_rfl
theorem sl_89 : isSlice Try.prog 89 = some 151 := by kernel_rfl
theorem ty_105 : tyIs Try.prog 105 = some (true, 4) := by kernel_rfl
theorem by_105 : (Try.prog.info? 105).map (·.bytes) = some 32 := by kernel_rfl
theorem za_105 : zav Try.prog 105 = some [.sc (.int .i64 0), .sc (.int .i64 0), .sc (.int .i64 0), .sc (.int .i64 0)] := by kernel_rfl
theorem fo_105_0 : fofs Try.prog 105 0 = some 0 := by kernel_rfl
theorem fo_105_1 : fofs Try.prog 105 1 = some 1 := by kernel_rfl
theorem fo_105_2 : fofs Try.prog 105 2 = some 2 := by kernel_rfl
theorem fo_105_3 : fofs Try.prog 105 3 = some 3 := by kernel_rfl
theorem se_105 : intStruct Try.prog 105 = true := by kernel_rfl
theorem fd_105 : (Try.prog.fieldsOf 105).size = 4 := by kernel_rfl
theorem bd_105 : bld Try.prog 105 = some ([(.int .i64 0), (.int .i64 0), (.int .i64 0), (.int .i64 0)], [(0, 1), (1, 1), (2, 1), (3, 1)]) := by kernel_rfl
theorem ty_106 : tyIs Try.prog 106 = some (true, 4) := by kernel_rfl
theorem by_106 : (Try.prog.info? 106).map (·.bytes) = some 32 := by kernel_rfl
theorem za_106 : zav Try.prog 106 = some [.sc (.int .i64 0), .sc (.int .i64 0), .sc (.int .i64 0), .sc (.int .i64 0)] := by kernel_rfl
theorem fo_106_0 : fofs Try.prog 106 0 = some 0 := by kernel_rfl
theorem fo_106_1 : fofs Try.prog 106 1 = some 1 := by kernel_rfl
theorem fo_106_2 : fofs Try.prog 106 2 = some 2 := by kernel_rfl
theorem fo_106_3 : fofs Try.prog 106 3 = some 3 := by kernel_rfl
theorem se_106 : intStruct Try.prog 106 = true := by kernel_rfl
theorem fd_106 : (Try.prog.fieldsOf 106).size = 4 := by kernel_rfl
theorem bd_106 : bld Try.prog 106 = some ([(.int .i64 0), (.int .i64 0), (.int .i64 0), (.int .i64 0)], [(0, 1), (1, 1), (2, 1), (3, 1)]) := by kernel_rfl
theorem ty_109 : tyIs Try.prog 109 = some (false, 1) := by kernel_rfl
theorem by_109 : (Try.prog.info? 109).map (·.bytes) = some 24 := by kernel_rfl
theorem za_109 : zav Try.prog 109 = some [.sc (.slice none 0 0)] := by kernel_rfl
theorem sl_109 : isSlice Try.prog 109 = some 111 := by kernel_rfl
theorem ty_111 : tyIs Try.prog 111 = some (true, 2) := by kernel_rfl
theorem by_111 : (Try.prog.info? 111).map (·.bytes) = some 16 := by kernel_rfl
theorem za_111 : zav Try.prog 111 = some [.sc (.int .i64 0), .sc (.int .i64 0)] := by kernel_rfl
theorem ar_111 : isArr Try.prog 111 = some (2, 3) := by kernel_rfl
theorem bd_111 : bld Try.prog 111 = some ([(.int .i64 0), (.int .i64 0)], [(0, 1), (1, 1)]) := by kernel_rfl
theorem ty_128 : tyIs Try.prog 128 = some (false, 1) := by kernel_rfl
theorem by_128 : (Try.prog.info? 128).map (·.bytes) = some 8 := by kernel_rfl
theorem za_128 : zav Try.prog 128 = some [.sc (.pointer none)] := by kernel_rfl
theorem ty_143 : tyIs Try.prog 143 = some (true, 2) := by kernel_rfl
theorem by_143 : (Try.prog.info? 143).map (·.bytes) = some 16 := by kernel_rfl
theorem za_143 : zav Try.prog 143 = some [.sc (.int .i64 0), .sc (.int .i64 0)] := by kernel_rfl
theorem fo_143_0 : fofs Try.prog 143 0 = some 0 := by kernel_rfl
theorem fo_143_1 : fofs Try.prog 143 1 = some 1 := by kernel_rfl
theorem se_143 : intStruct Try.prog 143 = true := by kernel_rfl
theorem fd_143 : (Try.prog.fieldsOf 143).size = 2 := by kernel_rfl
theorem bd_143 : bld Try.prog 143 = some ([(.int .i64 0), (.int .i64 0)], [(0, 1), (1, 1)]) := by kernel_rfl
theorem ty_144 : tyIs Try.prog 144 = some (true, 2) := by kernel_rfl
theorem by_144 : (Try.prog.info? 144).map (·.bytes) = some 16 := by kernel_rfl
theorem za_144 : zav Try.prog 144 = some [.sc (.int .i64 0), .sc (.int .i64 0)] := by kernel_rfl
theorem fo_144_0 : fofs Try.prog 144 0 = some 0 := by kernel_rfl
theorem fo_144_1 : fofs Try.prog 144 1 = some 1 := by kernel_rfl
theorem se_144 : intStruct Try.prog 144 = true := by kernel_rfl
theorem fd_144 : (Try.prog.fieldsOf 144).size = 2 := by kernel_rfl
theorem bd_144 : bld Try.prog 144 = some ([(.int .i64 0), (.int .i64 0)], [(0, 1), (1, 1)]) := by kernel_rfl
theorem ty_150 : tyIs Try.prog 150 = some (true, 5) := by kernel_rfl
theorem by_150 : (Try.prog.info? 150).map (·.bytes) = some 40 := by kernel_rfl
theorem za_150 : zav Try.prog 150 = some [.sc (.int .i64 0), .sc (.int .i64 0), .sc (.int .i64 0), .sc (.int .i64 0), .sc (.int .i64 0)] := by kernel_rfl
theorem fo_150_0 : fofs Try.prog 150 0 = some 0 := by kernel_rfl
theorem fo_150_1 : fofs Try.prog 150 1 = some 1 := by kernel_rfl
theorem fo_150_2 : fofs Try.prog 150 2 = some 2 := by kernel_rfl
theorem fo_150_3 : fofs Try.prog 150 3 = some 3 := by kernel_rfl
theorem fo_150_4 : fofs Try.prog 150 4 = some 4 := by kernel_rfl
theorem se_150 : intStruct Try.prog 150 = true := by kernel_rfl
theorem fd_150 : (Try.prog.fieldsOf 150).size = 5 := by kernel_rfl
theorem bd_150 : bld Try.prog 150 = some ([(.int .i64 0), (.int .i64 0), (.int .i64 0), (.int .i64 0), (.int .i64 0)], [(0, 1), (1, 1), (2, 1), (3, 1), (4, 1)]) := by kernel_rfl
theorem ty_151 : tyIs Try.prog 151 = some (true, 5) := by kernel_rfl
theorem by_151 : (Try.prog.info? 151).map (·.bytes) = some 40 := by kernel_rfl
theorem za_151 : zav Try.prog 151 = some [.sc (.int .i64 0), .sc (.int .i64 0), .sc (.int .i64 0), .sc (.int .i64 0), .sc (.int .i64 0)] := by kernel_rfl
theorem fo_151_0 : fofs Try.prog 151 0 = some 0 := by kernel_rfl
theorem fo_151_1 : fofs Try.prog 151 1 = some 1 := by kernel_rfl
theorem fo_151_2 : fofs Try.prog 151 2 = some 2 := by kernel_rfl
theorem fo_151_3 : fofs Try.prog 151 3 = some 3 := by kernel_rfl
theorem fo_151_4 : fofs Try.prog 151 4 = some 4 := by kernel_rfl
theorem se_151 : intStruct Try.prog 151 = true := by kernel_rfl
theorem fd_151 : (Try.prog.fieldsOf 151).size = 5 := by kernel_rfl
theorem bd_151 : bld Try.prog 151 = some ([(.int .i64 0), (.int .i64 0), (.int .i64 0), (.int .i64 0), (.int .i64 0)], [(0, 1), (1, 1), (2, 1), (3, 1), (4, 1)]) := by kernel_rfl
theorem ty_153 : tyIs Try.prog 153 = some (true, 5) := by kernel_rfl
theorem by_153 : (Try.prog.info? 153).map (·.bytes) = some 40 := by kernel_rfl
theorem za_153 : zav Try.prog 153 = some [.sc (.int .i64 0), .sc (.int .i64 0), .sc (.int .i64 0), .sc (.int .i64 0), .sc (.int .i64 0)] := by kernel_rfl
theorem fo_153_0 : fofs Try.prog 153 0 = some 0 := by kernel_rfl
theorem fo_153_1 : fofs Try.prog 153 1 = some 1 := by kernel_rfl
theorem fo_153_2 : fofs Try.prog 153 2 = some 2 := by kernel_rfl
theorem fo_153_3 : fofs Try.prog 153 3 = some 3 := by kernel_rfl
theorem fo_153_4 : fofs Try.prog 153 4 = some 4 := by kernel_rfl
theorem se_153 : intStruct Try.prog 153 = true := by kernel_rfl
theorem fd_153 : (Try.prog.fieldsOf 153).size = 5 := by kernel_rfl
theorem bd_153 : bld Try.prog 153 = some ([(.int .i64 0), (.int .i64 0), (.int .i64 0), (.int .i64 0), (.int .i64 0)], [(0, 1), (1, 1), (2, 1), (3, 1), (4, 1)]) := by kernel_rfl
theorem ty_157 : tyIs Try.prog 157 = some (true, 2) := by kernel_rfl
theorem by_157 : (Try.prog.info? 157).map (·.bytes) = some 16 := by kernel_rfl
theorem za_157 : zav Try.prog 157 = some [.sc (.int .i64 0), .sc (.int .i64 0)] := by kernel_rfl
theorem fo_157_0 : fofs Try.prog 157 0 = some 0 := by kernel_rfl
theorem fo_157_1 : fofs Try.prog 157 1 = some 1 := by kernel_rfl
theorem se_157 : intStruct Try.prog 157 = true := by kernel_rfl
theorem fd_157 : (Try.prog.fieldsOf 157).size = 2 := by kernel_rfl
theorem bd_157 : bld Try.prog 157 = some ([(.int .i64 0), (.int .i64 0)], [(0, 1), (1, 1)]) := by kernel_rfl
theorem ty_158 : tyIs Try.prog 158 = some (true, 2) := by kernel_rfl
theorem by_158 : (Try.prog.info? 158).map (·.bytes) = some 16 := by kernel_rfl
theorem za_158 : zav Try.prog 158 = some [.sc (.int .i64 0), .sc (.int .i64 0)] := by kernel_rfl
theorem fo_158_0 : fofs Try.prog 158 0 = some 0 := by kernel_rfl
theorem fo_158_1 : fofs Try.prog 158 1 = some 1 := by kernel_rfl
theorem se_158 : intStruct Try.prog 158 = true := by kernel_rfl
theorem fd_158 : (Try.prog.fieldsOf 158).size = 2 := by kernel_rfl
theorem bd_158 : bld Try.prog 158 = some ([(.int .i64 0), (.int .i64 0)], [(0, 1), (1, 1)]) := by kernel_rfl
theorem ty_166 : tyIs Try.prog 166 = some (true, 2) := by kernel_rfl
theorem by_166 : (Try.prog.info? 166).map (·.bytes) = some 16 := by kernel_rfl
theorem za_166 : zav Try.prog 166 = some [.sc (.int .i64 0), .sc (.int .i64 0)] := by kernel_rfl
theorem fo_166_0 : fofs Try.prog 166 0 = some 0 := by kernel_rfl
theorem fo_166_1 : fofs Try.prog 166 1 = some 1 := by kernel_rfl
theorem se_166 : intStruct Try.prog 166 = true := by kernel_rfl
theorem fd_166 : (Try.prog.fieldsOf 166).size = 2 := by kernel_rfl
theorem bd_166 : bld Try.prog 166 = some ([(.int .i64 0), (.int .i64 0)], [(0, 1), (1, 1)]) := by kernel_rfl
theorem ty_174 : tyIs Try.prog 174 = some (false, 1) := by kernel_rfl
theorem by_174 : (Try.prog.info? 174).map (·.bytes) = some 8 := by kernel_rfl
theorem za_174 : zav Try.prog 174 = some [.sc (.int .u64 0)] := by kernel_rfl
theorem ty_176 : tyIs Try.prog 176 = some (true, 3) := by kernel_rfl
theorem by_176 : (Try.prog.info? 176).map (·.bytes) = some 40 := by kernel_rfl
theorem za_176 : zav Try.prog 176 = some [.sc (.slice none 0 0), .sc (.int .i64 0), .sc (.int .i64 0)] := by kernel_rfl
theorem fo_176_0 : fofs Try.prog 176 0 = some 0 := by kernel_rfl
theorem fo_176_1 : fofs Try.prog 176 1 = some 1 := by kernel_rfl
theorem fo_176_2 : fofs Try.prog 176 2 = some 2 := by kernel_rfl
theorem bd_176 : bld Try.prog 176 = some ([(.slice none 0 0), (.int .i64 0), (.int .i64 0)], [(0, 1), (1, 1), (2, 1)]) := by kernel_rfl
theorem ty_177 : tyIs Try.prog 177 = some (true, 3) := by kernel_rfl
theorem by_177 : (Try.prog.info? 177).map (·.bytes) = some 40 := by kernel_rfl
theorem za_177 : zav Try.prog 177 = some [.sc (.slice none 0 0), .sc (.int .i64 0), .sc (.int .i64 0)] := by kernel_rfl
theorem fo_177_0 : fofs Try.prog 177 0 = some 0 := by kernel_rfl
theorem fo_177_1 : fofs Try.prog 177 1 = some 1 := by kernel_rfl
theorem fo_177_2 : fofs Try.prog 177 2 = some 2 := by kernel_rfl
theorem bd_177 : bld Try.prog 177 = some ([(.slice none 0 0), (.int .i64 0), (.int .i64 0)], [(0, 1), (1, 1), (2, 1)]) := by kernel_rfl
theorem ty_186 : tyIs Try.prog 186 = some (false, 1) := by kernel_rfl
theorem by_186 : (Try.prog.info? 186).map (·.bytes) = some 8 := by kernel_rfl
theorem za_186 : zav Try.prog 186 = some [.sc (.pointer none)] := by kernel_rfl
theorem ty_195 : tyIs Try.prog 195 = some (false, 1) := by kernel_rfl
theorem by_195 : (Try.prog.info? 195).map (·.bytes) = some 4 := by kernel_rfl
theorem za_195 : zav Try.prog 195 = some [.sc (.int .u32 0)] := by kernel_rfl
theorem ty_197 : tyIs Try.prog 197 = some (false, 1) := by kernel_rfl
theorem by_197 : (Try.prog.info? 197).map (·.bytes) = some 8 := by kernel_rfl
theorem za_197 : zav Try.prog 197 = some [.sc (.int .u64 0)] := by kernel_rfl
theorem ty_211 : tyIs Try.prog 211 = some (false, 1) := by kernel_rfl
theorem by_211 : (Try.prog.info? 211).map (·.bytes) = some 8 := by kernel_rfl
theorem za_211 : zav Try.prog 211 = some [.sc (.pointer none)] := by kernel_rfl
theorem ty_218 : tyIs Try.prog 218 = some (false, 1) := by kernel_rfl
theorem by_218 : (Try.prog.info? 218).map (·.bytes) = some 8 := by kernel_rfl
theorem za_218 : zav Try.prog 218 = some [.sc (.pointer none)] := by kernel_rfl
theorem ty_234 : tyIs Try.prog 234 = some (false, 1) := by kernel_rfl
theorem by_234 : (Try.prog.info? 234).map (·.bytes) = some 8 := by kernel_rfl
theorem za_234 : zav Try.prog 234 = some [.sc (.pointer none)] := by kernel_rfl
theorem ca_3 : callable Try.prog 3 = true := by kernel_rfl
theorem ca_4 : callable Try.prog 4 = true := by kernel_rfl
theorem ca_5 : callable Try.prog 5 = true := by kernel_rfl
theorem ca_6 : callable Try.prog 6 = true := by kernel_rfl
theorem ca_7 : callable Try.prog 7 = true := by kernel_rfl
theorem ca_8 : callable Try.prog 8 = true := by kernel_rfl
theorem ca_9 : callable Try.prog 9 = true := by kernel_rfl
theorem ca_10 : callable Try.prog 10 = true := by kernel_rfl
theorem ca_11 : callable Try.prog 11 = true := by kernel_rfl
theorem ca_12 : callable Try.prog 12 = true := by kernel_rfl
theorem ca_13 : callable Try.prog 13 = true := by kernel_rfl
theorem ca_14 : callable Try.prog 14 = true := by kernel_rfl
theorem ca_15 : callable Try.prog 15 = true := by kernel_rfl
theorem ca_16 : callable Try.prog 16 = true := by kernel_rfl
theorem ca_17 : callable Try.prog 17 = true := by kernel_rfl
theorem ca_18 : callable Try.prog 18 = true := by kernel_rfl
theorem ca_19 : callable Try.prog 19 = true := by kernel_rfl
theorem ca_20 : callable Try.prog 20 = true := by kernel_rfl
theorem ca_21 : callable Try.prog 21 = true := by kernel_rfl
theorem ca_22 : callable Try.prog 22 = true := by kernel_rfl
theorem ca_23 : callable Try.prog 23 = true := by kernel_rfl
theorem ca_24 : callable Try.prog 24 = true := by kernel_rfl
theorem ca_25 : callable Try.prog 25 = true := by kernel_rfl
theorem ca_26 : callable Try.prog 26 = true := by kernel_rfl
theorem ca_27 : callable Try.prog 27 = true := by kernel_rfl
theorem ca_28 : callable Try.prog 28 = true := by kernel_rfl
theorem ca_29 : callable Try.prog 29 = true := by kernel_rfl
theorem ca_30 : callable Try.prog 30 = true := by kernel_rfl
theorem ca_31 : callable Try.prog 31 = true := by kernel_rfl
theorem ca_32 : callable Try.prog 32 = true := by kernel_rfl
theorem ca_33 : callable Try.prog 33 = true := by kernel_rfl
theorem ca_34 : callable Try.prog 34 = true := by kernel_rfl
theorem ca_35 : callable Try.prog 35 = true := by kernel_rfl
theorem ca_36 : callable Try.prog 36 = true := by kernel_rfl
theorem ca_37 : callable Try.prog 37 = true := by kernel_rfl
theorem ca_38 : callable Try.prog 38 = true := by kernel_rfl
theorem ca_39 : callable Try.prog 39 = true := by kernel_rfl
theorem ca_40 : callable Try.prog 40 = true := by kernel_rfl
theorem ca_41 : callable Try.prog 41 = true := by kernel_rfl
theorem ca_42 : callable Try.prog 42 = true := by kernel_rfl
theorem ca_43 : callable Try.prog 43 = true := by kernel_rfl
theorem ca_44 : callable Try.prog 44 = true := by kernel_rfl
theorem ca_45 : callable Try.prog 45 = true := by kernel_rfl
theorem ca_46 : callable Try.prog 46 = true := by kernel_rfl
theorem ca_47 : callable Try.prog 47 = true := by kernel_rfl
theorem ca_48 : callable Try.prog 48 = true := by kernel_rfl
theorem ca_49 : callable Try.prog 49 = true := by kernel_rfl
theorem ca_50 : callable Try.prog 50 = true := by kernel_rfl
theorem ca_51 : callable Try.prog 51 = true := by kernel_rfl
theorem ca_52 : callable Try.prog 52 = true := by kernel_rfl
theorem ca_53 : callable Try.prog 53 = true := by kernel_rfl
theorem ca_54 : callable Try.prog 54 = true := by kernel_rfl
theorem ca_55 : callable Try.prog 55 = true := by kernel_rfl
theorem ca_56 : callable Try.prog 56 = true := by kernel_rfl
theorem ca_57 : callable Try.prog 57 = true := by kernel_rfl
theorem ca_58 : callable Try.prog 58 = true := by kernel_rfl
theorem ca_59 : callable Try.prog 59 = true := by kernel_rfl
theorem ca_60 : callable Try.prog 60 = true := by kernel_rfl
theorem ca_61 : callable Try.prog 61 = true := by kernel_rfl
theorem ca_62 : callable Try.prog 62 = true := by kernel_rfl
theorem ca_63 : callable Try.prog 63 = true := by kernel_rfl
theorem ca_64 : callable Try.prog 64 = true := by kernel_rfl
theorem ca_65 : callable Try.prog 65 = true := by kernel_rfl
theorem ca_66 : callable Try.prog 66 = true := by kernel_rfl
theorem ca_67 : callable Try.prog 67 = true := by kernel_rfl
theorem ca_68 : callable Try.prog 68 = true := by kernel_rfl
theorem ca_69 : callable Try.prog 69 = true := by kernel_rfl
theorem ca_70 : callable Try.prog 70 = true := by kernel_rfl
theorem ca_71 : callable Try.prog 71 = true := by kernel_rfl
theorem ca_72 : callable Try.prog 72 = true := by kernel_rfl
theorem ca_73 : callable Try.prog 73 = true := by kernel_rfl
theorem ca_74 : callable Try.prog 74 = true := by kernel_rfl
theorem ca_75 : callable Try.prog 75 = true := by kernel_rfl
theorem ca_76 : callable Try.prog 76 = true := by kernel_rfl
theorem ca_77 : callable Try.prog 77 = true := by kernel_rfl
theorem ca_78 : callable Try.prog 78 = true := by kernel_rfl
theorem ca_79 : callable Try.prog 79 = true := by kernel_rfl
theorem ca_80 : callable Try.prog 80 = true := by kernel_rfl
theorem ca_81 : callable Try.prog 81 = true := by kernel_rfl
theorem ca_82 : callable Try.prog 82 = true := by kernel_rfl
theorem ca_83 : callable Try.prog 83 = true := by kernel_rfl
theorem ca_84 : callable Try.prog 84 = true := by kernel_rfl
theorem ca_85 : callable Try.prog 85 = true := by kernel_rfl
theorem ca_86 : callable Try.prog 86 = true := by kernel_rfl
theorem ca_87 : callable Try.prog 87 = true := by kernel_rfl
theorem ca_88 : callable Try.prog 88 = true := by kernel_rfl
theorem ca_89 : callable Try.prog 89 = true := by kernel_rfl
theorem ca_90 : callable Try.prog 90 = true := by kernel_rfl
theorem ca_91 : callable Try.prog 91 = true := by kernel_rfl
theorem ca_92 : callable Try.prog 92 = true := by kernel_rfl
theorem ca_93 : callable Try.prog 93 = true := by kernel_rfl
theorem ca_94 : callable Try.prog 94 = true := by kernel_rfl
theorem ca_95 : callable Try.prog 95 = true := by kernel_rfl
theorem ca_96 : callable Try.prog 96 = true := by kernel_rfl
theorem ca_97 : callable Try.prog 97 = true := by kernel_rfl
theorem ca_98 : callable Try.prog 98 = true := by kernel_rfl
theorem ca_99 : callable Try.prog 99 = true := by kernel_rfl
theorem ca_100 : callable Try.prog 100 = true := by kernel_rfl
theorem ca_101 : callable Try.prog 101 = true := by kernel_rfl
theorem ca_102 : callable Try.prog 102 = true := by kernel_rfl
theorem ca_103 : callable Try.prog 103 = true := by kernel_rfl
theorem ca_104 : callable Try.prog 104 = true := by kernel_rfl
theorem ca_105 : callable Try.prog 105 = true := by kernel_rfl
theorem ca_106 : callable Try.prog 106 = true := by kernel_rfl
theorem ca_107 : callable Try.prog 107 = true := by kernel_rfl
theorem ca_108 : callable Try.prog 108 = true := by kernel_rfl
theorem ca_109 : callable Try.prog 109 = true := by kernel_rfl
theorem ca_110 : callable Try.prog 110 = true := by kernel_rfl
theorem ca_111 : callable Try.prog 111 = true := by kernel_rfl
theorem ca_112 : callable Try.prog 112 = true := by kernel_rfl
theorem ca_113 : callable Try.prog 113 = true := by kernel_rfl
theorem ca_114 : callable Try.prog 114 = true := by kernel_rfl
theorem ca_115 : callable Try.prog 115 = true := by kernel_rfl
theorem ca_116 : callable Try.prog 116 = true := by kernel_rfl
theorem ca_117 : callable Try.prog 117 = true := by kernel_rfl
theorem ca_118 : callable Try.prog 118 = true := by kernel_rfl
theorem ca_119 : callable Try.prog 119 = true := by kernel_rfl
theorem ca_120 : callable Try.prog 120 = true := by kernel_rfl
theorem ca_121 : callable Try.prog 121 = true := by kernel_rfl
theorem ca_122 : callable Try.prog 122 = true := by kernel_rfl
theorem ca_123 : callable Try.prog 123 = true := by kernel_rfl
theorem ca_124 : callable Try.prog 124 = true := by kernel_rfl
theorem ca_125 : callable Try.prog 125 = true := by kernel_rfl
theorem ca_126 : callable Try.prog 126 = true := by kernel_rfl
theorem ca_127 : callable Try.prog 127 = true := by kernel_rfl
theorem ca_128 : callable Try.prog 128 = true := by kernel_rfl
theorem ca_129 : callable Try.prog 129 = true := by kernel_rfl
theorem ca_130 : callable Try.prog 130 = true := by kernel_rfl
theorem ca_131 : callable Try.prog 131 = true := by kernel_rfl
theorem ca_132 : callable Try.prog 132 = true := by kernel_rfl
theorem ca_133 : callable Try.prog 133 = true := by kernel_rfl
theorem ca_134 : callable Try.prog 134 = true := by kernel_rfl
theorem ca_135 : callable Try.prog 135 = true := by kernel_rfl
theorem ca_136 : callable Try.prog 136 = true := by kernel_rfl
theorem ca_137 : callable Try.prog 137 = true := by kernel_rfl
theorem ca_138 : callable Try.prog 138 = true := by kernel_rfl
theorem ca_139 : callable Try.prog 139 = true := by kernel_rfl
theorem ca_140 : callable Try.prog 140 = true := by kernel_rfl
theorem ca_141 : callable Try.prog 141 = true := by kernel_rfl
theorem ca_142 : callable Try.prog 142 = true := by kernel_rfl
theorem ca_143 : callable Try.prog 143 = true := by kernel_rfl
theorem ca_144 : callable Try.prog 144 = true := by kernel_rfl
theorem ca_145 : callable Try.prog 145 = true := by kernel_rfl
theorem ca_146 : callable Try.prog 146 = true := by kernel_rfl
theorem ca_147 : callable Try.prog 147 = true := by kernel_rfl
theorem ca_148 : callable Try.prog 148 = true := by kernel_rfl
theorem ca_149 : callable Try.prog 149 = true := by kernel_rfl
theorem ca_150 : callable Try.prog 150 = true := by kernel_rfl
theorem ca_151 : callable Try.prog 151 = true := by kernel_rfl
theorem ca_152 : callable Try.prog 152 = true := by kernel_rfl
theorem ca_153 : callable Try.prog 153 = true := by kernel_rfl
theorem ca_154 : callable Try.prog 154 = true := by kernel_rfl
theorem ca_155 : callable Try.prog 155 = true := by kernel_rfl
theorem ca_156 : callable Try.prog 156 = true := by kernel_rfl
theorem ca_157 : callable Try.prog 157 = true := by kernel_rfl
theorem ca_158 : callable Try.prog 158 = true := by kernel_rfl
theorem ca_159 : callable Try.prog 159 = true := by kernel_rfl
theorem ca_160 : callable Try.prog 160 = true := by kernel_rfl
theorem ca_161 : callable Try.prog 161 = true := by kernel_rfl
theorem ca_162 : callable Try.prog 162 = true := by kernel_rfl
theorem ca_163 : callable Try.prog 163 = true := by kernel_rfl
theorem ca_164 : callable Try.prog 164 = true := by kernel_rfl
theorem ca_165 : callable Try.prog 165 = true := by kernel_rfl
theorem ca_166 : callable Try.prog 166 = true := by kernel_rfl
theorem ca_167 : callable Try.prog 167 = true := by kernel_rfl
theorem ca_168 : callable Try.prog 168 = true := by kernel_rfl
theorem ca_169 : callable Try.prog 169 = true := by kernel_rfl
theorem ca_170 : callable Try.prog 170 = true := by kernel_rfl
theorem ca_171 : callable Try.prog 171 = true := by kernel_rfl
theorem ca_172 : callable Try.prog 172 = true := by kernel_rfl
theorem ca_173 : callable Try.prog 173 = true := by kernel_rfl
theorem ca_174 : callable Try.prog 174 = true := by kernel_rfl
theorem ca_175 : callable Try.prog 175 = true := by kernel_rfl
theorem ca_176 : callable Try.prog 176 = true := by kernel_rfl
theorem ca_177 : callable Try.prog 177 = true := by kernel_rfl
theorem ca_178 : callable Try.prog 178 = true := by kernel_rfl
theorem ca_179 : callable Try.prog 179 = true := by kernel_rfl
theorem ca_180 : callable Try.prog 180 = true := by kernel_rfl
theorem ca_181 : callable Try.prog 181 = true := by kernel_rfl
theorem ca_182 : callable Try.prog 182 = true := by kernel_rfl
theorem ca_183 : callable Try.prog 183 = true := by kernel_rfl
theorem ca_184 : callable Try.prog 184 = true := by kernel_rfl
theorem ca_185 : callable Try.prog 185 = true := by kernel_rfl
theorem ca_186 : callable Try.prog 186 = true := by kernel_rfl
theorem ca_187 : callable Try.prog 187 = true := by kernel_rfl
theorem ca_188 : callable Try.prog 188 = true := by kernel_rfl
theorem ca_189 : callable Try.prog 189 = true := by kernel_rfl
theorem ca_190 : callable Try.prog 190 = true := by kernel_rfl
theorem ca_191 : callable Try.prog 191 = true := by kernel_rfl
theorem ca_192 : callable Try.prog 192 = true := by kernel_rfl
theorem ca_193 : callable Try.prog 193 = true := by kernel_rfl
theorem ca_194 : callable Try.prog 194 = true := by kernel_rfl
theorem ca_195 : callable Try.prog 195 = true := by kernel_rfl
theorem ca_196 : callable Try.prog 196 = true := by kernel_rfl
theorem ca_197 : callable Try.prog 197 = true := by kernel_rfl
theorem ca_198 : callable Try.prog 198 = true := by kernel_rfl
theorem ca_199 : callable Try.prog 199 = true := by kernel_rfl
theorem ca_200 : callable Try.prog 200 = true := by kernel_rfl
theorem ca_201 : callable Try.prog 201 = true := by kernel_rfl
theorem ca_202 : callable Try.prog 202 = true := by kernel_rfl
theorem ca_203 : callable Try.prog 203 = true := by kernel_rfl
theorem ca_204 : callable Try.prog 204 = true := by kernel_rfl
theorem ca_205 : callable Try.prog 205 = true := by kernel_rfl
theorem ca_207 : callable Try.prog 207 = true := by kernel_rfl
theorem ca_208 : callable Try.prog 208 = true := by kernel_rfl
theorem ca_209 : callable Try.prog 209 = true := by kernel_rfl
theorem ca_210 : callable Try.prog 210 = true := by kernel_rfl
theorem ca_211 : callable Try.prog 211 = true := by kernel_rfl
theorem ca_212 : callable Try.prog 212 = true := by kernel_rfl
theorem ca_213 : callable Try.prog 213 = true := by kernel_rfl
theorem ca_214 : callable Try.prog 214 = true := by kernel_rfl
theorem ca_215 : callable Try.prog 215 = true := by kernel_rfl
theorem ca_216 : callable Try.prog 216 = true := by kernel_rfl
theorem ca_217 : callable Try.prog 217 = true := by kernel_rfl
theorem ca_218 : callable Try.prog 218 = true := by kernel_rfl
theorem ca_219 : callable Try.prog 219 = true := by kernel_rfl
theorem ca_220 : callable Try.prog 220 = true := by kernel_rfl
theorem ca_221 : callable Try.prog 221 = true := by kernel_rfl
theorem ca_222 : callable Try.prog 222 = true := by kernel_rfl
theorem ca_223 : callable Try.prog 223 = true := by kernel_rfl
theorem mixed : Try.prog.follows .mixedOrders = true := by kernel_rfl

end Go.Proofs.Ytkaikajjhhnifaa.E
