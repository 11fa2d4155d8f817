/- What the program says of its types and functions: closed facts, by program. -/
import Derived.Test.YtlodlnbhjghjoaaGreatF2
import Derived.Test.YtlodlnbhjghjoaaGreatProg
namespace Go.Proofs.YtlodlnbhjghjoaaGreat.E
open Go Go.Proofs

theorem ty_2 : tyIs Tryz.prog 2 = some (false, 1) := by kernel_rfl
theorem by_2 : (Tryz.prog.info? 2).map (·.bytes) = some 8 := by kernel_rfl
theorem za_2 : zav Tryz.prog 2 = some [.sc (.int .i64 0)] := by kernel_rfl
theorem ty_3 : tyIs Tryz.prog 3 = some (false, 1) := by kernel_rfl
theorem by_3 : (Tryz.prog.info? 3).map (·.bytes) = some 8 := by kernel_rfl
theorem za_3 : zav Tryz.prog 3 = some [.sc (.int .i64 0)] := by kernel_rfl
theorem ty_4 : tyIs Tryz.prog 4 = some (false, 1) := by kernel_rfl
theorem by_4 : (Tryz.prog.info? 4).map (·.bytes) = some 1 := by kernel_rfl
theorem za_4 : zav Tryz.prog 4 = some [.sc (.bool false)] := by kernel_rfl
theorem bo_4 : Tryz.prog.underlying 4 = some .bool := by kernel_rfl
theorem ty_5 : tyIs Tryz.prog 5 = some (false, 1) := by kernel_rfl
theorem by_5 : (Tryz.prog.info? 5).map (·.bytes) = some 1 := by kernel_rfl
theorem za_5 : zav Tryz.prog 5 = some [.sc (.int .u8 0)] := by kernel_rfl
theorem ty_9 : tyIs Tryz.prog 9 = some (false, 1) := by kernel_rfl
theorem by_9 : (Tryz.prog.info? 9).map (·.bytes) = some 16 := by kernel_rfl
theorem za_9 : zav Tryz.prog 9 = some [.sc (.string ⟨#[]⟩)] := by kernel_rfl
theorem st_9 : Tryz.prog.underlying 9 = some .string := by kernel_rfl
theorem ty_21 : tyIs Tryz.prog 21 = some (false, 1) := by kernel_rfl
theorem by_21 : (Tryz.prog.info? 21).map (·.bytes) = some 4 := by kernel_rfl
theorem za_21 : zav Tryz.prog 21 = some [.sc (.int .i32 0)] := by kernel_rfl
theorem ty_22 : tyIs Tryz.prog 22 = some (false, 1) := by kernel_rfl
theorem by_22 : (Tryz.prog.info? 22).map (·.bytes) = some 24 := by kernel_rfl
theorem za_22 : zav Tryz.prog 22 = some [.sc (.slice none 0 0)] := by kernel_rfl
theorem sl_22 : isSlice Tryz.prog 22 = some 3 := by kernel_rfl
theorem ty_23 : tyIs Tryz.prog 23 = some (true, 3) := by kernel_rfl
theorem by_23 : (Tryz.prog.info? 23).map (·.bytes) = some 24 := by kernel_rfl
theorem za_23 : zav Tryz.prog 23 = some [.sc (.int .i64 0), .sc (.int .i64 0), .sc (.int .i64 0)] := by kernel_rfl
theorem fo_23_0 : fofs Tryz.prog 23 0 = some 0 := by kernel_rfl
theorem fo_23_1 : fofs Tryz.prog 23 1 = some 1 := by kernel_rfl
theorem fo_23_2 : fofs Tryz.prog 23 2 = some 2 := by kernel_rfl
theorem se_23 : intStruct Tryz.prog 23 = true := by kernel_rfl
theorem fd_23 : (Tryz.prog.fieldsOf 23).size = 3 := by kernel_rfl
theorem bd_23 : bld Tryz.prog 23 = some ([(.int .i64 0), (.int .i64 0), (.int .i64 0)], [(0, 1), (1, 1), (2, 1)]) := by kernel_rfl
theorem ty_24 : tyIs Tryz.prog 24 = some (true, 3) := by kernel_rfl
theorem by_24 : (Tryz.prog.info? 24).map (·.bytes) = some 24 := by kernel_rfl
theorem za_24 : zav Tryz.prog 24 = some [.sc (.int .i64 0), .sc (.int .i64 0), .sc (.int .i64 0)] := by kernel_rfl
theorem fo_24_0 : fofs Tryz.prog 24 0 = some 0 := by kernel_rfl
theorem fo_24_1 : fofs Tryz.prog 24 1 = some 1 := by kernel_rfl
theorem fo_24_2 : fofs Tryz.prog 24 2 = some 2 := by kernel_rfl
theorem se_24 : intStruct Tryz.prog 24 = true := by kernel_rfl
theorem fd_24 : (Tryz.prog.fieldsOf 24).size = 3 := by kernel_rfl
theorem bd_24 : bld Tryz.prog 24 = some ([(.int .i64 0), (.int .i64 0), (.int .i64 0)], [(0, 1), (1, 1), (2, 1)]) := by kernel_rfl
theorem ty_25 : tyIs Tryz.prog 25 = some (false, 1) := by kernel_rfl
theorem by_25 : (Tryz.prog.info? 25).map (·.bytes) = some 24 := by kernel_rfl
theorem za_25 : zav Tryz.prog 25 = some [.sc (.slice none 0 0)] := by kernel_rfl
theorem sl_25 : isSlice Tryz.prog 25 = some 45 := by kernel_rfl
theorem ty_27 : tyIs Tryz.prog 27 = some (false, 1) := by kernel_rfl
theorem by_27 : (Tryz.prog.info? 27).map (·.bytes) = some 24 := by kernel_rfl
theorem za_27 : zav Tryz.prog 27 = some [.sc (.slice none 0 0)] := by kernel_rfl
theorem sl_27 : isSlice Tryz.prog 27 = some 124 := by kernel_rfl
theorem ty_30 : tyIs Tryz.prog 30 = some (true, 3) := by kernel_rfl
theorem by_30 : (Tryz.prog.info? 30).map (·.bytes) = some 24 := by kernel_rfl
theorem za_30 : zav Tryz.prog 30 = some [.sc (.int .i64 0), .sc (.int .i64 0), .sc (.int .i64 0)] := by kernel_rfl
theorem fo_30_0 : fofs Tryz.prog 30 0 = some 0 := by kernel_rfl
theorem fo_30_1 : fofs Tryz.prog 30 1 = some 1 := by kernel_rfl
theorem fo_30_2 : fofs Tryz.prog 30 2 = some 2 := by kernel_rfl
theorem se_30 : intStruct Tryz.prog 30 = true := by kernel_rfl
theorem fd_30 : (Tryz.prog.fieldsOf 30).size = 3 := by kernel_rfl
theorem bd_30 : bld Tryz.prog 30 = some ([(.int .i64 0), (.int .i64 0), (.int .i64 0)], [(0, 1), (1, 1), (2, 1)]) := by kernel_rfl
theorem ty_32 : tyIs Tryz.prog 32 = some (false, 1) := by kernel_rfl
theorem by_32 : (Tryz.prog.info? 32).map (·.bytes) = some 24 := by kernel_rfl
theorem za_32 : zav Tryz.prog 32 = some [.sc (.slice none 0 0)] := by kernel_rfl
theorem sl_32 : isSlice Tryz.prog 32 = some 53 := by kernel_rfl
theorem ty_41 : tyIs Tryz.prog 41 = some (false, 1) := by kernel_rfl
theorem by_41 : (Tryz.prog.info? 41).map (·.bytes) = some 24 := by kernel_rfl
theorem za_41 : zav Tryz.prog 41 = some [.sc (.slice none 0 0)] := by kernel_rfl
theorem sl_41 : isSlice Tryz.prog 41 = some 186 := by kernel_rfl
theorem ty_42 : tyIs Tryz.prog 42 = some (true, 3) := by kernel_rfl
theorem by_42 : (Tryz.prog.info? 42).map (·.bytes) = some 72 := by kernel_rfl
theorem za_42 : zav Tryz.prog 42 = some [.sc (.slice none 0 0), .sc (.slice none 0 0), .sc (.slice none 0 0)] := by kernel_rfl
theorem fo_42_0 : fofs Tryz.prog 42 0 = some 0 := by kernel_rfl
theorem fo_42_1 : fofs Tryz.prog 42 1 = some 1 := by kernel_rfl
theorem fo_42_2 : fofs Tryz.prog 42 2 = some 2 := by kernel_rfl
theorem bd_42 : bld Tryz.prog 42 = some ([(.slice none 0 0), (.slice none 0 0), (.slice none 0 0)], [(0, 1), (1, 1), (2, 1)]) := by kernel_rfl
theorem ty_43 : tyIs Tryz.prog 43 = some (true, 3) := by kernel_rfl
theorem by_43 : (Tryz.prog.info? 43).map (·.bytes) = some 72 := by kernel_rfl
theorem za_43 : zav Tryz.prog 43 = some [.sc (.slice none 0 0), .sc (.slice none 0 0), .sc (.slice none 0 0)] := by kernel_rfl
theorem fo_43_0 : fofs Tryz.prog 43 0 = some 0 := by kernel_rfl
theorem fo_43_1 : fofs Tryz.prog 43 1 = some 1 := by kernel_rfl
theorem fo_43_2 : fofs Tryz.prog 43 2 = some 2 := by kernel_rfl
theorem bd_43 : bld Tryz.prog 43 = some ([(.slice none 0 0), (.slice none 0 0), (.slice none 0 0)], [(0, 1), (1, 1), (2, 1)]) := by kernel_rfl
theorem ty_44 : tyIs Tryz.prog 44 = some (true, 2) := by kernel_rfl
theorem by_44 : (Tryz.prog.info? 44).map (·.bytes) = some 16 := by kernel_rfl
theorem za_44 : zav Tryz.prog 44 = some [.sc (.int .i64 0), .sc (.int .i64 0)] := by kernel_rfl
theorem fo_44_0 : fofs Tryz.prog 44 0 = some 0 := by kernel_rfl
theorem fo_44_1 : fofs Tryz.prog 44 1 = some 1 := by kernel_rfl
theorem se_44 : intStruct Tryz.prog 44 = true := by kernel_rfl
theorem fd_44 : (Tryz.prog.fieldsOf 44).size = 2 := by kernel_rfl
theorem bd_44 : bld Tryz.prog 44 = some ([(.int .i64 0), (.int .i64 0)], [(0, 1), (1, 1)]) := by kernel_rfl
theorem ty_45 : tyIs Tryz.prog 45 = some (true, 2) := by kernel_rfl
theorem by_45 : (Tryz.prog.info? 45).map (·.bytes) = some 16 := by kernel_rfl
theorem za_45 : zav Tryz.prog 45 = some [.sc (.int .i64 0), .sc (.int .i64 0)] := by kernel_rfl
theorem fo_45_0 : fofs Tryz.prog 45 0 = some 0 := by kernel_rfl
theorem fo_45_1 : fofs Tryz.prog 45 1 = some 1 := by kernel_rfl
theorem se_45 : intStruct Tryz.prog 45 = true := by kernel_rfl
theorem fd_45 : (Tryz.prog.fieldsOf 45).size = 2 := by kernel_rfl
theorem bd_45 : bld Tryz.prog 45 = some ([(.int .i64 0), (.int .i64 0)], [(0, 1), (1, 1)]) := by kernel_rfl
theorem ty_47 : tyIs Tryz.prog 47 = some (false, 1) := by kernel_rfl
theorem by_47 : (Tryz.prog.info? 47).map (·.bytes) = some 24 := by kernel_rfl
theorem za_47 : zav Tryz.prog 47 = some [.sc (.slice none 0 0)] := by kernel_rfl
theorem sl_47 : isSlice Tryz.prog 47 = some 151 := by kernel_rfl
theorem ty_48 : tyIs Tryz.prog 48 = some (true, 3) := by kernel_rfl
theorem by_48 : (Tryz.prog.info? 48).map (·.bytes) = some 72 := by kernel_rfl
theorem za_48 : zav Tryz.prog 48 = some [.sc (.slice none 0 0), .sc (.slice none 0 0), .sc (.slice none 0 0)] := by kernel_rfl
theorem fo_48_0 : fofs Tryz.prog 48 0 = some 0 := by kernel_rfl
theorem fo_48_1 : fofs Tryz.prog 48 1 = some 1 := by kernel_rfl
theorem fo_48_2 : fofs Tryz.prog 48 2 = some 2 := by kernel_rfl
theorem bd_48 : bld Tryz.prog 48 = some ([(.slice none 0 0), (.slice none 0 0), (.slice none 0 0)], [(0, 1), (1, 1), (2, 1)]) := by kernel_rfl
theorem ty_49 : tyIs Tryz.prog 49 = some (true, 3) := by kernel_rfl
theorem by_49 : (Tryz.prog.info? 49).map (·.bytes) = some 72 := by kernel_rfl
theorem za_49 : zav Tryz.prog 49 = some [.sc (.slice none 0 0), .sc (.slice none 0 0), .sc (.slice none 0 0)] := by kernel_rfl
theorem fo_49_0 : fofs Tryz.prog 49 0 = some 0 := by kernel_rfl
theorem fo_49_1 : fofs Tryz.prog 49 1 = some 1 := by kernel_rfl
theorem fo_49_2 : fofs Tryz.prog 49 2 = some 2 := by kernel_rfl
theorem bd_49 : bld Tryz.prog 49 = some ([(.slice none 0 0), (.slice none 0 0), (.slice none 0 0)], [(0, 1), (1, 1), (2, 1)]) := by kernel_rfl
theorem ty_53 : tyIs Tryz.prog 53 = some (true, 2) := by kernel_rfl
theorem by_53 : (Tryz.prog.info? 53).map (·.bytes) = some 16 := by kernel_rfl
theorem za_53 : zav Tryz.prog 53 = some [.sc (.int .i64 0), .sc (.int .i64 0)] := by kernel_rfl
theorem fo_53_0 : fofs Tryz.prog 53 0 = some 0 := by kernel_rfl
theorem fo_53_1 : fofs Tryz.prog 53 1 = some 1 := by kernel_rfl
theorem se_53 : intStruct Tryz.prog 53 = true := by kernel_rfl
theorem fd_53 : (Tryz.prog.fieldsOf 53).size = 2 := by kernel_rfl
theorem bd_53 : bld Tryz.prog 53 = some ([(.int .i64 0), (.int .i64 0)], [(0, 1), (1, 1)]) := by kernel_rfl
theorem ty_59 : tyIs Tryz.prog 59 = some (false, 1) := by kernel_rfl
theorem by_59 : (Tryz.prog.info? 59).map (·.bytes) = some 24 := by kernel_rfl
theorem za_59 : zav Tryz.prog 59 = some [.sc (.slice none 0 0)] := by kernel_rfl
theorem sl_59 : isSlice Tryz.prog 59 = some 5 := by kernel_rfl
theorem ty_72 : tyIs Tryz.prog 72 = some (false, 1) := by kernel_rfl
theorem by_72 : (Tryz.prog.info? 72).map (·.bytes) = some 24 := by kernel_rfl
theorem za_72 : zav Tryz.prog 72 = some [.sc (.slice none 0 0)] := by kernel_rfl
theorem sl_72 : isSlice Tryz.prog 72 = some 22 := by kernel_rfl
theorem ty_85 : tyIs Tryz.prog 85 = some (false, 1) := by kernel_rfl
theorem by_85 : (Tryz.prog.info? 85).map (·.bytes) = some 24 := by kernel_rfl
theorem za_85 : zav Tryz.prog 85 = some [.sc (.slice none 0 0)] := by kernel_rfl
theorem sl_85 : isSlice Tryz.prog 85 = some 202 := by kernel_rfl
theorem ty_86 : tyIs Tryz.prog 86 = some (true, 2) := by kernel_rfl
theorem by_86 : (Tryz.prog.info? 86).map (·.bytes) = some 48 := by kernel_rfl
theorem za_86 : zav Tryz.prog 86 = some [.sc (.slice none 0 0), .sc (.slice none 0 0)] := by kernel_rfl
theorem fo_86_0 : fofs Tryz.prog 86 0 = some 0 := by kernel_rfl
theorem fo_86_1 : fofs Tryz.prog 86 1 = some 1 := by kernel_rfl
theorem bd_86 : bld Tryz.prog 86 = some ([(.slice none 0 0), (.slice none 0 0)], [(0, 1), (1, 1)]) := by kernel_rfl
theorem ty_87 : tyIs Tryz.prog 87 = some (true, 2) := by kernel_rfl
theorem by_87 : (Tryz.prog.info? 87).map (·.bytes) = some 48 := by kernel_rfl
theorem za_87 : zav Tryz.prog 87 = some [.sc (.slice none 0 0), .sc (.slice none 0 0)] := by kernel_rfl
theorem fo_87_0 : fofs Tryz.prog 87 0 = some 0 := by kernel_rfl
theorem fo_87_1 : fofs Tryz.prog 87 1 = some 1 := by kernel_rfl
theorem bd_87 : bld Tryz.prog 87 = some ([(.slice none 0 0), (.slice none 0 0)], [(0, 1), (1, 1)]) := by kernel_rfl
theorem ty_89 : tyIs Tryz.prog 89 = some (false, 1) := by kernel_rfl
theorem by_89 : (Tryz.prog.info? 89).map (·.bytes) = some 24 := by kernel_rfl
theorem za_89 : zav Tryz.prog 89 = some [.sc (.slice none 0 0)] := by kernel_rfl
theorem sl_89 : isSlice Tryz.prog 89 = some 104 := by kernel_rfl
theorem ty_90 : tyIs Tryz.prog 90 = some (true, 2) := by kernel_rfl
theorem by_90 : (Tryz.prog.info? 90).map (·.bytes) = some 48 := by kernel_rfl
theorem za_90 : zav Tryz.prog 90 = some [.sc (.slice none 0 0), .sc (.slice none 0 0)] := by kernel_rfl
theorem fo_90_0 : fofs Tryz.prog 90 0 = some 0 := by kernel_rfl
theorem fo_90_1 : fofs Tryz.prog 90 1 = some 1 := by kernel_rfl
theorem bd_90 : bld Tryz.prog 90 = some ([(.slice none 0 0), (.slice none 0 0)], [(0, 1), (1, 1)]) := by kernel_rfl
theorem ty_91 : tyIs Tryz.prog 91 = some (true, 2) := by kernel_rfl
theorem by_91 : (Tryz.prog.info? 91).map (·.bytes) = some 48 := by kernel_rfl
theorem za_91 : zav Tryz.prog 91 = some [.sc (.slice none 0 0), .sc (.slice none 0 0)] := by kernel_rfl
theorem fo_91_0 : fofs Tryz.prog 91 0 = some 0 := by kernel_rfl
theorem fo_91_1 : fofs Tryz.prog 91 1 = some 1 := by kernel_rfl
theorem bd_91 : bld Tryz.prog 91 = some ([(.slice none 0 0), (.slice none 0 0)], [(0, 1), (1, 1)]) := by kernel_rfl
theorem ty_103 : tyIs Tryz.prog 103 = some (true, 2) := by kernel_rfl
theorem by_103 : (Tryz.prog.info? 103).map (·.bytes) = some 16 := by kernel_rfl
theorem za_103 : zav Tryz.prog 103 = some [.sc (.int .i64 0), .sc (.int .i64 0)] := by kernel_rfl
theorem fo_103_0 : fofs Tryz.prog 103 0 = some 0 := by kernel_rfl
theorem fo_103_1 : fofs Tryz.prog 103 1 = some 1 := by kernel_rfl
theorem se_103 : intStruct Tryz.prog 103 = true := by kernel_rfl
theorem fd_103 : (Tryz.prog.fieldsOf 103).size = 2 := by kernel_rfl
theorem bd_103 : bld Tryz.prog 103 = some ([(.int .i64 0), (.int .i64 0)], [(0, 1), (1, 1)]) := by kernel_rfl
theorem ty_104 : tyIs Tryz.prog 104 = some (true, 2) := by kernel_rfl
theorem by_104 : (Tryz.prog.info? 104).map (·.bytes) = some 16 := by kernel_rfl
theorem za_104 : zav Tryz.prog 104 = some [.sc (.int .i64 0), .sc (.int .i64 0)] := by kernel_rfl
theorem fo_104_0 : fofs Tryz.prog 104 0 = some 0 := by kernel_rfl
theorem fo_104_1 : fofs Tryz.prog 104 1 = some 1 := by kernel_rfl
theorem se_104 : intStruct Tryz.prog 104 = true := by kernel_rfl
theorem fd_104 : (Tryz.prog.fieldsOf 104).size = 2 := by kernel_rfl
theorem bd_104 : bld Tryz.prog 104 = some ([(.int .i64 0), (.int .i64 0)], [(0, 1), (1, 1)]) := by kernel_rfl
theorem ty_121 : tyIs Tryz.prog 121 = some (false, 1) := by kernel_rfl
theorem by_121 : (Tryz.prog.info? 121).map (·.bytes) = some 8 := by kernel_rfl
theorem za_121 : zav Tryz.prog 121 = some [.sc (.pointer none)] := by kernel_rfl
theorem ty_123 : tyIs Tryz.prog 123 = some (true, 5) := by kernel_rfl
theorem by_123 : (Tryz.prog.info? 123).map (·.bytes) = some 40 := by kernel_rfl
theorem za_123 : zav Tryz.prog 123 = some [.sc (.int .i64 0), .sc (.int .i64 0), .sc (.int .i64 0), .sc (.int .i64 0), .sc (.int .i64 0)] := by kernel_rfl
theorem fo_123_0 : fofs Tryz.prog 123 0 = some 0 := by kernel_rfl
theorem fo_123_1 : fofs Tryz.prog 123 1 = some 1 := by kernel_rfl
theorem fo_123_2 : fofs Tryz.prog 123 2 = some 2 := by kernel_rfl
theorem fo_123_3 : fofs Tryz.prog 123 3 = some 3 := by kernel_rfl
theorem fo_123_4 : fofs Tryz.prog 123 4 = some 4 := by kernel_rfl
theorem se_123 : intStruct Tryz.prog 123 = true := by kernel_rfl
theorem fd_123 : (Tryz.prog.fieldsOf 123).size = 5 := by kernel_rfl
theorem bd_123 : bld Tryz.prog 123 = some ([(.int .i64 0), (.int .i64 0), (.int .i64 0), (.int .i64 0), (.int .i64 0)], [(0, 1), (1, 1), (2, 1), (3, 1), (4, 1)]) := by kernel_rfl
theorem ty_124 : tyIs Tryz.prog 124 = some (true, 5) := by kernel_rfl
theorem by_124 : (Tryz.prog.info? 124).map (·.bytes) = some 40 := by kernel_rfl
theorem za_124 : zav Tryz.prog 124 = some [.sc (.int .i64 0), .sc (.int .i64 0), .sc (.int .i64 0), .sc (.int .i64 0), .sc (.int .i64 0)] := by kernel_rfl
theorem fo_124_0 : fofs Tryz.prog 124 0 = some 0 := by kernel_rfl
theorem fo_124_1 : fofs Tryz.prog 124 1 = some 1 := by kernel_rfl
theorem fo_124_2 : fofs Tryz.prog 124 2 = some 2 := by kernel_rfl
theorem fo_124_3 : fofs Tryz.prog 124 3 = some 3 := by kernel_rfl
theorem fo_124_4 : fofs Tryz.prog 124 4 = some 4 := by kernel_rfl
theorem se_124 : intStruct Tryz.prog 124 = true := by kernel_rfl
theorem fd_124 : (Tryz.prog.fieldsOf 124).size = 5 := by kernel_rfl
theorem bd_124 : bld Tryz.prog 124 = some ([(.int .i64 0), (.int .i64 0), (.int .i64 0), (.int .i64 0), (.int .i64 0)], [(0, 1), (1, 1), (2, 1), (3, 1), (4, 1)]) := by kernel_rfl
theorem ty_138 : tyIs Tryz.prog 138 = some (false, 1) := by kernel_rfl
theorem by_138 : (Tryz.prog.info? 138).map (·.bytes) = some 8 := by kernel_rfl
theorem za_138 : zav Tryz.prog 138 = some [.sc (.pointer none)] := by kernel_rfl
theorem ty_150 : tyIs Tryz.prog 150 = some (true, 2) := by kernel_rfl
theorem by_150 : (Tryz.prog.info? 150).map (·.bytes) = some 16 := by kernel_rfl
theorem za_150 : zav Tryz.prog 150 = some [.sc (.int .i64 0), .sc (.int .i64 0)] := by kernel_rfl
theorem fo_150_0 : fofs Tryz.prog 150 0 = some 0 := by kernel_rfl
theorem fo_150_1 : fofs Tryz.prog 150 1 = some 1 := by kernel_rfl
theorem se_150 : intStruct Tryz.prog 150 = true := by kernel_rfl
theorem fd_150 : (Tryz.prog.fieldsOf 150).size = 2 := by kernel_rfl
theorem bd_150 : bld Tryz.prog 150 = some ([(.int .i64 0), (.int .i64 0)], [(0, 1), (1, 1)]) := by kernel_rfl
theorem ty_151 : tyIs Tryz.prog 151 = some (true, 2) := by kernel_rfl
theorem by_151 : (Tryz.prog.info? 151).map (·.bytes) = some 16 := by kernel_rfl
theorem za_151 : zav Tryz.prog 151 = some [.sc (.int .i64 0), .sc (.int .i64 0)] := by kernel_rfl
theorem fo_151_0 : fofs Tryz.prog 151 0 = some 0 := by kernel_rfl
theorem fo_151_1 : fofs Tryz.prog 151 1 = some 1 := by kernel_rfl
theorem se_151 : intStruct Tryz.prog 151 = true := by kernel_rfl
theorem fd_151 : (Tryz.prog.fieldsOf 151).size = 2 := by kernel_rfl
theorem bd_151 : bld Tryz.prog 151 = some ([(.int .i64 0), (.int .i64 0)], [(0, 1), (1, 1)]) := by kernel_rfl
theorem ty_156 : tyIs Tryz.prog 156 = some (false, 1) := by kernel_rfl
theorem by_156 : (Tryz.prog.info? 156).map (·.bytes) = some 24 := by kernel_rfl
theorem za_156 : zav Tryz.prog 156 = some [.sc (.slice none 0 0)] := by kernel_rfl
theorem sl_156 : isSlice Tryz.prog 156 = some 229 := by kernel_rfl
theorem ty_173 : tyIs Tryz.prog 173 = some (false, 1) := by kernel_rfl
theorem by_173 : (Tryz.prog.info? 173).map (·.bytes) = some 24 := by kernel_rfl
theorem za_173 : zav Tryz.prog 173 = some [.sc (.slice none 0 0)] := by kernel_rfl
theorem sl_173 : isSlice Tryz.prog 173 = some 175 := by kernel_rfl
theorem ty_175 : tyIs Tryz.prog 175 = some (true, 2) := by kernel_rfl
theorem by_175 : (Tryz.prog.info? 175).map (·.bytes) = some 16 := by kernel_rfl
theorem za_175 : zav Tryz.prog 175 = some [.sc (.int .i64 0), .sc (.int .i64 0)] := by kernel_rfl
theorem ar_175 : isArr Tryz.prog 175 = some (2, 3) := by kernel_rfl
theorem bd_175 : bld Tryz.prog 175 = some ([(.int .i64 0), (.int .i64 0)], [(0, 1), (1, 1)]) := by kernel_rfl
theorem ty_178 : tyIs Tryz.prog 178 = some (false, 1) := by kernel_rfl
theorem by_178 : (Tryz.prog.info? 178).map (·.bytes) = some 8 := by kernel_rfl
theorem za_178 : zav Tryz.prog 178 = some [.sc (.pointer none)] := by kernel_rfl
theorem ty_186 : tyIs Tryz.prog 186 = some (true, 2) := by kernel_rfl
theorem by_186 : (Tryz.prog.info? 186).map (·.bytes) = some 16 := by kernel_rfl
theorem za_186 : zav Tryz.prog 186 = some [.sc (.int .i64 0), .sc (.int .i64 0)] := by kernel_rfl
theorem fo_186_0 : fofs Tryz.prog 186 0 = some 0 := by kernel_rfl
theorem fo_186_1 : fofs Tryz.prog 186 1 = some 1 := by kernel_rfl
theorem se_186 : intStruct Tryz.prog 186 = true := by kernel_rfl
theorem fd_186 : (Tryz.prog.fieldsOf 186).size = 2 := by kernel_rfl
theorem bd_186 : bld Tryz.prog 186 = some ([(.int .i64 0), (.int .i64 0)], [(0, 1), (1, 1)]) := by kernel_rfl
theorem ty_189 : tyIs Tryz.prog 189 = some (true, 3) := by kernel_rfl
theorem by_189 : (Tryz.prog.info? 189).map (·.bytes) = some 40 := by kernel_rfl
theorem za_189 : zav Tryz.prog 189 = some [.sc (.slice none 0 0), .sc (.int .i64 0), .sc (.int .i64 0)] := by kernel_rfl
theorem fo_189_0 : fofs Tryz.prog 189 0 = some 0 := by kernel_rfl
theorem fo_189_1 : fofs Tryz.prog 189 1 = some 1 := by kernel_rfl
theorem fo_189_2 : fofs Tryz.prog 189 2 = some 2 := by kernel_rfl
theorem bd_189 : bld Tryz.prog 189 = some ([(.slice none 0 0), (.int .i64 0), (.int .i64 0)], [(0, 1), (1, 1), (2, 1)]) := by kernel_rfl
theorem ty_190 : tyIs Tryz.prog 190 = some (true, 3) := by kernel_rfl
theorem by_190 : (Tryz.prog.info? 190).map (·.bytes) = some 40 := by kernel_rfl
theorem za_190 : zav Tryz.prog 190 = some [.sc (.slice none 0 0), .sc (.int .i64 0), .sc (.int .i64 0)] := by kernel_rfl
theorem fo_190_0 : fofs Tryz.prog 190 0 = some 0 := by kernel_rfl
theorem fo_190_1 : fofs Tryz.prog 190 1 = some 1 := by kernel_rfl
theorem fo_190_2 : fofs Tryz.prog 190 2 = some 2 := by kernel_rfl
theorem bd_190 : bld Tryz.prog 190 = some ([(.slice none 0 0), (.int .i64 0), (.int .i64 0)], [(0, 1), (1, 1), (2, 1)]) := by kernel_rfl
theorem ty_202 : tyIs Tryz.prog 202 = some (true, 2) := by kernel_rfl
theorem by_202 : (Tryz.prog.info? 202).map (·.bytes) = some 16 := by kernel_rfl
theorem za_202 : zav Tryz.prog 202 = some [.sc (.int .i64 0), .sc (.int .i64 0)] := by kernel_rfl
theorem fo_202_0 : fofs Tryz.prog 202 0 = some 0 := by kernel_rfl
theorem fo_202_1 : fofs Tryz.prog 202 1 = some 1 := by kernel_rfl
theorem se_202 : intStruct Tryz.prog 202 = true := by kernel_rfl
theorem fd_202 : (Tryz.prog.fieldsOf 202).size = 2 := by kernel_rfl
theorem bd_202 : bld Tryz.prog 202 = some ([(.int .i64 0), (.int .i64 0)], [(0, 1), (1, 1)]) := by kernel_rfl
theorem ty_212 : tyIs Tryz.prog 212 = some (false, 1) := by kernel_rfl
theorem by_212 : (Tryz.prog.info? 212).map (·.bytes) = some 24 := by kernel_rfl
theorem za_212 : zav Tryz.prog 212 = some [.sc (.slice none 0 0)] := by kernel_rfl
theorem sl_212 : isSlice Tryz.prog 212 = some 216 := by kernel_rfl
theorem ty_215 : tyIs Tryz.prog 215 = some (true, 2) := by kernel_rfl
theorem by_215 : (Tryz.prog.info? 215).map (·.bytes) = some 16 := by kernel_rfl
theorem za_215 : zav Tryz.prog 215 = some [.sc (.int .i64 0), .sc (.int .i64 0)] := by kernel_rfl
theorem fo_215_0 : fofs Tryz.prog 215 0 = some 0 := by kernel_rfl
theorem fo_215_1 : fofs Tryz.prog 215 1 = some 1 := by kernel_rfl
theorem se_215 : intStruct Tryz.prog 215 = true := by kernel_rfl
theorem fd_215 : (Tryz.prog.fieldsOf 215).size = 2 := by kernel_rfl
theorem bd_215 : bld Tryz.prog 215 = some ([(.int .i64 0), (.int .i64 0)], [(0, 1), (1, 1)]) := by kernel_rfl
theorem ty_216 : tyIs Tryz.prog 216 = some (true, 2) := by kernel_rfl
theorem by_216 : (Tryz.prog.info? 216).map (·.bytes) = some 16 := by kernel_rfl
theorem za_216 : zav Tryz.prog 216 = some [.sc (.int .i64 0), .sc (.int .i64 0)] := by kernel_rfl
theorem fo_216_0 : fofs Tryz.prog 216 0 = some 0 := by kernel_rfl
theorem fo_216_1 : fofs Tryz.prog 216 1 = some 1 := by kernel_rfl
theorem se_216 : intStruct Tryz.prog 216 = true := by kernel_rfl
theorem fd_216 : (Tryz.prog.fieldsOf 216).size = 2 := by kernel_rfl
theorem bd_216 : bld Tryz.prog 216 = some ([(.int .i64 0), (.int .i64 0)], [(0, 1), (1, 1)]) := by kernel_rfl
theorem ty_228 : tyIs Tryz.prog 228 = some (true, 2) := by kernel_rfl
theorem by_228 : (Tryz.prog.info? 228).map (·.bytes) = some 16 := by kernel_rfl
theorem za_228 : zav Tryz.prog 228 = some [.sc (.int .i64 0), .sc (.int .i64 0)] := by kernel_rfl
theorem fo_228_0 : fofs Tryz.prog 228 0 = some 0 := by kernel_rfl
theorem fo_228_1 : fofs Tryz.prog 228 1 = some 1 := by kernel_rfl
theorem se_228 : intStruct Tryz.prog 228 = true := by kernel_rfl
theorem fd_228 : (Tryz.prog.fieldsOf 228).size = 2 := by kernel_rfl
theorem bd_228 : bld Tryz.prog 228 = some ([(.int .i64 0), (.int .i64 0)], [(0, 1), (1, 1)]) := by kernel_rfl
theorem ty_229 : tyIs Tryz.prog 229 = some (true, 2) := by kernel_rfl
theorem by_229 : (Tryz.prog.info? 229).map (·.bytes) = some 16 := by kernel_rfl
theorem za_229 : zav Tryz.prog 229 = some [.sc (.int .i64 0), .sc (.int .i64 0)] := by kernel_rfl
theorem fo_229_0 : fofs Tryz.prog 229 0 = some 0 := by kernel_rfl
theorem fo_229_1 : fofs Tryz.prog 229 1 = some 1 := by kernel_rfl
theorem se_229 : intStruct Tryz.prog 229 = true := by kernel_rfl
theorem fd_229 : (Tryz.prog.fieldsOf 229).size = 2 := by kernel_rfl
theorem bd_229 : bld Tryz.prog 229 = some ([(.int .i64 0), (.int .i64 0)], [(0, 1), (1, 1)]) := by kernel_rfl
theorem ty_235 : tyIs Tryz.prog 235 = some (false, 1) := by kernel_rfl
theorem by_235 : (Tryz.prog.info? 235).map (·.bytes) = some 8 := by kernel_rfl
theorem za_235 : zav Tryz.prog 235 = some [.sc (.int .u64 0)] := by kernel_rfl
theorem ty_248 : tyIs Tryz.prog 248 = some (false, 1) := by kernel_rfl
theorem by_248 : (Tryz.prog.info? 248).map (·.bytes) = some 4 := by kernel_rfl
theorem za_248 : zav Tryz.prog 248 = some [.sc (.int .u32 0)] := by kernel_rfl
theorem ty_250 : tyIs Tryz.prog 250 = some (false, 1) := by kernel_rfl
theorem by_250 : (Tryz.prog.info? 250).map (·.bytes) = some 8 := by kernel_rfl
theorem za_250 : zav Tryz.prog 250 = some [.sc (.int .u64 0)] := by kernel_rfl
theorem ty_260 : tyIs Tryz.prog 260 = some (false, 1) := by kernel_rfl
theorem by_260 : (Tryz.prog.info? 260).map (·.bytes) = some 8 := by kernel_rfl
theorem za_260 : zav Tryz.prog 260 = some [.sc (.pointer none)] := by kernel_rfl
theorem ty_265 : tyIs Tryz.prog 265 = some (false, 1) := by kernel_rfl
theorem by_265 : (Tryz.prog.info? 265).map (·.bytes) = some 8 := by kernel_rfl
theorem za_265 : zav Tryz.prog 265 = some [.sc (.pointer none)] := by kernel_rfl
theorem ty_278 : tyIs Tryz.prog 278 = some (false, 1) := by kernel_rfl
theorem by_278 : (Tryz.prog.info? 278).map (·.bytes) = some 8 := by kernel_rfl
theorem za_278 : zav Tryz.prog 278 = some [.sc (.pointer none)] := by kernel_rfl
theorem ca_3 : callable Tryz.prog 3 = true := by kernel_rfl
theorem ca_4 : callable Tryz.prog 4 = true := by kernel_rfl
theorem ca_5 : callable Tryz.prog 5 = true := by kernel_rfl
theorem ca_6 : callable Tryz.prog 6 = true := by kernel_rfl
theorem ca_7 : callable Tryz.prog 7 = true := by kernel_rfl
theorem ca_8 : callable Tryz.prog 8 = true := by kernel_rfl
theorem ca_9 : callable Tryz.prog 9 = true := by kernel_rfl
theorem ca_10 : callable Tryz.prog 10 = true := by kernel_rfl
theorem ca_11 : callable Tryz.prog 11 = true := by kernel_rfl
theorem ca_12 : callable Tryz.prog 12 = true := by kernel_rfl
theorem ca_13 : callable Tryz.prog 13 = true := by kernel_rfl
theorem ca_14 : callable Tryz.prog 14 = true := by kernel_rfl
theorem ca_15 : callable Tryz.prog 15 = true := by kernel_rfl
theorem ca_16 : callable Tryz.prog 16 = true := by kernel_rfl
theorem ca_17 : callable Tryz.prog 17 = true := by kernel_rfl
theorem ca_18 : callable Tryz.prog 18 = true := by kernel_rfl
theorem ca_19 : callable Tryz.prog 19 = true := by kernel_rfl
theorem ca_20 : callable Tryz.prog 20 = true := by kernel_rfl
theorem ca_21 : callable Tryz.prog 21 = true := by kernel_rfl
theorem ca_22 : callable Tryz.prog 22 = true := by kernel_rfl
theorem ca_23 : callable Tryz.prog 23 = true := by kernel_rfl
theorem ca_24 : callable Tryz.prog 24 = true := by kernel_rfl
theorem ca_25 : callable Tryz.prog 25 = true := by kernel_rfl
theorem ca_26 : callable Tryz.prog 26 = true := by kernel_rfl
theorem ca_27 : callable Tryz.prog 27 = true := by kernel_rfl
theorem ca_28 : callable Tryz.prog 28 = true := by kernel_rfl
theorem ca_29 : callable Tryz.prog 29 = true := by kernel_rfl
theorem ca_30 : callable Tryz.prog 30 = true := by kernel_rfl
theorem ca_31 : callable Tryz.prog 31 = true := by kernel_rfl
theorem ca_32 : callable Tryz.prog 32 = true := by kernel_rfl
theorem ca_33 : callable Tryz.prog 33 = true := by kernel_rfl
theorem ca_34 : callable Tryz.prog 34 = true := by kernel_rfl
theorem ca_35 : callable Tryz.prog 35 = true := by kernel_rfl
theorem ca_36 : callable Tryz.prog 36 = true := by kernel_rfl
theorem ca_37 : callable Tryz.prog 37 = true := by kernel_rfl
theorem ca_38 : callable Tryz.prog 38 = true := by kernel_rfl
theorem ca_39 : callable Tryz.prog 39 = true := by kernel_rfl
theorem ca_40 : callable Tryz.prog 40 = true := by kernel_rfl
theorem ca_41 : callable Tryz.prog 41 = true := by kernel_rfl
theorem ca_42 : callable Tryz.prog 42 = true := by kernel_rfl
theorem ca_43 : callable Tryz.prog 43 = true := by kernel_rfl
theorem ca_44 : callable Tryz.prog 44 = true := by kernel_rfl
theorem ca_45 : callable Tryz.prog 45 = true := by kernel_rfl
theorem ca_46 : callable Tryz.prog 46 = true := by kernel_rfl
theorem ca_47 : callable Tryz.prog 47 = true := by kernel_rfl
theorem ca_48 : callable Tryz.prog 48 = true := by kernel_rfl
theorem ca_49 : callable Tryz.prog 49 = true := by kernel_rfl
theorem ca_50 : callable Tryz.prog 50 = true := by kernel_rfl
theorem ca_51 : callable Tryz.prog 51 = true := by kernel_rfl
theorem ca_52 : callable Tryz.prog 52 = true := by kernel_rfl
theorem ca_53 : callable Tryz.prog 53 = true := by kernel_rfl
theorem ca_54 : callable Tryz.prog 54 = true := by kernel_rfl
theorem ca_55 : callable Tryz.prog 55 = true := by kernel_rfl
theorem ca_56 : callable Tryz.prog 56 = true := by kernel_rfl
theorem ca_57 : callable Tryz.prog 57 = true := by kernel_rfl
theorem ca_58 : callable Tryz.prog 58 = true := by kernel_rfl
theorem ca_59 : callable Tryz.prog 59 = true := by kernel_rfl
theorem ca_60 : callable Tryz.prog 60 = true := by kernel_rfl
theorem ca_61 : callable Tryz.prog 61 = true := by kernel_rfl
theorem ca_62 : callable Tryz.prog 62 = true := by kernel_rfl
theorem ca_63 : callable Tryz.prog 63 = true := by kernel_rfl
theorem ca_64 : callable Tryz.prog 64 = true := by kernel_rfl
theorem ca_65 : callable Tryz.prog 65 = true := by kernel_rfl
theorem ca_66 : callable Tryz.prog 66 = true := by kernel_rfl
theorem ca_67 : callable Tryz.prog 67 = true := by kernel_rfl
theorem ca_68 : callable Tryz.prog 68 = true := by kernel_rfl
theorem ca_69 : callable Tryz.prog 69 = true := by kernel_rfl
theorem ca_70 : callable Tryz.prog 70 = true := by kernel_rfl
theorem ca_71 : callable Tryz.prog 71 = true := by kernel_rfl
theorem ca_72 : callable Tryz.prog 72 = true := by kernel_rfl
theorem ca_73 : callable Tryz.prog 73 = true := by kernel_rfl
theorem ca_74 : callable Tryz.prog 74 = true := by kernel_rfl
theorem ca_75 : callable Tryz.prog 75 = true := by kernel_rfl
theorem ca_76 : callable Tryz.prog 76 = true := by kernel_rfl
theorem ca_77 : callable Tryz.prog 77 = true := by kernel_rfl
theorem ca_78 : callable Tryz.prog 78 = true := by kernel_rfl
theorem ca_79 : callable Tryz.prog 79 = true := by kernel_rfl
theorem ca_80 : callable Tryz.prog 80 = true := by kernel_rfl
theorem ca_81 : callable Tryz.prog 81 = true := by kernel_rfl
theorem ca_82 : callable Tryz.prog 82 = true := by kernel_rfl
theorem ca_83 : callable Tryz.prog 83 = true := by kernel_rfl
theorem ca_84 : callable Tryz.prog 84 = true := by kernel_rfl
theorem ca_85 : callable Tryz.prog 85 = true := by kernel_rfl
theorem ca_86 : callable Tryz.prog 86 = true := by kernel_rfl
theorem ca_87 : callable Tryz.prog 87 = true := by kernel_rfl
theorem ca_88 : callable Tryz.prog 88 = true := by kernel_rfl
theorem ca_89 : callable Tryz.prog 89 = true := by kernel_rfl
theorem ca_90 : callable Tryz.prog 90 = true := by kernel_rfl
theorem ca_91 : callable Tryz.prog 91 = true := by kernel_rfl
theorem ca_92 : callable Tryz.prog 92 = true := by kernel_rfl
theorem ca_93 : callable Tryz.prog 93 = true := by kernel_rfl
theorem ca_94 : callable Tryz.prog 94 = true := by kernel_rfl
theorem ca_95 : callable Tryz.prog 95 = true := by kernel_rfl
theorem ca_96 : callable Tryz.prog 96 = true := by kernel_rfl
theorem ca_97 : callable Tryz.prog 97 = true := by kernel_rfl
theorem ca_98 : callable Tryz.prog 98 = true := by kernel_rfl
theorem ca_99 : callable Tryz.prog 99 = true := by kernel_rfl
theorem ca_100 : callable Tryz.prog 100 = true := by kernel_rfl
theorem ca_101 : callable Tryz.prog 101 = true := by kernel_rfl
theorem ca_102 : callable Tryz.prog 102 = true := by kernel_rfl
theorem ca_103 : callable Tryz.prog 103 = true := by kernel_rfl
theorem ca_104 : callable Tryz.prog 104 = true := by kernel_rfl
theorem ca_105 : callable Tryz.prog 105 = true := by kernel_rfl
theorem ca_106 : callable Tryz.prog 106 = true := by kernel_rfl
theorem ca_107 : callable Tryz.prog 107 = true := by kernel_rfl
theorem ca_108 : callable Tryz.prog 108 = true := by kernel_rfl
theorem ca_109 : callable Tryz.prog 109 = true := by kernel_rfl
theorem ca_110 : callable Tryz.prog 110 = true := by kernel_rfl
theorem ca_111 : callable Tryz.prog 111 = true := by kernel_rfl
theorem ca_112 : callable Tryz.prog 112 = true := by kernel_rfl
theorem ca_113 : callable Tryz.prog 113 = true := by kernel_rfl
theorem ca_114 : callable Tryz.prog 114 = true := by kernel_rfl
theorem ca_115 : callable Tryz.prog 115 = true := by kernel_rfl
theorem ca_116 : callable Tryz.prog 116 = true := by kernel_rfl
theorem ca_117 : callable Tryz.prog 117 = true := by kernel_rfl
theorem ca_118 : callable Tryz.prog 118 = true := by kernel_rfl
theorem ca_119 : callable Tryz.prog 119 = true := by kernel_rfl
theorem ca_120 : callable Tryz.prog 120 = true := by kernel_rfl
theorem ca_121 : callable Tryz.prog 121 = true := by kernel_rfl
theorem ca_122 : callable Tryz.prog 122 = true := by kernel_rfl
theorem ca_123 : callable Tryz.prog 123 = true := by kernel_rfl
theorem ca_124 : callable Tryz.prog 124 = true := by kernel_rfl
theorem ca_125 : callable Tryz.prog 125 = true := by kernel_rfl
theorem ca_126 : callable Tryz.prog 126 = true := by kernel_rfl
theorem ca_127 : callable Tryz.prog 127 = true := by kernel_rfl
theorem ca_128 : callable Tryz.prog 128 = true := by kernel_rfl
theorem ca_129 : callable Tryz.prog 129 = true := by kernel_rfl
theorem ca_130 : callable Tryz.prog 130 = true := by kernel_rfl
theorem ca_131 : callable Tryz.prog 131 = true := by kernel_rfl
theorem ca_132 : callable Tryz.prog 132 = true := by kernel_rfl
theorem ca_133 : callable Tryz.prog 133 = true := by kernel_rfl
theorem ca_134 : callable Tryz.prog 134 = true := by kernel_rfl
theorem ca_135 : callable Tryz.prog 135 = true := by kernel_rfl
theorem ca_136 : callable Tryz.prog 136 = true := by kernel_rfl
theorem ca_137 : callable Tryz.prog 137 = true := by kernel_rfl
theorem ca_138 : callable Tryz.prog 138 = true := by kernel_rfl
theorem ca_139 : callable Tryz.prog 139 = true := by kernel_rfl
theorem ca_140 : callable Tryz.prog 140 = true := by kernel_rfl
theorem ca_141 : callable Tryz.prog 141 = true := by kernel_rfl
theorem ca_142 : callable Tryz.prog 142 = true := by kernel_rfl
theorem ca_143 : callable Tryz.prog 143 = true := by kernel_rfl
theorem ca_144 : callable Tryz.prog 144 = true := by kernel_rfl
theorem ca_145 : callable Tryz.prog 145 = true := by kernel_rfl
theorem ca_146 : callable Tryz.prog 146 = true := by kernel_rfl
theorem ca_147 : callable Tryz.prog 147 = true := by kernel_rfl
theorem ca_148 : callable Tryz.prog 148 = true := by kernel_rfl
theorem ca_149 : callable Tryz.prog 149 = true := by kernel_rfl
theorem ca_150 : callable Tryz.prog 150 = true := by kernel_rfl
theorem ca_151 : callable Tryz.prog 151 = true := by kernel_rfl
theorem ca_152 : callable Tryz.prog 152 = true := by kernel_rfl
theorem ca_153 : callable Tryz.prog 153 = true := by kernel_rfl
theorem ca_154 : callable Tryz.prog 154 = true := by kernel_rfl
theorem ca_155 : callable Tryz.prog 155 = true := by kernel_rfl
theorem ca_156 : callable Tryz.prog 156 = true := by kernel_rfl
theorem ca_157 : callable Tryz.prog 157 = true := by kernel_rfl
theorem ca_158 : callable Tryz.prog 158 = true := by kernel_rfl
theorem ca_159 : callable Tryz.prog 159 = true := by kernel_rfl
theorem ca_160 : callable Tryz.prog 160 = true := by kernel_rfl
theorem ca_161 : callable Tryz.prog 161 = true := by kernel_rfl
theorem ca_162 : callable Tryz.prog 162 = true := by kernel_rfl
theorem ca_163 : callable Tryz.prog 163 = true := by kernel_rfl
theorem ca_164 : callable Tryz.prog 164 = true := by kernel_rfl
theorem ca_165 : callable Tryz.prog 165 = true := by kernel_rfl
theorem ca_166 : callable Tryz.prog 166 = true := by kernel_rfl
theorem ca_167 : callable Tryz.prog 167 = true := by kernel_rfl
theorem ca_168 : callable Tryz.prog 168 = true := by kernel_rfl
theorem ca_169 : callable Tryz.prog 169 = true := by kernel_rfl
theorem ca_170 : callable Tryz.prog 170 = true := by kernel_rfl
theorem ca_171 : callable Tryz.prog 171 = true := by kernel_rfl
theorem ca_172 : callable Tryz.prog 172 = true := by kernel_rfl
theorem ca_173 : callable Tryz.prog 173 = true := by kernel_rfl
theorem ca_174 : callable Tryz.prog 174 = true := by kernel_rfl
theorem ca_175 : callable Tryz.prog 175 = true := by kernel_rfl
theorem ca_176 : callable Tryz.prog 176 = true := by kernel_rfl
theorem ca_177 : callable Tryz.prog 177 = true := by kernel_rfl
theorem ca_178 : callable Tryz.prog 178 = true := by kernel_rfl
theorem ca_179 : callable Tryz.prog 179 = true := by kernel_rfl
theorem ca_180 : callable Tryz.prog 180 = true := by kernel_rfl
theorem ca_181 : callable Tryz.prog 181 = true := by kernel_rfl
theorem ca_182 : callable Tryz.prog 182 = true := by kernel_rfl
theorem ca_183 : callable Tryz.prog 183 = true := by kernel_rfl
theorem ca_184 : callable Tryz.prog 184 = true := by kernel_rfl
theorem ca_185 : callable Tryz.prog 185 = true := by kernel_rfl
theorem ca_186 : callable Tryz.prog 186 = true := by kernel_rfl
theorem ca_187 : callable Tryz.prog 187 = true := by kernel_rfl
theorem ca_188 : callable Tryz.prog 188 = true := by kernel_rfl
theorem ca_189 : callable Tryz.prog 189 = true := by kernel_rfl
theorem ca_190 : callable Tryz.prog 190 = true := by kernel_rfl
theorem ca_191 : callable Tryz.prog 191 = true := by kernel_rfl
theorem ca_192 : callable Tryz.prog 192 = true := by kernel_rfl
theorem ca_193 : callable Tryz.prog 193 = true := by kernel_rfl
theorem ca_194 : callable Tryz.prog 194 = true := by kernel_rfl
theorem ca_195 : callable Tryz.prog 195 = true := by kernel_rfl
theorem ca_196 : callable Tryz.prog 196 = true := by kernel_rfl
theorem ca_197 : callable Tryz.prog 197 = true := by kernel_rfl
theorem ca_198 : callable Tryz.prog 198 = true := by kernel_rfl
theorem ca_199 : callable Tryz.prog 199 = true := by kernel_rfl
theorem ca_200 : callable Tryz.prog 200 = true := by kernel_rfl
theorem ca_201 : callable Tryz.prog 201 = true := by kernel_rfl
theorem ca_202 : callable Tryz.prog 202 = true := by kernel_rfl
theorem ca_203 : callable Tryz.prog 203 = true := by kernel_rfl
theorem ca_204 : callable Tryz.prog 204 = true := by kernel_rfl
theorem ca_205 : callable Tryz.prog 205 = true := by kernel_rfl
theorem ca_206 : callable Tryz.prog 206 = true := by kernel_rfl
theorem ca_207 : callable Tryz.prog 207 = true := by kernel_rfl
theorem ca_208 : callable Tryz.prog 208 = true := by kernel_rfl
theorem ca_209 : callable Tryz.prog 209 = true := by kernel_rfl
theorem ca_210 : callable Tryz.prog 210 = true := by kernel_rfl
theorem ca_211 : callable Tryz.prog 211 = true := by kernel_rfl
theorem ca_212 : callable Tryz.prog 212 = true := by kernel_rfl
theorem ca_213 : callable Tryz.prog 213 = true := by kernel_rfl
theorem ca_214 : callable Tryz.prog 214 = true := by kernel_rfl
theorem ca_215 : callable Tryz.prog 215 = true := by kernel_rfl
theorem ca_216 : callable Tryz.prog 216 = true := by kernel_rfl
theorem ca_217 : callable Tryz.prog 217 = true := by kernel_rfl
theorem ca_218 : callable Tryz.prog 218 = true := by kernel_rfl
theorem ca_219 : callable Tryz.prog 219 = true := by kernel_rfl
theorem ca_220 : callable Tryz.prog 220 = true := by kernel_rfl
theorem ca_221 : callable Tryz.prog 221 = true := by kernel_rfl
theorem ca_222 : callable Tryz.prog 222 = true := by kernel_rfl
theorem ca_223 : callable Tryz.prog 223 = true := by kernel_rfl
theorem ca_224 : callable Tryz.prog 224 = true := by kernel_rfl
theorem ca_225 : callable Tryz.prog 225 = true := by kernel_rfl
theorem ca_226 : callable Tryz.prog 226 = true := by kernel_rfl
theorem ca_227 : callable Tryz.prog 227 = true := by kernel_rfl
theorem ca_228 : callable Tryz.prog 228 = true := by kernel_rfl
theorem ca_229 : callable Tryz.prog 229 = true := by kernel_rfl
theorem ca_230 : callable Tryz.prog 230 = true := by kernel_rfl
theorem ca_231 : callable Tryz.prog 231 = true := by kernel_rfl
theorem ca_232 : callable Tryz.prog 232 = true := by kernel_rfl
theorem ca_233 : callable Tryz.prog 233 = true := by kernel_rfl
theorem ca_234 : callable Tryz.prog 234 = true := by kernel_rfl
theorem ca_236 : callable Tryz.prog 236 = true := by kernel_rfl
theorem ca_237 : callable Tryz.prog 237 = true := by kernel_rfl
theorem ca_238 : callable Tryz.prog 238 = true := by kernel_rfl
theorem ca_239 : callable Tryz.prog 239 = true := by kernel_rfl
theorem ca_240 : callable Tryz.prog 240 = true := by kernel_rfl
theorem ca_241 : callable Tryz.prog 241 = true := by kernel_rfl
theorem ca_242 : callable Tryz.prog 242 = true := by kernel_rfl
theorem ca_243 : callable Tryz.prog 243 = true := by kernel_rfl
theorem ca_244 : callable Tryz.prog 244 = true := by kernel_rfl
theorem ca_245 : callable Tryz.prog 245 = true := by kernel_rfl
theorem ca_246 : callable Tryz.prog 246 = true := by kernel_rfl
theorem ca_247 : callable Tryz.prog 247 = true := by kernel_rfl
theorem ca_248 : callable Tryz.prog 248 = true := by kernel_rfl
theorem ca_249 : callable Tryz.prog 249 = true := by kernel_rfl
theorem ca_250 : callable Tryz.prog 250 = true := by kernel_rfl
theorem ca_251 : callable Tryz.prog 251 = true := by kernel_rfl
theorem ca_252 : callable Tryz.prog 252 = true := by kernel_rfl
theorem ca_253 : callable Tryz.prog 253 = true := by kernel_rfl
theorem ca_254 : callable Tryz.prog 254 = true := by kernel_rfl
theorem ca_255 : callable Tryz.prog 255 = true := by kernel_rfl
theorem ca_256 : callable Tryz.prog 256 = true := by kernel_rfl
theorem ca_257 : callable Tryz.prog 257 = true := by kernel_rfl
theorem ca_258 : callable Tryz.prog 258 = true := by kernel_rfl
theorem ca_259 : callable Tryz.prog 259 = true := by kernel_rfl
theorem ca_260 : callable Tryz.prog 260 = true := by kernel_rfl
theorem ca_261 : callable Tryz.prog 261 = true := by kernel_rfl
theorem ca_262 : callable Tryz.prog 262 = true := by kernel_rfl
theorem ca_263 : callable Tryz.prog 263 = true := by kernel_rfl
theorem ca_264 : callable Tryz.prog 264 = true := by kernel_rfl
theorem ca_265 : callable Tryz.prog 265 = true := by kernel_rfl
theorem ca_266 : callable Tryz.prog 266 = true := by kernel_rfl
theorem ca_267 : callable Tryz.prog 267 = true := by kernel_rfl
theorem ca_268 : callable Tryz.prog 268 = true := by kernel_rfl
theorem mixed : Tryz.prog.follows .mixedOrders = true := by kernel_rfl

end Go.Proofs.YtlodlnbhjghjoaaGreat.E
