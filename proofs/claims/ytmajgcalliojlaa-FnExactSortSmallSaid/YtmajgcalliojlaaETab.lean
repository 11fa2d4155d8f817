/- What the program says of its types and functions: closed facts, by program. -/
import Derived.Test.YtmajgcalliojlaaF2
import Derived.Test.YtmajgcalliojlaaProg
namespace Go.Proofs.Ytmajgcalliojlaa.E
open Go Go.Proofs

theorem ty_2 : tyIs Try.prog 2 = some (false, 1) := by kernel_rfl
theorem by_2 : (Try.prog.info? 2).map (·.bytes) = some 8 := by kernel_rfl
theorem za_2 : zav Try.prog 2 = some [.sc (.int .i64 0)] := by kernel_rfl
theorem ty_3 : tyIs Try.prog 3 = some (false, 1) := by kernel_rfl
theorem by_3 : (Try.prog.info? 3).map (·.bytes) = some 8 := by kernel_rfl
theorem za_3 : zav Try.prog 3 = some [.sc (.int .i64 0)] := by kernel_rfl
theorem ty_4 : tyIs Try.prog 4 = some (false, 1) := by kernel_rfl
theorem by_4 : (Try.prog.info? 4).map (·.bytes) = some 1 := by kernel_rfl
theorem za_4 : zav Try.prog 4 = some [.sc (.bool false)] := by kernel_rfl
theorem bo_4 : Try.prog.underlying 4 = some .bool := by kernel_rfl
theorem ty_5 : tyIs Try.prog 5 = some (false, 1) := by kernel_rfl
theorem by_5 : (Try.prog.info? 5).map (·.bytes) = some 1 := by kernel_rfl
theorem za_5 : zav Try.prog 5 = some [.sc (.int .u8 0)] := by kernel_rfl
theorem ty_9 : tyIs Try.prog 9 = some (false, 1) := by kernel_rfl
theorem by_9 : (Try.prog.info? 9).map (·.bytes) = some 16 := by kernel_rfl
theorem za_9 : zav Try.prog 9 = some [.sc (.string ⟨#[]⟩)] := by kernel_rfl
theorem st_9 : Try.prog.underlying 9 = some .string := by kernel_rfl
theorem ty_21 : tyIs Try.prog 21 = some (false, 1) := by kernel_rfl
theorem by_21 : (Try.prog.info? 21).map (·.bytes) = some 4 := by kernel_rfl
theorem za_21 : zav Try.prog 21 = some [.sc (.int .i32 0)] := by kernel_rfl
theorem ty_22 : tyIs Try.prog 22 = some (false, 1) := by kernel_rfl
theorem by_22 : (Try.prog.info? 22).map (·.bytes) = some 24 := by kernel_rfl
theorem za_22 : zav Try.prog 22 = some [.sc (.slice none 0 0)] := by kernel_rfl
theorem sl_22 : isSlice Try.prog 22 = some 3 := by kernel_rfl
theorem ty_23 : tyIs Try.prog 23 = some (false, 1) := by kernel_rfl
theorem by_23 : (Try.prog.info? 23).map (·.bytes) = some 24 := by kernel_rfl
theorem za_23 : zav Try.prog 23 = some [.sc (.slice none 0 0)] := by kernel_rfl
theorem sl_23 : isSlice Try.prog 23 = some 128 := by kernel_rfl
theorem ty_24 : tyIs Try.prog 24 = some (true, 3) := by kernel_rfl
theorem by_24 : (Try.prog.info? 24).map (·.bytes) = some 72 := by kernel_rfl
theorem za_24 : zav Try.prog 24 = some [.sc (.slice none 0 0), .sc (.slice none 0 0), .sc (.slice none 0 0)] := by kernel_rfl
theorem fo_24_0 : fofs Try.prog 24 0 = some 0 := by kernel_rfl
theorem fo_24_1 : fofs Try.prog 24 1 = some 1 := by kernel_rfl
theorem fo_24_2 : fofs Try.prog 24 2 = some 2 := by kernel_rfl
theorem bd_24 : bld Try.prog 24 = some ([(.slice none 0 0), (.slice none 0 0), (.slice none 0 0)], [(0, 1), (1, 1), (2, 1)]) := by kernel_rfl
theorem ty_25 : tyIs Try.prog 25 = some (true, 3) := by kernel_rfl
theorem by_25 : (Try.prog.info? 25).map (·.bytes) = some 72 := by kernel_rfl
theorem za_25 : zav Try.prog 25 = some [.sc (.slice none 0 0), .sc (.slice none 0 0), .sc (.slice none 0 0)] := by kernel_rfl
theorem fo_25_0 : fofs Try.prog 25 0 = some 0 := by kernel_rfl
theorem fo_25_1 : fofs Try.prog 25 1 = some 1 := by kernel_rfl
theorem fo_25_2 : fofs Try.prog 25 2 = some 2 := by kernel_rfl
theorem bd_25 : bld Try.prog 25 = some ([(.slice none 0 0), (.slice none 0 0), (.slice none 0 0)], [(0, 1), (1, 1), (2, 1)]) := by kernel_rfl
theorem ty_26 : tyIs Try.prog 26 = some (true, 2) := by kernel_rfl
theorem by_26 : (Try.prog.info? 26).map (·.bytes) = some 16 := by kernel_rfl
theorem za_26 : zav Try.prog 26 = some [.sc (.int .i64 0), .sc (.int .i64 0)] := by kernel_rfl
theorem fo_26_0 : fofs Try.prog 26 0 = some 0 := by kernel_rfl
theorem fo_26_1 : fofs Try.prog 26 1 = some 1 := by kernel_rfl
theorem se_26 : intStruct Try.prog 26 = true := by kernel_rfl
theorem fd_26 : (Try.prog.fieldsOf 26).size = 2 := by kernel_rfl
theorem bd_26 : bld Try.prog 26 = some ([(.int .i64 0), (.int .i64 0)], [(0, 1), (1, 1)]) := by kernel_rfl
theorem ty_27 : tyIs Try.prog 27 = some (true, 2) := by kernel_rfl
theorem by_27 : (Try.prog.info? 27).map (·.bytes) = some 16 := by kernel_rfl
theorem za_27 : zav Try.prog 27 = some [.sc (.int .i64 0), .sc (.int .i64 0)] := by kernel_rfl
theorem fo_27_0 : fofs Try.prog 27 0 = some 0 := by kernel_rfl
theorem fo_27_1 : fofs Try.prog 27 1 = some 1 := by kernel_rfl
theorem se_27 : intStruct Try.prog 27 = true := by kernel_rfl
theorem fd_27 : (Try.prog.fieldsOf 27).size = 2 := by kernel_rfl
theorem bd_27 : bld Try.prog 27 = some ([(.int .i64 0), (.int .i64 0)], [(0, 1), (1, 1)]) := by kernel_rfl
theorem ty_29 : tyIs Try.prog 29 = some (false, 1) := by kernel_rfl
theorem by_29 : (Try.prog.info? 29).map (·.bytes) = some 24 := by kernel_rfl
theorem za_29 : zav Try.prog 29 = some [.sc (.slice none 0 0)] := by kernel_rfl
theorem sl_29 : isSlice Try.prog 29 = some 126 := by kernel_rfl
theorem ty_30 : tyIs Try.prog 30 = some (true, 3) := by kernel_rfl
theorem by_30 : (Try.prog.info? 30).map (·.bytes) = some 72 := by kernel_rfl
theorem za_30 : zav Try.prog 30 = some [.sc (.slice none 0 0), .sc (.slice none 0 0), .sc (.slice none 0 0)] := by kernel_rfl
theorem fo_30_0 : fofs Try.prog 30 0 = some 0 := by kernel_rfl
theorem fo_30_1 : fofs Try.prog 30 1 = some 1 := by kernel_rfl
theorem fo_30_2 : fofs Try.prog 30 2 = some 2 := by kernel_rfl
theorem bd_30 : bld Try.prog 30 = some ([(.slice none 0 0), (.slice none 0 0), (.slice none 0 0)], [(0, 1), (1, 1), (2, 1)]) := by kernel_rfl
theorem ty_31 : tyIs Try.prog 31 = some (true, 3) := by kernel_rfl
theorem by_31 : (Try.prog.info? 31).map (·.bytes) = some 72 := by kernel_rfl
theorem za_31 : zav Try.prog 31 = some [.sc (.slice none 0 0), .sc (.slice none 0 0), .sc (.slice none 0 0)] := by kernel_rfl
theorem fo_31_0 : fofs Try.prog 31 0 = some 0 := by kernel_rfl
theorem fo_31_1 : fofs Try.prog 31 1 = some 1 := by kernel_rfl
theorem fo_31_2 : fofs Try.prog 31 2 = some 2 := by kernel_rfl
theorem bd_31 : bld Try.prog 31 = some ([(.slice none 0 0), (.slice none 0 0), (.slice none 0 0)], [(0, 1), (1, 1), (2, 1)]) := by kernel_rfl
theorem ty_32 : tyIs Try.prog 32 = some (true, 4) := by kernel_rfl
theorem by_32 : (Try.prog.info? 32).map (·.bytes) = some 32 := by kernel_rfl
theorem za_32 : zav Try.prog 32 = some [.sc (.int .i64 0), .sc (.int .i64 0), .sc (.int .i64 0), .sc (.int .i64 0)] := by kernel_rfl
theorem fo_32_0 : fofs Try.prog 32 0 = some 0 := by kernel_rfl
theorem fo_32_1 : fofs Try.prog 32 1 = some 1 := by kernel_rfl
theorem fo_32_2 : fofs Try.prog 32 2 = some 2 := by kernel_rfl
theorem fo_32_3 : fofs Try.prog 32 3 = some 3 := by kernel_rfl
theorem se_32 : intStruct Try.prog 32 = true := by kernel_rfl
theorem fd_32 : (Try.prog.fieldsOf 32).size = 4 := by kernel_rfl
theorem bd_32 : bld Try.prog 32 = some ([(.int .i64 0), (.int .i64 0), (.int .i64 0), (.int .i64 0)], [(0, 1), (1, 1), (2, 1), (3, 1)]) := by kernel_rfl
theorem ty_33 : tyIs Try.prog 33 = some (true, 4) := by kernel_rfl
theorem by_33 : (Try.prog.info? 33).map (·.bytes) = some 32 := by kernel_rfl
theorem za_33 : zav Try.prog 33 = some [.sc (.int .i64 0), .sc (.int .i64 0), .sc (.int .i64 0), .sc (.int .i64 0)] := by kernel_rfl
theorem fo_33_0 : fofs Try.prog 33 0 = some 0 := by kernel_rfl
theorem fo_33_1 : fofs Try.prog 33 1 = some 1 := by kernel_rfl
theorem fo_33_2 : fofs Try.prog 33 2 = some 2 := by kernel_rfl
theorem fo_33_3 : fofs Try.prog 33 3 = some 3 := by kernel_rfl
theorem se_33 : intStruct Try.prog 33 = true := by kernel_rfl
theorem fd_33 : (Try.prog.fieldsOf 33).size = 4 := by kernel_rfl
theorem bd_33 : bld Try.prog 33 = some ([(.int .i64 0), (.int .i64 0), (.int .i64 0), (.int .i64 0)], [(0, 1), (1, 1), (2, 1), (3, 1)]) := by kernel_rfl
theorem ty_37 : tyIs Try.prog 37 = some (true, 2) := by kernel_rfl
theorem by_37 : (Try.prog.info? 37).map (·.bytes) = some 16 := by kernel_rfl
theorem za_37 : zav Try.prog 37 = some [.sc (.int .i64 0), .sc (.int .i64 0)] := by kernel_rfl
theorem fo_37_0 : fofs Try.prog 37 0 = some 0 := by kernel_rfl
theorem fo_37_1 : fofs Try.prog 37 1 = some 1 := by kernel_rfl
theorem se_37 : intStruct Try.prog 37 = true := by kernel_rfl
theorem fd_37 : (Try.prog.fieldsOf 37).size = 2 := by kernel_rfl
theorem bd_37 : bld Try.prog 37 = some ([(.int .i64 0), (.int .i64 0)], [(0, 1), (1, 1)]) := by kernel_rfl
theorem ty_43 : tyIs Try.prog 43 = some (true, 5) := by kernel_rfl
theorem by_43 : (Try.prog.info? 43).map (·.bytes) = some 104 := by kernel_rfl
theorem za_43 : zav Try.prog 43 = some [.sc (.slice none 0 0), .sc (.slice none 0 0), .sc (.slice none 0 0), .sc (.slice none 0 0), .sc (.int .i64 0)] := by kernel_rfl
theorem fo_43_0 : fofs Try.prog 43 0 = some 0 := by kernel_rfl
theorem fo_43_1 : fofs Try.prog 43 1 = some 3 := by kernel_rfl
theorem fo_43_2 : fofs Try.prog 43 2 = some 4 := by kernel_rfl
theorem bd_43 : bld Try.prog 43 = some ([(.slice none 0 0), (.slice none 0 0), (.slice none 0 0), (.slice none 0 0), (.int .i64 0)], [(0, 3), (3, 1), (4, 1)]) := by kernel_rfl
theorem ty_44 : tyIs Try.prog 44 = some (true, 5) := by kernel_rfl
theorem by_44 : (Try.prog.info? 44).map (·.bytes) = some 104 := by kernel_rfl
theorem za_44 : zav Try.prog 44 = some [.sc (.slice none 0 0), .sc (.slice none 0 0), .sc (.slice none 0 0), .sc (.slice none 0 0), .sc (.int .i64 0)] := by kernel_rfl
theorem fo_44_0 : fofs Try.prog 44 0 = some 0 := by kernel_rfl
theorem fo_44_1 : fofs Try.prog 44 1 = some 3 := by kernel_rfl
theorem fo_44_2 : fofs Try.prog 44 2 = some 4 := by kernel_rfl
theorem bd_44 : bld Try.prog 44 = some ([(.slice none 0 0), (.slice none 0 0), (.slice none 0 0), (.slice none 0 0), (.int .i64 0)], [(0, 3), (3, 1), (4, 1)]) := by kernel_rfl
theorem ty_46 : tyIs Try.prog 46 = some (true, 5) := by kernel_rfl
theorem by_46 : (Try.prog.info? 46).map (·.bytes) = some 104 := by kernel_rfl
theorem za_46 : zav Try.prog 46 = some [.sc (.slice none 0 0), .sc (.slice none 0 0), .sc (.slice none 0 0), .sc (.slice none 0 0), .sc (.int .i64 0)] := by kernel_rfl
theorem fo_46_0 : fofs Try.prog 46 0 = some 0 := by kernel_rfl
theorem fo_46_1 : fofs Try.prog 46 1 = some 3 := by kernel_rfl
theorem fo_46_2 : fofs Try.prog 46 2 = some 4 := by kernel_rfl
theorem bd_46 : bld Try.prog 46 = some ([(.slice none 0 0), (.slice none 0 0), (.slice none 0 0), (.slice none 0 0), (.int .i64 0)], [(0, 3), (3, 1), (4, 1)]) := by kernel_rfl
theorem ty_47 : tyIs Try.prog 47 = some (true, 5) := by kernel_rfl
theorem by_47 : (Try.prog.info? 47).map (·.bytes) = some 104 := by kernel_rfl
theorem za_47 : zav Try.prog 47 = some [.sc (.slice none 0 0), .sc (.slice none 0 0), .sc (.slice none 0 0), .sc (.slice none 0 0), .sc (.int .i64 0)] := by kernel_rfl
theorem fo_47_0 : fofs Try.prog 47 0 = some 0 := by kernel_rfl
theorem fo_47_1 : fofs Try.prog 47 1 = some 3 := by kernel_rfl
theorem fo_47_2 : fofs Try.prog 47 2 = some 4 := by kernel_rfl
theorem bd_47 : bld Try.prog 47 = some ([(.slice none 0 0), (.slice none 0 0), (.slice none 0 0), (.slice none 0 0), (.int .i64 0)], [(0, 3), (3, 1), (4, 1)]) := by kernel_rfl
theorem ty_69 : tyIs Try.prog 69 = some (true, 3) := by kernel_rfl
theorem by_69 : (Try.prog.info? 69).map (·.bytes) = some 24 := by kernel_rfl
theorem za_69 : zav Try.prog 69 = some [.sc (.int .i64 0), .sc (.int .i64 0), .sc (.int .i64 0)] := by kernel_rfl
theorem fo_69_0 : fofs Try.prog 69 0 = some 0 := by kernel_rfl
theorem fo_69_1 : fofs Try.prog 69 1 = some 1 := by kernel_rfl
theorem fo_69_2 : fofs Try.prog 69 2 = some 2 := by kernel_rfl
theorem se_69 : intStruct Try.prog 69 = true := by kernel_rfl
theorem fd_69 : (Try.prog.fieldsOf 69).size = 3 := by kernel_rfl
theorem bd_69 : bld Try.prog 69 = some ([(.int .i64 0), (.int .i64 0), (.int .i64 0)], [(0, 1), (1, 1), (2, 1)]) := by kernel_rfl
theorem ty_70 : tyIs Try.prog 70 = some (true, 3) := by kernel_rfl
theorem by_70 : (Try.prog.info? 70).map (·.bytes) = some 24 := by kernel_rfl
theorem za_70 : zav Try.prog 70 = some [.sc (.int .i64 0), .sc (.int .i64 0), .sc (.int .i64 0)] := by kernel_rfl
theorem fo_70_0 : fofs Try.prog 70 0 = some 0 := by kernel_rfl
theorem fo_70_1 : fofs Try.prog 70 1 = some 1 := by kernel_rfl
theorem fo_70_2 : fofs Try.prog 70 2 = some 2 := by kernel_rfl
theorem se_70 : intStruct Try.prog 70 = true := by kernel_rfl
theorem fd_70 : (Try.prog.fieldsOf 70).size = 3 := by kernel_rfl
theorem bd_70 : bld Try.prog 70 = some ([(.int .i64 0), (.int .i64 0), (.int .i64 0)], [(0, 1), (1, 1), (2, 1)]) := by kernel_rfl
theorem ty_71 : tyIs Try.prog 71 = some (true, 3) := by kernel_rfl
theorem by_71 : (Try.prog.info? 71).map (·.bytes) = some 24 := by kernel_rfl
theorem za_71 : zav Try.prog 71 = some [.sc (.int .i64 0), .sc (.int .i64 0), .sc (.int .i64 0)] := by kernel_rfl
theorem fo_71_0 : fofs Try.prog 71 0 = some 0 := by kernel_rfl
theorem fo_71_1 : fofs Try.prog 71 1 = some 1 := by kernel_rfl
theorem fo_71_2 : fofs Try.prog 71 2 = some 2 := by kernel_rfl
theorem se_71 : intStruct Try.prog 71 = true := by kernel_rfl
theorem fd_71 : (Try.prog.fieldsOf 71).size = 3 := by kernel_rfl
theorem bd_71 : bld Try.prog 71 = some ([(.int .i64 0), (.int .i64 0), (.int .i64 0)], [(0, 1), (1, 1), (2, 1)]) := by kernel_rfl
theorem ty_89 : tyIs Try.prog 89 = some (false, 1) := by kernel_rfl
theorem by_89 : (Try.prog.info? 89).map (·.bytes) = some 24 := by kernel_rfl
theorem za_89 : zav Try.prog 89 = some [.sc (.slice none 0 0)] := by kernel_rfl
theorem sl_89 : isSlice Try.prog 89 = some 94 := by kernel_rfl
theorem ty_93 : tyIs Try.prog 93 = some (true, 2) := by kernel_rfl
theorem by_93 : (Try.prog.info? 93).map (·.bytes) = some 16 := by kernel_rfl
theorem za_93 : zav Try.prog 93 = some [.sc (.int .i64 0), .sc (.int .i64 0)] := by kernel_rfl
theorem fo_93_0 : fofs Try.prog 93 0 = some 0 := by kernel_rfl
theorem fo_93_1 : fofs Try.prog 93 1 = some 1 := by kernel_rfl
theorem se_93 : intStruct Try.prog 93 = true := by kernel_rfl
theorem fd_93 : (Try.prog.fieldsOf 93).size = 2 := by kernel_rfl
theorem bd_93 : bld Try.prog 93 = some ([(.int .i64 0), (.int .i64 0)], [(0, 1), (1, 1)]) := by kernel_rfl
theorem ty_94 : tyIs Try.prog 94 = some (true, 2) := by kernel_rfl
theorem by_94 : (Try.prog.info? 94).map (·.bytes) = some 16 := by kernel_rfl
theorem za_94 : zav Try.prog 94 = some [.sc (.int .i64 0), .sc (.int .i64 0)] := by kernel_rfl
theorem fo_94_0 : fofs Try.prog 94 0 = some 0 := by kernel_rfl
theorem fo_94_1 : fofs Try.prog 94 1 = some 1 := by kernel_rfl
theorem se_94 : intStruct Try.prog 94 = true := by kernel_rfl
theorem fd_94 : (Try.prog.fieldsOf 94).size = 2 := by kernel_rfl
theorem bd_94 : bld Try.prog 94 = some ([(.int .i64 0), (.int .i64 0)], [(0, 1), (1, 1)]) := by kernel_rfl
theorem ty_108 : tyIs Try.prog 108 = some (false, 1) := by kernel_rfl
theorem by_108 : (Try.prog.info? 108).map (·.bytes) = some 8 := by kernel_rfl
theorem za_108 : zav Try.prog 108 = some [.sc (.pointer none)] := by kernel_rfl
theorem ty_110 : tyIs Try.prog 110 = some (false, 1) := by kernel_rfl
theorem by_110 : (Try.prog.info? 110).map (·.bytes) = some 24 := by kernel_rfl
theorem za_110 : zav Try.prog 110 = some [.sc (.slice none 0 0)] := by kernel_rfl
theorem sl_110 : isSlice Try.prog 110 = some 112 := by kernel_rfl
theorem ty_112 : tyIs Try.prog 112 = some (true, 2) := by kernel_rfl
theorem by_112 : (Try.prog.info? 112).map (·.bytes) = some 16 := by kernel_rfl
theorem za_112 : zav Try.prog 112 = some [.sc (.int .i64 0), .sc (.int .i64 0)] := by kernel_rfl
theorem ar_112 : isArr Try.prog 112 = some (2, 3) := by kernel_rfl
theorem bd_112 : bld Try.prog 112 = some ([(.int .i64 0), (.int .i64 0)], [(0, 1), (1, 1)]) := by kernel_rfl
theorem ty_114 : tyIs Try.prog 114 = some (false, 1) := by kernel_rfl
theorem by_114 : (Try.prog.info? 114).map (·.bytes) = some 24 := by kernel_rfl
theorem za_114 : zav Try.prog 114 = some [.sc (.slice none 0 0)] := by kernel_rfl
theorem sl_114 : isSlice Try.prog 114 = some 149 := by kernel_rfl
theorem ty_117 : tyIs Try.prog 117 = some (false, 1) := by kernel_rfl
theorem by_117 : (Try.prog.info? 117).map (·.bytes) = some 8 := by kernel_rfl
theorem za_117 : zav Try.prog 117 = some [.sc (.pointer none)] := by kernel_rfl
theorem ty_125 : tyIs Try.prog 125 = some (true, 2) := by kernel_rfl
theorem by_125 : (Try.prog.info? 125).map (·.bytes) = some 16 := by kernel_rfl
theorem za_125 : zav Try.prog 125 = some [.sc (.int .i64 0), .sc (.int .i64 0)] := by kernel_rfl
theorem fo_125_0 : fofs Try.prog 125 0 = some 0 := by kernel_rfl
theorem fo_125_1 : fofs Try.prog 125 1 = some 1 := by kernel_rfl
theorem se_125 : intStruct Try.prog 125 = true := by kernel_rfl
theorem fd_125 : (Try.prog.fieldsOf 125).size = 2 := by kernel_rfl
theorem bd_125 : bld Try.prog 125 = some ([(.int .i64 0), (.int .i64 0)], [(0, 1), (1, 1)]) := by kernel_rfl
theorem ty_126 : tyIs Try.prog 126 = some (true, 2) := by kernel_rfl
theorem by_126 : (Try.prog.info? 126).map (·.bytes) = some 16 := by kernel_rfl
theorem za_126 : zav Try.prog 126 = some [.sc (.int .i64 0), .sc (.int .i64 0)] := by kernel_rfl
theorem fo_126_0 : fofs Try.prog 126 0 = some 0 := by kernel_rfl
theorem fo_126_1 : fofs Try.prog 126 1 = some 1 := by kernel_rfl
theorem se_126 : intStruct Try.prog 126 = true := by kernel_rfl
theorem fd_126 : (Try.prog.fieldsOf 126).size = 2 := by kernel_rfl
theorem bd_126 : bld Try.prog 126 = some ([(.int .i64 0), (.int .i64 0)], [(0, 1), (1, 1)]) := by kernel_rfl
theorem ty_128 : tyIs Try.prog 128 = some (true, 2) := by kernel_rfl
theorem by_128 : (Try.prog.info? 128).map (·.bytes) = some 16 := by kernel_rfl
theorem za_128 : zav Try.prog 128 = some [.sc (.int .i64 0), .sc (.int .i64 0)] := by kernel_rfl
theorem fo_128_0 : fofs Try.prog 128 0 = some 0 := by kernel_rfl
theorem fo_128_1 : fofs Try.prog 128 1 = some 1 := by kernel_rfl
theorem se_128 : intStruct Try.prog 128 = true := by kernel_rfl
theorem fd_128 : (Try.prog.fieldsOf 128).size = 2 := by kernel_rfl
theorem bd_128 : bld Try.prog 128 = some ([(.int .i64 0), (.int .i64 0)], [(0, 1), (1, 1)]) := by kernel_rfl
theorem ty_135 : tyIs Try.prog 135 = some (false, 1) := by kernel_rfl
theorem by_135 : (Try.prog.info? 135).map (·.bytes) = some 8 := by kernel_rfl
theorem za_135 : zav Try.prog 135 = some [.sc (.pointer none)] := by kernel_rfl
theorem ty_139 : tyIs Try.prog 139 = some (false, 1) := by kernel_rfl
theorem by_139 : (Try.prog.info? 139).map (·.bytes) = some 24 := by kernel_rfl
theorem za_139 : zav Try.prog 139 = some [.sc (.slice none 0 0)] := by kernel_rfl
theorem sl_139 : isSlice Try.prog 139 = some 143 := by kernel_rfl
theorem ty_142 : tyIs Try.prog 142 = some (true, 2) := by kernel_rfl
theorem by_142 : (Try.prog.info? 142).map (·.bytes) = some 16 := by kernel_rfl
theorem za_142 : zav Try.prog 142 = some [.sc (.int .i64 0), .sc (.int .i64 0)] := by kernel_rfl
theorem fo_142_0 : fofs Try.prog 142 0 = some 0 := by kernel_rfl
theorem fo_142_1 : fofs Try.prog 142 1 = some 1 := by kernel_rfl
theorem se_142 : intStruct Try.prog 142 = true := by kernel_rfl
theorem fd_142 : (Try.prog.fieldsOf 142).size = 2 := by kernel_rfl
theorem bd_142 : bld Try.prog 142 = some ([(.int .i64 0), (.int .i64 0)], [(0, 1), (1, 1)]) := by kernel_rfl
theorem ty_143 : tyIs Try.prog 143 = some (true, 2) := by kernel_rfl
theorem by_143 : (Try.prog.info? 143).map (·.bytes) = some 16 := by kernel_rfl
theorem za_143 : zav Try.prog 143 = some [.sc (.int .i64 0), .sc (.int .i64 0)] := by kernel_rfl
theorem fo_143_0 : fofs Try.prog 143 0 = some 0 := by kernel_rfl
theorem fo_143_1 : fofs Try.prog 143 1 = some 1 := by kernel_rfl
theorem se_143 : intStruct Try.prog 143 = true := by kernel_rfl
theorem fd_143 : (Try.prog.fieldsOf 143).size = 2 := by kernel_rfl
theorem bd_143 : bld Try.prog 143 = some ([(.int .i64 0), (.int .i64 0)], [(0, 1), (1, 1)]) := by kernel_rfl
theorem ty_148 : tyIs Try.prog 148 = some (true, 5) := by kernel_rfl
theorem by_148 : (Try.prog.info? 148).map (·.bytes) = some 40 := by kernel_rfl
theorem za_148 : zav Try.prog 148 = some [.sc (.int .i64 0), .sc (.int .i64 0), .sc (.int .i64 0), .sc (.int .i64 0), .sc (.int .i64 0)] := by kernel_rfl
theorem fo_148_0 : fofs Try.prog 148 0 = some 0 := by kernel_rfl
theorem fo_148_1 : fofs Try.prog 148 1 = some 1 := by kernel_rfl
theorem fo_148_2 : fofs Try.prog 148 2 = some 2 := by kernel_rfl
theorem fo_148_3 : fofs Try.prog 148 3 = some 3 := by kernel_rfl
theorem fo_148_4 : fofs Try.prog 148 4 = some 4 := by kernel_rfl
theorem se_148 : intStruct Try.prog 148 = true := by kernel_rfl
theorem fd_148 : (Try.prog.fieldsOf 148).size = 5 := by kernel_rfl
theorem bd_148 : bld Try.prog 148 = some ([(.int .i64 0), (.int .i64 0), (.int .i64 0), (.int .i64 0), (.int .i64 0)], [(0, 1), (1, 1), (2, 1), (3, 1), (4, 1)]) := by kernel_rfl
theorem ty_149 : tyIs Try.prog 149 = some (true, 5) := by kernel_rfl
theorem by_149 : (Try.prog.info? 149).map (·.bytes) = some 40 := by kernel_rfl
theorem za_149 : zav Try.prog 149 = some [.sc (.int .i64 0), .sc (.int .i64 0), .sc (.int .i64 0), .sc (.int .i64 0), .sc (.int .i64 0)] := by kernel_rfl
theorem fo_149_0 : fofs Try.prog 149 0 = some 0 := by kernel_rfl
theorem fo_149_1 : fofs Try.prog 149 1 = some 1 := by kernel_rfl
theorem fo_149_2 : fofs Try.prog 149 2 = some 2 := by kernel_rfl
theorem fo_149_3 : fofs Try.prog 149 3 = some 3 := by kernel_rfl
theorem fo_149_4 : fofs Try.prog 149 4 = some 4 := by kernel_rfl
theorem se_149 : intStruct Try.prog 149 = true := by kernel_rfl
theorem fd_149 : (Try.prog.fieldsOf 149).size = 5 := by kernel_rfl
theorem bd_149 : bld Try.prog 149 = some ([(.int .i64 0), (.int .i64 0), (.int .i64 0), (.int .i64 0), (.int .i64 0)], [(0, 1), (1, 1), (2, 1), (3, 1), (4, 1)]) := by kernel_rfl
theorem ty_159 : tyIs Try.prog 159 = some (false, 1) := by kernel_rfl
theorem by_159 : (Try.prog.info? 159).map (·.bytes) = some 8 := by kernel_rfl
theorem za_159 : zav Try.prog 159 = some [.sc (.int .u64 0)] := by kernel_rfl
theorem ty_173 : tyIs Try.prog 173 = some (false, 1) := by kernel_rfl
theorem by_173 : (Try.prog.info? 173).map (·.bytes) = some 4 := by kernel_rfl
theorem za_173 : zav Try.prog 173 = some [.sc (.int .u32 0)] := by kernel_rfl
theorem ty_175 : tyIs Try.prog 175 = some (false, 1) := by kernel_rfl
theorem by_175 : (Try.prog.info? 175).map (·.bytes) = some 8 := by kernel_rfl
theorem za_175 : zav Try.prog 175 = some [.sc (.int .u64 0)] := by kernel_rfl
theorem ty_185 : tyIs Try.prog 185 = some (false, 1) := by kernel_rfl
theorem by_185 : (Try.prog.info? 185).map (·.bytes) = some 8 := by kernel_rfl
theorem za_185 : zav Try.prog 185 = some [.sc (.pointer none)] := by kernel_rfl
theorem ty_190 : tyIs Try.prog 190 = some (false, 1) := by kernel_rfl
theorem by_190 : (Try.prog.info? 190).map (·.bytes) = some 8 := by kernel_rfl
theorem za_190 : zav Try.prog 190 = some [.sc (.pointer none)] := by kernel_rfl
theorem ty_203 : tyIs Try.prog 203 = some (false, 1) := by kernel_rfl
theorem by_203 : (Try.prog.info? 203).map (·.bytes) = some 8 := by kernel_rfl
theorem za_203 : zav Try.prog 203 = some [.sc (.pointer none)] := by kernel_rfl
theorem ca_3 : callable Try.prog 3 = true := by kernel_rfl
theorem ca_4 : callable Try.prog 4 = true := by kernel_rfl
theorem ca_5 : callable Try.prog 5 = true := by kernel_rfl
theorem ca_6 : callable Try.prog 6 = true := by kernel_rfl
theorem ca_7 : callable Try.prog 7 = true := by kernel_rfl
theorem ca_8 : callable Try.prog 8 = true := by kernel_rfl
theorem ca_9 : callable Try.prog 9 = true := by kernel_rfl
theorem ca_10 : callable Try.prog 10 = true := by kernel_rfl
theorem ca_11 : callable Try.prog 11 = true := by kernel_rfl
theorem ca_12 : callable Try.prog 12 = true := by kernel_rfl
theorem ca_13 : callable Try.prog 13 = true := by kernel_rfl
theorem ca_14 : callable Try.prog 14 = true := by kernel_rfl
theorem ca_15 : callable Try.prog 15 = true := by kernel_rfl
theorem ca_16 : callable Try.prog 16 = true := by kernel_rfl
theorem ca_17 : callable Try.prog 17 = true := by kernel_rfl
theorem ca_18 : callable Try.prog 18 = true := by kernel_rfl
theorem ca_19 : callable Try.prog 19 = true := by kernel_rfl
theorem ca_20 : callable Try.prog 20 = true := by kernel_rfl
theorem ca_21 : callable Try.prog 21 = true := by kernel_rfl
theorem ca_22 : callable Try.prog 22 = true := by kernel_rfl
theorem ca_23 : callable Try.prog 23 = true := by kernel_rfl
theorem ca_24 : callable Try.prog 24 = true := by kernel_rfl
theorem ca_25 : callable Try.prog 25 = true := by kernel_rfl
theorem ca_26 : callable Try.prog 26 = true := by kernel_rfl
theorem ca_27 : callable Try.prog 27 = true := by kernel_rfl
theorem ca_28 : callable Try.prog 28 = true := by kernel_rfl
theorem ca_29 : callable Try.prog 29 = true := by kernel_rfl
theorem ca_30 : callable Try.prog 30 = true := by kernel_rfl
theorem ca_31 : callable Try.prog 31 = true := by kernel_rfl
theorem ca_32 : callable Try.prog 32 = true := by kernel_rfl
theorem ca_33 : callable Try.prog 33 = true := by kernel_rfl
theorem ca_34 : callable Try.prog 34 = true := by kernel_rfl
theorem ca_35 : callable Try.prog 35 = true := by kernel_rfl
theorem ca_36 : callable Try.prog 36 = true := by kernel_rfl
theorem ca_37 : callable Try.prog 37 = true := by kernel_rfl
theorem ca_38 : callable Try.prog 38 = true := by kernel_rfl
theorem ca_39 : callable Try.prog 39 = true := by kernel_rfl
theorem ca_40 : callable Try.prog 40 = true := by kernel_rfl
theorem ca_41 : callable Try.prog 41 = true := by kernel_rfl
theorem ca_42 : callable Try.prog 42 = true := by kernel_rfl
theorem ca_43 : callable Try.prog 43 = true := by kernel_rfl
theorem ca_44 : callable Try.prog 44 = true := by kernel_rfl
theorem ca_45 : callable Try.prog 45 = true := by kernel_rfl
theorem ca_46 : callable Try.prog 46 = true := by kernel_rfl
theorem ca_47 : callable Try.prog 47 = true := by kernel_rfl
theorem ca_48 : callable Try.prog 48 = true := by kernel_rfl
theorem ca_49 : callable Try.prog 49 = true := by kernel_rfl
theorem ca_50 : callable Try.prog 50 = true := by kernel_rfl
theorem ca_51 : callable Try.prog 51 = true := by kernel_rfl
theorem ca_52 : callable Try.prog 52 = true := by kernel_rfl
theorem ca_53 : callable Try.prog 53 = true := by kernel_rfl
theorem ca_54 : callable Try.prog 54 = true := by kernel_rfl
theorem ca_55 : callable Try.prog 55 = true := by kernel_rfl
theorem ca_56 : callable Try.prog 56 = true := by kernel_rfl
theorem ca_57 : callable Try.prog 57 = true := by kernel_rfl
theorem ca_58 : callable Try.prog 58 = true := by kernel_rfl
theorem ca_59 : callable Try.prog 59 = true := by kernel_rfl
theorem ca_60 : callable Try.prog 60 = true := by kernel_rfl
theorem ca_61 : callable Try.prog 61 = true := by kernel_rfl
theorem ca_62 : callable Try.prog 62 = true := by kernel_rfl
theorem ca_63 : callable Try.prog 63 = true := by kernel_rfl
theorem ca_64 : callable Try.prog 64 = true := by kernel_rfl
theorem ca_65 : callable Try.prog 65 = true := by kernel_rfl
theorem ca_66 : callable Try.prog 66 = true := by kernel_rfl
theorem ca_67 : callable Try.prog 67 = true := by kernel_rfl
theorem ca_68 : callable Try.prog 68 = true := by kernel_rfl
theorem ca_69 : callable Try.prog 69 = true := by kernel_rfl
theorem ca_70 : callable Try.prog 70 = true := by kernel_rfl
theorem ca_71 : callable Try.prog 71 = true := by kernel_rfl
theorem ca_72 : callable Try.prog 72 = true := by kernel_rfl
theorem ca_73 : callable Try.prog 73 = true := by kernel_rfl
theorem ca_74 : callable Try.prog 74 = true := by kernel_rfl
theorem ca_75 : callable Try.prog 75 = true := by kernel_rfl
theorem ca_76 : callable Try.prog 76 = true := by kernel_rfl
theorem ca_77 : callable Try.prog 77 = true := by kernel_rfl
theorem ca_78 : callable Try.prog 78 = true := by kernel_rfl
theorem ca_79 : callable Try.prog 79 = true := by kernel_rfl
theorem ca_80 : callable Try.prog 80 = true := by kernel_rfl
theorem ca_81 : callable Try.prog 81 = true := by kernel_rfl
theorem ca_82 : callable Try.prog 82 = true := by kernel_rfl
theorem ca_83 : callable Try.prog 83 = true := by kernel_rfl
theorem ca_84 : callable Try.prog 84 = true := by kernel_rfl
theorem ca_85 : callable Try.prog 85 = true := by kernel_rfl
theorem ca_86 : callable Try.prog 86 = true := by kernel_rfl
theorem ca_87 : callable Try.prog 87 = true := by kernel_rfl
theorem ca_88 : callable Try.prog 88 = true := by kernel_rfl
theorem ca_89 : callable Try.prog 89 = true := by kernel_rfl
theorem ca_90 : callable Try.prog 90 = true := by kernel_rfl
theorem ca_91 : callable Try.prog 91 = true := by kernel_rfl
theorem ca_92 : callable Try.prog 92 = true := by kernel_rfl
theorem ca_93 : callable Try.prog 93 = true := by kernel_rfl
theorem ca_94 : callable Try.prog 94 = true := by kernel_rfl
theorem ca_95 : callable Try.prog 95 = true := by kernel_rfl
theorem ca_96 : callable Try.prog 96 = true := by kernel_rfl
theorem ca_97 : callable Try.prog 97 = true := by kernel_rfl
theorem ca_98 : callable Try.prog 98 = true := by kernel_rfl
theorem ca_99 : callable Try.prog 99 = true := by kernel_rfl
theorem ca_100 : callable Try.prog 100 = true := by kernel_rfl
theorem ca_101 : callable Try.prog 101 = true := by kernel_rfl
theorem ca_102 : callable Try.prog 102 = true := by kernel_rfl
theorem ca_103 : callable Try.prog 103 = true := by kernel_rfl
theorem ca_104 : callable Try.prog 104 = true := by kernel_rfl
theorem ca_105 : callable Try.prog 105 = true := by kernel_rfl
theorem ca_106 : callable Try.prog 106 = true := by kernel_rfl
theorem ca_107 : callable Try.prog 107 = true := by kernel_rfl
theorem ca_108 : callable Try.prog 108 = true := by kernel_rfl
theorem ca_109 : callable Try.prog 109 = true := by kernel_rfl
theorem ca_110 : callable Try.prog 110 = true := by kernel_rfl
theorem ca_111 : callable Try.prog 111 = true := by kernel_rfl
theorem ca_112 : callable Try.prog 112 = true := by kernel_rfl
theorem ca_113 : callable Try.prog 113 = true := by kernel_rfl
theorem ca_114 : callable Try.prog 114 = true := by kernel_rfl
theorem ca_115 : callable Try.prog 115 = true := by kernel_rfl
theorem ca_116 : callable Try.prog 116 = true := by kernel_rfl
theorem ca_117 : callable Try.prog 117 = true := by kernel_rfl
theorem ca_118 : callable Try.prog 118 = true := by kernel_rfl
theorem ca_119 : callable Try.prog 119 = true := by kernel_rfl
theorem ca_120 : callable Try.prog 120 = true := by kernel_rfl
theorem ca_121 : callable Try.prog 121 = true := by kernel_rfl
theorem ca_122 : callable Try.prog 122 = true := by kernel_rfl
theorem ca_123 : callable Try.prog 123 = true := by kernel_rfl
theorem ca_124 : callable Try.prog 124 = true := by kernel_rfl
theorem ca_125 : callable Try.prog 125 = true := by kernel_rfl
theorem ca_126 : callable Try.prog 126 = true := by kernel_rfl
theorem ca_127 : callable Try.prog 127 = true := by kernel_rfl
theorem ca_128 : callable Try.prog 128 = true := by kernel_rfl
theorem ca_129 : callable Try.prog 129 = true := by kernel_rfl
theorem ca_130 : callable Try.prog 130 = true := by kernel_rfl
theorem ca_131 : callable Try.prog 131 = true := by kernel_rfl
theorem ca_132 : callable Try.prog 132 = true := by kernel_rfl
theorem ca_133 : callable Try.prog 133 = true := by kernel_rfl
theorem ca_134 : callable Try.prog 134 = true := by kernel_rfl
theorem ca_135 : callable Try.prog 135 = true := by kernel_rfl
theorem ca_136 : callable Try.prog 136 = true := by kernel_rfl
theorem ca_137 : callable Try.prog 137 = true := by kernel_rfl
theorem ca_138 : callable Try.prog 138 = true := by kernel_rfl
theorem ca_139 : callable Try.prog 139 = true := by kernel_rfl
theorem ca_140 : callable Try.prog 140 = true := by kernel_rfl
theorem ca_141 : callable Try.prog 141 = true := by kernel_rfl
theorem ca_142 : callable Try.prog 142 = true := by kernel_rfl
theorem ca_143 : callable Try.prog 143 = true := by kernel_rfl
theorem ca_144 : callable Try.prog 144 = true := by kernel_rfl
theorem ca_145 : callable Try.prog 145 = true := by kernel_rfl
theorem ca_146 : callable Try.prog 146 = true := by kernel_rfl
theorem ca_147 : callable Try.prog 147 = true := by kernel_rfl
theorem ca_148 : callable Try.prog 148 = true := by kernel_rfl
theorem ca_149 : callable Try.prog 149 = true := by kernel_rfl
theorem ca_150 : callable Try.prog 150 = true := by kernel_rfl
theorem ca_152 : callable Try.prog 152 = true := by kernel_rfl
theorem ca_153 : callable Try.prog 153 = true := by kernel_rfl
theorem ca_154 : callable Try.prog 154 = true := by kernel_rfl
theorem ca_155 : callable Try.prog 155 = true := by kernel_rfl
theorem ca_156 : callable Try.prog 156 = true := by kernel_rfl
theorem ca_157 : callable Try.prog 157 = true := by kernel_rfl
theorem ca_158 : callable Try.prog 158 = true := by kernel_rfl
theorem ca_159 : callable Try.prog 159 = true := by kernel_rfl
theorem ca_160 : callable Try.prog 160 = true := by kernel_rfl
theorem ca_161 : callable Try.prog 161 = true := by kernel_rfl
theorem ca_162 : callable Try.prog 162 = true := by kernel_rfl
theorem ca_163 : callable Try.prog 163 = true := by kernel_rfl
theorem ca_164 : callable Try.prog 164 = true := by kernel_rfl
theorem ca_165 : callable Try.prog 165 = true := by kernel_rfl
theorem ca_166 : callable Try.prog 166 = true := by kernel_rfl
theorem ca_167 : callable Try.prog 167 = true := by kernel_rfl
theorem ca_168 : callable Try.prog 168 = true := by kernel_rfl
theorem ca_169 : callable Try.prog 169 = true := by kernel_rfl
theorem ca_170 : callable Try.prog 170 = true := by kernel_rfl
theorem ca_171 : callable Try.prog 171 = true := by kernel_rfl
theorem ca_172 : callable Try.prog 172 = true := by kernel_rfl
theorem ca_173 : callable Try.prog 173 = true := by kernel_rfl
theorem ca_174 : callable Try.prog 174 = true := by kernel_rfl
theorem ca_175 : callable Try.prog 175 = true := by kernel_rfl
theorem ca_176 : callable Try.prog 176 = true := by kernel_rfl
theorem ca_177 : callable Try.prog 177 = true := by kernel_rfl
theorem ca_178 : callable Try.prog 178 = true := by kernel_rfl
theorem ca_179 : callable Try.prog 179 = true := by kernel_rfl
theorem ca_180 : callable Try.prog 180 = true := by kernel_rfl
theorem ca_181 : callable Try.prog 181 = true := by kernel_rfl
theorem ca_182 : callable Try.prog 182 = true := by kernel_rfl
theorem ca_183 : callable Try.prog 183 = true := by kernel_rfl
theorem ca_184 : callable Try.prog 184 = true := by kernel_rfl
theorem mixed : Try.prog.follows .mixedOrders = true := by kernel_rfl

end Go.Proofs.Ytmajgcalliojlaa.E
