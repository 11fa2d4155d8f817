/- What the program says of its types and functions: closed facts, by program. -/
import Derived.Test.YtpcnpmeimemeaaaE23
import Derived.Test.YtpcnpmeimemeaaaProg
namespace Go.Proofs.Ytpcnpmeimemeaaa.E
open Go Go.Proofs

theorem ty_2 : tyIs Try.prog 2 = some (false, 1) := by kernel_rfl
theorem by_2 : (Try.prog.info? 2).map (·.bytes) = some 8 := by kernel_rfl
theorem za_2 : zav Try.prog 2 = some [.sc (.int .i64 0)] := by kernel_rfl
theorem ty_3 : tyIs Try.prog 3 = some (false, 1) := by kernel_rfl
theorem by_3 : (Try.prog.info? 3).map (·.bytes) = some 8 := by kernel_rfl
theorem za_3 : zav Try.prog 3 = some [.sc (.int .i64 0)] := by kernel_rfl
theorem ty_4 : tyIs Try.prog 4 = some (false, 1) := by kernel_rfl
theorem by_4 : (Try.prog.info? 4).map (·.bytes) = some 1 := by kernel_rfl
theorem za_4 : zav Try.prog 4 = some [.sc (.bool false)] := by kernel_rfl
theorem bo_4 : Try.prog.underlying 4 = some .bool := by kernel_rfl
theorem ty_5 : tyIs Try.prog 5 = some (false, 1) := by kernel_rfl
theorem by_5 : (Try.prog.info? 5).map (·.bytes) = some 1 := by kernel_rfl
theorem za_5 : zav Try.prog 5 = some [.sc (.int .u8 0)] := by kernel_rfl
theorem ty_9 : tyIs Try.prog 9 = some (false, 1) := by kernel_rfl
theorem by_9 : (Try.prog.info? 9).map (·.bytes) = some 16 := by kernel_rfl
theorem za_9 : zav Try.prog 9 = some [.sc (.string ⟨#[]⟩)] := by kernel_rfl
theorem st_9 : Try.prog.underlying 9 = some .string := by kernel_rfl
theorem ty_21 : tyIs Try.prog 21 = some (false, 1) := by kernel_rfl
theorem by_21 : (Try.prog.info? 21).map (·.bytes) = some 4 := by kernel_rfl
theorem za_21 : zav Try.prog 21 = some [.sc (.int .i32 0)] := by kernel_rfl
theorem ty_22 : tyIs Try.prog 22 = some (true, 4) := by kernel_rfl
theorem by_22 : (Try.prog.info? 22).map (·.bytes) = some 32 := by kernel_rfl
theorem za_22 : zav Try.prog 22 = some [.sc (.int .i64 0), .sc (.int .i64 0), .sc (.int .i64 0), .sc (.int .i64 0)] := by kernel_rfl
theorem fo_22_0 : fofs Try.prog 22 0 = some 0 := by kernel_rfl
theorem fo_22_1 : fofs Try.prog 22 1 = some 1 := by kernel_rfl
theorem fo_22_2 : fofs Try.prog 22 2 = some 2 := by kernel_rfl
theorem fo_22_3 : fofs Try.prog 22 3 = some 3 := by kernel_rfl
theorem se_22 : intStruct Try.prog 22 = true := by kernel_rfl
theorem fd_22 : (Try.prog.fieldsOf 22).size = 4 := by kernel_rfl
theorem bd_22 : bld Try.prog 22 = some ([(.int .i64 0), (.int .i64 0), (.int .i64 0), (.int .i64 0)], [(0, 1), (1, 1), (2, 1), (3, 1)]) := by kernel_rfl
theorem ty_23 : tyIs Try.prog 23 = some (true, 4) := by kernel_rfl
theorem by_23 : (Try.prog.info? 23).map (·.bytes) = some 32 := by kernel_rfl
theorem za_23 : zav Try.prog 23 = some [.sc (.int .i64 0), .sc (.int .i64 0), .sc (.int .i64 0), .sc (.int .i64 0)] := by kernel_rfl
theorem fo_23_0 : fofs Try.prog 23 0 = some 0 := by kernel_rfl
theorem fo_23_1 : fofs Try.prog 23 1 = some 1 := by kernel_rfl
theorem fo_23_2 : fofs Try.prog 23 2 = some 2 := by kernel_rfl
theorem fo_23_3 : fofs Try.prog 23 3 = some 3 := by kernel_rfl
theorem se_23 : intStruct Try.prog 23 = true := by kernel_rfl
theorem fd_23 : (Try.prog.fieldsOf 23).size = 4 := by kernel_rfl
theorem bd_23 : bld Try.prog 23 = some ([(.int .i64 0), (.int .i64 0), (.int .i64 0), (.int .i64 0)], [(0, 1), (1, 1), (2, 1), (3, 1)]) := by kernel_rfl
theorem ty_25 : tyIs Try.prog 25 = some (true, 4) := by kernel_rfl
theorem by_25 : (Try.prog.info? 25).map (·.bytes) = some 32 := by kernel_rfl
theorem za_25 : zav Try.prog 25 = some [.sc (.int .i64 0), .sc (.int .i64 0), .sc (.int .i64 0), .sc (.int .i64 0)] := by kernel_rfl
theorem fo_25_0 : fofs Try.prog 25 0 = some 0 := by kernel_rfl
theorem fo_25_1 : fofs Try.prog 25 1 = some 1 := by kernel_rfl
theorem fo_25_2 : fofs Try.prog 25 2 = some 2 := by kernel_rfl
theorem fo_25_3 : fofs Try.prog 25 3 = some 3 := by kernel_rfl
theorem se_25 : intStruct Try.prog 25 = true := by kernel_rfl
theorem fd_25 : (Try.prog.fieldsOf 25).size = 4 := by kernel_rfl
theorem bd_25 : bld Try.prog 25 = some ([(.int .i64 0), (.int .i64 0), (.int .i64 0), (.int .i64 0)], [(0, 1), (1, 1), (2, 1), (3, 1)]) := by kernel_rfl
theorem ty_28 : tyIs Try.prog 28 = some (true, 4) := by kernel_rfl
theorem by_28 : (Try.prog.info? 28).map (·.bytes) = some 32 := by kernel_rfl
theorem za_28 : zav Try.prog 28 = some [.sc (.int .i64 0), .sc (.int .i64 0), .sc (.int .i64 0), .sc (.int .i64 0)] := by kernel_rfl
theorem fo_28_0 : fofs Try.prog 28 0 = some 0 := by kernel_rfl
theorem fo_28_1 : fofs Try.prog 28 1 = some 1 := by kernel_rfl
theorem fo_28_2 : fofs Try.prog 28 2 = some 2 := by kernel_rfl
theorem fo_28_3 : fofs Try.prog 28 3 = some 3 := by kernel_rfl
theorem se_28 : intStruct Try.prog 28 = true := by kernel_rfl
theorem fd_28 : (Try.prog.fieldsOf 28).size = 4 := by kernel_rfl
theorem bd_28 : bld Try.prog 28 = some ([(.int .i64 0), (.int .i64 0), (.int .i64 0), (.int .i64 0)], [(0, 1), (1, 1), (2, 1), (3, 1)]) := by kernel_rfl
theorem ty_29 : tyIs Try.prog 29 = some (true, 4) := by kernel_rfl
theorem by_29 : (Try.prog.info? 29).map (·.bytes) = some 32 := by kernel_rfl
theorem za_29 : zav Try.prog 29 = some [.sc (.int .i64 0), .sc (.int .i64 0), .sc (.int .i64 0), .sc (.int .i64 0)] := by kernel_rfl
theorem fo_29_0 : fofs Try.prog 29 0 = some 0 := by kernel_rfl
theorem fo_29_1 : fofs Try.prog 29 1 = some 1 := by kernel_rfl
theorem fo_29_2 : fofs Try.prog 29 2 = some 2 := by kernel_rfl
theorem fo_29_3 : fofs Try.prog 29 3 = some 3 := by kernel_rfl
theorem se_29 : intStruct Try.prog 29 = true := by kernel_rfl
theorem fd_29 : (Try.prog.fieldsOf 29).size = 4 := by kernel_rfl
theorem bd_29 : bld Try.prog 29 = some ([(.int .i64 0), (.int .i64 0), (.int .i64 0), (.int .i64 0)], [(0, 1), (1, 1), (2, 1), (3, 1)]) := by kernel_rfl
theorem ty_30 : tyIs Try.prog 30 = some (true, 4) := by kernel_rfl
theorem by_30 : (Try.prog.info? 30).map (·.bytes) = some 32 := by kernel_rfl
theorem za_30 : zav Try.prog 30 = some [.sc (.int .i64 0), .sc (.int .i64 0), .sc (.int .i64 0), .sc (.int .i64 0)] := by kernel_rfl
theorem fo_30_0 : fofs Try.prog 30 0 = some 0 := by kernel_rfl
theorem fo_30_1 : fofs Try.prog 30 1 = some 1 := by kernel_rfl
theorem fo_30_2 : fofs Try.prog 30 2 = some 2 := by kernel_rfl
theorem fo_30_3 : fofs Try.prog 30 3 = some 3 := by kernel_rfl
theorem se_30 : intStruct Try.prog 30 = true := by kernel_rfl
theorem fd_30 : (Try.prog.fieldsOf 30).size = 4 := by kernel_rfl
theorem bd_30 : bld Try.prog 30 = some ([(.int .i64 0), (.int .i64 0), (.int .i64 0), (.int .i64 0)], [(0, 1), (1, 1), (2, 1), (3, 1)]) := by kernel_rfl
theorem ty_35 : tyIs Try.prog 35 = some (false, 1) := by kernel_rfl
theorem by_35 : (Try.prog.info? 35).map (·.bytes) = some 24 := by kernel_rfl
theorem za_35 : zav Try.prog 35 = some [.sc (.slice none 0 0)] := by kernel_rfl
theorem sl_35 : isSlice Try.prog 35 = some 3 := by kernel_rfl
theorem ty_40 : tyIs Try.prog 40 = some (false, 1) := by kernel_rfl
theorem by_40 : (Try.prog.info? 40).map (·.bytes) = some 24 := by kernel_rfl
theorem za_40 : zav Try.prog 40 = some [.sc (.slice none 0 0)] := by kernel_rfl
theorem sl_40 : isSlice Try.prog 40 = some 116 := by kernel_rfl
theorem ty_41 : tyIs Try.prog 41 = some (true, 3) := by kernel_rfl
theorem by_41 : (Try.prog.info? 41).map (·.bytes) = some 72 := by kernel_rfl
theorem za_41 : zav Try.prog 41 = some [.sc (.slice none 0 0), .sc (.slice none 0 0), .sc (.slice none 0 0)] := by kernel_rfl
theorem fo_41_0 : fofs Try.prog 41 0 = some 0 := by kernel_rfl
theorem fo_41_1 : fofs Try.prog 41 1 = some 1 := by kernel_rfl
theorem fo_41_2 : fofs Try.prog 41 2 = some 2 := by kernel_rfl
theorem bd_41 : bld Try.prog 41 = some ([(.slice none 0 0), (.slice none 0 0), (.slice none 0 0)], [(0, 1), (1, 1), (2, 1)]) := by kernel_rfl
theorem ty_42 : tyIs Try.prog 42 = some (true, 3) := by kernel_rfl
theorem by_42 : (Try.prog.info? 42).map (·.bytes) = some 72 := by kernel_rfl
theorem za_42 : zav Try.prog 42 = some [.sc (.slice none 0 0), .sc (.slice none 0 0), .sc (.slice none 0 0)] := by kernel_rfl
theorem fo_42_0 : fofs Try.prog 42 0 = some 0 := by kernel_rfl
theorem fo_42_1 : fofs Try.prog 42 1 = some 1 := by kernel_rfl
theorem fo_42_2 : fofs Try.prog 42 2 = some 2 := by kernel_rfl
theorem bd_42 : bld Try.prog 42 = some ([(.slice none 0 0), (.slice none 0 0), (.slice none 0 0)], [(0, 1), (1, 1), (2, 1)]) := by kernel_rfl
theorem ty_43 : tyIs Try.prog 43 = some (true, 5) := by kernel_rfl
theorem by_43 : (Try.prog.info? 43).map (·.bytes) = some 104 := by kernel_rfl
theorem za_43 : zav Try.prog 43 = some [.sc (.slice none 0 0), .sc (.slice none 0 0), .sc (.slice none 0 0), .sc (.slice none 0 0), .sc (.int .i64 0)] := by kernel_rfl
theorem fo_43_0 : fofs Try.prog 43 0 = some 0 := by kernel_rfl
theorem fo_43_1 : fofs Try.prog 43 1 = some 3 := by kernel_rfl
theorem fo_43_2 : fofs Try.prog 43 2 = some 4 := by kernel_rfl
theorem bd_43 : bld Try.prog 43 = some ([(.slice none 0 0), (.slice none 0 0), (.slice none 0 0), (.slice none 0 0), (.int .i64 0)], [(0, 3), (3, 1), (4, 1)]) := by kernel_rfl
theorem ty_44 : tyIs Try.prog 44 = some (true, 5) := by kernel_rfl
theorem by_44 : (Try.prog.info? 44).map (·.bytes) = some 104 := by kernel_rfl
theorem za_44 : zav Try.prog 44 = some [.sc (.slice none 0 0), .sc (.slice none 0 0), .sc (.slice none 0 0), .sc (.slice none 0 0), .sc (.int .i64 0)] := by kernel_rfl
theorem fo_44_0 : fofs Try.prog 44 0 = some 0 := by kernel_rfl
theorem fo_44_1 : fofs Try.prog 44 1 = some 3 := by kernel_rfl
theorem fo_44_2 : fofs Try.prog 44 2 = some 4 := by kernel_rfl
theorem bd_44 : bld Try.prog 44 = some ([(.slice none 0 0), (.slice none 0 0), (.slice none 0 0), (.slice none 0 0), (.int .i64 0)], [(0, 3), (3, 1), (4, 1)]) := by kernel_rfl
theorem ty_47 : tyIs Try.prog 47 = some (false, 1) := by kernel_rfl
theorem by_47 : (Try.prog.info? 47).map (·.bytes) = some 24 := by kernel_rfl
theorem za_47 : zav Try.prog 47 = some [.sc (.slice none 0 0)] := by kernel_rfl
theorem sl_47 : isSlice Try.prog 47 = some 111 := by kernel_rfl
theorem ty_48 : tyIs Try.prog 48 = some (true, 3) := by kernel_rfl
theorem by_48 : (Try.prog.info? 48).map (·.bytes) = some 72 := by kernel_rfl
theorem za_48 : zav Try.prog 48 = some [.sc (.slice none 0 0), .sc (.slice none 0 0), .sc (.slice none 0 0)] := by kernel_rfl
theorem fo_48_0 : fofs Try.prog 48 0 = some 0 := by kernel_rfl
theorem fo_48_1 : fofs Try.prog 48 1 = some 1 := by kernel_rfl
theorem fo_48_2 : fofs Try.prog 48 2 = some 2 := by kernel_rfl
theorem bd_48 : bld Try.prog 48 = some ([(.slice none 0 0), (.slice none 0 0), (.slice none 0 0)], [(0, 1), (1, 1), (2, 1)]) := by kernel_rfl
theorem ty_49 : tyIs Try.prog 49 = some (true, 3) := by kernel_rfl
theorem by_49 : (Try.prog.info? 49).map (·.bytes) = some 72 := by kernel_rfl
theorem za_49 : zav Try.prog 49 = some [.sc (.slice none 0 0), .sc (.slice none 0 0), .sc (.slice none 0 0)] := by kernel_rfl
theorem fo_49_0 : fofs Try.prog 49 0 = some 0 := by kernel_rfl
theorem fo_49_1 : fofs Try.prog 49 1 = some 1 := by kernel_rfl
theorem fo_49_2 : fofs Try.prog 49 2 = some 2 := by kernel_rfl
theorem bd_49 : bld Try.prog 49 = some ([(.slice none 0 0), (.slice none 0 0), (.slice none 0 0)], [(0, 1), (1, 1), (2, 1)]) := by kernel_rfl
theorem ty_50 : tyIs Try.prog 50 = some (true, 5) := by kernel_rfl
theorem by_50 : (Try.prog.info? 50).map (·.bytes) = some 104 := by kernel_rfl
theorem za_50 : zav Try.prog 50 = some [.sc (.slice none 0 0), .sc (.slice none 0 0), .sc (.slice none 0 0), .sc (.slice none 0 0), .sc (.int .i64 0)] := by kernel_rfl
theorem fo_50_0 : fofs Try.prog 50 0 = some 0 := by kernel_rfl
theorem fo_50_1 : fofs Try.prog 50 1 = some 3 := by kernel_rfl
theorem fo_50_2 : fofs Try.prog 50 2 = some 4 := by kernel_rfl
theorem bd_50 : bld Try.prog 50 = some ([(.slice none 0 0), (.slice none 0 0), (.slice none 0 0), (.slice none 0 0), (.int .i64 0)], [(0, 3), (3, 1), (4, 1)]) := by kernel_rfl
theorem ty_51 : tyIs Try.prog 51 = some (true, 5) := by kernel_rfl
theorem by_51 : (Try.prog.info? 51).map (·.bytes) = some 104 := by kernel_rfl
theorem za_51 : zav Try.prog 51 = some [.sc (.slice none 0 0), .sc (.slice none 0 0), .sc (.slice none 0 0), .sc (.slice none 0 0), .sc (.int .i64 0)] := by kernel_rfl
theorem fo_51_0 : fofs Try.prog 51 0 = some 0 := by kernel_rfl
theorem fo_51_1 : fofs Try.prog 51 1 = some 3 := by kernel_rfl
theorem fo_51_2 : fofs Try.prog 51 2 = some 4 := by kernel_rfl
theorem bd_51 : bld Try.prog 51 = some ([(.slice none 0 0), (.slice none 0 0), (.slice none 0 0), (.slice none 0 0), (.int .i64 0)], [(0, 3), (3, 1), (4, 1)]) := by kernel_rfl
theorem ty_66 : tyIs Try.prog 66 = some (false, 1) := by kernel_rfl
theorem by_66 : (Try.prog.info? 66).map (·.bytes) = some 24 := by kernel_rfl
theorem za_66 : zav Try.prog 66 = some [.sc (.slice none 0 0)] := by kernel_rfl
theorem sl_66 : isSlice Try.prog 66 = some 35 := by kernel_rfl
theorem ty_67 : tyIs Try.prog 67 = some (false, 1) := by kernel_rfl
theorem by_67 : (Try.prog.info? 67).map (·.bytes) = some 24 := by kernel_rfl
theorem za_67 : zav Try.prog 67 = some [.sc (.slice none 0 0)] := by kernel_rfl
theorem sl_67 : isSlice Try.prog 67 = some 44 := by kernel_rfl
theorem ty_68 : tyIs Try.prog 68 = some (false, 1) := by kernel_rfl
theorem by_68 : (Try.prog.info? 68).map (·.bytes) = some 24 := by kernel_rfl
theorem za_68 : zav Try.prog 68 = some [.sc (.slice none 0 0)] := by kernel_rfl
theorem sl_68 : isSlice Try.prog 68 = some 4 := by kernel_rfl
theorem ty_69 : tyIs Try.prog 69 = some (true, 8) := by kernel_rfl
theorem by_69 : (Try.prog.info? 69).map (·.bytes) = some 160 := by kernel_rfl
theorem za_69 : zav Try.prog 69 = some [.sc (.slice none 0 0), .sc (.slice none 0 0), .sc (.slice none 0 0), .sc (.slice none 0 0), .sc (.slice none 0 0), .sc (.slice none 0 0), .sc (.int .i64 0), .sc (.int .i64 0)] := by kernel_rfl
theorem fo_69_0 : fofs Try.prog 69 0 = some 0 := by kernel_rfl
theorem fo_69_1 : fofs Try.prog 69 1 = some 1 := by kernel_rfl
theorem fo_69_2 : fofs Try.prog 69 2 = some 2 := by kernel_rfl
theorem fo_69_3 : fofs Try.prog 69 3 = some 3 := by kernel_rfl
theorem fo_69_4 : fofs Try.prog 69 4 = some 4 := by kernel_rfl
theorem fo_69_5 : fofs Try.prog 69 5 = some 5 := by kernel_rfl
theorem fo_69_6 : fofs Try.prog 69 6 = some 6 := by kernel_rfl
theorem fo_69_7 : fofs Try.prog 69 7 = some 7 := by kernel_rfl
theorem bd_69 : bld Try.prog 69 = some ([(.slice none 0 0), (.slice none 0 0), (.slice none 0 0), (.slice none 0 0), (.slice none 0 0), (.slice none 0 0), (.int .i64 0), (.int .i64 0)], [(0, 1), (1, 1), (2, 1), (3, 1), (4, 1), (5, 1), (6, 1), (7, 1)]) := by kernel_rfl
theorem ty_70 : tyIs Try.prog 70 = some (true, 8) := by kernel_rfl
theorem by_70 : (Try.prog.info? 70).map (·.bytes) = some 160 := by kernel_rfl
theorem za_70 : zav Try.prog 70 = some [.sc (.slice none 0 0), .sc (.slice none 0 0), .sc (.slice none 0 0), .sc (.slice none 0 0), .sc (.slice none 0 0), .sc (.slice none 0 0), .sc (.int .i64 0), .sc (.int .i64 0)] := by kernel_rfl
theorem fo_70_0 : fofs Try.prog 70 0 = some 0 := by kernel_rfl
theorem fo_70_1 : fofs Try.prog 70 1 = some 1 := by kernel_rfl
theorem fo_70_2 : fofs Try.prog 70 2 = some 2 := by kernel_rfl
theorem fo_70_3 : fofs Try.prog 70 3 = some 3 := by kernel_rfl
theorem fo_70_4 : fofs Try.prog 70 4 = some 4 := by kernel_rfl
theorem fo_70_5 : fofs Try.prog 70 5 = some 5 := by kernel_rfl
theorem fo_70_6 : fofs Try.prog 70 6 = some 6 := by kernel_rfl
theorem fo_70_7 : fofs Try.prog 70 7 = some 7 := by kernel_rfl
theorem bd_70 : bld Try.prog 70 = some ([(.slice none 0 0), (.slice none 0 0), (.slice none 0 0), (.slice none 0 0), (.slice none 0 0), (.slice none 0 0), (.int .i64 0), (.int .i64 0)], [(0, 1), (1, 1), (2, 1), (3, 1), (4, 1), (5, 1), (6, 1), (7, 1)]) := by kernel_rfl
theorem ty_73 : tyIs Try.prog 73 = some (false, 1) := by kernel_rfl
theorem by_73 : (Try.prog.info? 73).map (·.bytes) = some 24 := by kernel_rfl
theorem za_73 : zav Try.prog 73 = some [.sc (.slice none 0 0)] := by kernel_rfl
theorem sl_73 : isSlice Try.prog 73 = some 51 := by kernel_rfl
theorem ty_74 : tyIs Try.prog 74 = some (true, 8) := by kernel_rfl
theorem by_74 : (Try.prog.info? 74).map (·.bytes) = some 160 := by kernel_rfl
theorem za_74 : zav Try.prog 74 = some [.sc (.slice none 0 0), .sc (.slice none 0 0), .sc (.slice none 0 0), .sc (.slice none 0 0), .sc (.slice none 0 0), .sc (.slice none 0 0), .sc (.int .i64 0), .sc (.int .i64 0)] := by kernel_rfl
theorem fo_74_0 : fofs Try.prog 74 0 = some 0 := by kernel_rfl
theorem fo_74_1 : fofs Try.prog 74 1 = some 1 := by kernel_rfl
theorem fo_74_2 : fofs Try.prog 74 2 = some 2 := by kernel_rfl
theorem fo_74_3 : fofs Try.prog 74 3 = some 3 := by kernel_rfl
theorem fo_74_4 : fofs Try.prog 74 4 = some 4 := by kernel_rfl
theorem fo_74_5 : fofs Try.prog 74 5 = some 5 := by kernel_rfl
theorem fo_74_6 : fofs Try.prog 74 6 = some 6 := by kernel_rfl
theorem fo_74_7 : fofs Try.prog 74 7 = some 7 := by kernel_rfl
theorem bd_74 : bld Try.prog 74 = some ([(.slice none 0 0), (.slice none 0 0), (.slice none 0 0), (.slice none 0 0), (.slice none 0 0), (.slice none 0 0), (.int .i64 0), (.int .i64 0)], [(0, 1), (1, 1), (2, 1), (3, 1), (4, 1), (5, 1), (6, 1), (7, 1)]) := by kernel_rfl
theorem ty_75 : tyIs Try.prog 75 = some (true, 8) := by kernel_rfl
theorem by_75 : (Try.prog.info? 75).map (·.bytes) = some 160 := by kernel_rfl
theorem za_75 : zav Try.prog 75 = some [.sc (.slice none 0 0), .sc (.slice none 0 0), .sc (.slice none 0 0), .sc (.slice none 0 0), .sc (.slice none 0 0), .sc (.slice none 0 0), .sc (.int .i64 0), .sc (.int .i64 0)] := by kernel_rfl
theorem fo_75_0 : fofs Try.prog 75 0 = some 0 := by kernel_rfl
theorem fo_75_1 : fofs Try.prog 75 1 = some 1 := by kernel_rfl
theorem fo_75_2 : fofs Try.prog 75 2 = some 2 := by kernel_rfl
theorem fo_75_3 : fofs Try.prog 75 3 = some 3 := by kernel_rfl
theorem fo_75_4 : fofs Try.prog 75 4 = some 4 := by kernel_rfl
theorem fo_75_5 : fofs Try.prog 75 5 = some 5 := by kernel_rfl
theorem fo_75_6 : fofs Try.prog 75 6 = some 6 := by kernel_rfl
theorem fo_75_7 : fofs Try.prog 75 7 = some 7 := by kernel_rfl
theorem bd_75 : bld Try.prog 75 = some ([(.slice none 0 0), (.slice none 0 0), (.slice none 0 0), (.slice none 0 0), (.slice none 0 0), (.slice none 0 0), (.int .i64 0), (.int .i64 0)], [(0, 1), (1, 1), (2, 1), (3, 1), (4, 1), (5, 1), (6, 1), (7, 1)]) := by kernel_rfl
theorem ty_94 : tyIs Try.prog 94 = some (false, 1) := by kernel_rfl
theorem by_94 : (Try.prog.info? 94).map (·.bytes) = some 24 := by kernel_rfl
theorem za_94 : zav Try.prog 94 = some [.sc (.slice none 0 0)] := by kernel_rfl
theorem sl_94 : isSlice Try.prog 94 = some 96 := by kernel_rfl
theorem ty_96 : tyIs Try.prog 96 = some (true, 2) := by kernel_rfl
theorem by_96 : (Try.prog.info? 96).map (·.bytes) = some 16 := by kernel_rfl
theorem za_96 : zav Try.prog 96 = some [.sc (.int .i64 0), .sc (.int .i64 0)] := by kernel_rfl
theorem ar_96 : isArr Try.prog 96 = some (2, 3) := by kernel_rfl
theorem bd_96 : bld Try.prog 96 = some ([(.int .i64 0), (.int .i64 0)], [(0, 1), (1, 1)]) := by kernel_rfl
theorem ty_110 : tyIs Try.prog 110 = some (true, 2) := by kernel_rfl
theorem by_110 : (Try.prog.info? 110).map (·.bytes) = some 16 := by kernel_rfl
theorem za_110 : zav Try.prog 110 = some [.sc (.int .i64 0), .sc (.int .i64 0)] := by kernel_rfl
theorem fo_110_0 : fofs Try.prog 110 0 = some 0 := by kernel_rfl
theorem fo_110_1 : fofs Try.prog 110 1 = some 1 := by kernel_rfl
theorem se_110 : intStruct Try.prog 110 = true := by kernel_rfl
theorem fd_110 : (Try.prog.fieldsOf 110).size = 2 := by kernel_rfl
theorem bd_110 : bld Try.prog 110 = some ([(.int .i64 0), (.int .i64 0)], [(0, 1), (1, 1)]) := by kernel_rfl
theorem ty_111 : tyIs Try.prog 111 = some (true, 2) := by kernel_rfl
theorem by_111 : (Try.prog.info? 111).map (·.bytes) = some 16 := by kernel_rfl
theorem za_111 : zav Try.prog 111 = some [.sc (.int .i64 0), .sc (.int .i64 0)] := by kernel_rfl
theorem fo_111_0 : fofs Try.prog 111 0 = some 0 := by kernel_rfl
theorem fo_111_1 : fofs Try.prog 111 1 = some 1 := by kernel_rfl
theorem se_111 : intStruct Try.prog 111 = true := by kernel_rfl
theorem fd_111 : (Try.prog.fieldsOf 111).size = 2 := by kernel_rfl
theorem bd_111 : bld Try.prog 111 = some ([(.int .i64 0), (.int .i64 0)], [(0, 1), (1, 1)]) := by kernel_rfl
theorem ty_116 : tyIs Try.prog 116 = some (true, 2) := by kernel_rfl
theorem by_116 : (Try.prog.info? 116).map (·.bytes) = some 16 := by kernel_rfl
theorem za_116 : zav Try.prog 116 = some [.sc (.int .i64 0), .sc (.int .i64 0)] := by kernel_rfl
theorem fo_116_0 : fofs Try.prog 116 0 = some 0 := by kernel_rfl
theorem fo_116_1 : fofs Try.prog 116 1 = some 1 := by kernel_rfl
theorem se_116 : intStruct Try.prog 116 = true := by kernel_rfl
theorem fd_116 : (Try.prog.fieldsOf 116).size = 2 := by kernel_rfl
theorem bd_116 : bld Try.prog 116 = some ([(.int .i64 0), (.int .i64 0)], [(0, 1), (1, 1)]) := by kernel_rfl
theorem ty_118 : tyIs Try.prog 118 = some (false, 1) := by kernel_rfl
theorem by_118 : (Try.prog.info? 118).map (·.bytes) = some 24 := by kernel_rfl
theorem za_118 : zav Try.prog 118 = some [.sc (.slice none 0 0)] := by kernel_rfl
theorem sl_118 : isSlice Try.prog 118 = some 120 := by kernel_rfl
theorem ty_119 : tyIs Try.prog 119 = some (true, 2) := by kernel_rfl
theorem by_119 : (Try.prog.info? 119).map (·.bytes) = some 16 := by kernel_rfl
theorem za_119 : zav Try.prog 119 = some [.sc (.int .i64 0), .sc (.int .i64 0)] := by kernel_rfl
theorem fo_119_0 : fofs Try.prog 119 0 = some 0 := by kernel_rfl
theorem fo_119_1 : fofs Try.prog 119 1 = some 1 := by kernel_rfl
theorem se_119 : intStruct Try.prog 119 = true := by kernel_rfl
theorem fd_119 : (Try.prog.fieldsOf 119).size = 2 := by kernel_rfl
theorem bd_119 : bld Try.prog 119 = some ([(.int .i64 0), (.int .i64 0)], [(0, 1), (1, 1)]) := by kernel_rfl
theorem ty_120 : tyIs Try.prog 120 = some (true, 2) := by kernel_rfl
theorem by_120 : (Try.prog.info? 120).map (·.bytes) = some 16 := by kernel_rfl
theorem za_120 : zav Try.prog 120 = some [.sc (.int .i64 0), .sc (.int .i64 0)] := by kernel_rfl
theorem fo_120_0 : fofs Try.prog 120 0 = some 0 := by kernel_rfl
theorem fo_120_1 : fofs Try.prog 120 1 = some 1 := by kernel_rfl
theorem se_120 : intStruct Try.prog 120 = true := by kernel_rfl
theorem fd_120 : (Try.prog.fieldsOf 120).size = 2 := by kernel_rfl
theorem bd_120 : bld Try.prog 120 = some ([(.int .i64 0), (.int .i64 0)], [(0, 1), (1, 1)]) := by kernel_rfl
theorem ty_136 : tyIs Try.prog 136 = some (false, 1) := by kernel_rfl
theorem by_136 : (Try.prog.info? 136).map (·.bytes) = some 4 := by kernel_rfl
theorem za_136 : zav Try.prog 136 = some [.sc (.int .u32 0)] := by kernel_rfl
theorem ty_140 : tyIs Try.prog 140 = some (false, 1) := by kernel_rfl
theorem by_140 : (Try.prog.info? 140).map (·.bytes) = some 8 := by kernel_rfl
theorem za_140 : zav Try.prog 140 = some [.sc (.pointer none)] := by kernel_rfl
theorem ca_3 : callable Try.prog 3 = true := by kernel_rfl
theorem ca_4 : callable Try.prog 4 = true := by kernel_rfl
theorem ca_5 : callable Try.prog 5 = true := by kernel_rfl
theorem ca_6 : callable Try.prog 6 = true := by kernel_rfl
theorem ca_7 : callable Try.prog 7 = true := by kernel_rfl
theorem ca_8 : callable Try.prog 8 = true := by kernel_rfl
theorem ca_9 : callable Try.prog 9 = true := by kernel_rfl
theorem ca_10 : callable Try.prog 10 = true := by kernel_rfl
theorem ca_11 : callable Try.prog 11 = true := by kernel_rfl
theorem ca_12 : callable Try.prog 12 = true := by kernel_rfl
theorem ca_13 : callable Try.prog 13 = true := by kernel_rfl
theorem ca_14 : callable Try.prog 14 = true := by kernel_rfl
theorem ca_15 : callable Try.prog 15 = true := by kernel_rfl
theorem ca_16 : callable Try.prog 16 = true := by kernel_rfl
theorem ca_17 : callable Try.prog 17 = true := by kernel_rfl
theorem ca_18 : callable Try.prog 18 = true := by kernel_rfl
theorem ca_19 : callable Try.prog 19 = true := by kernel_rfl
theorem ca_20 : callable Try.prog 20 = true := by kernel_rfl
theorem ca_21 : callable Try.prog 21 = true := by kernel_rfl
theorem ca_22 : callable Try.prog 22 = true := by kernel_rfl
theorem ca_23 : callable Try.prog 23 = true := by kernel_rfl
theorem ca_24 : callable Try.prog 24 = true := by kernel_rfl
theorem ca_25 : callable Try.prog 25 = true := by kernel_rfl
theorem ca_26 : callable Try.prog 26 = true := by kernel_rfl
theorem ca_27 : callable Try.prog 27 = true := by kernel_rfl
theorem ca_28 : callable Try.prog 28 = true := by kernel_rfl
theorem ca_29 : callable Try.prog 29 = true := by kernel_rfl
theorem ca_30 : callable Try.prog 30 = true := by kernel_rfl
theorem ca_31 : callable Try.prog 31 = true := by kernel_rfl
theorem ca_32 : callable Try.prog 32 = true := by kernel_rfl
theorem ca_33 : callable Try.prog 33 = true := by kernel_rfl
theorem ca_34 : callable Try.prog 34 = true := by kernel_rfl
theorem ca_35 : callable Try.prog 35 = true := by kernel_rfl
theorem ca_36 : callable Try.prog 36 = true := by kernel_rfl
theorem ca_37 : callable Try.prog 37 = true := by kernel_rfl
theorem ca_38 : callable Try.prog 38 = true := by kernel_rfl
theorem ca_39 : callable Try.prog 39 = true := by kernel_rfl
theorem ca_40 : callable Try.prog 40 = true := by kernel_rfl
theorem ca_41 : callable Try.prog 41 = true := by kernel_rfl
theorem ca_42 : callable Try.prog 42 = true := by kernel_rfl
theorem ca_43 : callable Try.prog 43 = true := by kernel_rfl
theorem ca_44 : callable Try.prog 44 = true := by kernel_rfl
theorem ca_45 : callable Try.prog 45 = true := by kernel_rfl
theorem ca_46 : callable Try.prog 46 = true := by kernel_rfl
theorem ca_47 : callable Try.prog 47 = true := by kernel_rfl
theorem ca_48 : callable Try.prog 48 = true := by kernel_rfl
theorem ca_49 : callable Try.prog 49 = true := by kernel_rfl
theorem ca_50 : callable Try.prog 50 = true := by kernel_rfl
theorem ca_51 : callable Try.prog 51 = true := by kernel_rfl
theorem ca_52 : callable Try.prog 52 = true := by kernel_rfl
theorem ca_53 : callable Try.prog 53 = true := by kernel_rfl
theorem ca_54 : callable Try.prog 54 = true := by kernel_rfl
theorem ca_55 : callable Try.prog 55 = true := by kernel_rfl
theorem ca_56 : callable Try.prog 56 = true := by kernel_rfl
theorem ca_57 : callable Try.prog 57 = true := by kernel_rfl
theorem ca_58 : callable Try.prog 58 = true := by kernel_rfl
theorem ca_59 : callable Try.prog 59 = true := by kernel_rfl
theorem ca_60 : callable Try.prog 60 = true := by kernel_rfl
theorem ca_61 : callable Try.prog 61 = true := by kernel_rfl
theorem ca_62 : callable Try.prog 62 = true := by kernel_rfl
theorem ca_63 : callable Try.prog 63 = true := by kernel_rfl
theorem ca_64 : callable Try.prog 64 = true := by kernel_rfl
theorem ca_65 : callable Try.prog 65 = true := by kernel_rfl
theorem ca_66 : callable Try.prog 66 = true := by kernel_rfl
theorem ca_67 : callable Try.prog 67 = true := by kernel_rfl
theorem ca_68 : callable Try.prog 68 = true := by kernel_rfl
theorem ca_69 : callable Try.prog 69 = true := by kernel_rfl
theorem ca_70 : callable Try.prog 70 = true := by kernel_rfl
theorem ca_71 : callable Try.prog 71 = true := by kernel_rfl
theorem ca_72 : callable Try.prog 72 = true := by kernel_rfl
theorem ca_73 : callable Try.prog 73 = true := by kernel_rfl
theorem ca_74 : callable Try.prog 74 = true := by kernel_rfl
theorem ca_75 : callable Try.prog 75 = true := by kernel_rfl
theorem ca_76 : callable Try.prog 76 = true := by kernel_rfl
theorem ca_77 : callable Try.prog 77 = true := by kernel_rfl
theorem ca_78 : callable Try.prog 78 = true := by kernel_rfl
theorem ca_79 : callable Try.prog 79 = true := by kernel_rfl
theorem ca_80 : callable Try.prog 80 = true := by kernel_rfl
theorem ca_81 : callable Try.prog 81 = true := by kernel_rfl
theorem ca_82 : callable Try.prog 82 = true := by kernel_rfl
theorem ca_83 : callable Try.prog 83 = true := by kernel_rfl
theorem ca_84 : callable Try.prog 84 = true := by kernel_rfl
theorem ca_85 : callable Try.prog 85 = true := by kernel_rfl
theorem ca_86 : callable Try.prog 86 = true := by kernel_rfl
theorem ca_87 : callable Try.prog 87 = true := by kernel_rfl
theorem ca_88 : callable Try.prog 88 = true := by kernel_rfl
theorem ca_89 : callable Try.prog 89 = true := by kernel_rfl
theorem ca_90 : callable Try.prog 90 = true := by kernel_rfl
theorem ca_91 : callable Try.prog 91 = true := by kernel_rfl
theorem ca_92 : callable Try.prog 92 = true := by kernel_rfl
theorem ca_93 : callable Try.prog 93 = true := by kernel_rfl
theorem ca_94 : callable Try.prog 94 = true := by kernel_rfl
theorem ca_95 : callable Try.prog 95 = true := by kernel_rfl
theorem ca_96 : callable Try.prog 96 = true := by kernel_rfl
theorem ca_97 : callable Try.prog 97 = true := by kernel_rfl
theorem ca_98 : callable Try.prog 98 = true := by kernel_rfl
theorem ca_99 : callable Try.prog 99 = true := by kernel_rfl
theorem ca_100 : callable Try.prog 100 = true := by kernel_rfl
theorem ca_101 : callable Try.prog 101 = true := by kernel_rfl
theorem ca_102 : callable Try.prog 102 = true := by kernel_rfl
theorem ca_103 : callable Try.prog 103 = true := by kernel_rfl
theorem ca_104 : callable Try.prog 104 = true := by kernel_rfl
theorem ca_105 : callable Try.prog 105 = true := by kernel_rfl
theorem ca_106 : callable Try.prog 106 = true := by kernel_rfl
theorem ca_107 : callable Try.prog 107 = true := by kernel_rfl
theorem ca_108 : callable Try.prog 108 = true := by kernel_rfl
theorem ca_109 : callable Try.prog 109 = true := by kernel_rfl
theorem ca_110 : callable Try.prog 110 = true := by kernel_rfl
theorem ca_111 : callable Try.prog 111 = true := by kernel_rfl
theorem ca_112 : callable Try.prog 112 = true := by kernel_rfl
theorem ca_113 : callable Try.prog 113 = true := by kernel_rfl
theorem ca_114 : callable Try.prog 114 = true := by kernel_rfl
theorem ca_115 : callable Try.prog 115 = true := by kernel_rfl
theorem ca_116 : callable Try.prog 116 = true := by kernel_rfl
theorem ca_117 : callable Try.prog 117 = true := by kernel_rfl
theorem ca_118 : callable Try.prog 118 = true := by kernel_rfl
theorem ca_119 : callable Try.prog 119 = true := by kernel_rfl
theorem ca_120 : callable Try.prog 120 = true := by kernel_rfl
theorem mixed : Try.prog.follows .mixedOrders = true := by kernel_rfl

end Go.Proofs.Ytpcnpmeimemeaaa.E
