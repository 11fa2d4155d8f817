/- What the program says of its types and functions: closed facts, by program. -/
import Derived.Test.YtcepgfcolmdnoaaF2
import Derived.Test.YtcepgfcolmdnoaaProg
namespace Go.Proofs.Ytcepgfcolmdnoaa.E
open Go Go.Proofs

theorem ty_3 : tyIs Try.prog 3 = some (false, 1) := by kernel_rfl
theorem by_3 : (Try.prog.info? 3).map (·.bytes) = some 8 := by kernel_rfl
theorem za_3 : zav Try.prog 3 = some [.sc (.int .i64 0)] := by kernel_rfl
theorem bo_4 : Try.prog.underlying 4 = some .bool := by kernel_rfl
theorem ty_24 : tyIs Try.prog 24 = some (false, 1) := by kernel_rfl
theorem sl_24 : isSlice Try.prog 24 = some 3 := by kernel_rfl
theorem ty_25 : tyIs Try.prog 25 = some (false, 1) := by kernel_rfl
theorem sl_25 : isSlice Try.prog 25 = some 129 := by kernel_rfl
theorem ty_27 : tyIs Try.prog 27 = some (true, 3) := by kernel_rfl
theorem za_27 : zav Try.prog 27 = some [.sc (.slice none 0 0), .sc (.slice none 0 0), .sc (.slice none 0 0)] := by kernel_rfl
theorem fo_27_0 : fofs Try.prog 27 0 = some 0 := by kernel_rfl
theorem fo_27_1 : fofs Try.prog 27 1 = some 1 := by kernel_rfl
theorem fo_27_2 : fofs Try.prog 27 2 = some 2 := by kernel_rfl
theorem bd_27 : bld Try.prog 27 = some ([(.slice none 0 0), (.slice none 0 0), (.slice none 0 0)], [(0, 1), (1, 1), (2, 1)]) := by kernel_rfl
theorem sl_35 : isSlice Try.prog 35 = some 119 := by kernel_rfl
theorem ty_88 : tyIs Try.prog 88 = some (false, 1) := by kernel_rfl
theorem sl_88 : isSlice Try.prog 88 = some 193 := by kernel_rfl
theorem ty_90 : tyIs Try.prog 90 = some (true, 3) := by kernel_rfl
theorem fo_90_0 : fofs Try.prog 90 0 = some 0 := by kernel_rfl
theorem fo_90_1 : fofs Try.prog 90 1 = some 1 := by kernel_rfl
theorem fo_90_2 : fofs Try.prog 90 2 = some 2 := by kernel_rfl
theorem ty_92 : tyIs Try.prog 92 = some (true, 3) := by kernel_rfl
theorem fo_92_0 : fofs Try.prog 92 0 = some 0 := by kernel_rfl
theorem fo_92_1 : fofs Try.prog 92 1 = some 1 := by kernel_rfl
theorem fo_92_2 : fofs Try.prog 92 2 = some 2 := by kernel_rfl
theorem ty_94 : tyIs Try.prog 94 = some (true, 3) := by kernel_rfl
theorem za_94 : zav Try.prog 94 = some [.sc (.int .i64 0), .sc (.int .i64 0), .sc (.int .i64 0)] := by kernel_rfl
theorem fo_94_0 : fofs Try.prog 94 0 = some 0 := by kernel_rfl
theorem fo_94_1 : fofs Try.prog 94 1 = some 1 := by kernel_rfl
theorem fo_94_2 : fofs Try.prog 94 2 = some 2 := by kernel_rfl
theorem ty_119 : tyIs Try.prog 119 = some (true, 2) := by kernel_rfl
theorem by_119 : (Try.prog.info? 119).map (·.bytes) = some 16 := by kernel_rfl
theorem za_119 : zav Try.prog 119 = some [.sc (.int .i64 0), .sc (.int .i64 0)] := by kernel_rfl
theorem fo_119_0 : fofs Try.prog 119 0 = some 0 := by kernel_rfl
theorem fo_119_1 : fofs Try.prog 119 1 = some 1 := by kernel_rfl
theorem bd_119 : bld Try.prog 119 = some ([(.int .i64 0), (.int .i64 0)], [(0, 1), (1, 1)]) := by kernel_rfl
theorem ty_129 : tyIs Try.prog 129 = some (true, 2) := by kernel_rfl
theorem by_129 : (Try.prog.info? 129).map (·.bytes) = some 16 := by kernel_rfl
theorem za_129 : zav Try.prog 129 = some [.sc (.int .i64 0), .sc (.int .i64 0)] := by kernel_rfl
theorem fo_129_0 : fofs Try.prog 129 0 = some 0 := by kernel_rfl
theorem fo_129_1 : fofs Try.prog 129 1 = some 1 := by kernel_rfl
theorem bd_129 : bld Try.prog 129 = some ([(.int .i64 0), (.int .i64 0)], [(0, 1), (1, 1)]) := by kernel_rfl
theorem ty_157 : tyIs Try.prog 157 = some (false, 1) := by kernel_rfl
theorem za_157 : zav Try.prog 157 = some [.sc (.slice none 0 0)] := by kernel_rfl
theorem sl_157 : isSlice Try.prog 157 = some 191 := by kernel_rfl
theorem ty_191 : tyIs Try.prog 191 = some (true, 5) := by kernel_rfl
theorem by_191 : (Try.prog.info? 191).map (·.bytes) = some 40 := by kernel_rfl
theorem za_191 : zav Try.prog 191 = some [.sc (.int .i64 0), .sc (.int .i64 0), .sc (.int .i64 0), .sc (.int .i64 0), .sc (.int .i64 0)] := by kernel_rfl
theorem fo_191_4 : fofs Try.prog 191 4 = some 4 := by kernel_rfl
theorem bd_191 : bld Try.prog 191 = some ([(.int .i64 0), (.int .i64 0), (.int .i64 0), (.int .i64 0), (.int .i64 0)], [(0, 1), (1, 1), (2, 1), (3, 1), (4, 1)]) := by kernel_rfl
theorem ty_193 : tyIs Try.prog 193 = some (true, 2) := by kernel_rfl
theorem fo_193_0 : fofs Try.prog 193 0 = some 0 := by kernel_rfl
theorem fo_193_1 : fofs Try.prog 193 1 = some 1 := by kernel_rfl
theorem ca_15 : callable Try.prog 15 = true := by kernel_rfl
theorem ca_21 : callable Try.prog 21 = true := by kernel_rfl
theorem ca_23 : callable Try.prog 23 = true := by kernel_rfl
theorem ca_28 : callable Try.prog 28 = true := by kernel_rfl
theorem ca_54 : callable Try.prog 54 = true := by kernel_rfl
theorem ca_59 : callable Try.prog 59 = true := by kernel_rfl
theorem ca_60 : callable Try.prog 60 = true := by kernel_rfl
theorem ca_61 : callable Try.prog 61 = true := by kernel_rfl
theorem ca_62 : callable Try.prog 62 = true := by kernel_rfl
theorem ca_63 : callable Try.prog 63 = true := by kernel_rfl
theorem ca_64 : callable Try.prog 64 = true := by kernel_rfl
theorem ca_65 : callable Try.prog 65 = true := by kernel_rfl
theorem ca_66 : callable Try.prog 66 = true := by kernel_rfl
theorem ca_67 : callable Try.prog 67 = true := by kernel_rfl
theorem ca_78 : callable Try.prog 78 = true := by kernel_rfl
theorem ca_81 : callable Try.prog 81 = true := by kernel_rfl
theorem ca_82 : callable Try.prog 82 = true := by kernel_rfl
theorem ca_84 : callable Try.prog 84 = true := by kernel_rfl
theorem ca_85 : callable Try.prog 85 = true := by kernel_rfl
theorem ca_86 : callable Try.prog 86 = true := by kernel_rfl
theorem ca_87 : callable Try.prog 87 = true := by kernel_rfl
theorem ca_88 : callable Try.prog 88 = true := by kernel_rfl
theorem ca_89 : callable Try.prog 89 = true := by kernel_rfl
theorem ca_91 : callable Try.prog 91 = true := by kernel_rfl
theorem ca_95 : callable Try.prog 95 = true := by kernel_rfl
theorem ca_96 : callable Try.prog 96 = true := by kernel_rfl
theorem ca_97 : callable Try.prog 97 = true := by kernel_rfl
theorem ca_98 : callable Try.prog 98 = true := by kernel_rfl
theorem ca_99 : callable Try.prog 99 = true := by kernel_rfl
theorem ca_101 : callable Try.prog 101 = true := by kernel_rfl
theorem ca_102 : callable Try.prog 102 = true := by kernel_rfl
theorem ca_103 : callable Try.prog 103 = true := by kernel_rfl
theorem ca_123 : callable Try.prog 123 = true := by kernel_rfl
theorem ca_135 : callable Try.prog 135 = true := by kernel_rfl
theorem ca_137 : callable Try.prog 137 = true := by kernel_rfl
theorem ca_138 : callable Try.prog 138 = true := by kernel_rfl
theorem ca_139 : callable Try.prog 139 = true := by kernel_rfl
theorem ca_140 : callable Try.prog 140 = true := by kernel_rfl
theorem ca_141 : callable Try.prog 141 = true := by kernel_rfl
theorem ca_142 : callable Try.prog 142 = true := by kernel_rfl
theorem ca_143 : callable Try.prog 143 = true := by kernel_rfl
theorem ca_144 : callable Try.prog 144 = true := by kernel_rfl
theorem ca_145 : callable Try.prog 145 = true := by kernel_rfl
theorem ca_146 : callable Try.prog 146 = true := by kernel_rfl
theorem ca_147 : callable Try.prog 147 = true := by kernel_rfl
theorem ca_148 : callable Try.prog 148 = true := by kernel_rfl
theorem ca_149 : callable Try.prog 149 = true := by kernel_rfl
theorem ca_150 : callable Try.prog 150 = true := by kernel_rfl
theorem ca_151 : callable Try.prog 151 = true := by kernel_rfl
theorem ca_152 : callable Try.prog 152 = true := by kernel_rfl
theorem ca_160 : callable Try.prog 160 = true := by kernel_rfl
theorem ca_163 : callable Try.prog 163 = true := by kernel_rfl
theorem ca_164 : callable Try.prog 164 = true := by kernel_rfl
theorem ca_165 : callable Try.prog 165 = true := by kernel_rfl
theorem ca_166 : callable Try.prog 166 = true := by kernel_rfl
theorem ca_167 : callable Try.prog 167 = true := by kernel_rfl
theorem ca_168 : callable Try.prog 168 = true := by kernel_rfl
theorem ca_169 : callable Try.prog 169 = true := by kernel_rfl
theorem ca_170 : callable Try.prog 170 = true := by kernel_rfl
theorem ca_171 : callable Try.prog 171 = true := by kernel_rfl
theorem ca_172 : callable Try.prog 172 = true := by kernel_rfl
theorem ca_180 : callable Try.prog 180 = true := by kernel_rfl
theorem ca_181 : callable Try.prog 181 = true := by kernel_rfl
theorem ca_182 : callable Try.prog 182 = true := by kernel_rfl
theorem ca_183 : callable Try.prog 183 = true := by kernel_rfl
theorem ca_184 : callable Try.prog 184 = true := by kernel_rfl
theorem ca_185 : callable Try.prog 185 = true := by kernel_rfl
theorem ca_186 : callable Try.prog 186 = true := by kernel_rfl
theorem ca_193 : callable Try.prog 193 = true := by kernel_rfl
theorem ca_194 : callable Try.prog 194 = true := by kernel_rfl
theorem ca_195 : callable Try.prog 195 = true := by kernel_rfl
theorem ca_196 : callable Try.prog 196 = true := by kernel_rfl
theorem ca_199 : callable Try.prog 199 = true := by kernel_rfl
theorem ca_200 : callable Try.prog 200 = true := by kernel_rfl
theorem ca_201 : callable Try.prog 201 = true := by kernel_rfl
theorem mixed : Try.prog.follows .mixedOrders = true := by kernel_rfl

end Go.Proofs.Ytcepgfcolmdnoaa.E
