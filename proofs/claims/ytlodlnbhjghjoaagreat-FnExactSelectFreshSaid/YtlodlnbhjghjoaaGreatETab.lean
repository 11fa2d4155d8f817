/- What the program says of its types and functions: closed facts, by program. -/
import Derived.Test.YtlodlnbhjghjoaaGreatF2
import Derived.Test.YtlodlnbhjghjoaaGreatProg
namespace Go.Proofs.YtlodlnbhjghjoaaGreat.E
open Go Go.Proofs

theorem ty_3 : tyIs Tryz.prog 3 = some (false, 1) := by kernel_rfl
theorem by_3 : (Tryz.prog.info? 3).map (·.bytes) = some 8 := by kernel_rfl
theorem za_3 : zav Tryz.prog 3 = some [.sc (.int .i64 0)] := by kernel_rfl
theorem bo_4 : Tryz.prog.underlying 4 = some .bool := by kernel_rfl
theorem ty_22 : tyIs Tryz.prog 22 = some (false, 1) := by kernel_rfl
theorem sl_22 : isSlice Tryz.prog 22 = some 3 := by kernel_rfl
theorem ty_41 : tyIs Tryz.prog 41 = some (false, 1) := by kernel_rfl
theorem sl_41 : isSlice Tryz.prog 41 = some 186 := by kernel_rfl
theorem ty_43 : tyIs Tryz.prog 43 = some (true, 3) := by kernel_rfl
theorem fo_43_0 : fofs Tryz.prog 43 0 = some 0 := by kernel_rfl
theorem fo_43_1 : fofs Tryz.prog 43 1 = some 1 := by kernel_rfl
theorem fo_43_2 : fofs Tryz.prog 43 2 = some 2 := by kernel_rfl
theorem ty_45 : tyIs Tryz.prog 45 = some (true, 2) := by kernel_rfl
theorem fo_45_0 : fofs Tryz.prog 45 0 = some 0 := by kernel_rfl
theorem fo_45_1 : fofs Tryz.prog 45 1 = some 1 := by kernel_rfl
theorem ty_47 : tyIs Tryz.prog 47 = some (false, 1) := by kernel_rfl
theorem sl_47 : isSlice Tryz.prog 47 = some 151 := by kernel_rfl
theorem ty_49 : tyIs Tryz.prog 49 = some (true, 3) := by kernel_rfl
theorem za_49 : zav Tryz.prog 49 = some [.sc (.slice none 0 0), .sc (.slice none 0 0), .sc (.slice none 0 0)] := by kernel_rfl
theorem fo_49_0 : fofs Tryz.prog 49 0 = some 0 := by kernel_rfl
theorem fo_49_1 : fofs Tryz.prog 49 1 = some 1 := by kernel_rfl
theorem fo_49_2 : fofs Tryz.prog 49 2 = some 2 := by kernel_rfl
theorem bd_49 : bld Tryz.prog 49 = some ([(.slice none 0 0), (.slice none 0 0), (.slice none 0 0)], [(0, 1), (1, 1), (2, 1)]) := by kernel_rfl
theorem ty_53 : tyIs Tryz.prog 53 = some (true, 2) := by kernel_rfl
theorem za_53 : zav Tryz.prog 53 = some [.sc (.int .i64 0), .sc (.int .i64 0)] := by kernel_rfl
theorem fo_53_0 : fofs Tryz.prog 53 0 = some 0 := by kernel_rfl
theorem fo_53_1 : fofs Tryz.prog 53 1 = some 1 := by kernel_rfl
theorem ty_85 : tyIs Tryz.prog 85 = some (false, 1) := by kernel_rfl
theorem sl_85 : isSlice Tryz.prog 85 = some 202 := by kernel_rfl
theorem ty_87 : tyIs Tryz.prog 87 = some (true, 2) := by kernel_rfl
theorem fo_87_0 : fofs Tryz.prog 87 0 = some 0 := by kernel_rfl
theorem fo_87_1 : fofs Tryz.prog 87 1 = some 1 := by kernel_rfl
theorem ty_89 : tyIs Tryz.prog 89 = some (false, 1) := by kernel_rfl
theorem sl_89 : isSlice Tryz.prog 89 = some 104 := by kernel_rfl
theorem ty_91 : tyIs Tryz.prog 91 = some (true, 2) := by kernel_rfl
theorem za_91 : zav Tryz.prog 91 = some [.sc (.slice none 0 0), .sc (.slice none 0 0)] := by kernel_rfl
theorem fo_91_0 : fofs Tryz.prog 91 0 = some 0 := by kernel_rfl
theorem fo_91_1 : fofs Tryz.prog 91 1 = some 1 := by kernel_rfl
theorem bd_91 : bld Tryz.prog 91 = some ([(.slice none 0 0), (.slice none 0 0)], [(0, 1), (1, 1)]) := by kernel_rfl
theorem ty_104 : tyIs Tryz.prog 104 = some (true, 2) := by kernel_rfl
theorem by_104 : (Tryz.prog.info? 104).map (·.bytes) = some 16 := by kernel_rfl
theorem za_104 : zav Tryz.prog 104 = some [.sc (.int .i64 0), .sc (.int .i64 0)] := by kernel_rfl
theorem fo_104_0 : fofs Tryz.prog 104 0 = some 0 := by kernel_rfl
theorem fo_104_1 : fofs Tryz.prog 104 1 = some 1 := by kernel_rfl
theorem ty_151 : tyIs Tryz.prog 151 = some (true, 2) := by kernel_rfl
theorem by_151 : (Tryz.prog.info? 151).map (·.bytes) = some 16 := by kernel_rfl
theorem za_151 : zav Tryz.prog 151 = some [.sc (.int .i64 0), .sc (.int .i64 0)] := by kernel_rfl
theorem fo_151_0 : fofs Tryz.prog 151 0 = some 0 := by kernel_rfl
theorem fo_151_1 : fofs Tryz.prog 151 1 = some 1 := by kernel_rfl
theorem bd_151 : bld Tryz.prog 151 = some ([(.int .i64 0), (.int .i64 0)], [(0, 1), (1, 1)]) := by kernel_rfl
theorem sl_156 : isSlice Tryz.prog 156 = some 229 := by kernel_rfl
theorem ty_186 : tyIs Tryz.prog 186 = some (true, 2) := by kernel_rfl
theorem fo_186_0 : fofs Tryz.prog 186 0 = some 0 := by kernel_rfl
theorem fo_186_1 : fofs Tryz.prog 186 1 = some 1 := by kernel_rfl
theorem ty_202 : tyIs Tryz.prog 202 = some (true, 2) := by kernel_rfl
theorem fo_202_0 : fofs Tryz.prog 202 0 = some 0 := by kernel_rfl
theorem fo_202_1 : fofs Tryz.prog 202 1 = some 1 := by kernel_rfl
theorem ty_229 : tyIs Tryz.prog 229 = some (true, 2) := by kernel_rfl
theorem by_229 : (Tryz.prog.info? 229).map (·.bytes) = some 16 := by kernel_rfl
theorem za_229 : zav Tryz.prog 229 = some [.sc (.int .i64 0), .sc (.int .i64 0)] := by kernel_rfl
theorem fo_229_0 : fofs Tryz.prog 229 0 = some 0 := by kernel_rfl
theorem fo_229_1 : fofs Tryz.prog 229 1 = some 1 := by kernel_rfl
theorem bd_229 : bld Tryz.prog 229 = some ([(.int .i64 0), (.int .i64 0)], [(0, 1), (1, 1)]) := by kernel_rfl
theorem ca_14 : callable Tryz.prog 14 = true := by kernel_rfl
theorem ca_19 : callable Tryz.prog 19 = true := by kernel_rfl
theorem ca_21 : callable Tryz.prog 21 = true := by kernel_rfl
theorem ca_25 : callable Tryz.prog 25 = true := by kernel_rfl
theorem ca_27 : callable Tryz.prog 27 = true := by kernel_rfl
theorem ca_28 : callable Tryz.prog 28 = true := by kernel_rfl
theorem ca_30 : callable Tryz.prog 30 = true := by kernel_rfl
theorem ca_32 : callable Tryz.prog 32 = true := by kernel_rfl
theorem ca_33 : callable Tryz.prog 33 = true := by kernel_rfl
theorem ca_34 : callable Tryz.prog 34 = true := by kernel_rfl
theorem ca_39 : callable Tryz.prog 39 = true := by kernel_rfl
theorem ca_41 : callable Tryz.prog 41 = true := by kernel_rfl
theorem ca_46 : callable Tryz.prog 46 = true := by kernel_rfl
theorem ca_62 : callable Tryz.prog 62 = true := by kernel_rfl
theorem ca_63 : callable Tryz.prog 63 = true := by kernel_rfl
theorem ca_64 : callable Tryz.prog 64 = true := by kernel_rfl
theorem ca_65 : callable Tryz.prog 65 = true := by kernel_rfl
theorem ca_66 : callable Tryz.prog 66 = true := by kernel_rfl
theorem ca_67 : callable Tryz.prog 67 = true := by kernel_rfl
theorem ca_68 : callable Tryz.prog 68 = true := by kernel_rfl
theorem ca_70 : callable Tryz.prog 70 = true := by kernel_rfl
theorem ca_71 : callable Tryz.prog 71 = true := by kernel_rfl
theorem ca_72 : callable Tryz.prog 72 = true := by kernel_rfl
theorem ca_73 : callable Tryz.prog 73 = true := by kernel_rfl
theorem ca_74 : callable Tryz.prog 74 = true := by kernel_rfl
theorem ca_80 : callable Tryz.prog 80 = true := by kernel_rfl
theorem ca_89 : callable Tryz.prog 89 = true := by kernel_rfl
theorem ca_97 : callable Tryz.prog 97 = true := by kernel_rfl
theorem ca_98 : callable Tryz.prog 98 = true := by kernel_rfl
theorem ca_99 : callable Tryz.prog 99 = true := by kernel_rfl
theorem ca_100 : callable Tryz.prog 100 = true := by kernel_rfl
theorem ca_101 : callable Tryz.prog 101 = true := by kernel_rfl
theorem ca_102 : callable Tryz.prog 102 = true := by kernel_rfl
theorem ca_103 : callable Tryz.prog 103 = true := by kernel_rfl
theorem ca_104 : callable Tryz.prog 104 = true := by kernel_rfl
theorem ca_107 : callable Tryz.prog 107 = true := by kernel_rfl
theorem ca_108 : callable Tryz.prog 108 = true := by kernel_rfl
theorem ca_109 : callable Tryz.prog 109 = true := by kernel_rfl
theorem ca_116 : callable Tryz.prog 116 = true := by kernel_rfl
theorem ca_117 : callable Tryz.prog 117 = true := by kernel_rfl
theorem ca_118 : callable Tryz.prog 118 = true := by kernel_rfl
theorem ca_120 : callable Tryz.prog 120 = true := by kernel_rfl
theorem ca_123 : callable Tryz.prog 123 = true := by kernel_rfl
theorem ca_124 : callable Tryz.prog 124 = true := by kernel_rfl
theorem ca_125 : callable Tryz.prog 125 = true := by kernel_rfl
theorem ca_132 : callable Tryz.prog 132 = true := by kernel_rfl
theorem ca_133 : callable Tryz.prog 133 = true := by kernel_rfl
theorem ca_134 : callable Tryz.prog 134 = true := by kernel_rfl
theorem ca_136 : callable Tryz.prog 136 = true := by kernel_rfl
theorem ca_137 : callable Tryz.prog 137 = true := by kernel_rfl
theorem ca_138 : callable Tryz.prog 138 = true := by kernel_rfl
theorem ca_139 : callable Tryz.prog 139 = true := by kernel_rfl
theorem ca_140 : callable Tryz.prog 140 = true := by kernel_rfl
theorem ca_141 : callable Tryz.prog 141 = true := by kernel_rfl
theorem ca_142 : callable Tryz.prog 142 = true := by kernel_rfl
theorem ca_143 : callable Tryz.prog 143 = true := by kernel_rfl
theorem ca_144 : callable Tryz.prog 144 = true := by kernel_rfl
theorem ca_146 : callable Tryz.prog 146 = true := by kernel_rfl
theorem ca_147 : callable Tryz.prog 147 = true := by kernel_rfl
theorem ca_148 : callable Tryz.prog 148 = true := by kernel_rfl
theorem ca_149 : callable Tryz.prog 149 = true := by kernel_rfl
theorem ca_150 : callable Tryz.prog 150 = true := by kernel_rfl
theorem ca_151 : callable Tryz.prog 151 = true := by kernel_rfl
theorem ca_152 : callable Tryz.prog 152 = true := by kernel_rfl
theorem ca_153 : callable Tryz.prog 153 = true := by kernel_rfl
theorem ca_154 : callable Tryz.prog 154 = true := by kernel_rfl
theorem ca_155 : callable Tryz.prog 155 = true := by kernel_rfl
theorem ca_156 : callable Tryz.prog 156 = true := by kernel_rfl
theorem ca_157 : callable Tryz.prog 157 = true := by kernel_rfl
theorem ca_158 : callable Tryz.prog 158 = true := by kernel_rfl
theorem ca_159 : callable Tryz.prog 159 = true := by kernel_rfl
theorem ca_162 : callable Tryz.prog 162 = true := by kernel_rfl
theorem ca_163 : callable Tryz.prog 163 = true := by kernel_rfl
theorem ca_166 : callable Tryz.prog 166 = true := by kernel_rfl
theorem ca_172 : callable Tryz.prog 172 = true := by kernel_rfl
theorem ca_177 : callable Tryz.prog 177 = true := by kernel_rfl
theorem ca_178 : callable Tryz.prog 178 = true := by kernel_rfl
theorem ca_179 : callable Tryz.prog 179 = true := by kernel_rfl
theorem ca_180 : callable Tryz.prog 180 = true := by kernel_rfl
theorem ca_181 : callable Tryz.prog 181 = true := by kernel_rfl
theorem ca_189 : callable Tryz.prog 189 = true := by kernel_rfl
theorem ca_190 : callable Tryz.prog 190 = true := by kernel_rfl
theorem ca_191 : callable Tryz.prog 191 = true := by kernel_rfl
theorem ca_194 : callable Tryz.prog 194 = true := by kernel_rfl
theorem ca_195 : callable Tryz.prog 195 = true := by kernel_rfl
theorem ca_196 : callable Tryz.prog 196 = true := by kernel_rfl
theorem ca_197 : callable Tryz.prog 197 = true := by kernel_rfl
theorem ca_198 : callable Tryz.prog 198 = true := by kernel_rfl
theorem ca_199 : callable Tryz.prog 199 = true := by kernel_rfl
theorem ca_203 : callable Tryz.prog 203 = true := by kernel_rfl
theorem ca_204 : callable Tryz.prog 204 = true := by kernel_rfl
theorem ca_205 : callable Tryz.prog 205 = true := by kernel_rfl
theorem ca_206 : callable Tryz.prog 206 = true := by kernel_rfl
theorem ca_210 : callable Tryz.prog 210 = true := by kernel_rfl
theorem ca_212 : callable Tryz.prog 212 = true := by kernel_rfl
theorem ca_221 : callable Tryz.prog 221 = true := by kernel_rfl
theorem ca_222 : callable Tryz.prog 222 = true := by kernel_rfl
theorem ca_223 : callable Tryz.prog 223 = true := by kernel_rfl
theorem ca_224 : callable Tryz.prog 224 = true := by kernel_rfl
theorem ca_225 : callable Tryz.prog 225 = true := by kernel_rfl
theorem ca_231 : callable Tryz.prog 231 = true := by kernel_rfl
theorem ca_232 : callable Tryz.prog 232 = true := by kernel_rfl
theorem ca_233 : callable Tryz.prog 233 = true := by kernel_rfl
theorem mixed : Tryz.prog.follows .mixedOrders = true := by kernel_rfl

end Go.Proofs.YtlodlnbhjghjoaaGreat.E
