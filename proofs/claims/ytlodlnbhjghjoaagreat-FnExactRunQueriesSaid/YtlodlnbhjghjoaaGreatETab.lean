/- What the program says of its types and functions: closed facts, by program. -/
import Derived.Test.YtlodlnbhjghjoaaGreatF2
import Derived.Test.YtlodlnbhjghjoaaGreatProg
namespace Go.Proofs.YtlodlnbhjghjoaaGreat.E
open Go Go.Proofs

theorem ty_3:tyIs Tryz.prog 3=some (false,1):=by kernel_rfl
theorem by_3:(Tryz.prog.info? 3).map (·.bytes)=some 8:=by kernel_rfl
theorem za_3:zav Tryz.prog 3=some [.sc (.int .i64 0)]:=by kernel_rfl
theorem bo_4:Tryz.prog.underlying 4=some .bool:=by kernel_rfl
theorem ty_22:tyIs Tryz.prog 22=some (false,1):=by kernel_rfl
theorem by_22:(Tryz.prog.info? 22).map (·.bytes)=some 24:=by kernel_rfl
theorem za_22:zav Tryz.prog 22=some [.sc (.slice none 0 0)]:=by kernel_rfl
theorem sl_22:isSlice Tryz.prog 22=some 3:=by kernel_rfl
theorem ty_24:tyIs Tryz.prog 24=some (true,3):=by kernel_rfl
theorem fo_24_0:fofs Tryz.prog 24 0=some 0:=by kernel_rfl
theorem fo_24_1:fofs Tryz.prog 24 1=some 1:=by kernel_rfl
theorem fo_24_2:fofs Tryz.prog 24 2=some 2:=by kernel_rfl
theorem sl_25:isSlice Tryz.prog 25=some 45:=by kernel_rfl
theorem ty_27:tyIs Tryz.prog 27=some (false,1):=by kernel_rfl
theorem za_27:zav Tryz.prog 27=some [.sc (.slice none 0 0)]:=by kernel_rfl
theorem sl_27:isSlice Tryz.prog 27=some 124:=by kernel_rfl
theorem ty_30:tyIs Tryz.prog 30=some (true,3):=by kernel_rfl
theorem za_30:zav Tryz.prog 30=some [.sc (.int .i64 0),.sc (.int .i64 0),.sc (.int .i64 0)]:=by kernel_rfl
theorem fo_30_0:fofs Tryz.prog 30 0=some 0:=by kernel_rfl
theorem fo_30_1:fofs Tryz.prog 30 1=some 1:=by kernel_rfl
theorem fo_30_2:fofs Tryz.prog 30 2=some 2:=by kernel_rfl
theorem sl_32:isSlice Tryz.prog 32=some 53:=by kernel_rfl
theorem ty_45:tyIs Tryz.prog 45=some (true,2):=by kernel_rfl
theorem fo_45_0:fofs Tryz.prog 45 0=some 0:=by kernel_rfl
theorem fo_45_1:fofs Tryz.prog 45 1=some 1:=by kernel_rfl
theorem ty_47:tyIs Tryz.prog 47=some (false,1):=by kernel_rfl
theorem sl_47:isSlice Tryz.prog 47=some 151:=by kernel_rfl
theorem ty_49:tyIs Tryz.prog 49=some (true,3):=by kernel_rfl
theorem za_49:zav Tryz.prog 49=some [.sc (.slice none 0 0),.sc (.slice none 0 0),.sc (.slice none 0 0)]:=by kernel_rfl
theorem fo_49_0:fofs Tryz.prog 49 0=some 0:=by kernel_rfl
theorem fo_49_1:fofs Tryz.prog 49 1=some 1:=by kernel_rfl
theorem fo_49_2:fofs Tryz.prog 49 2=some 2:=by kernel_rfl
theorem bd_49:bld Tryz.prog 49=some ([(.slice none 0 0),(.slice none 0 0),(.slice none 0 0)],[(0,1),(1,1),(2,1)]):=by kernel_rfl
theorem ty_53:tyIs Tryz.prog 53=some (true,2):=by kernel_rfl
theorem by_53:(Tryz.prog.info? 53).map (·.bytes)=some 16:=by kernel_rfl
theorem za_53:zav Tryz.prog 53=some [.sc (.int .i64 0),.sc (.int .i64 0)]:=by kernel_rfl
theorem fo_53_0:fofs Tryz.prog 53 0=some 0:=by kernel_rfl
theorem fo_53_1:fofs Tryz.prog 53 1=some 1:=by kernel_rfl
theorem sl_72:isSlice Tryz.prog 72=some 22:=by kernel_rfl
theorem ty_124:tyIs Tryz.prog 124=some (true,5):=by kernel_rfl
theorem by_124:(Tryz.prog.info? 124).map (·.bytes)=some 40:=by kernel_rfl
theorem za_124:zav Tryz.prog 124=some [.sc (.int .i64 0),.sc (.int .i64 0),.sc (.int .i64 0),.sc (.int .i64 0),.sc (.int .i64 0)]:=by kernel_rfl
theorem fo_124_4:fofs Tryz.prog 124 4=some 4:=by kernel_rfl
theorem bd_124:bld Tryz.prog 124=some ([(.int .i64 0),(.int .i64 0),(.int .i64 0),(.int .i64 0),(.int .i64 0)],[(0,1),(1,1),(2,1),(3,1),(4,1)]):=by kernel_rfl
theorem ty_151:tyIs Tryz.prog 151=some (true,2):=by kernel_rfl
theorem by_151:(Tryz.prog.info? 151).map (·.bytes)=some 16:=by kernel_rfl
theorem za_151:zav Tryz.prog 151=some [.sc (.int .i64 0),.sc (.int .i64 0)]:=by kernel_rfl
theorem fo_151_0:fofs Tryz.prog 151 0=some 0:=by kernel_rfl
theorem fo_151_1:fofs Tryz.prog 151 1=some 1:=by kernel_rfl
theorem bd_151:bld Tryz.prog 151=some ([(.int .i64 0),(.int .i64 0)],[(0,1),(1,1)]):=by kernel_rfl
theorem sl_156:isSlice Tryz.prog 156=some 229:=by kernel_rfl
theorem ty_229:tyIs Tryz.prog 229=some (true,2):=by kernel_rfl
theorem by_229:(Tryz.prog.info? 229).map (·.bytes)=some 16:=by kernel_rfl
theorem za_229:zav Tryz.prog 229=some [.sc (.int .i64 0),.sc (.int .i64 0)]:=by kernel_rfl
theorem fo_229_0:fofs Tryz.prog 229 0=some 0:=by kernel_rfl
theorem fo_229_1:fofs Tryz.prog 229 1=some 1:=by kernel_rfl
theorem bd_229:bld Tryz.prog 229=some ([(.int .i64 0),(.int .i64 0)],[(0,1),(1,1)]):=by kernel_rfl
theorem ca_12:callable Tryz.prog 12=true:=by kernel_rfl
theorem ca_14:callable Tryz.prog 14=true:=by kernel_rfl
theorem ca_15:callable Tryz.prog 15=true:=by kernel_rfl
theorem ca_16:callable Tryz.prog 16=true:=by kernel_rfl
theorem ca_19:callable Tryz.prog 19=true:=by kernel_rfl
theorem ca_20:callable Tryz.prog 20=true:=by kernel_rfl
theorem ca_21:callable Tryz.prog 21=true:=by kernel_rfl
theorem ca_22:callable Tryz.prog 22=true:=by kernel_rfl
theorem ca_26:callable Tryz.prog 26=true:=by kernel_rfl
theorem ca_28:callable Tryz.prog 28=true:=by kernel_rfl
theorem ca_30:callable Tryz.prog 30=true:=by kernel_rfl
theorem ca_32:callable Tryz.prog 32=true:=by kernel_rfl
theorem ca_33:callable Tryz.prog 33=true:=by kernel_rfl
theorem ca_34:callable Tryz.prog 34=true:=by kernel_rfl
theorem ca_39:callable Tryz.prog 39=true:=by kernel_rfl
theorem ca_40:callable Tryz.prog 40=true:=by kernel_rfl
theorem ca_41:callable Tryz.prog 41=true:=by kernel_rfl
theorem ca_44:callable Tryz.prog 44=true:=by kernel_rfl
theorem ca_46:callable Tryz.prog 46=true:=by kernel_rfl
theorem ca_47:callable Tryz.prog 47=true:=by kernel_rfl
theorem ca_51:callable Tryz.prog 51=true:=by kernel_rfl
theorem ca_52:callable Tryz.prog 52=true:=by kernel_rfl
theorem ca_53:callable Tryz.prog 53=true:=by kernel_rfl
theorem ca_54:callable Tryz.prog 54=true:=by kernel_rfl
theorem ca_55:callable Tryz.prog 55=true:=by kernel_rfl
theorem ca_59:callable Tryz.prog 59=true:=by kernel_rfl
theorem ca_80:callable Tryz.prog 80=true:=by kernel_rfl
theorem ca_89:callable Tryz.prog 89=true:=by kernel_rfl
theorem ca_90:callable Tryz.prog 90=true:=by kernel_rfl
theorem ca_91:callable Tryz.prog 91=true:=by kernel_rfl
theorem ca_92:callable Tryz.prog 92=true:=by kernel_rfl
theorem ca_93:callable Tryz.prog 93=true:=by kernel_rfl
theorem ca_96:callable Tryz.prog 96=true:=by kernel_rfl
theorem ca_99:callable Tryz.prog 99=true:=by kernel_rfl
theorem ca_100:callable Tryz.prog 100=true:=by kernel_rfl
theorem ca_101:callable Tryz.prog 101=true:=by kernel_rfl
theorem ca_103:callable Tryz.prog 103=true:=by kernel_rfl
theorem ca_104:callable Tryz.prog 104=true:=by kernel_rfl
theorem ca_105:callable Tryz.prog 105=true:=by kernel_rfl
theorem ca_107:callable Tryz.prog 107=true:=by kernel_rfl
theorem ca_108:callable Tryz.prog 108=true:=by kernel_rfl
theorem ca_109:callable Tryz.prog 109=true:=by kernel_rfl
theorem ca_116:callable Tryz.prog 116=true:=by kernel_rfl
theorem ca_117:callable Tryz.prog 117=true:=by kernel_rfl
theorem ca_118:callable Tryz.prog 118=true:=by kernel_rfl
theorem ca_120:callable Tryz.prog 120=true:=by kernel_rfl
theorem ca_121:callable Tryz.prog 121=true:=by kernel_rfl
theorem ca_122:callable Tryz.prog 122=true:=by kernel_rfl
theorem ca_123:callable Tryz.prog 123=true:=by kernel_rfl
theorem ca_124:callable Tryz.prog 124=true:=by kernel_rfl
theorem ca_125:callable Tryz.prog 125=true:=by kernel_rfl
theorem ca_129:callable Tryz.prog 129=true:=by kernel_rfl
theorem ca_131:callable Tryz.prog 131=true:=by kernel_rfl
theorem ca_132:callable Tryz.prog 132=true:=by kernel_rfl
theorem ca_133:callable Tryz.prog 133=true:=by kernel_rfl
theorem ca_134:callable Tryz.prog 134=true:=by kernel_rfl
theorem ca_158:callable Tryz.prog 158=true:=by kernel_rfl
theorem ca_162:callable Tryz.prog 162=true:=by kernel_rfl
theorem ca_166:callable Tryz.prog 166=true:=by kernel_rfl
theorem ca_172:callable Tryz.prog 172=true:=by kernel_rfl
theorem ca_173:callable Tryz.prog 173=true:=by kernel_rfl
theorem ca_174:callable Tryz.prog 174=true:=by kernel_rfl
theorem ca_175:callable Tryz.prog 175=true:=by kernel_rfl
theorem ca_176:callable Tryz.prog 176=true:=by kernel_rfl
theorem ca_178:callable Tryz.prog 178=true:=by kernel_rfl
theorem ca_179:callable Tryz.prog 179=true:=by kernel_rfl
theorem ca_180:callable Tryz.prog 180=true:=by kernel_rfl
theorem ca_181:callable Tryz.prog 181=true:=by kernel_rfl
theorem ca_187:callable Tryz.prog 187=true:=by kernel_rfl
theorem ca_188:callable Tryz.prog 188=true:=by kernel_rfl
theorem ca_189:callable Tryz.prog 189=true:=by kernel_rfl
theorem ca_190:callable Tryz.prog 190=true:=by kernel_rfl
theorem ca_191:callable Tryz.prog 191=true:=by kernel_rfl
theorem ca_194:callable Tryz.prog 194=true:=by kernel_rfl
theorem ca_195:callable Tryz.prog 195=true:=by kernel_rfl
theorem ca_196:callable Tryz.prog 196=true:=by kernel_rfl
theorem ca_206:callable Tryz.prog 206=true:=by kernel_rfl
theorem ca_210:callable Tryz.prog 210=true:=by kernel_rfl
theorem ca_212:callable Tryz.prog 212=true:=by kernel_rfl
theorem ca_213:callable Tryz.prog 213=true:=by kernel_rfl
theorem ca_214:callable Tryz.prog 214=true:=by kernel_rfl
theorem ca_215:callable Tryz.prog 215=true:=by kernel_rfl
theorem ca_216:callable Tryz.prog 216=true:=by kernel_rfl
theorem ca_219:callable Tryz.prog 219=true:=by kernel_rfl
theorem ca_220:callable Tryz.prog 220=true:=by kernel_rfl
theorem ca_221:callable Tryz.prog 221=true:=by kernel_rfl
theorem ca_222:callable Tryz.prog 222=true:=by kernel_rfl
theorem ca_223:callable Tryz.prog 223=true:=by kernel_rfl
theorem ca_224:callable Tryz.prog 224=true:=by kernel_rfl
theorem ca_225:callable Tryz.prog 225=true:=by kernel_rfl
theorem ca_231:callable Tryz.prog 231=true:=by kernel_rfl
theorem ca_232:callable Tryz.prog 232=true:=by kernel_rfl
theorem ca_233:callable Tryz.prog 233=true:=by kernel_rfl
theorem ca_234:callable Tryz.prog 234=true:=by kernel_rfl
theorem mixed:Tryz.prog.follows .mixedOrders=true:=by kernel_rfl

end Go.Proofs.YtlodlnbhjghjoaaGreat.E
