/- What the program says of its types and functions: closed facts, by program. -/
import Derived.Test.YtlodlnbhjghjoaaGreatF2
import Derived.Test.YtlodlnbhjghjoaaGreatProg
namespace Go.Proofs.YtlodlnbhjghjoaaGreat.E
open Go Go.Proofs

theorem ty_3:tyIs Tryz.prog 3=some (false,1):=by kernel_rfl
theorem by_3:(Tryz.prog.info? 3).map (·.bytes)=some 8:=by kernel_rfl
theorem za_3:zav Tryz.prog 3=some [.sc (.int .i64 0)]:=by kernel_rfl
theorem bo_4:Tryz.prog.underlying 4=some .bool:=by kernel_rfl
theorem ty_5:tyIs Tryz.prog 5=some (false,1):=by kernel_rfl
theorem ty_22:tyIs Tryz.prog 22=some (false,1):=by kernel_rfl
theorem sl_22:isSlice Tryz.prog 22=some 3:=by kernel_rfl
theorem ty_47:tyIs Tryz.prog 47=some (false,1):=by kernel_rfl
theorem sl_47:isSlice Tryz.prog 47=some 151:=by kernel_rfl
theorem ty_49:tyIs Tryz.prog 49=some (true,3):=by kernel_rfl
theorem za_49:zav Tryz.prog 49=some [.sc (.slice none 0 0),.sc (.slice none 0 0),.sc (.slice none 0 0)]:=by kernel_rfl
theorem fo_49_0:fofs Tryz.prog 49 0=some 0:=by kernel_rfl
theorem fo_49_1:fofs Tryz.prog 49 1=some 1:=by kernel_rfl
theorem fo_49_2:fofs Tryz.prog 49 2=some 2:=by kernel_rfl
theorem bd_49:bld Tryz.prog 49=some ([(.slice none 0 0),(.slice none 0 0),(.slice none 0 0)],[(0,1),(1,1),(2,1)]):=by kernel_rfl
theorem ty_53:tyIs Tryz.prog 53=some (true,2):=by kernel_rfl
theorem za_53:zav Tryz.prog 53=some [.sc (.int .i64 0),.sc (.int .i64 0)]:=by kernel_rfl
theorem fo_53_0:fofs Tryz.prog 53 0=some 0:=by kernel_rfl
theorem fo_53_1:fofs Tryz.prog 53 1=some 1:=by kernel_rfl
theorem bd_53:bld Tryz.prog 53=some ([(.int .i64 0),(.int .i64 0)],[(0,1),(1,1)]):=by kernel_rfl
theorem ty_59:tyIs Tryz.prog 59=some (false,1):=by kernel_rfl
theorem sl_59:isSlice Tryz.prog 59=some 5:=by kernel_rfl
theorem ty_151:tyIs Tryz.prog 151=some (true,2):=by kernel_rfl
theorem by_151:(Tryz.prog.info? 151).map (·.bytes)=some 16:=by kernel_rfl
theorem za_151:zav Tryz.prog 151=some [.sc (.int .i64 0),.sc (.int .i64 0)]:=by kernel_rfl
theorem fo_151_0:fofs Tryz.prog 151 0=some 0:=by kernel_rfl
theorem fo_151_1:fofs Tryz.prog 151 1=some 1:=by kernel_rfl
theorem se_151:intStruct Tryz.prog 151=true:=by kernel_rfl
theorem fd_151:(Tryz.prog.fieldsOf 151).size=2:=by kernel_rfl
theorem bd_151:bld Tryz.prog 151=some ([(.int .i64 0),(.int .i64 0)],[(0,1),(1,1)]):=by kernel_rfl
theorem sl_156:isSlice Tryz.prog 156=some 229:=by kernel_rfl
theorem sl_173:isSlice Tryz.prog 173=some 175:=by kernel_rfl
theorem ty_175:tyIs Tryz.prog 175=some (true,2):=by kernel_rfl
theorem by_175:(Tryz.prog.info? 175).map (·.bytes)=some 16:=by kernel_rfl
theorem za_175:zav Tryz.prog 175=some [.sc (.int .i64 0),.sc (.int .i64 0)]:=by kernel_rfl
theorem ar_175:isArr Tryz.prog 175=some (2,3):=by kernel_rfl
theorem bd_175:bld Tryz.prog 175=some ([(.int .i64 0),(.int .i64 0)],[(0,1),(1,1)]):=by kernel_rfl
theorem fo_190_0:fofs Tryz.prog 190 0=some 0:=by kernel_rfl
theorem fo_190_1:fofs Tryz.prog 190 1=some 1:=by kernel_rfl
theorem fo_190_2:fofs Tryz.prog 190 2=some 2:=by kernel_rfl
theorem bd_190:bld Tryz.prog 190=some ([(.slice none 0 0),(.int .i64 0),(.int .i64 0)],[(0,1),(1,1),(2,1)]):=by kernel_rfl
theorem sl_212:isSlice Tryz.prog 212=some 216:=by kernel_rfl
theorem ty_216:tyIs Tryz.prog 216=some (true,2):=by kernel_rfl
theorem by_216:(Tryz.prog.info? 216).map (·.bytes)=some 16:=by kernel_rfl
theorem za_216:zav Tryz.prog 216=some [.sc (.int .i64 0),.sc (.int .i64 0)]:=by kernel_rfl
theorem fo_216_0:fofs Tryz.prog 216 0=some 0:=by kernel_rfl
theorem fo_216_1:fofs Tryz.prog 216 1=some 1:=by kernel_rfl
theorem bd_216:bld Tryz.prog 216=some ([(.int .i64 0),(.int .i64 0)],[(0,1),(1,1)]):=by kernel_rfl
theorem ty_229:tyIs Tryz.prog 229=some (true,2):=by kernel_rfl
theorem by_229:(Tryz.prog.info? 229).map (·.bytes)=some 16:=by kernel_rfl
theorem za_229:zav Tryz.prog 229=some [.sc (.int .i64 0),.sc (.int .i64 0)]:=by kernel_rfl
theorem fo_229_0:fofs Tryz.prog 229 0=some 0:=by kernel_rfl
theorem fo_229_1:fofs Tryz.prog 229 1=some 1:=by kernel_rfl
theorem bd_229:bld Tryz.prog 229=some ([(.int .i64 0),(.int .i64 0)],[(0,1),(1,1)]):=by kernel_rfl
theorem ca_35:callable Tryz.prog 35=true:=by kernel_rfl
theorem ca_37:callable Tryz.prog 37=true:=by kernel_rfl
theorem ca_38:callable Tryz.prog 38=true:=by kernel_rfl
theorem ca_39:callable Tryz.prog 39=true:=by kernel_rfl
theorem ca_41:callable Tryz.prog 41=true:=by kernel_rfl
theorem ca_46:callable Tryz.prog 46=true:=by kernel_rfl
theorem ca_48:callable Tryz.prog 48=true:=by kernel_rfl
theorem ca_59:callable Tryz.prog 59=true:=by kernel_rfl
theorem ca_73:callable Tryz.prog 73=true:=by kernel_rfl
theorem ca_77:callable Tryz.prog 77=true:=by kernel_rfl
theorem ca_78:callable Tryz.prog 78=true:=by kernel_rfl
theorem ca_79:callable Tryz.prog 79=true:=by kernel_rfl
theorem ca_80:callable Tryz.prog 80=true:=by kernel_rfl
theorem ca_81:callable Tryz.prog 81=true:=by kernel_rfl
theorem ca_82:callable Tryz.prog 82=true:=by kernel_rfl
theorem ca_83:callable Tryz.prog 83=true:=by kernel_rfl
theorem ca_84:callable Tryz.prog 84=true:=by kernel_rfl
theorem ca_85:callable Tryz.prog 85=true:=by kernel_rfl
theorem ca_86:callable Tryz.prog 86=true:=by kernel_rfl
theorem ca_87:callable Tryz.prog 87=true:=by kernel_rfl
theorem ca_88:callable Tryz.prog 88=true:=by kernel_rfl
theorem ca_89:callable Tryz.prog 89=true:=by kernel_rfl
theorem ca_99:callable Tryz.prog 99=true:=by kernel_rfl
theorem ca_100:callable Tryz.prog 100=true:=by kernel_rfl
theorem ca_103:callable Tryz.prog 103=true:=by kernel_rfl
theorem ca_104:callable Tryz.prog 104=true:=by kernel_rfl
theorem ca_110:callable Tryz.prog 110=true:=by kernel_rfl
theorem ca_111:callable Tryz.prog 111=true:=by kernel_rfl
theorem ca_113:callable Tryz.prog 113=true:=by kernel_rfl
theorem ca_114:callable Tryz.prog 114=true:=by kernel_rfl
theorem ca_115:callable Tryz.prog 115=true:=by kernel_rfl
theorem ca_116:callable Tryz.prog 116=true:=by kernel_rfl
theorem ca_117:callable Tryz.prog 117=true:=by kernel_rfl
theorem ca_118:callable Tryz.prog 118=true:=by kernel_rfl
theorem ca_119:callable Tryz.prog 119=true:=by kernel_rfl
theorem ca_120:callable Tryz.prog 120=true:=by kernel_rfl
theorem ca_123:callable Tryz.prog 123=true:=by kernel_rfl
theorem ca_124:callable Tryz.prog 124=true:=by kernel_rfl
theorem ca_125:callable Tryz.prog 125=true:=by kernel_rfl
theorem ca_132:callable Tryz.prog 132=true:=by kernel_rfl
theorem ca_133:callable Tryz.prog 133=true:=by kernel_rfl
theorem ca_134:callable Tryz.prog 134=true:=by kernel_rfl
theorem ca_159:callable Tryz.prog 159=true:=by kernel_rfl
theorem ca_160:callable Tryz.prog 160=true:=by kernel_rfl
theorem ca_161:callable Tryz.prog 161=true:=by kernel_rfl
theorem ca_162:callable Tryz.prog 162=true:=by kernel_rfl
theorem ca_163:callable Tryz.prog 163=true:=by kernel_rfl
theorem ca_164:callable Tryz.prog 164=true:=by kernel_rfl
theorem ca_165:callable Tryz.prog 165=true:=by kernel_rfl
theorem ca_166:callable Tryz.prog 166=true:=by kernel_rfl
theorem ca_167:callable Tryz.prog 167=true:=by kernel_rfl
theorem ca_168:callable Tryz.prog 168=true:=by kernel_rfl
theorem ca_169:callable Tryz.prog 169=true:=by kernel_rfl
theorem ca_170:callable Tryz.prog 170=true:=by kernel_rfl
theorem ca_171:callable Tryz.prog 171=true:=by kernel_rfl
theorem ca_172:callable Tryz.prog 172=true:=by kernel_rfl
theorem ca_178:callable Tryz.prog 178=true:=by kernel_rfl
theorem ca_179:callable Tryz.prog 179=true:=by kernel_rfl
theorem ca_182:callable Tryz.prog 182=true:=by kernel_rfl
theorem ca_183:callable Tryz.prog 183=true:=by kernel_rfl
theorem ca_185:callable Tryz.prog 185=true:=by kernel_rfl
theorem ca_186:callable Tryz.prog 186=true:=by kernel_rfl
theorem ca_189:callable Tryz.prog 189=true:=by kernel_rfl
theorem ca_190:callable Tryz.prog 190=true:=by kernel_rfl
theorem ca_191:callable Tryz.prog 191=true:=by kernel_rfl
theorem ca_193:callable Tryz.prog 193=true:=by kernel_rfl
theorem ca_194:callable Tryz.prog 194=true:=by kernel_rfl
theorem ca_195:callable Tryz.prog 195=true:=by kernel_rfl
theorem ca_196:callable Tryz.prog 196=true:=by kernel_rfl
theorem ca_207:callable Tryz.prog 207=true:=by kernel_rfl
theorem ca_208:callable Tryz.prog 208=true:=by kernel_rfl
theorem ca_209:callable Tryz.prog 209=true:=by kernel_rfl
theorem ca_210:callable Tryz.prog 210=true:=by kernel_rfl
theorem ca_211:callable Tryz.prog 211=true:=by kernel_rfl
theorem ca_212:callable Tryz.prog 212=true:=by kernel_rfl
theorem ca_217:callable Tryz.prog 217=true:=by kernel_rfl
theorem ca_218:callable Tryz.prog 218=true:=by kernel_rfl
theorem ca_221:callable Tryz.prog 221=true:=by kernel_rfl
theorem ca_222:callable Tryz.prog 222=true:=by kernel_rfl
theorem ca_223:callable Tryz.prog 223=true:=by kernel_rfl
theorem ca_224:callable Tryz.prog 224=true:=by kernel_rfl
theorem ca_225:callable Tryz.prog 225=true:=by kernel_rfl
theorem ca_229:callable Tryz.prog 229=true:=by kernel_rfl
theorem ca_230:callable Tryz.prog 230=true:=by kernel_rfl
theorem ca_231:callable Tryz.prog 231=true:=by kernel_rfl
theorem ca_232:callable Tryz.prog 232=true:=by kernel_rfl
theorem ca_233:callable Tryz.prog 233=true:=by kernel_rfl
theorem ca_256:callable Tryz.prog 256=true:=by kernel_rfl
theorem mixed:Tryz.prog.follows .mixedOrders=true:=by kernel_rfl

end Go.Proofs.YtlodlnbhjghjoaaGreat.E
