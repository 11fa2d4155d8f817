/- What the program says of its types and functions: closed facts, by program. -/
import Derived.Test.YtcepgfcolmdnoaaF2
import Derived.Test.YtcepgfcolmdnoaaProg
namespace Go.Proofs.Ytcepgfcolmdnoaa.E
open Go Go.Proofs

theorem ty_3:tyIs Try.prog 3=some (false,1):=by kernel_rfl
theorem by_3:(Try.prog.info? 3).map (·.bytes)=some 8:=by kernel_rfl
theorem za_3:zav Try.prog 3=some [.sc (.int .i64 0)]:=by kernel_rfl
theorem bo_4:Try.prog.underlying 4=some .bool:=by kernel_rfl
theorem ty_24:tyIs Try.prog 24=some (false,1):=by kernel_rfl
theorem sl_24:isSlice Try.prog 24=some 3:=by kernel_rfl
theorem ty_25:tyIs Try.prog 25=some (false,1):=by kernel_rfl
theorem sl_25:isSlice Try.prog 25=some 129:=by kernel_rfl
theorem ty_27:tyIs Try.prog 27=some (true,3):=by kernel_rfl
theorem za_27:zav Try.prog 27=some [.sc (.slice none 0 0),.sc (.slice none 0 0),.sc (.slice none 0 0)]:=by kernel_rfl
theorem fo_27_0:fofs Try.prog 27 0=some 0:=by kernel_rfl
theorem fo_27_1:fofs Try.prog 27 1=some 1:=by kernel_rfl
theorem fo_27_2:fofs Try.prog 27 2=some 2:=by kernel_rfl
theorem bd_27:bld Try.prog 27=some ([(.slice none 0 0),(.slice none 0 0),(.slice none 0 0)],[(0,1),(1,1),(2,1)]):=by kernel_rfl
theorem sl_35:isSlice Try.prog 35=some 119:=by kernel_rfl
theorem ty_41:tyIs Try.prog 41=some (true,2):=by kernel_rfl
theorem za_41:zav Try.prog 41=some [.sc (.int .i64 0),.sc (.int .i64 0)]:=by kernel_rfl
theorem fo_41_0:fofs Try.prog 41 0=some 0:=by kernel_rfl
theorem fo_41_1:fofs Try.prog 41 1=some 1:=by kernel_rfl
theorem ty_88:tyIs Try.prog 88=some (false,1):=by kernel_rfl
theorem sl_88:isSlice Try.prog 88=some 193:=by kernel_rfl
theorem ty_90:tyIs Try.prog 90=some (true,3):=by kernel_rfl
theorem fo_90_0:fofs Try.prog 90 0=some 0:=by kernel_rfl
theorem fo_90_1:fofs Try.prog 90 1=some 1:=by kernel_rfl
theorem fo_90_2:fofs Try.prog 90 2=some 2:=by kernel_rfl
theorem ty_101:tyIs Try.prog 101=some (true,2):=by kernel_rfl
theorem fo_101_0:fofs Try.prog 101 0=some 0:=by kernel_rfl
theorem fo_101_1:fofs Try.prog 101 1=some 1:=by kernel_rfl
theorem sl_102:isSlice Try.prog 102=some 173:=by kernel_rfl
theorem ty_119:tyIs Try.prog 119=some (true,2):=by kernel_rfl
theorem by_119:(Try.prog.info? 119).map (·.bytes)=some 16:=by kernel_rfl
theorem za_119:zav Try.prog 119=some [.sc (.int .i64 0),.sc (.int .i64 0)]:=by kernel_rfl
theorem fo_119_0:fofs Try.prog 119 0=some 0:=by kernel_rfl
theorem fo_119_1:fofs Try.prog 119 1=some 1:=by kernel_rfl
theorem bd_119:bld Try.prog 119=some ([(.int .i64 0),(.int .i64 0)],[(0,1),(1,1)]):=by kernel_rfl
theorem ty_129:tyIs Try.prog 129=some (true,2):=by kernel_rfl
theorem by_129:(Try.prog.info? 129).map (·.bytes)=some 16:=by kernel_rfl
theorem za_129:zav Try.prog 129=some [.sc (.int .i64 0),.sc (.int .i64 0)]:=by kernel_rfl
theorem fo_129_0:fofs Try.prog 129 0=some 0:=by kernel_rfl
theorem fo_129_1:fofs Try.prog 129 1=some 1:=by kernel_rfl
theorem bd_129:bld Try.prog 129=some ([(.int .i64 0),(.int .i64 0)],[(0,1),(1,1)]):=by kernel_rfl
theorem sl_169:isSlice Try.prog 169=some 196:=by kernel_rfl
theorem ty_173:tyIs Try.prog 173=some (true,2):=by kernel_rfl
theorem by_173:(Try.prog.info? 173).map (·.bytes)=some 16:=by kernel_rfl
theorem za_173:zav Try.prog 173=some [.sc (.int .i64 0),.sc (.int .i64 0)]:=by kernel_rfl
theorem fo_173_0:fofs Try.prog 173 0=some 0:=by kernel_rfl
theorem fo_173_1:fofs Try.prog 173 1=some 1:=by kernel_rfl
theorem bd_173:bld Try.prog 173=some ([(.int .i64 0),(.int .i64 0)],[(0,1),(1,1)]):=by kernel_rfl
theorem ty_193:tyIs Try.prog 193=some (true,2):=by kernel_rfl
theorem fo_193_0:fofs Try.prog 193 0=some 0:=by kernel_rfl
theorem fo_193_1:fofs Try.prog 193 1=some 1:=by kernel_rfl
theorem ty_196:tyIs Try.prog 196=some (true,2):=by kernel_rfl
theorem by_196:(Try.prog.info? 196).map (·.bytes)=some 16:=by kernel_rfl
theorem za_196:zav Try.prog 196=some [.sc (.int .i64 0),.sc (.int .i64 0)]:=by kernel_rfl
theorem fo_196_0:fofs Try.prog 196 0=some 0:=by kernel_rfl
theorem fo_196_1:fofs Try.prog 196 1=some 1:=by kernel_rfl
theorem bd_196:bld Try.prog 196=some ([(.int .i64 0),(.int .i64 0)],[(0,1),(1,1)]):=by kernel_rfl
theorem ca_15:callable Try.prog 15=true:=by kernel_rfl
theorem ca_19:callable Try.prog 19=true:=by kernel_rfl
theorem ca_20:callable Try.prog 20=true:=by kernel_rfl
theorem ca_21:callable Try.prog 21=true:=by kernel_rfl
theorem ca_22:callable Try.prog 22=true:=by kernel_rfl
theorem ca_23:callable Try.prog 23=true:=by kernel_rfl
theorem ca_28:callable Try.prog 28=true:=by kernel_rfl
theorem ca_46:callable Try.prog 46=true:=by kernel_rfl
theorem ca_54:callable Try.prog 54=true:=by kernel_rfl
theorem ca_59:callable Try.prog 59=true:=by kernel_rfl
theorem ca_61:callable Try.prog 61=true:=by kernel_rfl
theorem ca_64:callable Try.prog 64=true:=by kernel_rfl
theorem ca_66:callable Try.prog 66=true:=by kernel_rfl
theorem ca_67:callable Try.prog 67=true:=by kernel_rfl
theorem ca_68:callable Try.prog 68=true:=by kernel_rfl
theorem ca_69:callable Try.prog 69=true:=by kernel_rfl
theorem ca_70:callable Try.prog 70=true:=by kernel_rfl
theorem ca_71:callable Try.prog 71=true:=by kernel_rfl
theorem ca_72:callable Try.prog 72=true:=by kernel_rfl
theorem ca_73:callable Try.prog 73=true:=by kernel_rfl
theorem ca_78:callable Try.prog 78=true:=by kernel_rfl
theorem ca_81:callable Try.prog 81=true:=by kernel_rfl
theorem ca_82:callable Try.prog 82=true:=by kernel_rfl
theorem ca_84:callable Try.prog 84=true:=by kernel_rfl
theorem ca_85:callable Try.prog 85=true:=by kernel_rfl
theorem ca_86:callable Try.prog 86=true:=by kernel_rfl
theorem ca_87:callable Try.prog 87=true:=by kernel_rfl
theorem ca_88:callable Try.prog 88=true:=by kernel_rfl
theorem ca_89:callable Try.prog 89=true:=by kernel_rfl
theorem ca_91:callable Try.prog 91=true:=by kernel_rfl
theorem ca_94:callable Try.prog 94=true:=by kernel_rfl
theorem ca_95:callable Try.prog 95=true:=by kernel_rfl
theorem ca_96:callable Try.prog 96=true:=by kernel_rfl
theorem ca_97:callable Try.prog 97=true:=by kernel_rfl
theorem ca_98:callable Try.prog 98=true:=by kernel_rfl
theorem ca_99:callable Try.prog 99=true:=by kernel_rfl
theorem ca_100:callable Try.prog 100=true:=by kernel_rfl
theorem ca_102:callable Try.prog 102=true:=by kernel_rfl
theorem ca_103:callable Try.prog 103=true:=by kernel_rfl
theorem ca_123:callable Try.prog 123=true:=by kernel_rfl
theorem ca_137:callable Try.prog 137=true:=by kernel_rfl
theorem ca_138:callable Try.prog 138=true:=by kernel_rfl
theorem ca_142:callable Try.prog 142=true:=by kernel_rfl
theorem ca_143:callable Try.prog 143=true:=by kernel_rfl
theorem ca_147:callable Try.prog 147=true:=by kernel_rfl
theorem ca_148:callable Try.prog 148=true:=by kernel_rfl
theorem ca_149:callable Try.prog 149=true:=by kernel_rfl
theorem ca_150:callable Try.prog 150=true:=by kernel_rfl
theorem ca_151:callable Try.prog 151=true:=by kernel_rfl
theorem ca_152:callable Try.prog 152=true:=by kernel_rfl
theorem ca_153:callable Try.prog 153=true:=by kernel_rfl
theorem ca_154:callable Try.prog 154=true:=by kernel_rfl
theorem ca_155:callable Try.prog 155=true:=by kernel_rfl
theorem ca_156:callable Try.prog 156=true:=by kernel_rfl
theorem ca_157:callable Try.prog 157=true:=by kernel_rfl
theorem ca_160:callable Try.prog 160=true:=by kernel_rfl
theorem ca_163:callable Try.prog 163=true:=by kernel_rfl
theorem ca_164:callable Try.prog 164=true:=by kernel_rfl
theorem ca_165:callable Try.prog 165=true:=by kernel_rfl
theorem ca_166:callable Try.prog 166=true:=by kernel_rfl
theorem ca_167:callable Try.prog 167=true:=by kernel_rfl
theorem ca_168:callable Try.prog 168=true:=by kernel_rfl
theorem ca_170:callable Try.prog 170=true:=by kernel_rfl
theorem ca_171:callable Try.prog 171=true:=by kernel_rfl
theorem ca_172:callable Try.prog 172=true:=by kernel_rfl
theorem ca_183:callable Try.prog 183=true:=by kernel_rfl
theorem ca_186:callable Try.prog 186=true:=by kernel_rfl
theorem ca_187:callable Try.prog 187=true:=by kernel_rfl
theorem ca_188:callable Try.prog 188=true:=by kernel_rfl
theorem ca_193:callable Try.prog 193=true:=by kernel_rfl
theorem ca_194:callable Try.prog 194=true:=by kernel_rfl
theorem ca_195:callable Try.prog 195=true:=by kernel_rfl
theorem ca_196:callable Try.prog 196=true:=by kernel_rfl
theorem ca_199:callable Try.prog 199=true:=by kernel_rfl
theorem mixed:Try.prog.follows .mixedOrders=true:=by kernel_rfl

end Go.Proofs.Ytcepgfcolmdnoaa.E
