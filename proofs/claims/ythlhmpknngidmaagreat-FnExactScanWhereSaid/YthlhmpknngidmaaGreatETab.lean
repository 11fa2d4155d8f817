/- What the program says of its types and functions: closed facts, by program. -/
import Derived.Test.YthlhmpknngidmaaGreatF2
import Derived.Test.YthlhmpknngidmaaGreatProg
namespace Go.Proofs.YthlhmpknngidmaaGreat.E
open Go Go.Proofs

theorem ty_3:tyIs Tryz.prog 3=some (false,1):=by kernel_rfl
theorem by_3:(Tryz.prog.info? 3).map (·.bytes)=some 8:=by kernel_rfl
theorem za_3:zav Tryz.prog 3=some [.sc (.int .i64 0)]:=by kernel_rfl
theorem ty_4:tyIs Tryz.prog 4=some (false,1):=by kernel_rfl
theorem by_4:(Tryz.prog.info? 4).map (·.bytes)=some 1:=by kernel_rfl
theorem za_4:zav Tryz.prog 4=some [.sc (.bool false)]:=by kernel_rfl
theorem bo_4:Tryz.prog.underlying 4=some .bool:=by kernel_rfl
theorem ty_22:tyIs Tryz.prog 22=some (false,1):=by kernel_rfl
theorem by_22:(Tryz.prog.info? 22).map (·.bytes)=some 24:=by kernel_rfl
theorem za_22:zav Tryz.prog 22=some [.sc (.slice none 0 0)]:=by kernel_rfl
theorem sl_22:isSlice Tryz.prog 22=some 3:=by kernel_rfl
theorem ty_23:tyIs Tryz.prog 23=some (false,1):=by kernel_rfl
theorem sl_23:isSlice Tryz.prog 23=some 22:=by kernel_rfl
theorem ty_24:tyIs Tryz.prog 24=some (false,1):=by kernel_rfl
theorem sl_24:isSlice Tryz.prog 24=some 152:=by kernel_rfl
theorem ty_25:tyIs Tryz.prog 25=some (false,1):=by kernel_rfl
theorem sl_25:isSlice Tryz.prog 25=some 4:=by kernel_rfl
theorem ty_27:tyIs Tryz.prog 27=some (true,8):=by kernel_rfl
theorem fo_27_0:fofs Tryz.prog 27 0=some 0:=by kernel_rfl
theorem fo_27_1:fofs Tryz.prog 27 1=some 1:=by kernel_rfl
theorem fo_27_2:fofs Tryz.prog 27 2=some 2:=by kernel_rfl
theorem fo_27_3:fofs Tryz.prog 27 3=some 3:=by kernel_rfl
theorem fo_27_4:fofs Tryz.prog 27 4=some 4:=by kernel_rfl
theorem fo_27_5:fofs Tryz.prog 27 5=some 5:=by kernel_rfl
theorem fo_27_6:fofs Tryz.prog 27 6=some 6:=by kernel_rfl
theorem fo_27_7:fofs Tryz.prog 27 7=some 7:=by kernel_rfl
theorem ty_29:tyIs Tryz.prog 29=some (false,1):=by kernel_rfl
theorem sl_29:isSlice Tryz.prog 29=some 72:=by kernel_rfl
theorem ty_31:tyIs Tryz.prog 31=some (true,8):=by kernel_rfl
theorem za_31:zav Tryz.prog 31=some [.sc (.slice none 0 0),.sc (.slice none 0 0),.sc (.slice none 0 0),.sc (.slice none 0 0),.sc (.slice none 0 0),.sc (.slice none 0 0),.sc (.int .i64 0),.sc (.int .i64 0)]:=by kernel_rfl
theorem fo_31_0:fofs Tryz.prog 31 0=some 0:=by kernel_rfl
theorem fo_31_1:fofs Tryz.prog 31 1=some 1:=by kernel_rfl
theorem fo_31_2:fofs Tryz.prog 31 2=some 2:=by kernel_rfl
theorem fo_31_3:fofs Tryz.prog 31 3=some 3:=by kernel_rfl
theorem fo_31_4:fofs Tryz.prog 31 4=some 4:=by kernel_rfl
theorem fo_31_5:fofs Tryz.prog 31 5=some 5:=by kernel_rfl
theorem fo_31_6:fofs Tryz.prog 31 6=some 6:=by kernel_rfl
theorem fo_31_7:fofs Tryz.prog 31 7=some 7:=by kernel_rfl
theorem ty_39:tyIs Tryz.prog 39=some (true,2):=by kernel_rfl
theorem fo_39_0:fofs Tryz.prog 39 0=some 0:=by kernel_rfl
theorem fo_39_1:fofs Tryz.prog 39 1=some 1:=by kernel_rfl
theorem sl_40:isSlice Tryz.prog 40=some 107:=by kernel_rfl
theorem ty_43:tyIs Tryz.prog 43=some (true,2):=by kernel_rfl
theorem za_43:zav Tryz.prog 43=some [.sc (.int .i64 0),.sc (.int .i64 0)]:=by kernel_rfl
theorem fo_43_0:fofs Tryz.prog 43 0=some 0:=by kernel_rfl
theorem fo_43_1:fofs Tryz.prog 43 1=some 1:=by kernel_rfl
theorem ty_45:tyIs Tryz.prog 45=some (false,1):=by kernel_rfl
theorem sl_45:isSlice Tryz.prog 45=some 104:=by kernel_rfl
theorem ty_68:tyIs Tryz.prog 68=some (false,1):=by kernel_rfl
theorem sl_68:isSlice Tryz.prog 68=some 157:=by kernel_rfl
theorem ty_70:tyIs Tryz.prog 70=some (true,3):=by kernel_rfl
theorem za_70:zav Tryz.prog 70=some [.sc (.slice none 0 0),.sc (.slice none 0 0),.sc (.slice none 0 0)]:=by kernel_rfl
theorem fo_70_0:fofs Tryz.prog 70 0=some 0:=by kernel_rfl
theorem fo_70_1:fofs Tryz.prog 70 1=some 1:=by kernel_rfl
theorem fo_70_2:fofs Tryz.prog 70 2=some 2:=by kernel_rfl
theorem bd_70:bld Tryz.prog 70=some ([(.slice none 0 0),(.slice none 0 0),(.slice none 0 0)],[(0,1),(1,1),(2,1)]):=by kernel_rfl
theorem ty_72:tyIs Tryz.prog 72=some (true,5):=by kernel_rfl
theorem by_72:(Tryz.prog.info? 72).map (·.bytes)=some 104:=by kernel_rfl
theorem za_72:zav Tryz.prog 72=some [.sc (.slice none 0 0),.sc (.slice none 0 0),.sc (.slice none 0 0),.sc (.slice none 0 0),.sc (.int .i64 0)]:=by kernel_rfl
theorem fo_72_0:fofs Tryz.prog 72 0=some 0:=by kernel_rfl
theorem fo_72_1:fofs Tryz.prog 72 1=some 3:=by kernel_rfl
theorem fo_72_2:fofs Tryz.prog 72 2=some 4:=by kernel_rfl
theorem bd_72:bld Tryz.prog 72=some ([(.slice none 0 0),(.slice none 0 0),(.slice none 0 0),(.slice none 0 0),(.int .i64 0)],[(0,3),(3,1),(4,1)]):=by kernel_rfl
theorem ty_104:tyIs Tryz.prog 104=some (true,3):=by kernel_rfl
theorem by_104:(Tryz.prog.info? 104).map (·.bytes)=some 24:=by kernel_rfl
theorem za_104:zav Tryz.prog 104=some [.sc (.int .i64 0),.sc (.int .i64 0),.sc (.int .i64 0)]:=by kernel_rfl
theorem fo_104_0:fofs Tryz.prog 104 0=some 0:=by kernel_rfl
theorem fo_104_1:fofs Tryz.prog 104 1=some 1:=by kernel_rfl
theorem ty_107:tyIs Tryz.prog 107=some (true,3):=by kernel_rfl
theorem fo_107_0:fofs Tryz.prog 107 0=some 0:=by kernel_rfl
theorem fo_107_1:fofs Tryz.prog 107 1=some 1:=by kernel_rfl
theorem ty_148:tyIs Tryz.prog 148=some (false,1):=by kernel_rfl
theorem sl_148:isSlice Tryz.prog 148=some 220:=by kernel_rfl
theorem ty_150:tyIs Tryz.prog 150=some (true,3):=by kernel_rfl
theorem fo_150_0:fofs Tryz.prog 150 0=some 0:=by kernel_rfl
theorem fo_150_1:fofs Tryz.prog 150 1=some 1:=by kernel_rfl
theorem fo_150_2:fofs Tryz.prog 150 2=some 2:=by kernel_rfl
theorem ty_152:tyIs Tryz.prog 152=some (true,5):=by kernel_rfl
theorem fo_152_0:fofs Tryz.prog 152 0=some 0:=by kernel_rfl
theorem fo_152_1:fofs Tryz.prog 152 1=some 3:=by kernel_rfl
theorem fo_152_2:fofs Tryz.prog 152 2=some 4:=by kernel_rfl
theorem ty_157:tyIs Tryz.prog 157=some (true,2):=by kernel_rfl
theorem by_157:(Tryz.prog.info? 157).map (·.bytes)=some 16:=by kernel_rfl
theorem za_157:zav Tryz.prog 157=some [.sc (.int .i64 0),.sc (.int .i64 0)]:=by kernel_rfl
theorem fo_157_0:fofs Tryz.prog 157 0=some 0:=by kernel_rfl
theorem fo_157_1:fofs Tryz.prog 157 1=some 1:=by kernel_rfl
theorem se_157:intStruct Tryz.prog 157=true:=by kernel_rfl
theorem fd_157:(Tryz.prog.fieldsOf 157).size=2:=by kernel_rfl
theorem bd_157:bld Tryz.prog 157=some ([(.int .i64 0),(.int .i64 0)],[(0,1),(1,1)]):=by kernel_rfl
theorem sl_167:isSlice Tryz.prog 167=some 172:=by kernel_rfl
theorem ty_172:tyIs Tryz.prog 172=some (true,2):=by kernel_rfl
theorem by_172:(Tryz.prog.info? 172).map (·.bytes)=some 16:=by kernel_rfl
theorem za_172:zav Tryz.prog 172=some [.sc (.int .i64 0),.sc (.int .i64 0)]:=by kernel_rfl
theorem fo_172_0:fofs Tryz.prog 172 0=some 0:=by kernel_rfl
theorem fo_172_1:fofs Tryz.prog 172 1=some 1:=by kernel_rfl
theorem bd_172:bld Tryz.prog 172=some ([(.int .i64 0),(.int .i64 0)],[(0,1),(1,1)]):=by kernel_rfl
theorem ty_220:tyIs Tryz.prog 220=some (true,2):=by kernel_rfl
theorem fo_220_0:fofs Tryz.prog 220 0=some 0:=by kernel_rfl
theorem fo_220_1:fofs Tryz.prog 220 1=some 1:=by kernel_rfl
theorem ca_10:callable Tryz.prog 10=true:=by kernel_rfl
theorem ca_12:callable Tryz.prog 12=true:=by kernel_rfl
theorem ca_14:callable Tryz.prog 14=true:=by kernel_rfl
theorem ca_15:callable Tryz.prog 15=true:=by kernel_rfl
theorem ca_16:callable Tryz.prog 16=true:=by kernel_rfl
theorem ca_17:callable Tryz.prog 17=true:=by kernel_rfl
theorem ca_18:callable Tryz.prog 18=true:=by kernel_rfl
theorem ca_19:callable Tryz.prog 19=true:=by kernel_rfl
theorem ca_20:callable Tryz.prog 20=true:=by kernel_rfl
theorem ca_21:callable Tryz.prog 21=true:=by kernel_rfl
theorem ca_22:callable Tryz.prog 22=true:=by kernel_rfl
theorem ca_23:callable Tryz.prog 23=true:=by kernel_rfl
theorem ca_24:callable Tryz.prog 24=true:=by kernel_rfl
theorem ca_25:callable Tryz.prog 25=true:=by kernel_rfl
theorem ca_26:callable Tryz.prog 26=true:=by kernel_rfl
theorem ca_27:callable Tryz.prog 27=true:=by kernel_rfl
theorem ca_28:callable Tryz.prog 28=true:=by kernel_rfl
theorem ca_29:callable Tryz.prog 29=true:=by kernel_rfl
theorem ca_38:callable Tryz.prog 38=true:=by kernel_rfl
theorem ca_40:callable Tryz.prog 40=true:=by kernel_rfl
theorem ca_43:callable Tryz.prog 43=true:=by kernel_rfl
theorem ca_44:callable Tryz.prog 44=true:=by kernel_rfl
theorem ca_45:callable Tryz.prog 45=true:=by kernel_rfl
theorem ca_49:callable Tryz.prog 49=true:=by kernel_rfl
theorem ca_54:callable Tryz.prog 54=true:=by kernel_rfl
theorem ca_55:callable Tryz.prog 55=true:=by kernel_rfl
theorem ca_56:callable Tryz.prog 56=true:=by kernel_rfl
theorem ca_57:callable Tryz.prog 57=true:=by kernel_rfl
theorem ca_59:callable Tryz.prog 59=true:=by kernel_rfl
theorem ca_61:callable Tryz.prog 61=true:=by kernel_rfl
theorem ca_62:callable Tryz.prog 62=true:=by kernel_rfl
theorem ca_63:callable Tryz.prog 63=true:=by kernel_rfl
theorem ca_65:callable Tryz.prog 65=true:=by kernel_rfl
theorem ca_67:callable Tryz.prog 67=true:=by kernel_rfl
theorem ca_68:callable Tryz.prog 68=true:=by kernel_rfl
theorem ca_69:callable Tryz.prog 69=true:=by kernel_rfl
theorem ca_70:callable Tryz.prog 70=true:=by kernel_rfl
theorem ca_71:callable Tryz.prog 71=true:=by kernel_rfl
theorem ca_74:callable Tryz.prog 74=true:=by kernel_rfl
theorem ca_75:callable Tryz.prog 75=true:=by kernel_rfl
theorem ca_76:callable Tryz.prog 76=true:=by kernel_rfl
theorem ca_77:callable Tryz.prog 77=true:=by kernel_rfl
theorem ca_78:callable Tryz.prog 78=true:=by kernel_rfl
theorem ca_79:callable Tryz.prog 79=true:=by kernel_rfl
theorem ca_81:callable Tryz.prog 81=true:=by kernel_rfl
theorem ca_82:callable Tryz.prog 82=true:=by kernel_rfl
theorem ca_84:callable Tryz.prog 84=true:=by kernel_rfl
theorem ca_85:callable Tryz.prog 85=true:=by kernel_rfl
theorem ca_86:callable Tryz.prog 86=true:=by kernel_rfl
theorem ca_89:callable Tryz.prog 89=true:=by kernel_rfl
theorem ca_90:callable Tryz.prog 90=true:=by kernel_rfl
theorem ca_95:callable Tryz.prog 95=true:=by kernel_rfl
theorem ca_99:callable Tryz.prog 99=true:=by kernel_rfl
theorem ca_102:callable Tryz.prog 102=true:=by kernel_rfl
theorem ca_103:callable Tryz.prog 103=true:=by kernel_rfl
theorem ca_104:callable Tryz.prog 104=true:=by kernel_rfl
theorem ca_105:callable Tryz.prog 105=true:=by kernel_rfl
theorem ca_106:callable Tryz.prog 106=true:=by kernel_rfl
theorem ca_107:callable Tryz.prog 107=true:=by kernel_rfl
theorem ca_108:callable Tryz.prog 108=true:=by kernel_rfl
theorem ca_110:callable Tryz.prog 110=true:=by kernel_rfl
theorem ca_111:callable Tryz.prog 111=true:=by kernel_rfl
theorem ca_112:callable Tryz.prog 112=true:=by kernel_rfl
theorem ca_113:callable Tryz.prog 113=true:=by kernel_rfl
theorem ca_114:callable Tryz.prog 114=true:=by kernel_rfl
theorem ca_115:callable Tryz.prog 115=true:=by kernel_rfl
theorem ca_120:callable Tryz.prog 120=true:=by kernel_rfl
theorem ca_126:callable Tryz.prog 126=true:=by kernel_rfl
theorem ca_127:callable Tryz.prog 127=true:=by kernel_rfl
theorem ca_130:callable Tryz.prog 130=true:=by kernel_rfl
theorem ca_131:callable Tryz.prog 131=true:=by kernel_rfl
theorem ca_133:callable Tryz.prog 133=true:=by kernel_rfl
theorem ca_134:callable Tryz.prog 134=true:=by kernel_rfl
theorem ca_135:callable Tryz.prog 135=true:=by kernel_rfl
theorem ca_136:callable Tryz.prog 136=true:=by kernel_rfl
theorem ca_137:callable Tryz.prog 137=true:=by kernel_rfl
theorem ca_142:callable Tryz.prog 142=true:=by kernel_rfl
theorem ca_143:callable Tryz.prog 143=true:=by kernel_rfl
theorem ca_144:callable Tryz.prog 144=true:=by kernel_rfl
theorem ca_145:callable Tryz.prog 145=true:=by kernel_rfl
theorem ca_147:callable Tryz.prog 147=true:=by kernel_rfl
theorem ca_148:callable Tryz.prog 148=true:=by kernel_rfl
theorem ca_149:callable Tryz.prog 149=true:=by kernel_rfl
theorem ca_150:callable Tryz.prog 150=true:=by kernel_rfl
theorem ca_156:callable Tryz.prog 156=true:=by kernel_rfl
theorem ca_162:callable Tryz.prog 162=true:=by kernel_rfl
theorem ca_163:callable Tryz.prog 163=true:=by kernel_rfl
theorem ca_164:callable Tryz.prog 164=true:=by kernel_rfl
theorem ca_165:callable Tryz.prog 165=true:=by kernel_rfl
theorem ca_167:callable Tryz.prog 167=true:=by kernel_rfl
theorem ca_168:callable Tryz.prog 168=true:=by kernel_rfl
theorem ca_169:callable Tryz.prog 169=true:=by kernel_rfl
theorem ca_170:callable Tryz.prog 170=true:=by kernel_rfl
theorem ca_171:callable Tryz.prog 171=true:=by kernel_rfl
theorem ca_172:callable Tryz.prog 172=true:=by kernel_rfl
theorem ca_173:callable Tryz.prog 173=true:=by kernel_rfl
theorem ca_189:callable Tryz.prog 189=true:=by kernel_rfl
theorem ca_190:callable Tryz.prog 190=true:=by kernel_rfl
theorem ca_191:callable Tryz.prog 191=true:=by kernel_rfl
theorem ca_192:callable Tryz.prog 192=true:=by kernel_rfl
theorem ca_193:callable Tryz.prog 193=true:=by kernel_rfl
theorem ca_194:callable Tryz.prog 194=true:=by kernel_rfl
theorem ca_195:callable Tryz.prog 195=true:=by kernel_rfl
theorem ca_196:callable Tryz.prog 196=true:=by kernel_rfl
theorem ca_197:callable Tryz.prog 197=true:=by kernel_rfl
theorem ca_198:callable Tryz.prog 198=true:=by kernel_rfl
theorem ca_204:callable Tryz.prog 204=true:=by kernel_rfl
theorem ca_205:callable Tryz.prog 205=true:=by kernel_rfl
theorem ca_206:callable Tryz.prog 206=true:=by kernel_rfl
theorem ca_207:callable Tryz.prog 207=true:=by kernel_rfl
theorem ca_208:callable Tryz.prog 208=true:=by kernel_rfl
theorem ca_209:callable Tryz.prog 209=true:=by kernel_rfl
theorem mixed:Tryz.prog.follows .mixedOrders=true:=by kernel_rfl

end Go.Proofs.YthlhmpknngidmaaGreat.E
