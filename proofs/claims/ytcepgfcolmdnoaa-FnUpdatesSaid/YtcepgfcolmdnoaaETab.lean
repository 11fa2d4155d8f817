/- What the program says of its types and functions: closed facts, by program. -/
import Derived.Test.YtcepgfcolmdnoaaF2
import Derived.Test.YtcepgfcolmdnoaaProg
namespace Go.Proofs.Ytcepgfcolmdnoaa.E
open Go Go.Proofs

theorem ty_3:tyIs Try.prog 3=some (false,1):=by kernel_rfl
theorem by_3:(Try.prog.info? 3).map (·.bytes)=some 8:=by kernel_rfl
theorem za_3:zav Try.prog 3=some [.sc (.int .i64 0)]:=by kernel_rfl
theorem bo_4:Try.prog.underlying 4=some .bool:=by kernel_rfl
theorem ty_5:tyIs Try.prog 5=some (false,1):=by kernel_rfl
theorem ty_22:tyIs Try.prog 22=some (false,1):=by kernel_rfl
theorem sl_22:isSlice Try.prog 22=some 5:=by kernel_rfl
theorem ty_24:tyIs Try.prog 24=some (false,1):=by kernel_rfl
theorem sl_24:isSlice Try.prog 24=some 3:=by kernel_rfl
theorem ty_25:tyIs Try.prog 25=some (false,1):=by kernel_rfl
theorem sl_25:isSlice Try.prog 25=some 129:=by kernel_rfl
theorem ty_27:tyIs Try.prog 27=some (true,3):=by kernel_rfl
theorem za_27:zav Try.prog 27=some [.sc (.slice none 0 0),.sc (.slice none 0 0),.sc (.slice none 0 0)]:=by kernel_rfl
theorem fo_27_0:fofs Try.prog 27 0=some 0:=by kernel_rfl
theorem fo_27_1:fofs Try.prog 27 1=some 1:=by kernel_rfl
theorem fo_27_2:fofs Try.prog 27 2=some 2:=by kernel_rfl
theorem bd_27:bld Try.prog 27=some ([(.slice none 0 0),(.slice none 0 0),(.slice none 0 0)],[(0,1),(1,1),(2,1)]):=by kernel_rfl
theorem sl_35:isSlice Try.prog 35=some 119:=by kernel_rfl
theorem ty_41:tyIs Try.prog 41=some (true,2):=by kernel_rfl
theorem za_41:zav Try.prog 41=some [.sc (.int .i64 0),.sc (.int .i64 0)]:=by kernel_rfl
theorem fo_41_0:fofs Try.prog 41 0=some 0:=by kernel_rfl
theorem fo_41_1:fofs Try.prog 41 1=some 1:=by kernel_rfl
theorem bd_41:bld Try.prog 41=some ([(.int .i64 0),(.int .i64 0)],[(0,1),(1,1)]):=by kernel_rfl
theorem ty_56:tyIs Try.prog 56=some (false,1):=by kernel_rfl
theorem sl_56:isSlice Try.prog 56=some 60:=by kernel_rfl
theorem ty_58:tyIs Try.prog 58=some (true,2):=by kernel_rfl
theorem za_58:zav Try.prog 58=some [.sc (.slice none 0 0),.sc (.slice none 0 0)]:=by kernel_rfl
theorem fo_58_0:fofs Try.prog 58 0=some 0:=by kernel_rfl
theorem fo_58_1:fofs Try.prog 58 1=some 1:=by kernel_rfl
theorem bd_58:bld Try.prog 58=some ([(.slice none 0 0),(.slice none 0 0)],[(0,1),(1,1)]):=by kernel_rfl
theorem ty_60:tyIs Try.prog 60=some (true,2):=by kernel_rfl
theorem by_60:(Try.prog.info? 60).map (·.bytes)=some 16:=by kernel_rfl
theorem za_60:zav Try.prog 60=some [.sc (.int .i64 0),.sc (.int .i64 0)]:=by kernel_rfl
theorem fo_60_0:fofs Try.prog 60 0=some 0:=by kernel_rfl
theorem fo_60_1:fofs Try.prog 60 1=some 1:=by kernel_rfl
theorem bd_60:bld Try.prog 60=some ([(.int .i64 0),(.int .i64 0)],[(0,1),(1,1)]):=by kernel_rfl
theorem ty_119:tyIs Try.prog 119=some (true,2):=by kernel_rfl
theorem by_119:(Try.prog.info? 119).map (·.bytes)=some 16:=by kernel_rfl
theorem za_119:zav Try.prog 119=some [.sc (.int .i64 0),.sc (.int .i64 0)]:=by kernel_rfl
theorem fo_119_0:fofs Try.prog 119 0=some 0:=by kernel_rfl
theorem fo_119_1:fofs Try.prog 119 1=some 1:=by kernel_rfl
theorem bd_119:bld Try.prog 119=some ([(.int .i64 0),(.int .i64 0)],[(0,1),(1,1)]):=by kernel_rfl
theorem ty_129:tyIs Try.prog 129=some (true,2):=by kernel_rfl
theorem by_129:(Try.prog.info? 129).map (·.bytes)=some 16:=by kernel_rfl
theorem za_129:zav Try.prog 129=some [.sc (.int .i64 0),.sc (.int .i64 0)]:=by kernel_rfl
theorem fo_129_0:fofs Try.prog 129 0=some 0:=by kernel_rfl
theorem fo_129_1:fofs Try.prog 129 1=some 1:=by kernel_rfl
theorem bd_129:bld Try.prog 129=some ([(.int .i64 0),(.int .i64 0)],[(0,1),(1,1)]):=by kernel_rfl
theorem fo_175_0:fofs Try.prog 175 0=some 0:=by kernel_rfl
theorem fo_175_1:fofs Try.prog 175 1=some 1:=by kernel_rfl
theorem fo_175_2:fofs Try.prog 175 2=some 2:=by kernel_rfl
theorem bd_175:bld Try.prog 175=some ([(.slice none 0 0),(.int .i64 0),(.int .i64 0)],[(0,1),(1,1),(2,1)]):=by kernel_rfl
theorem ca_10:callable Try.prog 10=true:=by kernel_rfl
theorem ca_15:callable Try.prog 15=true:=by kernel_rfl
theorem ca_21:callable Try.prog 21=true:=by kernel_rfl
theorem ca_22:callable Try.prog 22=true:=by kernel_rfl
theorem ca_25:callable Try.prog 25=true:=by kernel_rfl
theorem ca_28:callable Try.prog 28=true:=by kernel_rfl
theorem ca_30:callable Try.prog 30=true:=by kernel_rfl
theorem ca_31:callable Try.prog 31=true:=by kernel_rfl
theorem ca_32:callable Try.prog 32=true:=by kernel_rfl
theorem ca_33:callable Try.prog 33=true:=by kernel_rfl
theorem ca_34:callable Try.prog 34=true:=by kernel_rfl
theorem ca_35:callable Try.prog 35=true:=by kernel_rfl
theorem ca_36:callable Try.prog 36=true:=by kernel_rfl
theorem ca_37:callable Try.prog 37=true:=by kernel_rfl
theorem ca_38:callable Try.prog 38=true:=by kernel_rfl
theorem ca_39:callable Try.prog 39=true:=by kernel_rfl
theorem ca_46:callable Try.prog 46=true:=by kernel_rfl
theorem ca_54:callable Try.prog 54=true:=by kernel_rfl
theorem ca_74:callable Try.prog 74=true:=by kernel_rfl
theorem ca_76:callable Try.prog 76=true:=by kernel_rfl
theorem ca_78:callable Try.prog 78=true:=by kernel_rfl
theorem ca_81:callable Try.prog 81=true:=by kernel_rfl
theorem ca_82:callable Try.prog 82=true:=by kernel_rfl
theorem ca_84:callable Try.prog 84=true:=by kernel_rfl
theorem ca_85:callable Try.prog 85=true:=by kernel_rfl
theorem ca_86:callable Try.prog 86=true:=by kernel_rfl
theorem ca_87:callable Try.prog 87=true:=by kernel_rfl
theorem ca_88:callable Try.prog 88=true:=by kernel_rfl
theorem ca_89:callable Try.prog 89=true:=by kernel_rfl
theorem ca_91:callable Try.prog 91=true:=by kernel_rfl
theorem ca_92:callable Try.prog 92=true:=by kernel_rfl
theorem ca_94:callable Try.prog 94=true:=by kernel_rfl
theorem ca_97:callable Try.prog 97=true:=by kernel_rfl
theorem ca_98:callable Try.prog 98=true:=by kernel_rfl
theorem ca_99:callable Try.prog 99=true:=by kernel_rfl
theorem ca_100:callable Try.prog 100=true:=by kernel_rfl
theorem ca_101:callable Try.prog 101=true:=by kernel_rfl
theorem ca_102:callable Try.prog 102=true:=by kernel_rfl
theorem ca_103:callable Try.prog 103=true:=by kernel_rfl
theorem ca_104:callable Try.prog 104=true:=by kernel_rfl
theorem ca_105:callable Try.prog 105=true:=by kernel_rfl
theorem ca_106:callable Try.prog 106=true:=by kernel_rfl
theorem ca_107:callable Try.prog 107=true:=by kernel_rfl
theorem ca_108:callable Try.prog 108=true:=by kernel_rfl
theorem ca_109:callable Try.prog 109=true:=by kernel_rfl
theorem ca_110:callable Try.prog 110=true:=by kernel_rfl
theorem ca_111:callable Try.prog 111=true:=by kernel_rfl
theorem ca_112:callable Try.prog 112=true:=by kernel_rfl
theorem ca_113:callable Try.prog 113=true:=by kernel_rfl
theorem ca_114:callable Try.prog 114=true:=by kernel_rfl
theorem ca_115:callable Try.prog 115=true:=by kernel_rfl
theorem ca_116:callable Try.prog 116=true:=by kernel_rfl
theorem ca_117:callable Try.prog 117=true:=by kernel_rfl
theorem ca_118:callable Try.prog 118=true:=by kernel_rfl
theorem ca_119:callable Try.prog 119=true:=by kernel_rfl
theorem ca_120:callable Try.prog 120=true:=by kernel_rfl
theorem ca_123:callable Try.prog 123=true:=by kernel_rfl
theorem ca_124:callable Try.prog 124=true:=by kernel_rfl
theorem ca_128:callable Try.prog 128=true:=by kernel_rfl
theorem ca_159:callable Try.prog 159=true:=by kernel_rfl
theorem ca_160:callable Try.prog 160=true:=by kernel_rfl
theorem ca_161:callable Try.prog 161=true:=by kernel_rfl
theorem ca_169:callable Try.prog 169=true:=by kernel_rfl
theorem ca_170:callable Try.prog 170=true:=by kernel_rfl
theorem ca_171:callable Try.prog 171=true:=by kernel_rfl
theorem ca_172:callable Try.prog 172=true:=by kernel_rfl
theorem ca_173:callable Try.prog 173=true:=by kernel_rfl
theorem ca_174:callable Try.prog 174=true:=by kernel_rfl
theorem ca_175:callable Try.prog 175=true:=by kernel_rfl
theorem ca_199:callable Try.prog 199=true:=by kernel_rfl
theorem mixed:Try.prog.follows .mixedOrders=true:=by kernel_rfl

end Go.Proofs.Ytcepgfcolmdnoaa.E
