import Derived.Test.YtnmpibjlnninjaaGreatDoorCT10
import Derived.Shelf.Abstract
import Derived.Shelf.SlGeneric
import Derived.Shelf.SlSortCmp.WholeK
import Derived.Shelf.SlSortCmp.NoneTotal
import Derived.Ground.SlsfProg
import Derived.Sort.OwnSorted
import Derived.Laws.StructEq
namespace Go.Proofs.YtnmpibjlnninjaaGreatDoor
set_option linter.unusedVariables false
set_option linter.unusedSimpArgs false
set_option maxRecDepth 100000
set_option maxHeartbeats 90000000
section
open Go Go.RowKit
theorem mixed:Tryz.prog.follows .mixedOrders=true:=ay
theorem eX:fJ Tryz.prog 3=true:=ay
theorem jW:eJ Tryz.prog 3=some (.int .i64 0):=ay
theorem Oz:fJ Tryz.prog 4=true:=ay
theorem eD:eJ Tryz.prog 5=some (.int .u8 0):=ay
theorem jN:fJ Tryz.prog 9=true:=ay
theorem e8:eJ Tryz.prog 9=some (.string ⟨#[]⟩):=ay
theorem qH:fJ Tryz.prog 25=true:=ay
theorem gY:jU Tryz.prog 32=some 2:=ay
theorem ji:eJ Tryz.prog 32=some (.agg #[.int .i64 0,.int .i64 0]):=ay
theorem cD:nL Tryz.prog 34=some (115,3):=ay
theorem KH:fJ Tryz.prog 34=true:=ay
theorem OA:eJ Tryz.prog 34=some (.slice none 0 0):=ay
theorem mb:fJ Tryz.prog 38=true:=ay
theorem OB:eJ Tryz.prog 38=some (.nilIface):=ay
theorem yV:fJ Tryz.prog 39=true:=ay
theorem OC:eJ Tryz.prog 39=some (.nilFunc):=ay
theorem gP:nL Tryz.prog 43=some (126,5):=ay
theorem iE:fJ Tryz.prog 43=true:=ay
theorem kI:nL Tryz.prog 44=some (103,3):=ay
theorem me:fJ Tryz.prog 44=true:=ay
theorem cK:nL Tryz.prog 45=some (124,3):=ay
theorem jD:fJ Tryz.prog 45=true:=ay
theorem fG:nL Tryz.prog 46=some (91,4):=ay
theorem dP:fJ Tryz.prog 46=true:=ay
theorem fN:jU Tryz.prog 48=some 6:=ay
theorem YE:tB Tryz.prog 48=some ([(0,1),(1,1),(2,1),(3,1),(4,1),(5,1)],[.slice none 0 0,.slice none 0 0,.slice none 0 0,.slice none 0 0,.int .i64 0,.int .i64 0]):=ay
theorem Db:dW Tryz.prog 48 0=some 0:=ay
theorem Dc:dW Tryz.prog 48 1=some 1:=ay
theorem Dd:dW Tryz.prog 48 2=some 2:=ay
theorem De:dW Tryz.prog 48 3=some 3:=ay
theorem OD:eJ Tryz.prog 48=some (.agg #[.slice none 0 0,.slice none 0 0,.slice none 0 0,.slice none 0 0,.int .i64 0,.int .i64 0]):=ay
theorem YF:tB Tryz.prog 50=some ([(0,1),(1,6)],[.pointer none,.slice none 0 0,.slice none 0 0,.slice none 0 0,.slice none 0 0,.int .i64 0,.int .i64 0]):=ay
theorem dN:nL Tryz.prog 61=some (9,1):=ay
theorem gK:fJ Tryz.prog 61=true:=ay
theorem kv:fJ Tryz.prog 76=true:=ay
theorem YG:tB Tryz.prog 78=some ([(0,1),(1,6)],[.pointer none,.slice none 0 0,.slice none 0 0,.slice none 0 0,.slice none 0 0,.int .i64 0,.int .i64 0]):=ay
theorem o7:jU Tryz.prog 91=some 4:=ay
theorem gD:eJ Tryz.prog 91=some (.agg #[.int .i64 0,.string ⟨#[]⟩,.int .i64 0,.int .i64 0]):=ay
theorem OE:jU Tryz.prog 103=some 3:=ay
theorem jw:eJ Tryz.prog 103=some (.agg #[.int .i64 0,.int .i64 0,.string ⟨#[]⟩]):=ay
theorem kx:nL Tryz.prog 110=some (3,1):=ay
theorem mK:fJ Tryz.prog 110=true:=ay
theorem nH:eJ Tryz.prog 110=some (.slice none 0 0):=ay
theorem jO:jU Tryz.prog 115=some 3:=ay
theorem ct:eJ Tryz.prog 115=some (.agg #[.string ⟨#[]⟩,.string ⟨#[]⟩,.bool false]):=ay
theorem tq:nL Tryz.prog 118=some (196,2):=ay
theorem jj:fJ Tryz.prog 118=true:=ay
theorem Vu:tB Tryz.prog 120=some ([(0,1),(1,1),(2,1),(3,1),(4,1)],[.slice none 0 0,.slice none 0 0,.slice none 0 0,.int .i64 0,.bool false]):=ay
theorem OG:jU Tryz.prog 124=some 3:=ay
theorem cR:eJ Tryz.prog 124=some (.agg #[.int .i64 0,.int .i64 0,.int .i64 0]):=ay
theorem cj:jU Tryz.prog 126=some 5:=ay
theorem AE:dW Tryz.prog 126 4=some 4:=ay
theorem eG:eJ Tryz.prog 126=some (.agg #[.int .i64 0,.int .i64 0,.int .i64 0,.int .i64 0,.int .i64 0]):=ay
theorem ki:jU Tryz.prog 129=some 4:=ay
theorem OH:tB Tryz.prog 129=some ([(0,1),(1,1),(2,1),(3,1)],[.int .i64 0,.int .i64 0,.int .i64 0,.int .i64 0]):=ay
theorem AF:dW Tryz.prog 129 0=some 0:=ay
theorem AG:dW Tryz.prog 129 1=some 1:=ay
theorem I6:dW Tryz.prog 129 3=some 3:=ay
theorem l4:eJ Tryz.prog 129=some (.agg #[.int .i64 0,.int .i64 0,.int .i64 0,.int .i64 0]):=ay
theorem GL:fJ Tryz.prog 130=true:=ay
theorem l5:dW Tryz.prog 132 0=some 0:=ay
theorem uO:dW Tryz.prog 132 1=some 1:=ay
theorem AH:dW Tryz.prog 132 2=some 5:=ay
theorem I7:dW Tryz.prog 132 3=some 6:=ay
theorem aP:nL Tryz.prog 137=some (5,1):=ay
theorem AJ:fJ Tryz.prog 137=true:=ay
theorem Sc:nL Tryz.prog 140=some (34,1):=ay
theorem nI:eJ Tryz.prog 196=some (.agg #[.int .i64 0,.string ⟨#[]⟩]):=ay
theorem vZ:nL Tryz.prog 242=some (39,1):=ay
theorem wa:FJ Tryz.prog 262=true:=ay
theorem ky:nP Tryz.prog 34 3=some (115,40):=ay
theorem EL:((Tryz.prog.info? 115).map (·.size)).isSome=true:=ay
theorem o8:nP Tryz.prog 43 5=some (126,40):=ay
theorem EM:((Tryz.prog.info? 126).map (·.size)).isSome=true:=ay
theorem qJ:nP Tryz.prog 44 3=some (103,32):=ay
theorem Sd:((Tryz.prog.info? 103).map (·.size)).isSome=true:=ay
theorem o9:nP Tryz.prog 45 3=some (124,24):=ay
theorem yW:((Tryz.prog.info? 124).map (·.size)).isSome=true:=ay
theorem eL:nP Tryz.prog 46 4=some (91,40):=ay
theorem tr:((Tryz.prog.info? 91).map (·.size)).isSome=true:=ay
theorem KJ:nP Tryz.prog 61 1=some (9,16):=ay
theorem EN:((Tryz.prog.info? 9).map (·.size)).isSome=true:=ay
theorem pU:nP Tryz.prog 118 2=some (196,24):=ay
class Fn (n:FuncId)(f:outParam Func):Prop where
  a:Tryz.prog.funcs[n]? = some f:=by kernel_rfl
  b:(f.name == "runtime.NumGoroutine")=false:=by kernel_rfl
  c:f.body.isSome=true:=by kernel_rfl
instance {n f}[h:Fn n f]:Y (Tryz.prog.funcs[n]?) (some f):=⟨h.a⟩
instance {n f}[h:Fn n f]:dK Tryz.prog n:=⟨enters_of h.a h.b (Option.some_get h.c).symm⟩
instance:Fn 8 Tryz.f8:={}
instance:Fn 9 Tryz.f9:={}
instance:Fn 10 Tryz.f10:={}
instance:Fn 11 Tryz.f11:={}
instance:Fn 13 Tryz.f13:={}
instance:Fn 14 Tryz.f14:={}
instance:Fn 17 Tryz.f17:={}
instance:Fn 18 Tryz.f18:={}
instance:Fn 19 Tryz.f19:={}
instance:Fn 20 Tryz.f20:={}
instance:Fn 21 Tryz.f21:={}
instance:Fn 23 Tryz.f23:={}
instance:Fn 24 Tryz.f24:={}
instance:Fn 25 Tryz.f25:={}
instance:Fn 26 Tryz.f26:={}
instance:Fn 27 Tryz.f27:={}
instance:Fn 28 Tryz.f28:={}
instance:Fn 29 Tryz.f29:={}
instance:Fn 30 Tryz.f30:={}
instance:Fn 31 Tryz.f31:={}
instance:Fn 32 Tryz.f32:={}
instance:Fn 33 Tryz.f33:={}
instance:Fn 34 Tryz.f34:={}
instance:Fn 35 Tryz.f35:={}
instance:Fn 36 Tryz.f36:={}
instance:Fn 37 Tryz.f37:={}
instance:Fn 38 Tryz.f38:={}
instance:Fn 39 Tryz.f39:={}
instance:Fn 40 Tryz.f40:={}
instance:Fn 41 Tryz.f41:={}
instance:Fn 42 Tryz.f42:={}
instance:Fn 47 Tryz.f47:={}
instance:Fn 48 Tryz.f48:={}
instance:Fn 49 Tryz.f49:={}
instance:Fn 50 Tryz.f50:={}
instance:Fn 51 Tryz.f51:={}
instance:Fn 52 Tryz.f52:={}
instance:Fn 53 Tryz.f53:={}
instance:Fn 54 Tryz.f54:={}
instance:Fn 55 Tryz.f55:={}
instance:Fn 56 Tryz.f56:={}
instance:Fn 57 Tryz.f57:={}
instance:Fn 58 Tryz.f58:={}
instance:Fn 59 Tryz.f59:={}
instance:Fn 60 Tryz.f60:={}
instance:Fn 61 Tryz.f61:={}
instance:Fn 62 Tryz.f62:={}
instance:Fn 63 Tryz.f63:={}
instance:Fn 64 Tryz.f64:={}
instance:Fn 65 Tryz.f65:={}
instance:Fn 66 Tryz.f66:={}
instance:Fn 67 Tryz.f67:={}
instance:Fn 68 Tryz.f68:={}
instance:Fn 69 Tryz.f69:={}
instance:Fn 70 Tryz.f70:={}
instance:Fn 71 Tryz.f71:={}
instance:Fn 72 Tryz.f72:={}
instance:Fn 73 Tryz.f73:={}
instance:Fn 74 Tryz.f74:={}
instance:Fn 75 Tryz.f75:={}
instance:Fn 76 Tryz.f76:={}
instance:Fn 77 Tryz.f77:={}
instance:Fn 78 Tryz.f78:={}
instance:Fn 79 Tryz.f79:={}
instance:Fn 80 Tryz.f80:={}
instance:Fn 81 Tryz.f81:={}
instance:Fn 82 Tryz.f82:={}
instance:Fn 83 Tryz.f83:={}
instance:Fn 84 Tryz.f84:={}
instance:Fn 85 Tryz.f85:={}
instance:Fn 86 Tryz.f86:={}
instance:Fn 87 Tryz.f87:={}
instance:Fn 88 Tryz.f88:={}
instance:Fn 89 Tryz.f89:={}
instance:Fn 90 Tryz.f90:={}
instance:Fn 91 Tryz.f91:={}
instance:Fn 92 Tryz.f92:={}
instance:Fn 93 Tryz.f93:={}
instance:Fn 94 Tryz.f94:={}
instance:Fn 95 Tryz.f95:={}
instance:Fn 96 Tryz.f96:={}
instance:Fn 97 Tryz.f97:={}
instance:Fn 98 Tryz.f98:={}
instance:Fn 99 Tryz.f99:={}
instance:Fn 100 Tryz.f100:={}
instance:Fn 101 Tryz.f101:={}
instance:Fn 102 Tryz.f102:={}
instance:Fn 103 Tryz.f103:={}
instance:Fn 104 Tryz.f104:={}
instance:Fn 105 Tryz.f105:={}
instance:Fn 106 Tryz.f106:={}
instance:Fn 107 Tryz.f107:={}
instance:Fn 108 Tryz.f108:={}
instance:Fn 109 Tryz.f109:={}
instance:Fn 110 Tryz.f110:={}
instance:Fn 111 Tryz.f111:={}
instance:Fn 112 Tryz.f112:={}
instance:Fn 113 Tryz.f113:={}
instance:Fn 114 Tryz.f114:={}
instance:Fn 115 Tryz.f115:={}
instance:Fn 116 Tryz.f116:={}
instance:Fn 117 Tryz.f117:={}
instance:Fn 118 Tryz.f118:={}
instance:Fn 119 Tryz.f119:={}
instance:Fn 120 Tryz.f120:={}
instance:Fn 121 Tryz.f121:={}
instance:Fn 122 Tryz.f122:={}
instance:Fn 123 Tryz.f123:={}
instance:Fn 124 Tryz.f124:={}
instance:Fn 125 Tryz.f125:={}
instance:Fn 126 Tryz.f126:={}
instance:Fn 127 Tryz.f127:={}
instance:Fn 128 Tryz.f128:={}
instance:Fn 129 Tryz.f129:={}
instance:Fn 130 Tryz.f130:={}
instance:Fn 131 Tryz.f131:={}
instance:Fn 132 Tryz.f132:={}
instance:Fn 133 Tryz.f133:={}
instance:Fn 134 Tryz.f134:={}
instance:Fn 135 Tryz.f135:={}
instance:Fn 136 Tryz.f136:={}
instance:Fn 137 Tryz.f137:={}
instance:Fn 138 Tryz.f138:={}
instance:Fn 139 Tryz.f139:={}
instance:Fn 140 Tryz.f140:={}
instance:Fn 141 Tryz.f141:={}
instance:Fn 142 Tryz.f142:={}
instance:Fn 143 Tryz.f143:={}
instance:Fn 144 Tryz.f144:={}
instance:Fn 145 Tryz.f145:={}
instance:Fn 146 Tryz.f146:={}
instance:Fn 147 Tryz.f147:={}
instance:Fn 148 Tryz.f148:={}
instance:Fn 149 Tryz.f149:={}
instance:Fn 150 Tryz.f150:={}
instance:Fn 151 Tryz.f151:={}
instance:Fn 152 Tryz.f152:={}
instance:Fn 153 Tryz.f153:={}
instance:Fn 155 Tryz.f155:={}
instance:Fn 156 Tryz.f156:={}
instance:Fn 157 Tryz.f157:={}
instance:Fn 158 Tryz.f158:={}
instance:Fn 159 Tryz.f159:={}
instance:Fn 160 Tryz.f160:={}
instance:Fn 161 Tryz.f161:={}
instance:Fn 162 Tryz.f162:={}
instance:Fn 163 Tryz.f163:={}
instance:Fn 164 Tryz.f164:={}
instance:Fn 165 Tryz.f165:={}
instance:Fn 166 Tryz.f166:={}
instance:Fn 167 Tryz.f167:={}
instance:Fn 168 Tryz.f168:={}
instance:Fn 169 Tryz.f169:={}
instance:Fn 170 Tryz.f170:={}
instance:Fn 172 Tryz.f172:={}
instance:Fn 173 Tryz.f173:={}
instance:Fn 174 Tryz.f174:={}
instance:Fn 175 Tryz.f175:={}
instance:Fn 176 Tryz.f176:={}
instance:Fn 177 Tryz.f177:={}
instance:Fn 178 Tryz.f178:={}
instance:Fn 179 Tryz.f179:={}
instance:Fn 180 Tryz.f180:={}
instance:Fn 182 Tryz.f182:={}
instance:Fn 183 Tryz.f183:={}
instance:Fn 184 Tryz.f184:={}
instance:Fn 187 Tryz.f187:={}
instance:Fn 188 Tryz.f188:={}
instance:Fn 189 Tryz.f189:={}
instance:Fn 190 Tryz.f190:={}
instance:Fn 192 Tryz.f192:={}
instance:Fn 193 Tryz.f193:={}
instance:Fn 197 Tryz.f197:={}
instance:Fn 198 Tryz.f198:={}
instance:Fn 199 Tryz.f199:={}
instance:Fn 200 Tryz.f200:={}
instance:Fn 201 Tryz.f201:={}
instance:Fn 202 Tryz.f202:={}
instance:Fn 203 Tryz.f203:={}
instance:Fn 206 Tryz.f206:={}
instance:Fn 207 Tryz.f207:={}
instance:Fn 208 Tryz.f208:={}
instance:Fn 209 Tryz.f209:={}
instance:Fn 210 Tryz.f210:={}
instance:Fn 211 Tryz.f211:={}
instance:Fn 212 Tryz.f212:={}
instance:Fn 213 Tryz.f213:={}
instance:Fn 214 Tryz.f214:={}
instance:Fn 215 Tryz.f215:={}
instance:Fn 216 Tryz.f216:={}
instance:Fn 221 Tryz.f221:={}
instance:Fn 222 Tryz.f222:={}
instance:Fn 223 Tryz.f223:={}
instance:Fn 224 Tryz.f224:={}
instance:Fn 225 Tryz.f225:={}
instance:Fn 226 Tryz.f226:={}
instance:Fn 227 Tryz.f227:={}
instance:Fn 228 Tryz.f228:={}
instance:Fn 229 Tryz.f229:={}
instance:Fn 250 Tryz.f250:={}
instance:Fn 251 Tryz.f251:={}
instance:Fn 252 Tryz.f252:={}
instance:Fn 255 Tryz.f255:={}
instance:Fn 260 Tryz.f260:={}
instance:Fn 287 Tryz.f287:={}
instance:Fn 288 Tryz.f288:={}
instance:Fn 306 Tryz.f306:={}
abbrev dv(f:FuncId):Prop:=∀args w,(callFunc f args).run Tryz.prog w = .ok (.enter f args) w
theorem aaX:dv 8:=dK.h
theorem aaY:dv 9:=dK.h
theorem YH:dv 10:=dK.h
theorem YI:dv 11:=dK.h
theorem pW:dv 13:=dK.h
theorem OI:dv 17:=dK.h
theorem OJ:dv 19:=dK.h
theorem YJ:dv 20:=dK.h
theorem YK:dv 23:=dK.h
theorem YL:dv 24:=dK.h
theorem YM:dv 25:=dK.h
theorem T6:dv 26:=dK.h
theorem OL:dv 27:=dK.h
theorem T7:dv 28:=dK.h
theorem T8:dv 29:=dK.h
theorem YN:dv 30:=dK.h
theorem YO:dv 31:=dK.h
theorem T9:dv 32:=dK.h
theorem Ua:dv 33:=dK.h
theorem YP:dv 34:=dK.h
theorem YQ:dv 35:=dK.h
theorem YR:dv 36:=dK.h
theorem YS:dv 37:=dK.h
theorem Ub:dv 38:=dK.h
theorem KL:dv 39:=dK.h
theorem YT:dv 40:=dK.h
theorem YU:dv 41:=dK.h
theorem uc:dv 42:=dK.h
theorem Uc:dv 47:=dK.h
theorem Ud:dv 48:=dK.h
theorem YV:dv 49:=dK.h
theorem YW:dv 51:=dK.h
theorem Ue:dv 52:=dK.h
theorem YX:dv 53:=dK.h
theorem xW:dv 54:=dK.h
theorem om:dv 55:=dK.h
theorem YY:dv 56:=dK.h
theorem rx:dv 57:=dK.h
theorem YZ:dv 58:=dK.h
theorem Uf:dv 59:=dK.h
theorem Y0:dv 60:=dK.h
theorem Y1:dv 61:=dK.h
theorem Ug:dv 62:=dK.h
theorem OM:dv 63:=dK.h
theorem Y2:dv 64:=dK.h
theorem Y3:dv 66:=dK.h
theorem ud:dv 67:=dK.h
theorem Y4:dv 68:=dK.h
theorem Uh:dv 69:=dK.h
theorem Y5:dv 70:=dK.h
theorem xX:dv 71:=dK.h
theorem Df:dv 72:=dK.h
theorem Y6:dv 73:=dK.h
theorem Ui:dv 74:=dK.h
theorem Uj:dv 75:=dK.h
theorem Y7:dv 77:=dK.h
theorem Y8:dv 78:=dK.h
theorem Y9:dv 79:=dK.h
theorem OO:dv 80:=dK.h
theorem KN:dv 81:=dK.h
theorem Za:dv 82:=dK.h
theorem Uk:dv 83:=dK.h
theorem KO:dv 84:=dK.h
theorem OP:dv 85:=dK.h
theorem GM:dv 87:=dK.h
theorem AK:dv 88:=dK.h
theorem GN:dv 91:=dK.h
theorem Ul:dv 92:=dK.h
theorem Zb:dv 96:=dK.h
theorem Zc:dv 97:=dK.h
theorem Zd:dv 98:=dK.h
theorem Ze:dv 99:=dK.h
theorem Vv:dv 100:=dK.h
theorem Vw:dv 101:=dK.h
theorem Vx:dv 102:=dK.h
theorem OQ:dv 103:=dK.h
theorem Vy:dv 104:=dK.h
theorem AL:dv 105:=dK.h
theorem AO:dv 106:=dK.h
theorem I8:dv 107:=dK.h
theorem qK:dv 108:=dK.h
theorem Vz:dv 110:=dK.h
theorem EO:dv 111:=dK.h
theorem VA:dv 112:=dK.h
theorem VB:dv 113:=dK.h
theorem VD:dv 117:=dK.h
theorem VE:dv 118:=dK.h
theorem OT:dv 121:=dK.h
theorem OU:dv 122:=dK.h
theorem VF:dv 123:=dK.h
theorem mT:dv 124:=dK.h
theorem mU:dv 125:=dK.h
theorem VG:dv 126:=dK.h
theorem VH:dv 127:=dK.h
theorem VI:dv 128:=dK.h
theorem OV:dv 129:=dK.h
theorem EP:dv 130:=dK.h
theorem fZ:dv 132:=dK.h
theorem ly:dv 134:=dK.h
theorem VJ:dv 136:=dK.h
theorem VK:dv 138:=dK.h
theorem VL:dv 139:=dK.h
theorem AP:dv 140:=dK.h
theorem ER:dv 143:=dK.h
theorem OW:dv 146:=dK.h
theorem ES:dv 147:=dK.h
theorem VM:dv 148:=dK.h
theorem OY:dv 150:=dK.h
theorem ET:dv 152:=dK.h
theorem VN:dv 153:=dK.h
theorem AQ:dv 156:=dK.h
theorem OZ:dv 159:=dK.h
theorem xd:dv 160:=dK.h
theorem I9:dv 161:=dK.h
theorem Ja:dv 162:=dK.h
theorem O0:dv 163:=dK.h
theorem VO:dv 164:=dK.h
theorem VP:dv 165:=dK.h
theorem O1:dv 168:=dK.h
theorem O2:dv 170:=dK.h
theorem mV:dv 172:=dK.h
theorem sC:dv 173:=dK.h
theorem oo:dv 174:=dK.h
theorem VQ:dv 176:=dK.h
theorem VR:dv 177:=dK.h
theorem VT:dv 179:=dK.h
theorem VU:dv 180:=dK.h
theorem VW:dv 182:=dK.h
theorem VX:dv 183:=dK.h
theorem VY:dv 184:=dK.h
theorem VZ:dv 187:=dK.h
theorem V0:dv 188:=dK.h
theorem V1:dv 189:=dK.h
theorem O3:dv 190:=dK.h
theorem O4:dv 193:=dK.h
theorem O5:dv 197:=dK.h
theorem V2:dv 200:=dK.h
theorem V4:dv 202:=dK.h
theorem V5:dv 203:=dK.h
theorem O6:dv 206:=dK.h
theorem V6:dv 209:=dK.h
theorem V7:dv 210:=dK.h
theorem V8:dv 211:=dK.h
theorem V9:dv 212:=dK.h
theorem Wa:dv 213:=dK.h
theorem Wb:dv 214:=dK.h
theorem O7:dv 216:=dK.h
theorem Wc:dv 221:=dK.h
theorem O8:dv 222:=dK.h
theorem Wg:dv 223:=dK.h
theorem Wh:dv 224:=dK.h
theorem Wi:dv 225:=dK.h
theorem Wj:dv 226:=dK.h
theorem Wk:dv 227:=dK.h
theorem Wl:dv 228:=dK.h
theorem Wm:dv 251:=dK.h
theorem Wn:dv 260:=dK.h
theorem Wo:dv 287:=dK.h
theorem O9:dv 288:=dK.h
instance:Y (fJ Tryz.prog 3) (true):={}
instance:Y (eJ Tryz.prog 3) (some (.int .i64 0)):={}
instance:Y (fJ Tryz.prog 4) (true):={}
instance:Y (fJ Tryz.prog 9) (true):={}
instance:Y (fJ Tryz.prog 25) (true):={}
instance:Y (fJ Tryz.prog 26) (true):={}
instance:Y (fJ Tryz.prog 29) (true):={}
instance:Y (jU Tryz.prog 32) (some 2):={}
instance:Y (tB Tryz.prog 32) (some ([(0,1),(1,1)],[.int .i64 0,.int .i64 0])):={}
instance:Y (dW Tryz.prog 32 0) (some 0):={}
instance:Y (dW Tryz.prog 32 1) (some 1):={}
instance:Y (eJ Tryz.prog 32) (some (.agg #[.int .i64 0,.int .i64 0])):={}
instance:Y (nL Tryz.prog 34) (some (115,3)):={}
instance:Y (fJ Tryz.prog 34) (true):={}
instance:Y (tB Tryz.prog 41) (some ([(0,1),(1,1),(2,1)],[.slice none 0 0,.int .i64 0,.int .i64 0])):={}
instance:Y (dW Tryz.prog 41 0) (some 0):={}
instance:Y (dW Tryz.prog 41 1) (some 1):={}
instance:Y (dW Tryz.prog 41 2) (some 2):={}
instance:Y (fJ Tryz.prog 42) (true):={}
instance:Y (nL Tryz.prog 43) (some (126,5)):={}
instance:Y (fJ Tryz.prog 43) (true):={}
instance:Y (nL Tryz.prog 44) (some (103,3)):={}
instance:Y (fJ Tryz.prog 44) (true):={}
instance:Y (nL Tryz.prog 45) (some (124,3)):={}
instance:Y (fJ Tryz.prog 45) (true):={}
instance:Y (nL Tryz.prog 46) (some (91,4)):={}
instance:Y (fJ Tryz.prog 46) (true):={}
instance:Y (jU Tryz.prog 48) (some 6):={}
instance:Y (tB Tryz.prog 48) (some ([(0,1),(1,1),(2,1),(3,1),(4,1),(5,1)],[.slice none 0 0,.slice none 0 0,.slice none 0 0,.slice none 0 0,.int .i64 0,.int .i64 0])):={}
instance:Y (dW Tryz.prog 48 0) (some 0):={}
instance:Y (dW Tryz.prog 48 1) (some 1):={}
instance:Y (dW Tryz.prog 48 2) (some 2):={}
instance:Y (dW Tryz.prog 48 3) (some 3):={}
instance:Y (dW Tryz.prog 48 4) (some 4):={}
instance:Y (dW Tryz.prog 48 5) (some 5):={}
instance:Y (eJ Tryz.prog 48) (some (.agg #[.slice none 0 0,.slice none 0 0,.slice none 0 0,.slice none 0 0,.int .i64 0,.int .i64 0])):={}
instance:Y (dW Tryz.prog 50 0) (some 0):={}
instance:Y (dW Tryz.prog 50 1) (some 1):={}
instance:Y (nL Tryz.prog 61) (some (9,1)):={}
instance:Y (fJ Tryz.prog 61) (true):={}
instance:Y (tB Tryz.prog 66) (some ([(0,1)],[.pointer none])):={}
instance:Y (dW Tryz.prog 66 0) (some 0):={}
instance:Y (fJ Tryz.prog 76) (true):={}
instance:Y (dW Tryz.prog 78 0) (some 0):={}
instance:Y (dW Tryz.prog 78 1) (some 1):={}
instance:Y (jU Tryz.prog 91) (some 4):={}
instance:Y (tB Tryz.prog 91) (some ([(0,1),(1,1),(2,1),(3,1)],[.int .i64 0,.string ⟨#[]⟩,.int .i64 0,.int .i64 0])):={}
instance:Y (dW Tryz.prog 91 0) (some 0):={}
instance:Y (dW Tryz.prog 91 1) (some 1):={}
instance:Y (dW Tryz.prog 91 2) (some 2):={}
instance:Y (dW Tryz.prog 91 3) (some 3):={}
instance:Y (eJ Tryz.prog 91) (some (.agg #[.int .i64 0,.string ⟨#[]⟩,.int .i64 0,.int .i64 0])):={}
instance:Y (Tryz.prog.concrete 95) (true):={}
instance:Y (jU Tryz.prog 103) (some 3):={}
instance:Y (tB Tryz.prog 103) (some ([(0,1),(1,1),(2,1)],[.int .i64 0,.int .i64 0,.string ⟨#[]⟩])):={}
instance:Y (dW Tryz.prog 103 0) (some 0):={}
instance:Y (dW Tryz.prog 103 1) (some 1):={}
instance:Y (dW Tryz.prog 103 2) (some 2):={}
instance:Y (eJ Tryz.prog 103) (some (.agg #[.int .i64 0,.int .i64 0,.string ⟨#[]⟩])):={}
instance:Y (tB Tryz.prog 106) (some ([(0,1),(1,1)],[.pointer none,.pointer none])):={}
instance:Y (dW Tryz.prog 106 0) (some 0):={}
instance:Y (dW Tryz.prog 106 1) (some 1):={}
instance:Y (nL Tryz.prog 110) (some (3,1)):={}
instance:Y (fJ Tryz.prog 110) (true):={}
instance:Y (eJ Tryz.prog 110) (some (.slice none 0 0)):={}
instance:Y (jU Tryz.prog 115) (some 3):={}
instance:Y (tB Tryz.prog 115) (some ([(0,1),(1,1),(2,1)],[.string ⟨#[]⟩,.string ⟨#[]⟩,.bool false])):={}
instance:Y (dW Tryz.prog 115 0) (some 0):={}
instance:Y (dW Tryz.prog 115 1) (some 1):={}
instance:Y (dW Tryz.prog 115 2) (some 2):={}
instance:Y (eJ Tryz.prog 115) (some (.agg #[.string ⟨#[]⟩,.string ⟨#[]⟩,.bool false])):={}
instance:Y (nL Tryz.prog 118) (some (196,2)):={}
instance:Y (fJ Tryz.prog 118) (true):={}
instance:Y (dW Tryz.prog 120 0) (some 0):={}
instance:Y (dW Tryz.prog 120 1) (some 1):={}
instance:Y (dW Tryz.prog 120 2) (some 2):={}
instance:Y (dW Tryz.prog 120 3) (some 3):={}
instance:Y (dW Tryz.prog 120 4) (some 4):={}
instance:Y (jU Tryz.prog 124) (some 3):={}
instance:Y (tB Tryz.prog 124) (some ([(0,2),(2,1)],[.int .i64 0,.int .i64 0,.int .i64 0])):={}
instance:Y (dW Tryz.prog 124 0) (some 0):={}
instance:Y (dW Tryz.prog 124 1) (some 2):={}
instance:Y (eJ Tryz.prog 124) (some (.agg #[.int .i64 0,.int .i64 0,.int .i64 0])):={}
instance:Y (jU Tryz.prog 126) (some 5):={}
instance:Y (tB Tryz.prog 126) (some ([(0,1),(1,1),(2,1),(3,1),(4,1)],[.int .i64 0,.int .i64 0,.int .i64 0,.int .i64 0,.int .i64 0])):={}
instance:Y (dW Tryz.prog 126 0) (some 0):={}
instance:Y (dW Tryz.prog 126 1) (some 1):={}
instance:Y (dW Tryz.prog 126 2) (some 2):={}
instance:Y (dW Tryz.prog 126 3) (some 3):={}
instance:Y (dW Tryz.prog 126 4) (some 4):={}
instance:Y (eJ Tryz.prog 126) (some (.agg #[.int .i64 0,.int .i64 0,.int .i64 0,.int .i64 0,.int .i64 0])):={}
instance:Y (jU Tryz.prog 129) (some 4):={}
instance:Y (tB Tryz.prog 129) (some ([(0,1),(1,1),(2,1),(3,1)],[.int .i64 0,.int .i64 0,.int .i64 0,.int .i64 0])):={}
instance:Y (dW Tryz.prog 129 0) (some 0):={}
instance:Y (dW Tryz.prog 129 1) (some 1):={}
instance:Y (dW Tryz.prog 129 2) (some 2):={}
instance:Y (dW Tryz.prog 129 3) (some 3):={}
instance:Y (eJ Tryz.prog 129) (some (.agg #[.int .i64 0,.int .i64 0,.int .i64 0,.int .i64 0])):={}
instance:Y (fJ Tryz.prog 130) (true):={}
instance:Y (tB Tryz.prog 132) (some ([(0,1),(1,4),(5,1),(6,1)],[.pointer none,.int .i64 0,.int .i64 0,.int .i64 0,.int .i64 0,.pointer none,.slice none 0 0])):={}
instance:Y (dW Tryz.prog 132 0) (some 0):={}
instance:Y (dW Tryz.prog 132 1) (some 1):={}
instance:Y (dW Tryz.prog 132 2) (some 5):={}
instance:Y (dW Tryz.prog 132 3) (some 6):={}
instance:Y (fJ Tryz.prog 137) (true):={}
instance:Y (nL Tryz.prog 140) (some (34,1)):={}
instance:Y (fJ Tryz.prog 187) (true):={}
instance:Y (dW Tryz.prog 189 0) (some 0):={}
instance:Y (dW Tryz.prog 189 1) (some 1):={}
instance:Y (eJ Tryz.prog 189) (some (.agg #[.pointer none,.slice none 0 0])):={}
instance:Y (tB Tryz.prog 193) (some ([(0,1),(1,1),(2,1),(3,1),(4,1)],[.pointer none,.int .i64 0,.int .i64 0,.int .i64 0,.int .i64 0])):={}
instance:Y (dW Tryz.prog 193 0) (some 0):={}
instance:Y (dW Tryz.prog 193 1) (some 1):={}
instance:Y (dW Tryz.prog 193 2) (some 2):={}
instance:Y (dW Tryz.prog 193 3) (some 3):={}
instance:Y (dW Tryz.prog 193 4) (some 4):={}
instance:Y (jU Tryz.prog 196) (some 2):={}
instance:Y (tB Tryz.prog 196) (some ([(0,1),(1,1)],[.int .i64 0,.string ⟨#[]⟩])):={}
instance:Y (dW Tryz.prog 196 0) (some 0):={}
instance:Y (dW Tryz.prog 196 1) (some 1):={}
instance:Y (eJ Tryz.prog 196) (some (.agg #[.int .i64 0,.string ⟨#[]⟩])):={}
instance:Y (nP Tryz.prog 34 3) (some (115,40)):={}
instance:Y (nP Tryz.prog 43 5) (some (126,40)):={}
instance:Y (nP Tryz.prog 44 3) (some (103,32)):={}
instance:Y (nP Tryz.prog 45 3) (some (124,24)):={}
instance:Y (nP Tryz.prog 46 4) (some (91,40)):={}
instance:Y (nP Tryz.prog 61 1) (some (9,16)):={}
instance:Y (nP Tryz.prog 110 1) (some (3,8)):={}
instance:Y (nP Tryz.prog 140 1) (some (34,24)):={}
instance:Y (Tryz.prog.underlying 9) (some (.string)):={}
instance:Y (Tryz.prog.underlying 34) (some (.slice 115)):={}
instance:Y (Tryz.prog.underlying 38) (some (Go.TypeDesc.interface #[("Error",139)])):={}
instance:Y (Tryz.prog.underlying 43) (some (.slice 126)):={}
instance:Y (Tryz.prog.underlying 44) (some (.slice 103)):={}
instance:Y (Tryz.prog.underlying 45) (some (.slice 124)):={}
instance:Y (Tryz.prog.underlying 46) (some (.slice 91)):={}
instance:Y (Tryz.prog.underlying 61) (some (.slice 9)):={}
instance:Y (Tryz.prog.underlying 110) (some (.slice 3)):={}
instance:Y (Tryz.prog.underlying 118) (some (.slice 196)):={}
instance:Y (Tryz.prog.underlying 140) (some (.slice 34)):={}
instance:Y (Tryz.prog.underlying 187) (some (.pointer 189)):={}
end
end Go.Proofs.YtnmpibjlnninjaaGreatDoor
section
set_option maxRecDepth 100000
namespace Go.Proofs
open Go.Shelf
def Tryz.laysSF_ren:Go.Shelf.Ren:=⟨fun|6=>153|15=>205|14=>204|28=>248|29=>249|20=>240|21=>241|22=>242|23=>243|24=>244|25=>245|26=>246|27=>247|46=>282|47=>283|48=>284|49=>285|50=>286|57=>307|n=>n,fun|22=>34|24=>115|25=>217|3=>3|39=>183|0=>0|53=>236|55=>33|4=>4|46=>277|45=>276|50=>201|5=>5|9=>9|66=>308|70=>312|76=>329|77=>330|n=>n,fun|n=>n⟩
theorem Tryz.laysSF:Go.Proofs.SlLaysF0.n6 Tryz.prog Tryz.laysSF_ren:=⟨by kernel_rfl,⟨Tryz.f153.name,by decide,Tryz.func153.trans (congrArg some (by kernel_rfl))⟩,⟨Tryz.f204.name,by decide,Tryz.func204.trans (congrArg some (by kernel_rfl))⟩,Tryz.func205.trans (congrArg some (by kernel_rfl)),⟨Tryz.f240.name,by decide,Tryz.func240.trans (congrArg some (by kernel_rfl))⟩,⟨Tryz.f241.name,by decide,Tryz.func241.trans (congrArg some (by kernel_rfl))⟩,⟨Tryz.f242.name,by decide,Tryz.func242.trans (congrArg some (by kernel_rfl))⟩,⟨Tryz.f243.name,by decide,Tryz.func243.trans (congrArg some (by kernel_rfl))⟩,⟨Tryz.f244.name,by decide,Tryz.func244.trans (congrArg some (by kernel_rfl))⟩,⟨Tryz.f245.name,by decide,Tryz.func245.trans (congrArg some (by kernel_rfl))⟩,⟨Tryz.f246.name,by decide,Tryz.func246.trans (congrArg some (by kernel_rfl))⟩,⟨Tryz.f247.name,by decide,Tryz.func247.trans (congrArg some (by kernel_rfl))⟩,Tryz.func248.trans (congrArg some (by kernel_rfl)),Tryz.func249.trans (congrArg some (by kernel_rfl)),⟨Tryz.f282.name,by decide,Tryz.func282.trans (congrArg some (by kernel_rfl))⟩,Tryz.func283.trans (congrArg some (by kernel_rfl)),Tryz.func284.trans (congrArg some (by kernel_rfl)),⟨Tryz.f285.name,by decide,Tryz.func285.trans (congrArg some (by kernel_rfl))⟩,⟨Tryz.f286.name,by decide,Tryz.func286.trans (congrArg some (by kernel_rfl))⟩,⟨Tryz.f307.name,by decide,Tryz.func307.trans (congrArg some (by kernel_rfl))⟩,Tryz.underlying0,Tryz.isAgg0,Tryz.sizeOf0,Tryz.zeroValue0,Tryz.underlying3,Tryz.isAgg3,Tryz.sizeOf3,Tryz.zeroValue3,Tryz.underlying4,Tryz.isAgg4,Tryz.sizeOf4,Tryz.zeroValue4,Tryz.underlying5,Tryz.isAgg5,Tryz.sizeOf5,Tryz.zeroValue5,Tryz.underlying9,Tryz.isAgg9,Tryz.sizeOf9,Tryz.zeroValue9,Tryz.underlying34,Tryz.isAgg34,Tryz.sizeOf34,Tryz.zeroValue34,Tryz.underlying217,Tryz.isAgg217,Tryz.sizeOf217,Tryz.zeroValue217,Tryz.underlying183,Tryz.isAgg183,Tryz.sizeOf183,Tryz.zeroValue183,Tryz.underlying276,Tryz.isAgg276,Tryz.sizeOf276,Tryz.zeroValue276,Tryz.underlying277,Tryz.isAgg277,Tryz.sizeOf277,Tryz.zeroValue277,Tryz.underlying201,Tryz.isAgg201,Tryz.sizeOf201,Tryz.zeroValue201,Tryz.underlying236,Tryz.isAgg236,Tryz.sizeOf236,Tryz.zeroValue236,Tryz.underlying33,Tryz.isAgg33,Tryz.sizeOf33,Tryz.zeroValue33,Tryz.underlying308,Tryz.isAgg308,Tryz.sizeOf308,Tryz.zeroValue308,Tryz.underlying312,Tryz.isAgg312,Tryz.sizeOf312,Tryz.zeroValue312,Tryz.underlying329,Tryz.isAgg329,Tryz.sizeOf329,Tryz.zeroValue329,Tryz.underlying330,Tryz.isAgg330,Tryz.sizeOf330,Tryz.zeroValue330⟩
end Go.Proofs
end
section
set_option maxRecDepth 100000
namespace Go.Proofs
open Go.Shelf
def Tryz.lays106_ren:Go.Shelf.Ren:=⟨fun|106=>137|213=>194|265=>235|n=>n,fun|9=>9|3=>3|n=>n,fun|n=>n⟩
theorem Tryz.lays106:Go.Proofs.Lays.n106 Tryz.prog Tryz.lays106_ren:=⟨by kernel_rfl,Tryz.func137.trans (congrArg some (by kernel_rfl)),Tryz.func194.trans (congrArg some (by kernel_rfl)),Tryz.func235.trans (congrArg some (by kernel_rfl)),Tryz.underlying3,Tryz.isAgg3,Tryz.sizeOf3,Tryz.zeroValue3,Tryz.underlying9,Tryz.isAgg9,Tryz.sizeOf9,Tryz.zeroValue9⟩
def Tryz.lays212_ren:Go.Shelf.Ren:=⟨fun|212=>119|263=>185|264=>186|n=>n,fun|46=>183|51=>236|146=>237|53=>33|148=>239|n=>n,fun|n=>n⟩
theorem Tryz.lays212:Go.Proofs.Lays.n212 Tryz.prog Tryz.lays212_ren:=⟨by kernel_rfl,Tryz.func119.trans (congrArg some (by kernel_rfl)),Tryz.func185.trans (congrArg some (by kernel_rfl)),Tryz.func186.trans (congrArg some (by kernel_rfl)),Tryz.underlying183,Tryz.isAgg183,Tryz.sizeOf183,Tryz.zeroValue183,Tryz.underlying236,Tryz.isAgg236,Tryz.sizeOf236,Tryz.zeroValue236,Tryz.underlying33,Tryz.isAgg33,Tryz.sizeOf33,Tryz.zeroValue33,Tryz.underlying237,Tryz.isAgg237,Tryz.sizeOf237,Tryz.zeroValue237,Tryz.underlying239,Tryz.isAgg239,Tryz.sizeOf239,Tryz.zeroValue239⟩
open Go.RowKit in
theorem Tryz.strings_Compare (a b:ByteArray)(w:World) :
    Calls Tryz.prog 137 #[.string a,.string b] w fun e w'=>e = .returned (.int .i64 (Lib.compareBytes a.data.toList b.data.toList))/\w'=w:=Any.strings_Compare Tryz.lays106 a b w
open Go.RowKit Go.Lib in
theorem Tryz.bits_Mul (x y:Nat)(hx:x<18446744073709551616)(hy:y<18446744073709551616)(w:World) :
    Calls Tryz.prog 119 #[.int .u64 x,.int .u64 y] w fun e w'=>e = .returned (.tuple #[.int .u64 ((x*y / 18446744073709551616:Nat):Int),.int .u64 ((x*y % 18446744073709551616:Nat):Int)])/\w'=w:=Any.bits_Mul Tryz.lays212 x y hx hy w
end Go.Proofs
end
namespace Go.Proofs.YtnmpibjlnninjaaGreatDoor
set_option linter.unusedVariables false
set_option linter.unusedSimpArgs false
set_option maxRecDepth 100000
set_option maxHeartbeats 90000000
section
open Go Go.RowKit Go.Sort
instance:Inhabited Change:=⟨⟨⟨#[]⟩,⟨#[]⟩,false⟩⟩
def Q5 (x y:Change):Int:=Ex x.Key y.Key
theorem EU (x y:Change):ltOf Q5 x y=hY x.Key y.Key:=by
 grind [ltOf,Q5,hY,decide_eq_true,Gn,decide_eq_false]
theorem KP:SWO (ltOf Q5) where
 irrefl x:=by grind [EU,fL]
 trans x y z h k:=by grind [EU,nD]
 ntrans x y z h k:=by
  grind [EU,vJ,nD]
def lL (l:List Change):List Change:=(pdq (ltOf Q5) l.toArray 0 l.length (Lib.bitLen l.length) true true).toList
theorem sD (l:List Change):(lL l).Perm l/\(lL l).Pairwise (fun x y => ¬ hY y.Key x.Key=true)/\(lL l).length=l.length:=by
 have h:=pdq_sorts (ltOf Q5) KP l.toArray 0 l.toArray.size (Lib.bitLen l.length) true true (Nat.zero_le _) (Nat.le_refl _) (Or.inl rfl)
 rw [show l.toArray.size=l.length from rfl] at h
 obtain ⟨⟨hs,_,hp⟩,ho⟩:=h
 have hl:(lL l).length=l.length:=af
 have e1:∀d:Array Change,d.size=l.length->(d.extract 0 l.length).toList=d.toList:=fun d hd=>by grind [Array.extract_size]
 refine ⟨?_,?_,hl⟩
 .
  have:=hp
  rw [e1 _ hs,e1 _ rfl] at this
  exact this
 rw [List.pairwise_iff_getElem]
 intro i j hi hj hij
 have:=ho i j (Nat.zero_le _) hij ae
 rw [EU,getElem!_pos _ j az,getElem!_pos _ i az] at this
 intro q
 exact Bool.noConfusion (this.symm.trans q)
theorem GQ {a b:List Change}(ha:dC a)(hb:dC b):lL (vT a b)=bE a b:=IZ ha hb (sD _).1 (sD _).2.1
theorem GR (l:List Change):flatK Enc.cells 3 l.toArray=(l.flatMap Enc.cells).toArray:=by
 have hf:=eI l
 have h3:Enc.k Change=3:=rfl
 rw [h3] at hf
 refine ext_get! (by simp [hf]) fun t ht=>?_
 rw [size_flatK] at ht
 have ht':t<l.length*3:=ht
 rw [get_flatK _ _ _ t ht]
 have hi:t / 3<l.length:=ae
 have hj:t % 3<(Enc.cells (l[t / 3]'hi)).length:=by grind [Enc.len]
 have g:=flat_get l (t / 3) (l[t / 3]'hi) (t % 3) _ (List.getElem?_eq_getElem hi) (List.getElem?_eq_getElem hj)
 grind
theorem Pb {w:World}{g:Nat}{cur:Array Value}{e:TypeId}{xs:List Value}(hb:w.heap[g]? = some (.cells cur e (0,0)))(ht:cur.toList.take xs.length=xs):Holds id w g 0 xs.toArray:=by
 intro j hj
 have hj':j<xs.length:=ae
 refine ⟨?_,by grind [World.frozen?]⟩
 have h1:(cur.toList.take xs.length)[j]? = xs[j]?:=by rw [ht]
 rw [List.getElem?_take_of_lt hj'] at h1
 simp_all [World.cell?,Nat.zero_add,Option.isSome_none,Bool.false_eq_true,if_false,Array.getElem?_toList]
theorem Se {w:World}{g n:Nat}{os:Array Obj}{cur:Array Value}{e:TypeId}{fr:Nat×Nat}(d:Array Value)(hb:w.heap[g]? = some (.cells cur e fr)) :
 (Sort.grow (putRow id (Sort.ahead w n) g 0 d) os).heap[g]? = some (.cells (putCells id 0 d cur) e fr):=by
 grind [putRow,mapBlock,Sort.ahead,onCells,Array.getElem?_eq_some_iff,heap_grow_old]
theorem Jb {w:World}{g n:Nat}{os:Array Obj}(d:Array Value):w.grownBy (Sort.grow (putRow id (Sort.ahead w n) g 0 d) os) (some g):=by
 refine ⟨rfl,rfl,rfl,bA,fun k hk hne=>?_⟩
 grind [putRow,mapBlock,Sort.ahead,heap_grow_old]
theorem Sf (cur:Array Value)(ts:List Value)(h:ts.length<=cur.size):(putCells id 0 ts.toArray cur).toList.take ts.length=ts:=by
 apply List.ext_getElem?
 grind [putCells,List.getElem?_take_of_lt,List.getElem?_take_eq_none,List.getElem?_eq_none]
theorem aaZ (x y:Change)(w:World):Calls Tryz.prog 154 #[.agg (Enc.cells x).toArray,.agg (Enc.cells y).toArray] w fun e w'=>e = .returned (.int .i64 (Q5 x y)) /\ ∃q os',w'=Sort.grow (w.drewN q) os':=by
 have hcon:∀W,Calls Tryz.prog 137 #[.string x.Key,.string y.Key] W fun e w'=>e = .returned (.int .i64 (Q5 x y))/\w'=W:=fun W=>(Tryz.strings_Compare x.Key y.Key W).mono fun e w' ⟨h1,h2⟩=>⟨by rw [h1,<- qy,<- qy,Kk];rfl,h2⟩
 generalize Q5 x y=r at hcon ⊢
 show Calls Tryz.prog 154 #[.agg #[.string x.Key,.string x.Val,.bool x.Gone],.agg #[.string y.Key,.string y.Val,.bool y.Gone]] w _
 go_enter Tryz.func154,Tryz.ntmps154
 go_wp2_with (go_at_call 137;refine (hcon _).mono ?_;rintro e w' ⟨rfl,rfl⟩)
 go_ret
 exact ⟨rfl,0,_,by rw [alloc_eq_grow,alloc_eq_grow,grow_grow];rfl⟩
theorem Jc {w:World}{g cap n:Nat}{os:Array Obj}{l ts:List Change}{v:Value}(hv:v = .slice (some ⟨g,0,none⟩) l.length cap)(how:Own 0 115 w v l)(hl:ts.length=l.length) :
 Turned [ag.row 115 v l] [ag.row 115 v ts] w (Sort.grow (putRow id (Sort.ahead w n) g 0 (ts.flatMap Enc.cells).toArray) os):=by
 obtain ⟨hlen,hn|⟨g',cap',cur,hv',_,hgg,hnc,hcm,hcs,htk⟩⟩:=how
 .grind
 rw [hv] at hv'
 simp only [Value.slice.injEq,Option.some.injEq,Addr.mk.injEq,and_true,true_and] at hv'
 obtain ⟨rfl,rfl⟩:=hv'
 have h3:cur.size=cap*3:=hcs
 have hf:(ts.flatMap Enc.cells).length=ts.length*3:=eI ts
 have hgb:=Jb (w:=w) (g:=g) (n:=n) (os:=os) (ts.flatMap Enc.cells).toArray
 have hown:Own 0 115 (Sort.grow (putRow id (Sort.ahead w n) g 0 (ts.flatMap Enc.cells).toArray) os) v ts:=by
  refine ⟨eI ts,.inr ⟨g,cap,_,az,Nat.zero_le _,Se _ hgg,ae,hcm,by grind [putCells],?_⟩⟩
  show (putCells id 0 (ts.flatMap Enc.cells).toArray cur).toList.take (ts.length*3)=_
  grind [Sf,Nat.mul_le_mul_right]
 have hlt:g<w.heap.size:=(Array.getElem?_eq_some_iff.1 hgg).1
 refine ⟨⟨hgb.os,hgb.tape,hgb.output,hgb.size,fun k hk hx=>hgb.block k hk (fun e=>hx ?_)⟩,?_,?_,fun k hk=>?_⟩
 .grind [blks,ag.row,eB]
 .intro r hr;simp at hr;subst hr;exact hown
 .grind [blks,ag.row,eB]
 rw [hv] at hk;simp [blks,ag.row,eB] at hk;subst hk
 exact ⟨Nat.lt_of_lt_of_le hlt hgb.size,.inl (by grind [blks,ag.row,eB])⟩
theorem Turned.Zf {B0:List ag}{w:World}(h:Hnd B0 w):Turned B0 B0 w w:=⟨np.refl _ _,h.ok,h.sep,fun k hk=>⟨h.lt k hk,.inl hk⟩⟩
theorem L8 (v:Value)(l:List Change)(w:World)(H:Hnd [ag.row 115 v l] w)(hl:l.length<=1000000):Calls Tryz.prog 153 [v,.func (.func 154) #[] #[]].toArray w fun e w' => ∃_z:Unit,e = .returned (.tuple #[])/\Turned [ag.row 115 v l] [ag.row 115 v (lL l)] w w':=by
 have how:Own 0 115 w v l:=H.ok (ag.row 115 v l) (List.mem_singleton.2 rfl)
 have hs:=(sD l).2.2
 rcases how.2 with ⟨rfl,h0⟩ | ⟨g,cap,cur,hv,_,hgg,hnc,hcm,hcs,htk⟩
 .
  have:l=[]:=List.eq_nil_of_length_eq_zero h0
  subst this
  refine (AnyF.slices_SortFunc_none { Tryz.laysSF with} none 0 _ w).mono ?_
  rintro e w' ⟨rfl,rfl⟩
  have e0:lL []=[]:=List.eq_nil_of_length_eq_zero hs
  rw [e0]
  exact ⟨(),rfl,Turned.Zf H⟩
 have hH:HoldsK Enc.cells 3 w g 0 l.toArray:=by
  grind [HoldsK,GR,Pb,eI]
 have eg:dv 154:=enters_of Tryz.func154 eH rfl
 rw [hv]
 refine (AnyQ.slices_SortFunc_eq Tryz.laysSF 3 Tryz.isAgg115 Tryz.sizeOf115 Enc.cells Enc.len Enc.one Q5 KP 154 #[] g 0 cap l.toArray w eg (fun _ _ _ _ x y=>aaZ x y _) hH (Array.getElem?_eq_some_iff.1 hgg).1 az).mono ?_
 rintro e w' ⟨rfl,n,os,rfl⟩
 refine ⟨(),rfl,?_⟩
 have:=Jc (os:=os) (n:=n) (ts:=lL l) hv how hs
 rw [hv] at this
 unfold sortWorldK putRowK
 have e2:(pdq (ltOf Q5) l.toArray 0 l.toArray.size (Lib.bitLen l.toArray.size) true true)=(lL l).toArray:=eH
 grind [GR]
end
section
open Go Go.RowKit
set_option linter.unusedSectionVars false
theorem Dh {P:Program}{op:BinOp}{t:TypeId}(h:P.eqGuardType P.depth t=false)(a b:Operand)(xs ys:Array Value)(w:World):(eqGuard op t a b (.agg xs) (.agg ys)).run P w = .ok () w:=by
 have hp:(program:Sem Program).run P w = .ok P w:=rfl
 simp_all [eqGuard]
theorem Jd {P:Program}{t:TypeId}{β:Type}[DecidableEq β]{cs:β->List Value}(hg:P.eqGuardType P.depth t=false)(he:∀x y w,(Op.equal t (.agg (cs x).toArray) (.agg (cs y).toArray)).run P w = .ok (decide (x=y)) w):TK P t (fun x => .agg (cs x).toArray):=by
 refine ⟨fun x y w a b=>⟨Dh hg a b _ _ w,Dh hg a b _ _ w⟩,fun x y w=>⟨?_,?_⟩⟩
 .grind [binOp,Sem.run_bind,Result.andThen_ok,Sem.run_pure]
 grind [binOp,Sem.run_bind,Result.andThen_ok,Sem.run_pure]
theorem EV:TK Tryz.prog 126 ak.val:=by
 have hS:Tryz.prog.underlying 126=some (.struct (Tryz.prog.fieldsOf 126)):=ay
 have hp:Tryz.prog.stoodInHeld 126=false:=ay
 refine Jd (cs:=ak.cs) ay fun x y w=>?_
 have u3:=Tryz.underlying3;have a3:=Tryz.isAgg3;have z3:=Tryz.sizeOf3
 obtain ⟨x1,x2,x3,x4,x5⟩:=x;obtain ⟨y1,y2,y3,y4,y5⟩:=y
 rw [Op.equal,Op.maxDepth,show (10000:Nat)=9999+1 from rfl,run_equalIn_agg w 9999 126 _ _ hS hp]
 simp only [Program.fieldsOf,Tryz.underlying126]
 go_simp
 by_cases h1:x1=y1 <;> by_cases h2:x2=y2 <;> by_cases h3:x3=y3 <;> by_cases h4:x4=y4 <;> by_cases h5:x5=y5 <;> simp [h1,h2,h3,h4,h5]
theorem ka:TK Tryz.prog 32 Place.val:=by
 have hS:Tryz.prog.underlying 32=some (.struct (Tryz.prog.fieldsOf 32)):=ay
 have hp:Tryz.prog.stoodInHeld 32=false:=ay
 refine Jd (cs:=fun x:Place=>[.int .i64 x.aD,.int .i64 x.Slot]) ay fun x y w=>?_
 have u3:=Tryz.underlying3;have a3:=Tryz.isAgg3;have z3:=Tryz.sizeOf3
 obtain ⟨x1,x2⟩:=x;obtain ⟨y1,y2⟩:=y
 rw [Op.equal,Op.maxDepth,show (10000:Nat)=9999+1 from rfl,run_equalIn_agg w 9999 32 _ _ hS hp]
 simp only [Program.fieldsOf,Tryz.underlying32]
 go_simp
 by_cases h1:x1=y1 <;> by_cases h2:x2=y2 <;> simp [h1,h2]
theorem EW:TK Tryz.prog 115 Change.val:=by
 have hS:Tryz.prog.underlying 115=some (.struct (Tryz.prog.fieldsOf 115)):=ay
 have hp:Tryz.prog.stoodInHeld 115=false:=ay
 refine Jd (cs:=Change.cs) ay fun x y w=>?_
 have u3:=Tryz.underlying9;have a3:=Tryz.isAgg9;have z3:=Tryz.sizeOf9;have u4:=Tryz.underlying4;have a4:=Tryz.isAgg4;have z4:=Tryz.sizeOf4
 obtain ⟨x1,x2,x3⟩:=x;obtain ⟨y1,y2,y3⟩:=y
 rw [Op.equal,Op.maxDepth,show (10000:Nat)=9999+1 from rfl,run_equalIn_agg w 9999 115 _ _ hS hp]
 simp only [Program.fieldsOf,Tryz.underlying115]
 go_simp
 have tl:∀a b:ByteArray,a.toList=b.toList↔a=b:=fun a b=>by have:=pG a b;rw [Bool.eq_iff_iff] at this;simpa using this
 by_cases h1:x1=y1 <;> by_cases h2:x2=y2 <;> by_cases h3:x3=y3 <;> simp [h1,h2,h3,tl]
section
variable {α:Type} [DecidableEq α] {a b:List α}
theorem GU (h:¬ a.length=b.length):false=decide (a=b):=(decide_eq_false (fun e=>h (by rw [e]))).symm
theorem GV {k:Nat}{x y:α}(hx:a[k]? = some x)(hy:b[k]? = some y)(h:¬ x=y):false=decide (a=b):=(decide_eq_false (fun e=>h az)).symm
theorem GX {k:Nat}(hl:a.length=b.length)(hk:¬ k<a.length)(h:∀j,j<k->a[j]? = b[j]?):true=decide (a=b):=by
 refine (decide_eq_true (List.ext_getElem? fun j=>?_)).symm
 grind
theorem Di {k:Nat}{x y:α}(h:∀j,j<k->a[j]? = b[j]?)(hx:a[k]? = some x)(hy:b[k]? = some y)(e:x=y):∀j,j<k+1->a[j]? = b[j]?:=by
 grind
end
end
section
open Go Go.RowKit
attribute [local irreducible] Run Rg Rq Qt Qa Stp Dg Do Dm bQ
end
end Go.Proofs.YtnmpibjlnninjaaGreatDoor
