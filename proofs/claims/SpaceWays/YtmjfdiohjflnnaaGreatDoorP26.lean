/- A part of the proof: CK1, SC, SK0, SK1, SK2, SK3, SK4, SK5, PvIns, SM, PvI1, PvJ2, SW, CLM0. -/
import Derived.Deep.RegionLaw
import Derived.Shelf.Spec.SlicesInsertGrow
import Derived.WalkKit
import Derived.Test.YtmjfdiohjflnnaaGreatDoorP04
import Derived.Test.YtmjfdiohjflnnaaGreatDoorP06
import Derived.Test.YtmjfdiohjflnnaaGreatDoorP07
import Derived.Test.YtmjfdiohjflnnaaGreatDoorP15
import Derived.Test.YtmjfdiohjflnnaaGreatDoorP16
import Derived.Test.YtmjfdiohjflnnaaGreatDoorP17
import Derived.Test.YtmjfdiohjflnnaaGreatDoorP25
import Derived.Test.YtmjfdiohjflnnaaGreatDoorProg
set_option linter.all false
namespace Go.PV
open Go Go.Proofs.YtmjfdiohjflnnaaGreatDoor Go.Proofs
set_option maxRecDepth 100000
theorem a3:Rows.spaceWaysRow.wfByText (OpenSpec.ofChange Rows.spaceWaysSpec)=true:=by kernel_rfl
theorem a4:Tryz.pinned.checked.prog.mainIs=some (true,"b5f1a488004e4e40a579d1d4dca9f81167856f68a327efc5b61bdfe0942cb7c1".toList):=by kernel_rfl
theorem a5:true=Tryz.pinned.checked.prog.looks []:=by kernel_rfl
theorem w25:Tryz.prog.wantsStandIn 25=false:=by kernel_rfl
theorem w45:Tryz.prog.wantsStandIn 45=false:=by kernel_rfl
theorem w46:Tryz.prog.wantsStandIn 46=false:=by kernel_rfl
theorem plain (f:FuncId) (fn:Func) (hf:Tryz.pinned.checked.prog.funcNamed Rows.spaceWaysRow.func=some f) (hfn:Tryz.pinned.checked.prog.funcs[f]? =some fn):
    true=Tryz.pinned.checked.prog.looks []∧ ∀(j:Nat) t,fn.params[j]? =some t→Tryz.pinned.checked.prog.wantsStandIn t=false:=by
  obtain rfl:f=4:=Option.some.inj (hf.symm.trans Go.PV.fnm)
  obtain rfl:fn=Tryz.f4:=(Option.some.inj (Tryz.func4.symm.trans hfn)).symm
  refine ⟨a5,fun j t ht=> ?_⟩
  rw [Tryz.params4] at ht
  have:=Array.mem_of_getElem? ht
  have:t=25∨t=45∨t=46:=by simpa using this
  rcases this with h|h|h
  · subst h;exact w25
  · subst h;exact w45
  · subst h;exact w46
end Go.PV
namespace Go.PV
open Go Go.Proofs.Tryz
set_option maxRecDepth 100000
noncomputable abbrev X1 (f n:Nat) (fn:Func):FX:=kX E0 okd f 1 n (gtabD 1) (stabD 1) fn
abbrev Z1 (f n:Nat) (fn:Func):Prop:=fxOK E0 prog okd f (X1 f n fn)
theorem Y1 {f n:Nat} {fn:Func} (hf:E0.fns f=some fn) (h:kOKB E0 f 1 n (gtabD 1) fn=true):Z1 f n fn:=kX_ok E0 okd f 1 n (gtabD 1) (stabD 1) (gtabD_ok 1) (stabD_ok 1) fn rfl hf h
noncomputable abbrev X2 (f n:Nat) (fn:Func):FX:=kX E0 okd f 2 n (gtabD 2) (stabD 2) fn
abbrev Z2 (f n:Nat) (fn:Func):Prop:=fxOK E0 prog okd f (X2 f n fn)
theorem Y2 {f n:Nat} {fn:Func} (hf:E0.fns f=some fn) (h:kOKB E0 f 2 n (gtabD 2) fn=true):Z2 f n fn:=kX_ok E0 okd f 2 n (gtabD 2) (stabD 2) (gtabD_ok 2) (stabD_ok 2) fn rfl hf h
noncomputable abbrev X3 (f n:Nat) (fn:Func):FX:=kX E0 okd f 3 n (gtabD 3) (stabD 3) fn
abbrev Z3 (f n:Nat) (fn:Func):Prop:=fxOK E0 prog okd f (X3 f n fn)
theorem Y3 {f n:Nat} {fn:Func} (hf:E0.fns f=some fn) (h:kOKB E0 f 3 n (gtabD 3) fn=true):Z3 f n fn:=kX_ok E0 okd f 3 n (gtabD 3) (stabD 3) (gtabD_ok 3) (stabD_ok 3) fn rfl hf h
end Go.PV
namespace Go.PV
open Go Go.Proofs.Tryz
set_option maxRecDepth 100000
theorem y3:Z3 3 177 f3:=Y3 rfl (by decide+kernel)
theorem y4:Z3 4 251 f4:=Y3 rfl (by decide+kernel)
theorem y5:Z2 5 64 f5:=Y2 rfl (by decide+kernel)
theorem y6:Z3 6 189 f6:=Y3 rfl (by decide+kernel)
theorem y7:Z2 7 27 f7:=Y2 rfl (by decide+kernel)
theorem y8:Z2 8 27 f8:=Y2 rfl (by decide+kernel)
theorem y9:Z2 9 33 f9:=Y2 rfl (by decide+kernel)
theorem y10:Z2 10 48 f10:=Y2 rfl (by decide+kernel)
theorem y11:Z2 11 26 f11:=Y2 rfl (by decide+kernel)
theorem y12:Z2 12 35 f12:=Y2 rfl (by decide+kernel)
theorem y13:Z2 13 35 f13:=Y2 rfl (by decide+kernel)
theorem y14:Z2 14 49 f14:=Y2 rfl (by decide+kernel)
theorem y15:Z3 15 109 f15:=Y3 rfl (by decide+kernel)
theorem y16:Z2 16 10 f16:=Y2 rfl (by decide+kernel)
theorem y17:Z2 17 9 f17:=Y2 rfl (by decide+kernel)
theorem y18:Z2 18 9 f18:=Y2 rfl (by decide+kernel)
theorem y19:Z3 19 70 f19:=Y3 rfl (by decide+kernel)
theorem y20:Z2 20 10 f20:=Y2 rfl (by decide+kernel)
theorem y21:Z2 21 41 f21:=Y2 rfl (by decide+kernel)
theorem y22:Z2 22 13 f22:=Y2 rfl (by decide+kernel)
theorem y23:Z2 23 64 f23:=Y2 rfl (by decide+kernel)
theorem y24:Z2 24 27 f24:=Y2 rfl (by decide+kernel)
theorem y25:Z2 25 27 f25:=Y2 rfl (by decide+kernel)
theorem y26:Z2 26 15 f26:=Y2 rfl (by decide+kernel)
theorem y27:Z2 27 28 f27:=Y2 rfl (by decide+kernel)
theorem y28:Z3 28 124 f28:=Y3 rfl (by decide+kernel)
theorem y29:Z2 29 26 f29:=Y2 rfl (by decide+kernel)
theorem y30:Z2 30 9 f30:=Y2 rfl (by decide+kernel)
theorem y31:Z2 31 13 f31:=Y2 rfl (by decide+kernel)
theorem y32:Z2 32 11 f32:=Y2 rfl (by decide+kernel)
theorem y33:Z3 33 101 f33:=Y3 rfl (by decide+kernel)
theorem y34:Z2 34 14 f34:=Y2 rfl (by decide+kernel)
theorem y35:Z3 35 74 f35:=Y3 rfl (by decide+kernel)
theorem y36:Z2 36 28 f36:=Y2 rfl (by decide+kernel)
theorem y37:Z2 37 44 f37:=Y2 rfl (by decide+kernel)
theorem y38:Z2 38 51 f38:=Y2 rfl (by decide+kernel)
theorem y39:Z2 39 12 f39:=Y2 rfl (by decide+kernel)
theorem y40:Z1 40 5 f40:=Y1 rfl (by decide+kernel)
theorem y41:Z2 41 23 f41:=Y2 rfl (by decide+kernel)
theorem y42:Z2 42 24 f42:=Y2 rfl (by decide+kernel)
theorem y43:Z2 43 41 f43:=Y2 rfl (by decide+kernel)
theorem y44:Z3 44 128 f44:=Y3 rfl (by decide+kernel)
theorem y45:Z2 45 53 f45:=Y2 rfl (by decide+kernel)
theorem y46:Z2 46 9 f46:=Y2 rfl (by decide+kernel)
theorem y47:Z3 47 73 f47:=Y3 rfl (by decide+kernel)
theorem y48:Z2 48 34 f48:=Y2 rfl (by decide+kernel)
theorem y49:Z2 49 19 f49:=Y2 rfl (by decide+kernel)
theorem y50:Z1 50 8 f50:=Y1 rfl (by decide+kernel)
theorem y51:Z1 51 8 f51:=Y1 rfl (by decide+kernel)
theorem y52:Z2 52 20 f52:=Y2 rfl (by decide+kernel)
theorem y53:Z2 53 15 f53:=Y2 rfl (by decide+kernel)
theorem y54:Z2 54 17 f54:=Y2 rfl (by decide+kernel)
theorem y55:Z2 55 19 f55:=Y2 rfl (by decide+kernel)
theorem y56:Z2 56 9 f56:=Y2 rfl (by decide+kernel)
theorem y57:Z2 57 13 f57:=Y2 rfl (by decide+kernel)
theorem y58:Z2 58 48 f58:=Y2 rfl (by decide+kernel)
theorem y59:Z3 59 193 f59:=Y3 rfl (by decide+kernel)
theorem y60:Z2 60 14 f60:=Y2 rfl (by decide+kernel)
theorem y61:Z2 61 12 f61:=Y2 rfl (by decide+kernel)
theorem y62:Z1 62 8 f62:=Y1 rfl (by decide+kernel)
theorem y63:Z2 63 41 f63:=Y2 rfl (by decide+kernel)
theorem y64:Z2 64 9 f64:=Y2 rfl (by decide+kernel)
theorem y65:Z2 65 21 f65:=Y2 rfl (by decide+kernel)
theorem y66:Z2 66 49 f66:=Y2 rfl (by decide+kernel)
theorem y67:Z1 67 7 f67:=Y1 rfl (by decide+kernel)
theorem y68:Z3 68 114 f68:=Y3 rfl (by decide+kernel)
theorem y69:Z3 69 66 f69:=Y3 rfl (by decide+kernel)
theorem y70:Z2 70 32 f70:=Y2 rfl (by decide+kernel)
theorem y71:Z2 71 28 f71:=Y2 rfl (by decide+kernel)
theorem y72:Z2 72 9 f72:=Y2 rfl (by decide+kernel)
theorem y73:Z2 73 14 f73:=Y2 rfl (by decide+kernel)
theorem y74:Z2 74 26 f74:=Y2 rfl (by decide+kernel)
theorem y75:Z2 75 24 f75:=Y2 rfl (by decide+kernel)
theorem y76:Z2 76 28 f76:=Y2 rfl (by decide+kernel)
theorem y77:Z1 77 8 f77:=Y1 rfl (by decide+kernel)
theorem y78:Z2 78 40 f78:=Y2 rfl (by decide+kernel)
theorem y79:Z3 79 91 f79:=Y3 rfl (by decide+kernel)
theorem y80:Z2 80 17 f80:=Y2 rfl (by decide+kernel)
theorem y81:Z2 81 30 f81:=Y2 rfl (by decide+kernel)
theorem y82:Z2 82 17 f82:=Y2 rfl (by decide+kernel)
theorem y83:Z2 83 41 f83:=Y2 rfl (by decide+kernel)
theorem y84:Z2 84 10 f84:=Y2 rfl (by decide+kernel)
theorem y85:Z2 85 19 f85:=Y2 rfl (by decide+kernel)
theorem y86:Z2 86 29 f86:=Y2 rfl (by decide+kernel)
theorem y87:Z2 87 49 f87:=Y2 rfl (by decide+kernel)
theorem y88:Z2 88 16 f88:=Y2 rfl (by decide+kernel)
theorem y89:Z2 89 54 f89:=Y2 rfl (by decide+kernel)
theorem y90:Z2 90 32 f90:=Y2 rfl (by decide+kernel)
theorem y91:Z2 91 20 f91:=Y2 rfl (by decide+kernel)
theorem y92:Z2 92 32 f92:=Y2 rfl (by decide+kernel)
end Go.PV
namespace Go.PV
open Go Go.Proofs.Tryz
set_option maxRecDepth 100000
theorem y93:Z1 93 8 f93:=Y1 rfl (by decide+kernel)
theorem y94:Z2 94 32 f94:=Y2 rfl (by decide+kernel)
theorem y95:Z2 95 17 f95:=Y2 rfl (by decide+kernel)
theorem y96:Z2 96 24 f96:=Y2 rfl (by decide+kernel)
theorem y97:Z2 97 19 f97:=Y2 rfl (by decide+kernel)
theorem y98:Z2 98 30 f98:=Y2 rfl (by decide+kernel)
theorem y99:Z2 99 19 f99:=Y2 rfl (by decide+kernel)
theorem y100:Z2 100 9 f100:=Y2 rfl (by decide+kernel)
theorem y101:Z1 101 4 f101:=Y1 rfl (by decide+kernel)
theorem y102:Z3 102 148 f102:=Y3 rfl (by decide+kernel)
theorem y103:Z1 103 8 f103:=Y1 rfl (by decide+kernel)
theorem y104:Z2 104 46 f104:=Y2 rfl (by decide+kernel)
theorem y105:Z2 105 11 f105:=Y2 rfl (by decide+kernel)
theorem y106:Z2 106 60 f106:=Y2 rfl (by decide+kernel)
theorem y107:Z3 107 122 f107:=Y3 rfl (by decide+kernel)
theorem y108:Z2 108 9 f108:=Y2 rfl (by decide+kernel)
theorem y109:Z3 109 191 f109:=Y3 rfl (by decide+kernel)
theorem y110:Z3 110 109 f110:=Y3 rfl (by decide+kernel)
theorem y111:Z3 111 112 f111:=Y3 rfl (by decide+kernel)
theorem y112:Z3 112 316 f112:=Y3 rfl (by decide+kernel)
theorem y113:Z2 113 61 f113:=Y2 rfl (by decide+kernel)
theorem y114:Z1 114 5 f114:=Y1 rfl (by decide+kernel)
theorem y115:Z2 115 32 f115:=Y2 rfl (by decide+kernel)
theorem y116:Z2 116 47 f116:=Y2 rfl (by decide+kernel)
theorem y117:Z2 117 12 f117:=Y2 rfl (by decide+kernel)
theorem y118:Z2 118 9 f118:=Y2 rfl (by decide+kernel)
theorem y119:Z2 119 9 f119:=Y2 rfl (by decide+kernel)
theorem y120:Z2 120 9 f120:=Y2 rfl (by decide+kernel)
theorem y121:Z2 121 9 f121:=Y2 rfl (by decide+kernel)
theorem y122:Z2 122 9 f122:=Y2 rfl (by decide+kernel)
theorem y123:Z2 123 36 f123:=Y2 rfl (by decide+kernel)
theorem y124:Z1 124 2 f124:=Y1 rfl (by decide+kernel)
theorem y125:Z2 125 45 f125:=Y2 rfl (by decide+kernel)
theorem y126:Z2 126 12 f126:=Y2 rfl (by decide+kernel)
theorem y127:Z2 127 19 f127:=Y2 rfl (by decide+kernel)
theorem y128:Z2 128 19 f128:=Y2 rfl (by decide+kernel)
theorem y129:Z2 129 19 f129:=Y2 rfl (by decide+kernel)
theorem y130:Z2 130 23 f130:=Y2 rfl (by decide+kernel)
theorem y131:Z1 131 8 f131:=Y1 rfl (by decide+kernel)
theorem y132:Z2 132 19 f132:=Y2 rfl (by decide+kernel)
theorem y133:Z1 133 5 f133:=Y1 rfl (by decide+kernel)
theorem y134:Z2 134 14 f134:=Y2 rfl (by decide+kernel)
theorem y135:Z2 135 29 f135:=Y2 rfl (by decide+kernel)
theorem y136:Z2 136 14 f136:=Y2 rfl (by decide+kernel)
theorem y137:Z3 137 167 f137:=Y3 rfl (by decide+kernel)
theorem y138:Z2 138 19 f138:=Y2 rfl (by decide+kernel)
theorem y139:Z2 139 19 f139:=Y2 rfl (by decide+kernel)
theorem y140:Z2 140 14 f140:=Y2 rfl (by decide+kernel)
theorem y141:Z2 141 24 f141:=Y2 rfl (by decide+kernel)
theorem y142:Z2 142 49 f142:=Y2 rfl (by decide+kernel)
theorem y143:Z2 143 36 f143:=Y2 rfl (by decide+kernel)
theorem y144:Z3 144 96 f144:=Y3 rfl (by decide+kernel)
theorem y145:Z2 145 50 f145:=Y2 rfl (by decide+kernel)
theorem y146:Z2 146 9 f146:=Y2 rfl (by decide+kernel)
theorem y147:Z1 147 8 f147:=Y1 rfl (by decide+kernel)
theorem y148:Z2 148 32 f148:=Y2 rfl (by decide+kernel)
theorem y149:Z2 149 45 f149:=Y2 rfl (by decide+kernel)
theorem y150:Z2 150 32 f150:=Y2 rfl (by decide+kernel)
theorem y151:Z2 151 26 f151:=Y2 rfl (by decide+kernel)
theorem y152:Z2 152 17 f152:=Y2 rfl (by decide+kernel)
theorem y153:Z2 153 51 f153:=Y2 rfl (by decide+kernel)
theorem y154:Z1 154 5 f154:=Y1 rfl (by decide+kernel)
theorem y155:Z2 155 11 f155:=Y2 rfl (by decide+kernel)
theorem y156:Z2 156 16 f156:=Y2 rfl (by decide+kernel)
theorem y157:Z2 157 53 f157:=Y2 rfl (by decide+kernel)
theorem y158:Z2 158 60 f158:=Y2 rfl (by decide+kernel)
theorem y159:Z3 159 67 f159:=Y3 rfl (by decide+kernel)
theorem y160:Z2 160 63 f160:=Y2 rfl (by decide+kernel)
theorem y161:Z2 161 34 f161:=Y2 rfl (by decide+kernel)
theorem y162:Z3 162 141 f162:=Y3 rfl (by decide+kernel)
theorem y163:Z3 163 90 f163:=Y3 rfl (by decide+kernel)
theorem y164:Z3 164 178 f164:=Y3 rfl (by decide+kernel)
theorem y165:Z2 165 19 f165:=Y2 rfl (by decide+kernel)
theorem y166:Z2 166 25 f166:=Y2 rfl (by decide+kernel)
theorem y167:Z2 167 51 f167:=Y2 rfl (by decide+kernel)
theorem y168:Z1 168 2 f168:=Y1 rfl (by decide+kernel)
theorem y169:Z2 169 20 f169:=Y2 rfl (by decide+kernel)
theorem y170:Z2 170 24 f170:=Y2 rfl (by decide+kernel)
theorem y171:Z2 171 31 f171:=Y2 rfl (by decide+kernel)
theorem y172:Z1 172 7 f172:=Y1 rfl (by decide+kernel)
theorem y173:Z2 173 9 f173:=Y2 rfl (by decide+kernel)
theorem y174:Z3 174 196 f174:=Y3 rfl (by decide+kernel)
theorem y175:Z3 175 77 f175:=Y3 rfl (by decide+kernel)
theorem y176:Z2 176 40 f176:=Y2 rfl (by decide+kernel)
theorem y177:Z3 177 91 f177:=Y3 rfl (by decide+kernel)
theorem y178:Z1 178 6 f178:=Y1 rfl (by decide+kernel)
theorem y179:Z2 179 20 f179:=Y2 rfl (by decide+kernel)
theorem y180:Z2 180 55 f180:=Y2 rfl (by decide+kernel)
theorem y181:Z2 181 21 f181:=Y2 rfl (by decide+kernel)
theorem y182:Z2 182 18 f182:=Y2 rfl (by decide+kernel)
end Go.PV
namespace Go.PV
open Go Go.Proofs.Tryz
set_option maxRecDepth 100000
theorem y183:Z2 183 12 f183:=Y2 rfl (by decide+kernel)
theorem y184:Z2 184 36 f184:=Y2 rfl (by decide+kernel)
theorem y185:Z2 185 59 f185:=Y2 rfl (by decide+kernel)
theorem y186:Z2 186 54 f186:=Y2 rfl (by decide+kernel)
theorem y187:Z2 187 30 f187:=Y2 rfl (by decide+kernel)
theorem y188:Z2 188 18 f188:=Y2 rfl (by decide+kernel)
theorem y189:Z2 189 31 f189:=Y2 rfl (by decide+kernel)
theorem y190:Z2 190 43 f190:=Y2 rfl (by decide+kernel)
theorem y191:Z2 191 19 f191:=Y2 rfl (by decide+kernel)
theorem y192:Z3 192 145 f192:=Y3 rfl (by decide+kernel)
theorem y193:Z2 193 17 f193:=Y2 rfl (by decide+kernel)
theorem y194:Z2 194 14 f194:=Y2 rfl (by decide+kernel)
theorem y195:Z3 195 75 f195:=Y3 rfl (by decide+kernel)
theorem y196:Z2 196 13 f196:=Y2 rfl (by decide+kernel)
theorem y197:Z3 197 87 f197:=Y3 rfl (by decide+kernel)
theorem y198:Z3 198 144 f198:=Y3 rfl (by decide+kernel)
theorem y199:Z3 199 90 f199:=Y3 rfl (by decide+kernel)
theorem y200:Z3 200 141 f200:=Y3 rfl (by decide+kernel)
theorem y201:Z3 201 117 f201:=Y3 rfl (by decide+kernel)
theorem y202:Z3 202 91 f202:=Y3 rfl (by decide+kernel)
theorem y203:Z1 203 4 f203:=Y1 rfl (by decide+kernel)
theorem y204:Z2 204 23 f204:=Y2 rfl (by decide+kernel)
theorem y205:Z3 205 86 f205:=Y3 rfl (by decide+kernel)
theorem y206:Z2 206 57 f206:=Y2 rfl (by decide+kernel)
theorem y207:Z1 207 8 f207:=Y1 rfl (by decide+kernel)
theorem y208:Z2 208 19 f208:=Y2 rfl (by decide+kernel)
theorem y209:Z2 209 19 f209:=Y2 rfl (by decide+kernel)
theorem y210:Z2 210 27 f210:=Y2 rfl (by decide+kernel)
theorem y211:Z2 211 9 f211:=Y2 rfl (by decide+kernel)
theorem y212:Z3 212 110 f212:=Y3 rfl (by decide+kernel)
theorem y213:Z2 213 12 f213:=Y2 rfl (by decide+kernel)
theorem y214:Z3 214 106 f214:=Y3 rfl (by decide+kernel)
theorem y215:Z2 215 20 f215:=Y2 rfl (by decide+kernel)
theorem y216:Z1 216 5 f216:=Y1 rfl (by decide+kernel)
theorem y217:Z2 217 43 f217:=Y2 rfl (by decide+kernel)
theorem y218:Z2 218 30 f218:=Y2 rfl (by decide+kernel)
theorem y219:Z2 219 46 f219:=Y2 rfl (by decide+kernel)
theorem y220:Z2 220 47 f220:=Y2 rfl (by decide+kernel)
theorem y221:Z3 221 166 f221:=Y3 rfl (by decide+kernel)
theorem y222:Z2 222 9 f222:=Y2 rfl (by decide+kernel)
theorem y223:Z2 223 27 f223:=Y2 rfl (by decide+kernel)
theorem y224:Z2 224 23 f224:=Y2 rfl (by decide+kernel)
theorem y225:Z2 225 12 f225:=Y2 rfl (by decide+kernel)
theorem y226:Z2 226 28 f226:=Y2 rfl (by decide+kernel)
theorem y227:Z2 227 38 f227:=Y2 rfl (by decide+kernel)
theorem y228:Z1 228 6 f228:=Y1 rfl (by decide+kernel)
theorem y229:Z2 229 58 f229:=Y2 rfl (by decide+kernel)
theorem y230:Z2 230 25 f230:=Y2 rfl (by decide+kernel)
theorem y231:Z2 231 27 f231:=Y2 rfl (by decide+kernel)
theorem y232:Z3 232 153 f232:=Y3 rfl (by decide+kernel)
theorem y233:Z2 233 21 f233:=Y2 rfl (by decide+kernel)
theorem y234:Z2 234 23 f234:=Y2 rfl (by decide+kernel)
theorem y236:Z3 236 134 f236:=Y3 rfl (by decide+kernel)
theorem y237:Z3 237 82 f237:=Y3 rfl (by decide+kernel)
theorem y238:Z1 238 7 f238:=Y1 rfl (by decide+kernel)
theorem y239:Z2 239 33 f239:=Y2 rfl (by decide+kernel)
theorem y240:Z2 240 18 f240:=Y2 rfl (by decide+kernel)
theorem y241:Z2 241 41 f241:=Y2 rfl (by decide+kernel)
theorem y242:Z2 242 64 f242:=Y2 rfl (by decide+kernel)
theorem y243:Z3 243 89 f243:=Y3 rfl (by decide+kernel)
theorem y244:Z2 244 42 f244:=Y2 rfl (by decide+kernel)
theorem y245:Z2 245 51 f245:=Y2 rfl (by decide+kernel)
theorem y246:Z2 246 64 f246:=Y2 rfl (by decide+kernel)
theorem y247:Z2 247 46 f247:=Y2 rfl (by decide+kernel)
theorem y248:Z1 248 8 f248:=Y1 rfl (by decide+kernel)
theorem y249:Z2 249 13 f249:=Y2 rfl (by decide+kernel)
theorem y250:Z2 250 15 f250:=Y2 rfl (by decide+kernel)
theorem y251:Z3 251 180 f251:=Y3 rfl (by decide+kernel)
theorem y252:Z2 252 41 f252:=Y2 rfl (by decide+kernel)
theorem y253:Z2 253 40 f253:=Y2 rfl (by decide+kernel)
theorem y254:Z3 254 138 f254:=Y3 rfl (by decide+kernel)
theorem y255:Z2 255 17 f255:=Y2 rfl (by decide+kernel)
theorem y256:Z2 256 9 f256:=Y2 rfl (by decide+kernel)
theorem y257:Z2 257 55 f257:=Y2 rfl (by decide+kernel)
theorem y258:Z2 258 30 f258:=Y2 rfl (by decide+kernel)
theorem y259:Z3 259 68 f259:=Y3 rfl (by decide+kernel)
theorem y260:Z3 260 118 f260:=Y3 rfl (by decide+kernel)
theorem y261:Z2 261 14 f261:=Y2 rfl (by decide+kernel)
theorem y262:Z2 262 18 f262:=Y2 rfl (by decide+kernel)
theorem y263:Z2 263 33 f263:=Y2 rfl (by decide+kernel)
theorem y264:Z3 264 76 f264:=Y3 rfl (by decide+kernel)
theorem y265:Z2 265 41 f265:=Y2 rfl (by decide+kernel)
theorem y266:Z2 266 57 f266:=Y2 rfl (by decide+kernel)
theorem y267:Z2 267 29 f267:=Y2 rfl (by decide+kernel)
theorem y268:Z2 268 48 f268:=Y2 rfl (by decide+kernel)
theorem y269:Z2 269 17 f269:=Y2 rfl (by decide+kernel)
theorem y270:Z1 270 2 f270:=Y1 rfl (by decide+kernel)
theorem y271:Z2 271 45 f271:=Y2 rfl (by decide+kernel)
theorem y272:Z2 272 16 f272:=Y2 rfl (by decide+kernel)
theorem y273:Z1 273 6 f273:=Y1 rfl (by decide+kernel)
end Go.PV
namespace Go.PV
open Go Go.Proofs.Tryz
set_option maxRecDepth 100000
theorem y274:Z2 274 9 f274:=Y2 rfl (by decide+kernel)
theorem y275:Z3 275 75 f275:=Y3 rfl (by decide+kernel)
theorem y276:Z2 276 9 f276:=Y2 rfl (by decide+kernel)
theorem y277:Z3 277 90 f277:=Y3 rfl (by decide+kernel)
theorem y278:Z1 278 6 f278:=Y1 rfl (by decide+kernel)
theorem y279:Z2 279 14 f279:=Y2 rfl (by decide+kernel)
theorem y280:Z2 280 19 f280:=Y2 rfl (by decide+kernel)
theorem y281:Z2 281 19 f281:=Y2 rfl (by decide+kernel)
theorem y282:Z2 282 11 f282:=Y2 rfl (by decide+kernel)
theorem y283:Z2 283 9 f283:=Y2 rfl (by decide+kernel)
theorem y284:Z2 284 19 f284:=Y2 rfl (by decide+kernel)
theorem y285:Z2 285 9 f285:=Y2 rfl (by decide+kernel)
theorem y286:Z2 286 37 f286:=Y2 rfl (by decide+kernel)
theorem y287:Z2 287 9 f287:=Y2 rfl (by decide+kernel)
theorem y288:Z3 288 108 f288:=Y3 rfl (by decide+kernel)
theorem y289:Z2 289 57 f289:=Y2 rfl (by decide+kernel)
theorem y290:Z2 290 27 f290:=Y2 rfl (by decide+kernel)
theorem y291:Z2 291 16 f291:=Y2 rfl (by decide+kernel)
theorem y292:Z2 292 34 f292:=Y2 rfl (by decide+kernel)
theorem y293:Z2 293 23 f293:=Y2 rfl (by decide+kernel)
theorem y294:Z2 294 36 f294:=Y2 rfl (by decide+kernel)
theorem y295:Z2 295 19 f295:=Y2 rfl (by decide+kernel)
theorem y296:Z2 296 45 f296:=Y2 rfl (by decide+kernel)
theorem y297:Z2 297 12 f297:=Y2 rfl (by decide+kernel)
theorem y298:Z3 298 95 f298:=Y3 rfl (by decide+kernel)
theorem y299:Z1 299 8 f299:=Y1 rfl (by decide+kernel)
theorem y300:Z3 300 119 f300:=Y3 rfl (by decide+kernel)
theorem y301:Z2 301 10 f301:=Y2 rfl (by decide+kernel)
theorem y302:Z2 302 16 f302:=Y2 rfl (by decide+kernel)
theorem y303:Z2 303 37 f303:=Y2 rfl (by decide+kernel)
theorem y304:Z2 304 55 f304:=Y2 rfl (by decide+kernel)
theorem y305:Z2 305 35 f305:=Y2 rfl (by decide+kernel)
theorem y306:Z2 306 12 f306:=Y2 rfl (by decide+kernel)
theorem y307:Z2 307 22 f307:=Y2 rfl (by decide+kernel)
theorem y308:Z3 308 97 f308:=Y3 rfl (by decide+kernel)
theorem y309:Z2 309 33 f309:=Y2 rfl (by decide+kernel)
theorem y310:Z1 310 8 f310:=Y1 rfl (by decide+kernel)
theorem y311:Z2 311 25 f311:=Y2 rfl (by decide+kernel)
theorem y312:Z1 312 8 f312:=Y1 rfl (by decide+kernel)
theorem y313:Z2 313 33 f313:=Y2 rfl (by decide+kernel)
theorem y314:Z2 314 26 f314:=Y2 rfl (by decide+kernel)
theorem y315:Z1 315 7 f315:=Y1 rfl (by decide+kernel)
theorem y316:Z1 316 8 f316:=Y1 rfl (by decide+kernel)
theorem y317:Z3 317 143 f317:=Y3 rfl (by decide+kernel)
theorem y318:Z2 318 19 f318:=Y2 rfl (by decide+kernel)
theorem y319:Z2 319 43 f319:=Y2 rfl (by decide+kernel)
theorem y320:Z1 320 5 f320:=Y1 rfl (by decide+kernel)
theorem y321:Z2 321 23 f321:=Y2 rfl (by decide+kernel)
theorem y322:Z2 322 29 f322:=Y2 rfl (by decide+kernel)
theorem y323:Z2 323 48 f323:=Y2 rfl (by decide+kernel)
theorem y325:Z2 325 54 f325:=Y2 rfl (by decide+kernel)
theorem y326:Z2 326 9 f326:=Y2 rfl (by decide+kernel)
theorem y327:Z2 327 39 f327:=Y2 rfl (by decide+kernel)
theorem y328:Z1 328 7 f328:=Y1 rfl (by decide+kernel)
theorem y329:Z2 329 14 f329:=Y2 rfl (by decide+kernel)
theorem y330:Z1 330 8 f330:=Y1 rfl (by decide+kernel)
theorem y331:Z2 331 24 f331:=Y2 rfl (by decide+kernel)
theorem y332:Z2 332 26 f332:=Y2 rfl (by decide+kernel)
theorem y333:Z2 333 43 f333:=Y2 rfl (by decide+kernel)
theorem y334:Z2 334 49 f334:=Y2 rfl (by decide+kernel)
theorem y335:Z2 335 17 f335:=Y2 rfl (by decide+kernel)
theorem y336:Z2 336 17 f336:=Y2 rfl (by decide+kernel)
theorem y337:Z3 337 106 f337:=Y3 rfl (by decide+kernel)
theorem y338:Z3 338 101 f338:=Y3 rfl (by decide+kernel)
theorem y339:Z2 339 9 f339:=Y2 rfl (by decide+kernel)
theorem y340:Z2 340 11 f340:=Y2 rfl (by decide+kernel)
theorem y342:Z1 342 8 f342:=Y1 rfl (by decide+kernel)
theorem y343:Z2 343 49 f343:=Y2 rfl (by decide+kernel)
theorem y344:Z2 344 56 f344:=Y2 rfl (by decide+kernel)
theorem y345:Z3 345 65 f345:=Y3 rfl (by decide+kernel)
theorem y346:Z2 346 57 f346:=Y2 rfl (by decide+kernel)
theorem y347:Z2 347 32 f347:=Y2 rfl (by decide+kernel)
theorem y348:Z3 348 133 f348:=Y3 rfl (by decide+kernel)
theorem y349:Z2 349 17 f349:=Y2 rfl (by decide+kernel)
theorem y350:Z3 350 84 f350:=Y3 rfl (by decide+kernel)
theorem y351:Z3 351 168 f351:=Y3 rfl (by decide+kernel)
theorem y352:Z2 352 32 f352:=Y2 rfl (by decide+kernel)
theorem y353:Z2 353 17 f353:=Y2 rfl (by decide+kernel)
theorem y354:Z2 354 38 f354:=Y2 rfl (by decide+kernel)
theorem y355:Z2 355 51 f355:=Y2 rfl (by decide+kernel)
theorem y356:Z2 356 28 f356:=Y2 rfl (by decide+kernel)
theorem y357:Z2 357 29 f357:=Y2 rfl (by decide+kernel)
theorem y358:Z3 358 69 f358:=Y3 rfl (by decide+kernel)
theorem y359:Z3 359 77 f359:=Y3 rfl (by decide+kernel)
theorem y360:Z2 360 32 f360:=Y2 rfl (by decide+kernel)
theorem y361:Z2 361 26 f361:=Y2 rfl (by decide+kernel)
theorem y362:Z1 362 8 f362:=Y1 rfl (by decide+kernel)
theorem y363:Z2 363 34 f363:=Y2 rfl (by decide+kernel)
theorem y364:Z2 364 18 f364:=Y2 rfl (by decide+kernel)
end Go.PV
namespace Go.PV
open Go Go.Proofs.Tryz
set_option maxRecDepth 100000
theorem y365:Z2 365 47 f365:=Y2 rfl (by decide+kernel)
theorem y366:Z2 366 44 f366:=Y2 rfl (by decide+kernel)
theorem y367:Z2 367 15 f367:=Y2 rfl (by decide+kernel)
theorem y368:Z2 368 34 f368:=Y2 rfl (by decide+kernel)
theorem y369:Z2 369 25 f369:=Y2 rfl (by decide+kernel)
theorem y370:Z2 370 63 f370:=Y2 rfl (by decide+kernel)
theorem y371:Z3 371 118 f371:=Y3 rfl (by decide+kernel)
theorem y372:Z2 372 45 f372:=Y2 rfl (by decide+kernel)
theorem y373:Z2 373 12 f373:=Y2 rfl (by decide+kernel)
theorem y374:Z1 374 6 f374:=Y1 rfl (by decide+kernel)
theorem y375:Z2 375 23 f375:=Y2 rfl (by decide+kernel)
theorem y376:Z3 376 89 f376:=Y3 rfl (by decide+kernel)
theorem y377:Z2 377 38 f377:=Y2 rfl (by decide+kernel)
theorem y378:Z2 378 47 f378:=Y2 rfl (by decide+kernel)
theorem y379:Z2 379 16 f379:=Y2 rfl (by decide+kernel)
theorem y380:Z2 380 45 f380:=Y2 rfl (by decide+kernel)
theorem y381:Z2 381 19 f381:=Y2 rfl (by decide+kernel)
theorem y382:Z2 382 19 f382:=Y2 rfl (by decide+kernel)
theorem y383:Z1 383 8 f383:=Y1 rfl (by decide+kernel)
theorem y384:Z2 384 9 f384:=Y2 rfl (by decide+kernel)
theorem y385:Z1 385 8 f385:=Y1 rfl (by decide+kernel)
theorem y386:Z1 386 8 f386:=Y1 rfl (by decide+kernel)
theorem y387:Z2 387 13 f387:=Y2 rfl (by decide+kernel)
theorem y388:Z2 388 9 f388:=Y2 rfl (by decide+kernel)
theorem y389:Z2 389 19 f389:=Y2 rfl (by decide+kernel)
theorem y390:Z3 390 66 f390:=Y3 rfl (by decide+kernel)
theorem y391:Z2 391 20 f391:=Y2 rfl (by decide+kernel)
theorem y392:Z2 392 11 f392:=Y2 rfl (by decide+kernel)
theorem y393:Z2 393 27 f393:=Y2 rfl (by decide+kernel)
theorem y394:Z2 394 13 f394:=Y2 rfl (by decide+kernel)
theorem y395:Z2 395 11 f395:=Y2 rfl (by decide+kernel)
theorem y396:Z2 396 9 f396:=Y2 rfl (by decide+kernel)
theorem y397:Z2 397 9 f397:=Y2 rfl (by decide+kernel)
theorem y398:Z2 398 16 f398:=Y2 rfl (by decide+kernel)
theorem y399:Z1 399 8 f399:=Y1 rfl (by decide+kernel)
theorem y400:Z2 400 22 f400:=Y2 rfl (by decide+kernel)
theorem y401:Z2 401 62 f401:=Y2 rfl (by decide+kernel)
theorem y402:Z2 402 16 f402:=Y2 rfl (by decide+kernel)
theorem y403:Z2 403 16 f403:=Y2 rfl (by decide+kernel)
theorem y404:Z2 404 52 f404:=Y2 rfl (by decide+kernel)
theorem y405:Z2 405 9 f405:=Y2 rfl (by decide+kernel)
theorem y406:Z1 406 6 f406:=Y1 rfl (by decide+kernel)
theorem y407:Z1 407 8 f407:=Y1 rfl (by decide+kernel)
theorem y409:Z1 409 6 f409:=Y1 rfl (by decide+kernel)
theorem y410:Z3 410 81 f410:=Y3 rfl (by decide+kernel)
theorem y411:Z2 411 18 f411:=Y2 rfl (by decide+kernel)
theorem y412:Z2 412 20 f412:=Y2 rfl (by decide+kernel)
theorem y413:Z2 413 20 f413:=Y2 rfl (by decide+kernel)
theorem y414:Z2 414 20 f414:=Y2 rfl (by decide+kernel)
theorem y415:Z2 415 39 f415:=Y2 rfl (by decide+kernel)
theorem y416:Z1 416 4 f416:=Y1 rfl (by decide+kernel)
theorem y417:Z2 417 15 f417:=Y2 rfl (by decide+kernel)
theorem y418:Z2 418 15 f418:=Y2 rfl (by decide+kernel)
theorem y419:Z3 419 167 f419:=Y3 rfl (by decide+kernel)
theorem y420:Z3 420 102 f420:=Y3 rfl (by decide+kernel)
theorem y421:Z2 421 19 f421:=Y2 rfl (by decide+kernel)
theorem y422:Z2 422 36 f422:=Y2 rfl (by decide+kernel)
theorem y423:Z3 423 65 f423:=Y3 rfl (by decide+kernel)
theorem y424:Z2 424 19 f424:=Y2 rfl (by decide+kernel)
theorem y425:Z1 425 8 f425:=Y1 rfl (by decide+kernel)
theorem y426:Z2 426 49 f426:=Y2 rfl (by decide+kernel)
theorem y427:Z2 427 9 f427:=Y2 rfl (by decide+kernel)
theorem y429:Z2 429 10 f429:=Y2 rfl (by decide+kernel)
theorem y430:Z3 430 76 f430:=Y3 rfl (by decide+kernel)
theorem y431:Z2 431 15 f431:=Y2 rfl (by decide+kernel)
theorem y432:Z2 432 36 f432:=Y2 rfl (by decide+kernel)
theorem y433:Z1 433 6 f433:=Y1 rfl (by decide+kernel)
theorem y434:Z2 434 35 f434:=Y2 rfl (by decide+kernel)
theorem y435:Z3 435 101 f435:=Y3 rfl (by decide+kernel)
theorem y436:Z2 436 33 f436:=Y2 rfl (by decide+kernel)
theorem y437:Z2 437 13 f437:=Y2 rfl (by decide+kernel)
theorem y438:Z3 438 118 f438:=Y3 rfl (by decide+kernel)
theorem y439:Z2 439 53 f439:=Y2 rfl (by decide+kernel)
theorem y440:Z2 440 23 f440:=Y2 rfl (by decide+kernel)
theorem y441:Z2 441 38 f441:=Y2 rfl (by decide+kernel)
theorem y442:Z2 442 39 f442:=Y2 rfl (by decide+kernel)
theorem y443:Z1 443 2 f443:=Y1 rfl (by decide+kernel)
theorem y444:Z2 444 54 f444:=Y2 rfl (by decide+kernel)
theorem y445:Z2 445 26 f445:=Y2 rfl (by decide+kernel)
theorem y446:Z3 446 69 f446:=Y3 rfl (by decide+kernel)
theorem y447:Z2 447 27 f447:=Y2 rfl (by decide+kernel)
theorem y448:Z2 448 19 f448:=Y2 rfl (by decide+kernel)
theorem y449:Z1 449 8 f449:=Y1 rfl (by decide+kernel)
theorem y450:Z2 450 36 f450:=Y2 rfl (by decide+kernel)
theorem y451:Z2 451 26 f451:=Y2 rfl (by decide+kernel)
theorem y452:Z2 452 18 f452:=Y2 rfl (by decide+kernel)
theorem y453:Z2 453 61 f453:=Y2 rfl (by decide+kernel)
theorem y454:Z3 454 134 f454:=Y3 rfl (by decide+kernel)
theorem y455:Z2 455 19 f455:=Y2 rfl (by decide+kernel)
theorem y456:Z1 456 8 f456:=Y1 rfl (by decide+kernel)
end Go.PV
namespace Go.PV
open Go Go.Proofs.Tryz
set_option maxRecDepth 100000
theorem y457:Z2 457 26 f457:=Y2 rfl (by decide+kernel)
theorem y458:Z1 458 4 f458:=Y1 rfl (by decide+kernel)
theorem y460:Z2 460 39 f460:=Y2 rfl (by decide+kernel)
theorem y461:Z1 461 6 f461:=Y1 rfl (by decide+kernel)
theorem y462:Z1 462 6 f462:=Y1 rfl (by decide+kernel)
theorem y463:Z1 463 6 f463:=Y1 rfl (by decide+kernel)
theorem y464:Z1 464 4 f464:=Y1 rfl (by decide+kernel)
theorem y465:Z1 465 8 f465:=Y1 rfl (by decide+kernel)
theorem y466:Z1 466 8 f466:=Y1 rfl (by decide+kernel)
theorem y467:Z2 467 11 f467:=Y2 rfl (by decide+kernel)
theorem y468:Z2 468 24 f468:=Y2 rfl (by decide+kernel)
theorem y469:Z1 469 8 f469:=Y1 rfl (by decide+kernel)
theorem y470:Z2 470 34 f470:=Y2 rfl (by decide+kernel)
theorem y471:Z3 471 75 f471:=Y3 rfl (by decide+kernel)
theorem y472:Z3 472 107 f472:=Y3 rfl (by decide+kernel)
theorem y473:Z2 473 59 f473:=Y2 rfl (by decide+kernel)
theorem y474:Z2 474 14 f474:=Y2 rfl (by decide+kernel)
theorem y475:Z2 475 28 f475:=Y2 rfl (by decide+kernel)
theorem y476:Z2 476 35 f476:=Y2 rfl (by decide+kernel)
theorem y477:Z2 477 55 f477:=Y2 rfl (by decide+kernel)
theorem y478:Z3 478 192 f478:=Y3 rfl (by decide+kernel)
theorem y479:Z1 479 8 f479:=Y1 rfl (by decide+kernel)
theorem y480:Z2 480 49 f480:=Y2 rfl (by decide+kernel)
theorem y481:Z2 481 56 f481:=Y2 rfl (by decide+kernel)
theorem y482:Z3 482 65 f482:=Y3 rfl (by decide+kernel)
theorem y483:Z2 483 57 f483:=Y2 rfl (by decide+kernel)
theorem y484:Z2 484 32 f484:=Y2 rfl (by decide+kernel)
theorem y485:Z3 485 133 f485:=Y3 rfl (by decide+kernel)
theorem y486:Z2 486 17 f486:=Y2 rfl (by decide+kernel)
theorem y487:Z3 487 84 f487:=Y3 rfl (by decide+kernel)
theorem y488:Z3 488 168 f488:=Y3 rfl (by decide+kernel)
theorem y489:Z2 489 14 f489:=Y2 rfl (by decide+kernel)
theorem y490:Z2 490 14 f490:=Y2 rfl (by decide+kernel)
theorem y491:Z2 491 25 f491:=Y2 rfl (by decide+kernel)
theorem y492:Z2 492 29 f492:=Y2 rfl (by decide+kernel)
theorem y493:Z2 493 28 f493:=Y2 rfl (by decide+kernel)
theorem y495:Z2 495 40 f495:=Y2 rfl (by decide+kernel)
theorem y496:Z3 496 82 f496:=Y3 rfl (by decide+kernel)
theorem y497:Z3 497 114 f497:=Y3 rfl (by decide+kernel)
theorem y498:Z3 498 99 f498:=Y3 rfl (by decide+kernel)
theorem y499:Z2 499 28 f499:=Y2 rfl (by decide+kernel)
theorem y500:Z2 500 34 f500:=Y2 rfl (by decide+kernel)
theorem y501:Z3 501 76 f501:=Y3 rfl (by decide+kernel)
theorem y502:Z2 502 15 f502:=Y2 rfl (by decide+kernel)
theorem y503:Z2 503 36 f503:=Y2 rfl (by decide+kernel)
theorem y506:Z3 506 121 f506:=Y3 rfl (by decide+kernel)
theorem y507:Z2 507 11 f507:=Y2 rfl (by decide+kernel)
theorem y508:Z3 508 170 f508:=Y3 rfl (by decide+kernel)
theorem y509:Z2 509 9 f509:=Y2 rfl (by decide+kernel)
theorem y510:Z3 510 116 f510:=Y3 rfl (by decide+kernel)
theorem y511:Z2 511 9 f511:=Y2 rfl (by decide+kernel)
theorem y512:Z3 512 133 f512:=Y3 rfl (by decide+kernel)
theorem y513:Z2 513 28 f513:=Y2 rfl (by decide+kernel)
theorem y515:Z1 515 5 f515:=Y1 rfl (by decide+kernel)
theorem y516:Z1 516 6 f516:=Y1 rfl (by decide+kernel)
theorem y517:Z1 517 5 f517:=Y1 rfl (by decide+kernel)
theorem y518:Z1 518 5 f518:=Y1 rfl (by decide+kernel)
theorem y519:Z2 519 10 f519:=Y2 rfl (by decide+kernel)
theorem y520:Z2 520 23 f520:=Y2 rfl (by decide+kernel)
end Go.PV
namespace Go.PV
def ins2:List Val→Hp→FRes:=fun args H=>match args with
  | [.ref id 0 0 7 2 false,.int .i64 (.ofNat 0),.sl [r] _]=>match H.get id with
    | some (.cells 0 0 0 cs)=>match Nat.beq cs.length 14&&Nat.beq r.length 7&&cs.all okCell&&r.all okCell&&cs.all (frzV 20)&&r.all (frzV 20) with
      |true=>fLL (chunk 7 3 (r++cs)) fun rs=>fH ((H.push .gone).set id .gone) fun H=> .ret (.sl rs false) H
      |false=> .fail
    |_=> .fail
  |_=> .fail
noncomputable def pIns:List Val→Hp→FRes:=fun args H=>match ins2 args H with
  | .ret v H=> .ret v H
  |_=>evalFn E0 okd 1000 1 341 args H
end Go.PV
namespace Go.PV
open Go Go.Proofs.Tryz
set_option maxRecDepth 100000
noncomputable def ffTab:BT FX:= .ofL 10 0 [none,none,none,o (X3 3 177 f3),o (X3 4 251 f4),o (X2 5 64 f5),o (X3 6 189 f6),o (X2 7 27 f7),o (X2 8 27 f8),o (X2 9 33 f9),o (X2 10 48 f10),o (X2 11 26 f11),o (X2 12 35 f12),o (X2 13 35 f13),o (X2 14 49 f14),o (X3 15 109 f15),o (X2 16 10 f16),o (X2 17 9 f17),o (X2 18 9 f18),o (X3 19 70 f19),o (X2 20 10 f20),o (X2 21 41 f21),o (X2 22 13 f22),o (X2 23 64 f23),o (X2 24 27 f24),o (X2 25 27 f25),o (X2 26 15 f26),o (X2 27 28 f27),o (X3 28 124 f28),o (X2 29 26 f29),o (X2 30 9 f30),o (X2 31 13 f31),o (X2 32 11 f32),o (X3 33 101 f33),o (X2 34 14 f34),o (X3 35 74 f35),o (X2 36 28 f36),o (X2 37 44 f37),o (X2 38 51 f38),o (X2 39 12 f39),o (X1 40 5 f40),o (X2 41 23 f41),o (X2 42 24 f42),o (X2 43 41 f43),o (X3 44 128 f44),o (X2 45 53 f45),o (X2 46 9 f46),o (X3 47 73 f47),o (X2 48 34 f48),o (X2 49 19 f49),o (X1 50 8 f50),o (X1 51 8 f51),o (X2 52 20 f52),o (X2 53 15 f53),o (X2 54 17 f54),o (X2 55 19 f55),o (X2 56 9 f56),o (X2 57 13 f57),o (X2 58 48 f58),o (X3 59 193 f59),o (X2 60 14 f60),o (X2 61 12 f61),o (X1 62 8 f62),o (X2 63 41 f63),o (X2 64 9 f64),o (X2 65 21 f65),o (X2 66 49 f66),o (X1 67 7 f67),o (X3 68 114 f68),o (X3 69 66 f69),o (X2 70 32 f70),o (X2 71 28 f71),o (X2 72 9 f72),o (X2 73 14 f73),o (X2 74 26 f74),o (X2 75 24 f75),o (X2 76 28 f76),o (X1 77 8 f77),o (X2 78 40 f78),o (X3 79 91 f79),o (X2 80 17 f80),o (X2 81 30 f81),o (X2 82 17 f82),o (X2 83 41 f83),o (X2 84 10 f84),o (X2 85 19 f85),o (X2 86 29 f86),o (X2 87 49 f87),o (X2 88 16 f88),o (X2 89 54 f89),o (X2 90 32 f90),o (X2 91 20 f91),o (X2 92 32 f92),o (X1 93 8 f93),o (X2 94 32 f94),o (X2 95 17 f95),o (X2 96 24 f96),o (X2 97 19 f97),o (X2 98 30 f98),o (X2 99 19 f99),o (X2 100 9 f100),o (X1 101 4 f101),o (X3 102 148 f102),o (X1 103 8 f103),o (X2 104 46 f104),o (X2 105 11 f105),o (X2 106 60 f106),o (X3 107 122 f107),o (X2 108 9 f108),o (X3 109 191 f109),o (X3 110 109 f110),o (X3 111 112 f111),o (X3 112 316 f112),o (X2 113 61 f113),o (X1 114 5 f114),o (X2 115 32 f115),o (X2 116 47 f116),o (X2 117 12 f117),o (X2 118 9 f118),o (X2 119 9 f119),o (X2 120 9 f120),o (X2 121 9 f121),o (X2 122 9 f122),o (X2 123 36 f123),o (X1 124 2 f124),o (X2 125 45 f125),o (X2 126 12 f126),o (X2 127 19 f127),o (X2 128 19 f128),o (X2 129 19 f129),o (X2 130 23 f130),o (X1 131 8 f131),o (X2 132 19 f132),o (X1 133 5 f133),o (X2 134 14 f134),o (X2 135 29 f135),o (X2 136 14 f136),o (X3 137 167 f137),o (X2 138 19 f138),o (X2 139 19 f139),o (X2 140 14 f140),o (X2 141 24 f141),o (X2 142 49 f142),o (X2 143 36 f143),o (X3 144 96 f144),o (X2 145 50 f145),o (X2 146 9 f146),o (X1 147 8 f147),o (X2 148 32 f148),o (X2 149 45 f149),o (X2 150 32 f150),o (X2 151 26 f151),o (X2 152 17 f152),o (X2 153 51 f153),o (X1 154 5 f154),o (X2 155 11 f155),o (X2 156 16 f156),o (X2 157 53 f157),o (X2 158 60 f158),o (X3 159 67 f159),o (X2 160 63 f160),o (X2 161 34 f161),o (X3 162 141 f162),o (X3 163 90 f163),o (X3 164 178 f164),o (X2 165 19 f165),o (X2 166 25 f166),o (X2 167 51 f167),o (X1 168 2 f168),o (X2 169 20 f169),o (X2 170 24 f170),o (X2 171 31 f171),o (X1 172 7 f172),o (X2 173 9 f173),o (X3 174 196 f174),o (X3 175 77 f175),o (X2 176 40 f176),o (X3 177 91 f177),o (X1 178 6 f178),o (X2 179 20 f179),o (X2 180 55 f180),o (X2 181 21 f181),o (X2 182 18 f182),o (X2 183 12 f183),o (X2 184 36 f184),o (X2 185 59 f185),o (X2 186 54 f186),o (X2 187 30 f187),o (X2 188 18 f188),o (X2 189 31 f189),o (X2 190 43 f190),o (X2 191 19 f191),o (X3 192 145 f192),o (X2 193 17 f193),o (X2 194 14 f194),o (X3 195 75 f195),o (X2 196 13 f196),o (X3 197 87 f197),o (X3 198 144 f198),o (X3 199 90 f199),o (X3 200 141 f200),o (X3 201 117 f201),o (X3 202 91 f202),o (X1 203 4 f203),o (X2 204 23 f204),o (X3 205 86 f205),o (X2 206 57 f206),o (X1 207 8 f207),o (X2 208 19 f208),o (X2 209 19 f209),o (X2 210 27 f210),o (X2 211 9 f211),o (X3 212 110 f212),o (X2 213 12 f213),o (X3 214 106 f214),o (X2 215 20 f215),o (X1 216 5 f216),o (X2 217 43 f217),o (X2 218 30 f218),o (X2 219 46 f219),o (X2 220 47 f220),o (X3 221 166 f221),o (X2 222 9 f222),o (X2 223 27 f223),o (X2 224 23 f224),o (X2 225 12 f225),o (X2 226 28 f226),o (X2 227 38 f227),o (X1 228 6 f228),o (X2 229 58 f229),o (X2 230 25 f230),o (X2 231 27 f231),o (X3 232 153 f232),o (X2 233 21 f233),o (X2 234 23 f234),o (FX.prim (pSeq 156 3)),o (X3 236 134 f236),o (X3 237 82 f237),o (X1 238 7 f238),o (X2 239 33 f239),o (X2 240 18 f240),o (X2 241 41 f241),o (X2 242 64 f242),o (X3 243 89 f243),o (X2 244 42 f244),o (X2 245 51 f245),o (X2 246 64 f246),o (X2 247 46 f247),o (X1 248 8 f248),o (X2 249 13 f249),o (X2 250 15 f250),o (X3 251 180 f251),o (X2 252 41 f252),o (X2 253 40 f253),o (X3 254 138 f254),o (X2 255 17 f255),o (X2 256 9 f256),o (X2 257 55 f257),o (X2 258 30 f258),o (X3 259 68 f259),o (X3 260 118 f260),o (X2 261 14 f261),o (X2 262 18 f262),o (X2 263 33 f263),o (X3 264 76 f264),o (X2 265 41 f265),o (X2 266 57 f266),o (X2 267 29 f267),o (X2 268 48 f268),o (X2 269 17 f269),o (X1 270 2 f270),o (X2 271 45 f271),o (X2 272 16 f272),o (X1 273 6 f273),o (X2 274 9 f274),o (X3 275 75 f275),o (X2 276 9 f276),o (X3 277 90 f277),o (X1 278 6 f278),o (X2 279 14 f279),o (X2 280 19 f280),o (X2 281 19 f281),o (X2 282 11 f282),o (X2 283 9 f283),o (X2 284 19 f284),o (X2 285 9 f285),o (X2 286 37 f286),o (X2 287 9 f287),o (X3 288 108 f288),o (X2 289 57 f289),o (X2 290 27 f290),o (X2 291 16 f291),o (X2 292 34 f292),o (X2 293 23 f293),o (X2 294 36 f294),o (X2 295 19 f295),o (X2 296 45 f296),o (X2 297 12 f297),o (X3 298 95 f298),o (X1 299 8 f299),o (X3 300 119 f300),o (X2 301 10 f301),o (X2 302 16 f302),o (X2 303 37 f303),o (X2 304 55 f304),o (X2 305 35 f305),o (X2 306 12 f306),o (X2 307 22 f307),o (X3 308 97 f308),o (X2 309 33 f309),o (X1 310 8 f310),o (X2 311 25 f311),o (X1 312 8 f312),o (X2 313 33 f313),o (X2 314 26 f314),o (X1 315 7 f315),o (X1 316 8 f316),o (X3 317 143 f317),o (X2 318 19 f318),o (X2 319 43 f319),o (X1 320 5 f320),o (X2 321 23 f321),o (X2 322 29 f322),o (X2 323 48 f323),o (FX.prim pNoEsc),o (X2 325 54 f325),o (X2 326 9 f326),o (X2 327 39 f327),o (X1 328 7 f328),o (X2 329 14 f329),o (X1 330 8 f330),o (X2 331 24 f331),o (X2 332 26 f332),o (X2 333 43 f333),o (X2 334 49 f334),o (X2 335 17 f335),o (X2 336 17 f336),o (X3 337 106 f337),o (X3 338 101 f338),o (X2 339 9 f339),o (X2 340 11 f340),o (FX.prim pIns),o (X1 342 8 f342),o (X2 343 49 f343),o (X2 344 56 f344),o (X3 345 65 f345),o (X2 346 57 f346),o (X2 347 32 f347),o (X3 348 133 f348),o (X2 349 17 f349),o (X3 350 84 f350),o (X3 351 168 f351),o (X2 352 32 f352),o (X2 353 17 f353),o (X2 354 38 f354),o (X2 355 51 f355),o (X2 356 28 f356),o (X2 357 29 f357),o (X3 358 69 f358),o (X3 359 77 f359),o (X2 360 32 f360),o (X2 361 26 f361),o (X1 362 8 f362),o (X2 363 34 f363),o (X2 364 18 f364),o (X2 365 47 f365),o (X2 366 44 f366),o (X2 367 15 f367),o (X2 368 34 f368),o (X2 369 25 f369),o (X2 370 63 f370),o (X3 371 118 f371),o (X2 372 45 f372),o (X2 373 12 f373),o (X1 374 6 f374),o (X2 375 23 f375),o (X3 376 89 f376),o (X2 377 38 f377),o (X2 378 47 f378),o (X2 379 16 f379),o (X2 380 45 f380),o (X2 381 19 f381),o (X2 382 19 f382),o (X1 383 8 f383),o (X2 384 9 f384),o (X1 385 8 f385),o (X1 386 8 f386),o (X2 387 13 f387),o (X2 388 9 f388),o (X2 389 19 f389),o (X3 390 66 f390),o (X2 391 20 f391),o (X2 392 11 f392),o (X2 393 27 f393),o (X2 394 13 f394),o (X2 395 11 f395),o (X2 396 9 f396),o (X2 397 9 f397),o (X2 398 16 f398),o (X1 399 8 f399),o (X2 400 22 f400),o (X2 401 62 f401),o (X2 402 16 f402),o (X2 403 16 f403),o (X2 404 52 f404),o (X2 405 9 f405),o (X1 406 6 f406),o (X1 407 8 f407),none,o (X1 409 6 f409),o (X3 410 81 f410),o (X2 411 18 f411),o (X2 412 20 f412),o (X2 413 20 f413),o (X2 414 20 f414),o (X2 415 39 f415),o (X1 416 4 f416),o (X2 417 15 f417),o (X2 418 15 f418),o (X3 419 167 f419),o (X3 420 102 f420),o (X2 421 19 f421),o (X2 422 36 f422),o (X3 423 65 f423),o (X2 424 19 f424),o (X1 425 8 f425),o (X2 426 49 f426),o (X2 427 9 f427),none,o (X2 429 10 f429),o (X3 430 76 f430),o (X2 431 15 f431),o (X2 432 36 f432),o (X1 433 6 f433),o (X2 434 35 f434),o (X3 435 101 f435),o (X2 436 33 f436),o (X2 437 13 f437),o (X3 438 118 f438),o (X2 439 53 f439),o (X2 440 23 f440),o (X2 441 38 f441),o (X2 442 39 f442),o (X1 443 2 f443),o (X2 444 54 f444),o (X2 445 26 f445),o (X3 446 69 f446),o (X2 447 27 f447),o (X2 448 19 f448),o (X1 449 8 f449),o (X2 450 36 f450),o (X2 451 26 f451),o (X2 452 18 f452),o (X2 453 61 f453),o (X3 454 134 f454),o (X2 455 19 f455),o (X1 456 8 f456),o (X2 457 26 f457),o (X1 458 4 f458),o (FX.prim pIdx),o (X2 460 39 f460),o (X1 461 6 f461),o (X1 462 6 f462),o (X1 463 6 f463),o (X1 464 4 f464),o (X1 465 8 f465),o (X1 466 8 f466),o (X2 467 11 f467),o (X2 468 24 f468),o (X1 469 8 f469),o (X2 470 34 f470),o (X3 471 75 f471),o (X3 472 107 f472),o (X2 473 59 f473),o (X2 474 14 f474),o (X2 475 28 f475),o (X2 476 35 f476),o (X2 477 55 f477),o (X3 478 192 f478),o (X1 479 8 f479),o (X2 480 49 f480),o (X2 481 56 f481),o (X3 482 65 f482),o (X2 483 57 f483),o (X2 484 32 f484),o (X3 485 133 f485),o (X2 486 17 f486),o (X3 487 84 f487),o (X3 488 168 f488),o (X2 489 14 f489),o (X2 490 14 f490),o (X2 491 25 f491),o (X2 492 29 f492),o (X2 493 28 f493),none,o (X2 495 40 f495),o (X3 496 82 f496),o (X3 497 114 f497),o (X3 498 99 f498),o (X2 499 28 f499),o (X2 500 34 f500),o (X3 501 76 f501),o (X2 502 15 f502),o (X2 503 36 f503),none,none,o (X3 506 121 f506),o (X2 507 11 f507),o (X3 508 170 f508),o (X2 509 9 f509),o (X3 510 116 f510),o (X2 511 9 f511),o (X3 512 133 f512),o (X2 513 28 f513),none,o (X1 515 5 f515),o (X1 516 6 f516),o (X1 517 5 f517),o (X1 518 5 f518),o (X2 519 10 f519),o (X2 520 23 f520)]
noncomputable def ffs:Nat→Option FX:=upto 1024 ffTab
end Go.PV
namespace Go.PV
open Go Go.Proofs Go.RowKit Go.Lib
set_option maxHeartbeats 2000000
set_option maxRecDepth 100000
theorem copy_len (P:Program) (w:World) (t1 t2 ty:TypeId) (d:Option Addr) (dc:Nat) (a:Option Addr) (c c':Nat):
    (Builtin.copy_ #[t1,t2] ty #[.slice d 2 dc,.slice a 3 c]).run P w=(Builtin.copy_ #[t1,t2] ty #[.slice d 2 dc,.slice a 2 c']).run P w:=by
  cases a<;>rfl
theorem ins_room (w W1 W2:World) (r1 r2:Value) (b cap vb vo vcap:Nat) (h3:3≤cap)
    (hov:(callFunc 428 #[.slice (some ⟨vb,vo,none⟩) 1 vcap,.slice (some ⟨b,7,none⟩) 2 (cap-1)]).run Tryz.prog w= .ok (.value (.bool false)) w)
    (hcp1: ∀ty,(Builtin.copy_ #[233,233] ty #[.slice (some ⟨b,7,none⟩) 2 (cap-1),.slice (some ⟨b,0,none⟩) 3 cap]).run Tryz.prog w.drew= .ok r1 W1)
    (hcp2: ∀ty,(Builtin.copy_ #[233,232] ty #[.slice (some ⟨b,0,none⟩) 3 cap,.slice (some ⟨vb,vo,none⟩) 1 vcap]).run Tryz.prog W1= .ok r2 W2):
    Calls Tryz.prog 341 #[.slice (some ⟨b,0,none⟩) 2 cap,.int .i64 0,.slice (some ⟨vb,vo,none⟩) 1 vcap] w fun e w'=>e= .returned (.slice (some ⟨b,0,none⟩) 3 cap)∧w'=W2:=by
  have hb1: ¬((cap:Int)<3):=by omega
  have hb2: ¬(cap=1):=by omega
  have hb4: ¬(cap=0):=by omega
  have hb5:(3:Int)≤cap:=by omega
  have hw1:IntKind.i64.wrap 1=1:=by decide
  go_enter Tryz.func341,Tryz.ntmps341
  go_wp2_with (simp only [hov])
  go_region_law (refine step_copy_runI rfl _ _ 233 233 rfl (.slice (some ⟨b,7,none⟩) 2 (cap-1)) (.slice (some ⟨b,0,none⟩) 3 cap) (by simp [Act.eval,Act.put]) (by simp [Act.eval,Act.put]) (hcp1 _) ?_)
  go_wp2_with (at_builtin;refine wpList_copy_runI _ rfl _ _ 233 232 rfl _ _ rfl rfl (hcp2 _) ?_)
  go_ret
  exact ⟨rfl,rfl⟩
theorem ins_grow (w W1 W2 W3:World) (r1 r2:Value) (b vb vo vcap g G:Nat) (hG:3≤G)
    (hap: ∀ty,(Builtin.append_ #[233,3] ty #[.slice (some ⟨b,0,none⟩) 0 2,.int .i64 3]).run Tryz.prog w= .ok (.slice (some ⟨g,0,none⟩) 3 G) W1)
    (hcp1: ∀ty,(Builtin.copy_ #[233,232] ty #[.slice (some ⟨g,0,none⟩) 3 G,.slice (some ⟨vb,vo,none⟩) 1 vcap]).run Tryz.prog W1= .ok r1 W2)
    (hcp2: ∀ty,(Builtin.copy_ #[233,233] ty #[.slice (some ⟨g,7,none⟩) 2 (G-1),.slice (some ⟨b,0,none⟩) 2 2]).run Tryz.prog W2.drew= .ok r2 W3):
    Calls Tryz.prog 341 #[.slice (some ⟨b,0,none⟩) 2 2,.int .i64 0,.slice (some ⟨vb,vo,none⟩) 1 vcap] w fun e w'=>e= .returned (.slice (some ⟨g,0,none⟩) 3 G)∧w'=W3:=by
  have hb2: ¬(G=1):=by omega
  have hb4: ¬(G=0):=by omega
  have hw1:IntKind.i64.wrap 1=1:=by decide
  go_enter Tryz.func341,Tryz.ntmps341
  go_wp2_with (first
    |(at_builtin;refine Lib.wpList_append_run _ rfl _ _ _ _ rfl _ _ rfl rfl _ _ (hap _) ?_)
    |(at_builtin;refine wpList_copy_runI _ rfl _ _ 233 232 rfl _ _ rfl rfl (hcp1 _) ?_))
  go_region_law (refine step_copy_runI rfl _ _ 233 233 rfl (.slice (some ⟨g,7,none⟩) 2 (G-1)) (.slice (some ⟨b,0,none⟩) 2 2) (by simp [Act.eval,Act.put]) (by simp [Act.eval,Act.put]) (hcp2 _) ?_)
  go_wp2
  go_ret
  exact ⟨rfl,rfl⟩
end Go.PV
namespace Go.PV
open Go Go.Proofs Go.Proofs.Tryz
set_option maxRecDepth 100000
theorem und233:und E0 233=some (.slice 403):=by kernel_rfl
theorem siz403:sizeT E0 403=some 7:=by kernel_rfl
theorem i403:(E0.T 403).any (fun i=>Nat.beq i.size 7&&Nat.ble i.bytes 4096)=true:=by kernel_rfl
theorem ne403b:(newElems E0 403 7 (.int .i64) (.int .i64 (.ofNat 3)) Hp.empty).any (fun p=>Nat.beq p.2 3)=true:=by kernel_rfl
theorem ne403: ∃new,newElems E0 403 7 (.int .i64) (.int .i64 (.ofNat 3)) Hp.empty=some (new,3):=by
  have h:=ne403b
  cases hn:newElems E0 403 7 (.int .i64) (.int .i64 (.ofNat 3)) Hp.empty with
  |none=>rw [hn] at h;cases h
  | some p=>
    obtain ⟨a,n⟩:=p
    rw [hn] at h
    simp only [Option.any_some] at h
    rw [Nat.eq_of_beq_eq_true h]
    exact ⟨a,rfl⟩
theorem set_setJ (H:Hp) (i:Nat) (a b:Obj):(H.set i a).set i b=H.set i b:=by
  unfold Hp.set
  by_cases h:i<H.n
  · simp only [h,if_true]
    have: ∀(l:List Obj) (j:Nat),setL (setL l j a) j b=setL l j b:=by
      intro l
      induction l with
      |nil=>intro j;rfl
      | cons x l ih=>intro j;cases j with
        |zero=>rfl
        |succ j=>simp [setL,ih]
    rw [this]
  · simp only [h,if_false]
theorem arg3 {κ:Kr} {u v z:Val} {xs:Array Value} (hl: [u,v,z].length=xs.size) (ha: ∀(i:Nat) (u':Val) (x:Value),[u,v,z][i]? =some u'→xs[i]? =some x→VK κ u' x): ∃x y t,xs= #[x,y,t]∧VK κ u x∧VK κ v y∧VK κ z t:=by
  obtain ⟨m⟩:=xs
  match m,hl with
  | [x,y,t],_=>exact ⟨x,y,t,rfl,ha 0 _ _ rfl rfl,ha 1 _ _ rfl rfl,ha 2 _ _ rfl rfl⟩
theorem copy_ref (H:Hp) (id gen off len:Nat) (d ro:Nat) (cs:List Val) (s:Val) (c:List Val) (sn n:Nat) (c':List Val) (hget:H.get id=some (.cells gen d ro cs)) (hs:elemsOf 7 H s=some (c,sn)) (hok:c.all okCell=true) (hro:ro≤off)
    (hn:(if Nat.ble sn len then sn else len)=n) (hn0:n≠0) (hu:upd cs off (c.take (n*7))=some c'):
    copyP E0 233 (.ref id gen off 7 len false) s H=some (.int .i64 (.ofNat n),H.set id (.cells gen gen ro c')):=by
  have hl:lenOfV (.ref id gen off 7 len false)=some len:=rfl
  simp only [copyP,und233,siz403,hl,hs,hn,if_neg hn0,hget]
  rw [if_pos ⟨trivial,trivial,hro,hok⟩]
  simp only [hu,fL_eq,fN_eq,fH_eq]
theorem ref_shift {κ:Kr} {id gen b cap:Nat} (h:VK κ (.ref id gen 0 7 3 false) (.slice (some ⟨b,0,none⟩) 3 cap)):VK κ (.ref id gen 7 7 2 false) (.slice (some ⟨b,7,none⟩) 2 (cap-1)):=by
  unfold VK at h⊢
  have key: ∀(o:Nat),VR κ.F κ.M κ.μ (.ref id gen 0 7 3 false) (.slice (some ⟨b,o,none⟩) 3 cap)→ ∃C L,κ.μ id gen=some (b,C,L)∧21≤L∧cap*7=C.c∧3≤cap∧C.s=0:=by
    intro o h
    cases h with
    |ref _ _ _ _ _ _ _ C L _ h1 h2 h3 h4 h5 h6 h7=>exact ⟨C,L,h1,by omega,by have:=h5 rfl;omega,h6,by omega⟩
  obtain ⟨C,L,h1,h2,h3,h4,h5⟩:=key 0 h
  have:=VR.ref (F:=κ.F) (M:=κ.M) id gen 7 7 2 false b C L (cap-1) h1 (by omega) (by omega) (fun h=>by cases h) (fun _=>by omega) (by omega) (by omega)
  rw [h5] at this
  exact this
theorem ovl_false (w:World) (vb vo vcap b cb:Nat) (x:Value) (hx:cellAt w vb vo=some x) (hfree: ∃c e lo hi,w.heap[b]? =some (.cells c e (lo,hi))∧0<c.size∧ ∀o,¬(lo≤o∧o<hi)) (hsame:vb=b→21≤vo):
    (callFunc 428 #[.slice (some ⟨vb,vo,none⟩) 1 vcap,.slice (some ⟨b,7,none⟩) 2 cb]).run prog w= .ok (.value (.bool false)) w:=by
  rw [run_callFunc_extern func428 (by kernel_rfl) (by kernel_rfl) (by kernel_rfl) (e:=Extern.SlicesOverlaps.overlaps #[232,232] #[4]) (by kernel_rfl)]
  have body: ∀(a b:Addr) (la ca lb cb:Nat),(Extern.SlicesOverlaps.overlaps #[232,232] #[4] #[.slice (some a) la ca,.slice (some b) lb cb]).run prog w=Sem.run prog (α:=Value) (do
      let .slice elem←underlying 232|stuck "slices.overlaps: slice type expected"
      let size←sizeOf elem
      if la=0∨lb=0∨size=0 then pure (Value.bool false)
      else if a.block !=b.block&&(←frozen a)&&(←frozen b) then unsupported .addressObserved
      else do
        if a.block !=b.block then do
          noView a;noView b
          if←mayBeOne a b then return Value.bool ((←choose (.extern "sameAddr.stringBytes" 2))==1)
        pure (Value.bool (a.block==b.block&&a.off<b.off+lb*size&&b.off<a.off+la*size))) w:=fun _ _ _ _ _ _=>rfl
  have key:(Extern.SlicesOverlaps.overlaps #[232,232] #[4] #[.slice (some ⟨vb,vo,none⟩) 1 vcap,.slice (some ⟨b,7,none⟩) 2 cb]).run prog w= .ok (.bool false) w:=by
    rw [body]
    obtain ⟨c,e,lo,hi,hb,hsz,hfr⟩:=hfree
    have hfz: ∀o,w.frozen? ⟨b,o,none⟩=false:=fun o=>by
      unfold World.frozen?
      simp only [hb]
      have:=hfr o
      simpa using this
    have hsb:w.shape? b=some (e,c.size):=by unfold World.shape?;rw [hb]
    obtain ⟨c2,e2,fr2,hv,hv2⟩: ∃c2 e2 fr2,w.heap[vb]? =some (.cells c2 e2 fr2)∧0<c2.size:=by
      unfold cellAt at hx
      split at hx
      · rename_i c2 e2 fr2 h2
        refine ⟨c2,e2,fr2,h2,?_⟩
        have:=(Array.getElem?_eq_some_iff.1 hx).1
        omega
      · cases hx
    have hsa:w.shape? vb=some (e2,c2.size):=by unfold World.shape?;rw [hv]
    obtain ⟨k2,hk2⟩: ∃k2,c2.size=k2+1:=⟨c2.size-1,by omega⟩
    obtain ⟨k1,hk1⟩: ∃k1,c.size=k1+1:=⟨c.size-1,by omega⟩
    rw [hk2] at hsa
    rw [hk1] at hsb
    by_cases e:vb=b
    · subst e
      have h21:=hsame rfl
      have: ¬(vo<7+2*7):=by omega
      simp [run_underlying underlying232,sizeOf403,this]
    · have hnb:(vb !=b)=true:=by simpa using e
      have hnb':(vb==b)=false:=by simpa using e
      cases h1:w.frozen? ⟨vb,vo,none⟩<;>cases h2:w.frozen? ⟨vb,k2+1,none⟩<;>
        simp [run_underlying underlying232,sizeOf403,hnb,hnb',frozen,noView,viewAt,mayBeOne,stringish,shape,Sem.run,hsa,hsb,hfz,h1,h2]
  rw [key]
  rfl
theorem enters341 (args:Array Value) (w:World):(callFunc 341 args).run prog w= .ok (.enter 341 args) w:=enters_of func341 (by kernel_rfl) rfl args w
section
variable {κ:Kr} {H:Hp} {w:World}
theorem frzV_list {n:Nat} {l:List Val} (h:l.all (frzV n)=true): ∀v∈l,frzV n v=true:=fun v hv=>List.all_eq_true.1 h v hv
theorem close_ok (hw:WR κ H w) (id gen g d ro:Nat) (l:List Val) (hl:l.length=21) (hf: ∀v∈l,frzV 20 v=true) (h:H.get id=some (.cells g d ro l)) (hd:d≤gen) {x:Value} (hx:VK κ (.ref id gen 0 7 3 false) x):
    ∃κ',WR κ' (H.set id .gone) w∧Fr κ.own κ κ' w w∧VK κ' (.sl (chunk 7 3 l) false) x∧κ'.μ=κ.μ:=by
  have hp:=pub_row 20 H id gen g d ro l hl hf h hd
  obtain ⟨κ3,p1,p2,p3,p4⟩:=pub_ok _ _ _ _ _ hp κ w x hw hx
  have hid:id<H.n:=Hp.get_lt h
  have h2:=gone_ok p1 id (by rw [Hp.set_n];exact hid)
  rw [set_setJ] at h2
  exact ⟨κ3,h2,p2,p4.of_mu0,p3⟩
theorem ins2_call (args:List Val) (H:Hp):CallOK E0 prog 341 args H (ins2 args H):=by
  intro hne κ w xs hw hg hl ha
  unfold ins2 at hne⊢
  split at hne
  case h_2=>exact absurd rfl hne
  rename_i id r c0
  obtain ⟨x0,x1,x2,rfl,h0,h1,h2⟩:=arg3 hl ha
  split at hne
  case h_2=>exact absurd rfl hne
  rename_i cs hget
  split at hne
  case h_2=>exact absurd rfl hne
  rename_i hcond
  simp only [Bool.and_eq_true] at hcond
  obtain ⟨⟨⟨⟨⟨q1,q2⟩,q3⟩,q4⟩,q5⟩,q6⟩:=hcond
  have l14:cs.length=14:=Nat.eq_of_beq_eq_true q1
  have l7:r.length=7:=Nat.eq_of_beq_eq_true q2
  have hid:id<H.n:=Hp.get_lt hget
  have hfz: ∀v∈r++cs,frzV 20 v=true:=fun v hv=>by
    rcases List.mem_append.1 hv with h|h
    · exact frzV_list q6 v h
    · exact frzV_list q5 v h
  have hl21:(r++cs).length=21:=by simp;omega
  obtain ⟨b0,C0,hcR⟩:=hw.obj _ _ hget
  have hx0:=h0
  have k0: ∃b C cap,x0= .slice (some ⟨b,0,none⟩) 2 cap∧κ.μ id 0=some (b,C,cs.length)∧cap*7=C.c∧2≤cap∧C.s=0∧CellsR κ id 0 0 0 cs w b C:=by
    unfold VK at hx0
    cases hx0 with
    | ref _ _ _ _ _ _ b C L cap g1 g2 g3 g4 g5 g6 g7=>
      have e:=hcR.at_;rw [g1] at e;simp only [Option.some.injEq,Prod.mk.injEq] at e
      obtain ⟨rfl,rfl,rfl⟩:=e
      have hs:C.s=0:=by omega
      exact ⟨b,C,cap,by rw [hs],g1,by have:=g5 rfl;omega,g6,hs,hcR⟩
  obtain ⟨b,C,cap,rfl,hμ,hcap,hcap2,hs0,hcR⟩:=k0
  have k1:x1= .int .i64 0:=by unfold VK at h1;cases h1;rfl
  subst k1
  have hx2:=h2
  have k2: ∃vb vo vcap z,x2= .slice (some ⟨vb,vo,none⟩) 1 vcap∧κ.F vb vo=some z:=by
    unfold VK at hx2
    cases hx2 with
    | sl _ _ ad vc k vb vo X g1 g2 g3 g4 g5 g6 g7=>
      have e:=g4 (by simp)
      subst e
      have e1:=g5 0 _ rfl
      exact ⟨vb,vo,vc,_,rfl,by simpa using g6 0 0 (by simp) (by omega)⟩
  obtain ⟨vb,vo,vcap,z,rfl,hz⟩:=k2
  have hzc:=hw.frz _ _ _ hz
  obtain ⟨c,ety,lo,hi,hb1,hb2,hb3⟩:=hcR.free
  refine .inl ⟨341,_,enters341 _ _,?_⟩
  simp only [fLL_eq,fH_eq]
  rcases Nat.lt_or_ge cap 3 with hlt|hge
  ·
    obtain rfl:cap=2:=by omega
    obtain ⟨i,hi,hisz,hib⟩: ∃i,E0.T 403=some i∧i.size=7∧i.bytes≤4096:=by
      have h:=i403
      cases hT:E0.T 403 with
      |none=>rw [hT] at h;cases h
      | some i=>
        rw [hT] at h
        simp only [Option.any_some,Bool.and_eq_true] at h
        exact ⟨i,rfl,Nat.eq_of_beq_eq_true h.1,Nat.le_of_ble_eq_true h.2⟩
    obtain ⟨new,hnew⟩:=ne403
    have hnew':newElems E0 403 i.size (.int .i64) (.int .i64 (.ofNat 3)) H=some (new,3):=by rw [hisz];exact hnew
    obtain ⟨n1,-,ys,zv,n2,n3,n4⟩:=newElems_ok (tm:= []) (β:=fun _=>none) (t1:=233) (t2:=3) (ty:=0) tabOK.env hw (OV.of_VK (VR.int .i64 (Int.ofNat 3))) underlying233 underlying3 hi hib hnew'
    have hold:(Builtin.firstCells i.size 0 (.slice (some ⟨b,0,none⟩) 0 2)).run prog w.drew= .ok #[] w.drew:=by
      show (loadCells _ (0*i.size)).run _ _=_
      rw [Nat.zero_mul];rfl
    have hap:=n4 (some ⟨b,0,none⟩) 0 2 #[] (by omega) (by unfold roomN;omega) hold
    have hGle:=capOf_le w (0+3) 2 403
    obtain ⟨κ1,hw1,hf1,hv1⟩:=grow_new (el:=403) (oldc:= []) (old:= #[]) (sLen:=0) hw ⟨rfl,fun i v x h=>by cases h⟩ n2 (by simp) n1 (by omega) hGle (zs:=Builtin.zeroCells zv.cells (capOf w (0+3) 2 403-(0+3))) (by rw [zeroCells_size,n3]) 0 (fun t ht=>by simp [tyN] at ht)
    rw [hisz] at hv1 n1
    generalize capOf w (0+3) 2 403=G at hap hGle hw1 hf1 hv1
    generalize w.drew.alloc _=W1 at hap hw1 hf1
    simp only [Nat.zero_add,List.nil_append] at hv1 hap hw1 hGle
    have mono: ∀v x,VK κ v x→VK κ1 v x:=fun v x h=>VR.mono h hf1.fext hf1.mext hf1.uext
    generalize hH1:H.push (.cells 0 0 0 new)=H1 at hw1
    have g1:H1.get H.n=some (.cells 0 0 0 new):=by rw [←hH1];exact get_push_new _ _
    have n1':H.n<H1.n:=by rw [←hH1];simp [Hp.push]
    have u1:upd new 0 (([r]:List (List Val)).flatten.take (1*7))=some (r++new.drop 7):=by
      unfold upd
      rw [show ([r]:List (List Val)).flatten=r by simp,List.take_of_length_le (by omega),if_pos (by omega)]
      simp only [Nat.zero_add,List.take_zero,List.nil_append,l7]
    have c1:=copy_ref H1 H.n 0 0 3 0 0 new (.sl [r] c0) ([r]:List (List Val)).flatten 1 1 (r++new.drop 7) g1 (by simp only [elemsOf];rw [if_pos (by simp [l7])];rfl) (by simpa using q4) (by omega) rfl (by omega) u1
    obtain ⟨W2,r1,e1,hw2,hf2,-⟩:=copyP_ok (tm:= []) (β:=fun _=>none) (ty:=0) tabOK.env (ats:= #[233,232]) rfl hw1 (OV.of_VK hv1) (OV.of_VK (mono _ _ h2)) c1
    generalize hH2:H1.set H.n (.cells 0 0 0 (r++new.drop 7))=H2 at hw2
    have g2:H2.get H.n=some (.cells 0 0 0 (r++new.drop 7)):=by rw [←hH2,Hp.get_set _ hw1.len _ _ n1',if_pos rfl]
    have g2':H2.get id=some (.cells 0 0 0 cs):=by
      rw [←hH2,Hp.get_set _ hw1.len _ _ n1',if_neg (by omega),←hH1,get_push_old _ _ _ hid];exact hget
    have s2:sub cs 0 (2*7)=some cs:=by
      unfold sub
      rw [if_pos (by omega),List.drop_zero,List.take_of_length_le (by omega)]
    have u2:upd (r++new.drop 7) 7 (cs.take (2*7))=some (r++cs):=by
      unfold upd
      rw [List.take_of_length_le (by omega),if_pos (by simp;omega),List.take_append_of_le_length (by omega),List.take_of_length_le (by omega),List.drop_of_length_le (by simp;omega),List.append_nil]
    have c2:=copy_ref H2 H.n 0 7 2 0 0 (r++new.drop 7) (.ref id 0 0 7 2 false) cs 2 2 (r++cs) g2 (by simp only [elemsOf,g2'];rw [if_pos ⟨by omega,trivial⟩,s2]) q3 (by omega) rfl (by omega) u2
    obtain ⟨W3,r2,e2,hw3,hf3,-⟩:=copyP_ok (tm:= []) (β:=fun _=>none) (ty:=0) tabOK.env (ats:= #[233,233]) rfl hw2.drew (OV.of_VK (ref_shift hv1)) (OV.of_VK (mono _ _ h0)) c2
    refine (ins_grow w W1 W2 W3 r1 r2 b vb vo vcap _ G hGle (fun ty=>hap) (fun ty=>e1) (fun ty=>e2)).mono ?_
    rintro e w' ⟨rfl,rfl⟩
    have g3:(H2.set H.n (.cells 0 0 0 (r++cs))).get H.n=some (.cells 0 0 0 (r++cs)):=by
      rw [Hp.get_set _ hw2.len _ _ (by rw [←hH2,Hp.set_n];exact n1'),if_pos rfl]
    obtain ⟨κ4,hw4,hf4,hv4,-⟩:=close_ok hw3 H.n 0 0 0 0 (r++cs) hl21 hfz g3 (Nat.le_refl _) hv1
    rw [set_setJ,←hH2,set_setJ,←hH1,push_set] at hw4
    have hw5:=gone_ok hw4 id (by simp only [Hp.push];omega)
    have f12:=hf1.trans hf2 hf1.onew
    have f13:=f12.trans (Fr.heap_eq (κ:=κ1) (w:=W2) (w':=W2.drew) rfl rfl rfl rfl) f12.onew
    have f14:=f13.trans hf3 f13.onew
    have f15:=f14.trans hf4 f14.onew
    exact ⟨_,_,κ4,rfl,hw5,f15,hv4⟩
  ·
    have hov:=ovl_false w vb vo vcap b (cap-1) z hzc ⟨c,ety,lo,hi,hb1,by omega,fun o=>hb3 o (by omega)⟩ (fun e=>by
      subst e
      rcases Nat.lt_or_ge vo C.c with h|h
      · have:=hcR.wr vo (Nat.zero_le _) h (by omega)
        rw [hs0,Nat.sub_zero,hz] at this
        cases this
      · omega)
    have hw0:=pushGone_ok hw
    have hget0:(H.push .gone).get id=some (.cells 0 0 0 cs):=by rw [get_push_old _ _ _ hid];exact hget
    obtain ⟨hw1,hf1⟩:=extend_ok hw0 hget0 hμ 7 (by omega) rfl
    generalize hκ:κ.addU id (0+1) (b,C,cs.length+7)=κ1 at hw1 hf1
    have hμ1:κ1.μ id 1=some (b,C,21):=by rw [←hκ,l14];simp [Kr.addU]
    have mono: ∀v x,VK κ v x→VK κ1 v x:=fun v x h=>VR.mono h hf1.fext hf1.mext hf1.uext
    generalize hH1:(H.push .gone).set id (.cells (0+1) 0 0 (cs++List.replicate 7 .bad))=H1 at hw1
    have hid1:id<H1.n:=by rw [←hH1,Hp.set_n];simp only [Hp.push];omega
    have g1:H1.get id=some (.cells 1 0 0 (cs++List.replicate 7 .bad)):=by
      rw [←hH1,Hp.get_set _ hw0.len _ _ (by simp only [Hp.push];omega),if_pos rfl]
    have v3:VK κ1 (.ref id 1 0 7 3 false) (.slice (some ⟨b,0,none⟩) 3 cap):=by
      unfold VK
      have:=VR.ref (F:=κ1.F) (M:=κ1.M) id 1 0 7 3 false b C 21 cap hμ1 (by omega) (by omega) (fun h=>by cases h) (fun _=>by omega) hge (by omega)
      rw [hs0] at this
      exact this
    have v2:VK κ1 (.ref id 1 0 7 2 false) (.slice (some ⟨b,0,none⟩) 2 cap):=by
      unfold VK
      have:=VR.ref (F:=κ1.F) (M:=κ1.M) id 1 0 7 2 false b C 21 cap hμ1 (by omega) (by omega) (fun h=>by cases h) (fun _=>by omega) (by omega) (by omega)
      rw [hs0] at this
      exact this
    have s1:sub (cs++List.replicate 7 Val.bad) 0 (2*7)=some cs:=by
      unfold sub
      rw [if_pos (by simp;omega),List.drop_zero,List.take_append_of_le_length (by omega),List.take_of_length_le (by omega)]
    have u1:upd (cs++List.replicate 7 Val.bad) 7 (cs.take (2*7))=some (cs.take 7++cs):=by
      unfold upd
      rw [List.take_of_length_le (by omega),if_pos (by simp;omega),List.take_append_of_le_length (by omega),List.drop_of_length_le (by simp;omega),List.append_nil]
    have c1:=copy_ref H1 id 1 7 2 0 0 (cs++List.replicate 7 .bad) (.ref id 1 0 7 2 false) cs 2 2 (cs.take 7++cs) g1 (by simp only [elemsOf,g1];rw [if_pos ⟨by omega,trivial⟩,s1]) q3 (by omega) rfl (by omega) u1
    obtain ⟨W1,r1,e1,hw2,hf2,-⟩:=copyP_ok (tm:= []) (β:=fun _=>none) (ty:=0) tabOK.env (ats:= #[233,233]) rfl hw1.drew (OV.of_VK (ref_shift v3)) (OV.of_VK v2) c1
    generalize hH2:H1.set id (.cells 1 1 0 (cs.take 7++cs))=H2 at hw2
    have g2:H2.get id=some (.cells 1 1 0 (cs.take 7++cs)):=by rw [←hH2,Hp.get_set _ hw1.len _ _ hid1,if_pos rfl]
    have u2:upd (cs.take 7++cs) 0 (([r]:List (List Val)).flatten.take (1*7))=some (r++cs):=by
      unfold upd
      rw [show ([r]:List (List Val)).flatten=r by simp,List.take_of_length_le (by omega),if_pos (by simp;omega)]
      simp only [Nat.zero_add,List.take_zero,List.nil_append]
      rw [List.drop_append_of_le_length (by simp;omega),List.drop_of_length_le (by simp;omega),List.nil_append]
    have c2:=copy_ref H2 id 1 0 3 1 0 (cs.take 7++cs) (.sl [r] c0) ([r]:List (List Val)).flatten 1 1 (r++cs) g2 (by simp only [elemsOf];rw [if_pos (by simp [l7])];rfl) (by simpa using q4) (by omega) rfl (by omega) u2
    obtain ⟨W2,r2,e2,hw3,hf3,-⟩:=copyP_ok (tm:= []) (β:=fun _=>none) (ty:=0) tabOK.env (ats:= #[233,232]) rfl hw2 (OV.of_VK v3) (OV.of_VK (mono _ _ h2)) c2
    refine (ins_room w W1 W2 r1 r2 b cap vb vo vcap hge hov (fun ty=>(copy_len _ _ _ _ _ _ _ _ cap cap).trans e1) (fun ty=>e2)).mono ?_
    rintro e w' ⟨rfl,rfl⟩
    have g3:(H2.set id (.cells 1 1 0 (r++cs))).get id=some (.cells 1 1 0 (r++cs)):=by
      rw [Hp.get_set _ hw2.len _ _ (by rw [←hH2,Hp.set_n];exact hid1),if_pos rfl]
    obtain ⟨κ4,hw4,hf4,hv4,-⟩:=close_ok hw3 id 1 1 1 0 (r++cs) hl21 hfz g3 (Nat.le_refl _) v3
    rw [set_setJ,←hH2,set_setJ,←hH1,set_setJ] at hw4
    have f12:Fr κ.own κ κ1 w w.drew:=hf1.trans (Fr.heap_eq (κ:=κ1) (w:=w) (w':=w.drew) rfl rfl rfl rfl) hf1.onew
    have f13:=f12.trans hf2 f12.onew
    have f14:=f13.trans hf3 f13.onew
    have f15:=f14.trans hf4 f14.onew
    exact ⟨_,_,κ4,rfl,hw4,f15,hv4⟩
end
theorem pIns_call (args:List Val) (H:Hp):CallOK E0 prog 341 args H (pIns args H):=by
  unfold pIns
  split
  · next v H' h=>
    have:=ins2_call args H
    rw [h] at this
    exact this
  · exact evalFn_ok tabOK 1 341 args H
end Go.PV
namespace Go.PV
open Go Go.Proofs.Tryz
set_option maxRecDepth 100000
theorem pr235:fxOK E0 prog okd 235 (.prim (pSeq 156 3)):=fun args H=>pSeq_call E0 args H
theorem pr341:fxOK E0 prog okd 341 (.prim pIns):=pIns_call
theorem pr324:fxOK E0 prog okd 324 (.prim pNoEsc):=pNoEsc_ok (fn:=f324) func324 (by kernel_rfl) (by kernel_rfl) (by kernel_rfl) (by kernel_rfl)
theorem pr459:fxOK E0 prog okd 459 (.prim pIdx):=pIdx_ok (fn:=f459) func459 (by kernel_rfl) (by kernel_rfl) (by kernel_rfl) (by kernel_rfl)
theorem ffAll:BT.allIn (fxOK E0 prog okd) 0 (0+2^10) ffTab:=ofL_ok 10 0 _ (laN (laN (laN (laC y3 (laC y4 (laC y5 (laC y6 (laC y7 (laC y8 (laC y9 (laC y10 (laC y11 (laC y12 (laC y13 (laC y14 (laC y15 (laC y16 (laC y17 (laC y18 (laC y19 (laC y20 (laC y21 (laC y22 (laC y23 (laC y24 (laC y25 (laC y26 (laC y27 (laC y28 (laC y29 (laC y30 (laC y31 (laC y32 (laC y33 (laC y34 (laC y35 (laC y36 (laC y37 (laC y38 (laC y39 (laC y40 (laC y41 (laC y42 (laC y43 (laC y44 (laC y45 (laC y46 (laC y47 (laC y48 (laC y49 (laC y50 (laC y51 (laC y52 (laC y53 (laC y54 (laC y55 (laC y56 (laC y57 (laC y58 (laC y59 (laC y60 (laC y61 (laC y62 (laC y63 (laC y64 (laC y65 (laC y66 (laC y67 (laC y68 (laC y69 (laC y70 (laC y71 (laC y72 (laC y73 (laC y74 (laC y75 (laC y76 (laC y77 (laC y78 (laC y79 (laC y80 (laC y81 (laC y82 (laC y83 (laC y84 (laC y85 (laC y86 (laC y87 (laC y88 (laC y89 (laC y90 (laC y91 (laC y92 (laC y93 (laC y94 (laC y95 (laC y96 (laC y97 (laC y98 (laC y99 (laC y100 (laC y101 (laC y102 (laC y103 (laC y104 (laC y105 (laC y106 (laC y107 (laC y108 (laC y109 (laC y110 (laC y111 (laC y112 (laC y113 (laC y114 (laC y115 (laC y116 (laC y117 (laC y118 (laC y119 (laC y120 (laC y121 (laC y122 (laC y123 (laC y124 (laC y125 (laC y126 (laC y127 (laC y128 (laC y129 (laC y130 (laC y131 (laC y132 (laC y133 (laC y134 (laC y135 (laC y136 (laC y137 (laC y138 (laC y139 (laC y140 (laC y141 (laC y142 (laC y143 (laC y144 (laC y145 (laC y146 (laC y147 (laC y148 (laC y149 (laC y150 (laC y151 (laC y152 (laC y153 (laC y154 (laC y155 (laC y156 (laC y157 (laC y158 (laC y159 (laC y160 (laC y161 (laC y162 (laC y163 (laC y164 (laC y165 (laC y166 (laC y167 (laC y168 (laC y169 (laC y170 (laC y171 (laC y172 (laC y173 (laC y174 (laC y175 (laC y176 (laC y177 (laC y178 (laC y179 (laC y180 (laC y181 (laC y182 (laC y183 (laC y184 (laC y185 (laC y186 (laC y187 (laC y188 (laC y189 (laC y190 (laC y191 (laC y192 (laC y193 (laC y194 (laC y195 (laC y196 (laC y197 (laC y198 (laC y199 (laC y200 (laC y201 (laC y202 (laC y203 (laC y204 (laC y205 (laC y206 (laC y207 (laC y208 (laC y209 (laC y210 (laC y211 (laC y212 (laC y213 (laC y214 (laC y215 (laC y216 (laC y217 (laC y218 (laC y219 (laC y220 (laC y221 (laC y222 (laC y223 (laC y224 (laC y225 (laC y226 (laC y227 (laC y228 (laC y229 (laC y230 (laC y231 (laC y232 (laC y233 (laC y234 (laC pr235 (laC y236 (laC y237 (laC y238 (laC y239 (laC y240 (laC y241 (laC y242 (laC y243 (laC y244 (laC y245 (laC y246 (laC y247 (laC y248 (laC y249 (laC y250 (laC y251 (laC y252 (laC y253 (laC y254 (laC y255 (laC y256 (laC y257 (laC y258 (laC y259 (laC y260 (laC y261 (laC y262 (laC y263 (laC y264 (laC y265 (laC y266 (laC y267 (laC y268 (laC y269 (laC y270 (laC y271 (laC y272 (laC y273 (laC y274 (laC y275 (laC y276 (laC y277 (laC y278 (laC y279 (laC y280 (laC y281 (laC y282 (laC y283 (laC y284 (laC y285 (laC y286 (laC y287 (laC y288 (laC y289 (laC y290 (laC y291 (laC y292 (laC y293 (laC y294 (laC y295 (laC y296 (laC y297 (laC y298 (laC y299 (laC y300 (laC y301 (laC y302 (laC y303 (laC y304 (laC y305 (laC y306 (laC y307 (laC y308 (laC y309 (laC y310 (laC y311 (laC y312 (laC y313 (laC y314 (laC y315 (laC y316 (laC y317 (laC y318 (laC y319 (laC y320 (laC y321 (laC y322 (laC y323 (laC pr324 (laC y325 (laC y326 (laC y327 (laC y328 (laC y329 (laC y330 (laC y331 (laC y332 (laC y333 (laC y334 (laC y335 (laC y336 (laC y337 (laC y338 (laC y339 (laC y340 (laC pr341 (laC y342 (laC y343 (laC y344 (laC y345 (laC y346 (laC y347 (laC y348 (laC y349 (laC y350 (laC y351 (laC y352 (laC y353 (laC y354 (laC y355 (laC y356 (laC y357 (laC y358 (laC y359 (laC y360 (laC y361 (laC y362 (laC y363 (laC y364 (laC y365 (laC y366 (laC y367 (laC y368 (laC y369 (laC y370 (laC y371 (laC y372 (laC y373 (laC y374 (laC y375 (laC y376 (laC y377 (laC y378 (laC y379 (laC y380 (laC y381 (laC y382 (laC y383 (laC y384 (laC y385 (laC y386 (laC y387 (laC y388 (laC y389 (laC y390 (laC y391 (laC y392 (laC y393 (laC y394 (laC y395 (laC y396 (laC y397 (laC y398 (laC y399 (laC y400 (laC y401 (laC y402 (laC y403 (laC y404 (laC y405 (laC y406 (laC y407 (laN (laC y409 (laC y410 (laC y411 (laC y412 (laC y413 (laC y414 (laC y415 (laC y416 (laC y417 (laC y418 (laC y419 (laC y420 (laC y421 (laC y422 (laC y423 (laC y424 (laC y425 (laC y426 (laC y427 (laN (laC y429 (laC y430 (laC y431 (laC y432 (laC y433 (laC y434 (laC y435 (laC y436 (laC y437 (laC y438 (laC y439 (laC y440 (laC y441 (laC y442 (laC y443 (laC y444 (laC y445 (laC y446 (laC y447 (laC y448 (laC y449 (laC y450 (laC y451 (laC y452 (laC y453 (laC y454 (laC y455 (laC y456 (laC y457 (laC y458 (laC pr459 (laC y460 (laC y461 (laC y462 (laC y463 (laC y464 (laC y465 (laC y466 (laC y467 (laC y468 (laC y469 (laC y470 (laC y471 (laC y472 (laC y473 (laC y474 (laC y475 (laC y476 (laC y477 (laC y478 (laC y479 (laC y480 (laC y481 (laC y482 (laC y483 (laC y484 (laC y485 (laC y486 (laC y487 (laC y488 (laC y489 (laC y490 (laC y491 (laC y492 (laC y493 (laN (laC y495 (laC y496 (laC y497 (laC y498 (laC y499 (laC y500 (laC y501 (laC y502 (laC y503 (laN (laN (laC y506 (laC y507 (laC y508 (laC y509 (laC y510 (laC y511 (laC y512 (laC y513 (laN (laC y515 (laC y516 (laC y517 (laC y518 (laC y519 (laC y520 la0)))))))))))))))))))))))))))))))))))))))))))))))))))))))))))))))))))))))))))))))))))))))))))))))))))))))))))))))))))))))))))))))))))))))))))))))))))))))))))))))))))))))))))))))))))))))))))))))))))))))))))))))))))))))))))))))))))))))))))))))))))))))))))))))))))))))))))))))))))))))))))))))))))))))))))))))))))))))))))))))))))))))))))))))))))))))))))))))))))))))))))))))))))))))))))))))))))))))))))))))))))))))))))))))))))))))))))))))))))))))))))))))))))))))))))))))))))))))))))))))))))))))))))))))))))))))))))))))))))))))))
theorem mtab:MTab E0 prog okd ffs:=mkM tabOK ffAll
end Go.PV

