/- A part of the proof: SQ. -/
import Derived.KernelRfl
import Derived.Test.YtmjfdiohjflnnaaGreatDoorP07
import Derived.Test.YtmjfdiohjflnnaaGreatDoorP16
set_option linter.all false
namespace Go.PV
open Go Go.Proofs.Tryz
set_option maxRecDepth 100000
theorem tabT:(List.range 541).map E0.T=(List.range 541).map (keepS E0.T prog.info?):=by kernel_rfl
theorem tabZ:(List.range 541).all (zokB E0)=true:=by decide+kernel
theorem tabF:(List.range 550).map E0.fns=(List.range 550).map (keepS E0.fns fun f=>prog.funcs[f]?):=by kernel_rfl
theorem tabN:(List.range 550).all (nameB E0)=true:=by decide+kernel
theorem mixed:prog.follows .mixedOrders=true:=by kernel_rfl
theorem r3:regB E0 okd 3=true:=by decide+kernel
theorem r4:regB E0 okd 4=true:=by decide+kernel
theorem r11:regB E0 okd 11=true:=by decide+kernel
theorem r15:regB E0 okd 15=true:=by decide+kernel
theorem r24:regB E0 okd 24=true:=by decide+kernel
theorem r27:regB E0 okd 27=true:=by decide+kernel
theorem r28:regB E0 okd 28=true:=by decide+kernel
theorem r29:regB E0 okd 29=true:=by decide+kernel
theorem r33:regB E0 okd 33=true:=by decide+kernel
theorem r35:regB E0 okd 35=true:=by decide+kernel
theorem r36:regB E0 okd 36=true:=by decide+kernel
theorem r37:regB E0 okd 37=true:=by decide+kernel
theorem r41:regB E0 okd 41=true:=by decide+kernel
theorem r42:regB E0 okd 42=true:=by decide+kernel
theorem r43:regB E0 okd 43=true:=by decide+kernel
theorem r44:regB E0 okd 44=true:=by decide+kernel
theorem r45:regB E0 okd 45=true:=by decide+kernel
theorem r47:regB E0 okd 47=true:=by decide+kernel
theorem r58:regB E0 okd 58=true:=by decide+kernel
theorem r59:regB E0 okd 59=true:=by decide+kernel
theorem r61:regB E0 okd 61=true:=by decide+kernel
theorem r65:regB E0 okd 65=true:=by decide+kernel
theorem r69:regB E0 okd 69=true:=by decide+kernel
theorem r71:regB E0 okd 71=true:=by decide+kernel
theorem r73:regB E0 okd 73=true:=by decide+kernel
theorem r74:regB E0 okd 74=true:=by decide+kernel
theorem r76:regB E0 okd 76=true:=by decide+kernel
theorem r78:regB E0 okd 78=true:=by decide+kernel
theorem r85:regB E0 okd 85=true:=by decide+kernel
theorem r102:regB E0 okd 102=true:=by decide+kernel
theorem r106:regB E0 okd 106=true:=by decide+kernel
theorem r109:regB E0 okd 109=true:=by decide+kernel
theorem r110:regB E0 okd 110=true:=by decide+kernel
theorem r112:regB E0 okd 112=true:=by decide+kernel
theorem r113:regB E0 okd 113=true:=by decide+kernel
theorem r125:regB E0 okd 125=true:=by decide+kernel
theorem r134:regB E0 okd 134=true:=by decide+kernel
theorem r135:regB E0 okd 135=true:=by decide+kernel
theorem r137:regB E0 okd 137=true:=by decide+kernel
theorem r144:regB E0 okd 144=true:=by decide+kernel
theorem r145:regB E0 okd 145=true:=by decide+kernel
theorem r151:regB E0 okd 151=true:=by decide+kernel
theorem r157:regB E0 okd 157=true:=by decide+kernel
theorem r158:regB E0 okd 158=true:=by decide+kernel
theorem r159:regB E0 okd 159=true:=by decide+kernel
theorem r161:regB E0 okd 161=true:=by decide+kernel
theorem r162:regB E0 okd 162=true:=by decide+kernel
theorem r163:regB E0 okd 163=true:=by decide+kernel
theorem r164:regB E0 okd 164=true:=by decide+kernel
theorem r167:regB E0 okd 167=true:=by decide+kernel
theorem r169:regB E0 okd 169=true:=by decide+kernel
theorem r171:regB E0 okd 171=true:=by decide+kernel
theorem r174:regB E0 okd 174=true:=by decide+kernel
theorem r175:regB E0 okd 175=true:=by decide+kernel
theorem r177:regB E0 okd 177=true:=by decide+kernel
theorem r187:regB E0 okd 187=true:=by decide+kernel
theorem r189:regB E0 okd 189=true:=by decide+kernel
theorem r192:regB E0 okd 192=true:=by decide+kernel
theorem r197:regB E0 okd 197=true:=by decide+kernel
theorem r198:regB E0 okd 198=true:=by decide+kernel
theorem r199:regB E0 okd 199=true:=by decide+kernel
theorem r200:regB E0 okd 200=true:=by decide+kernel
theorem r201:regB E0 okd 201=true:=by decide+kernel
theorem r202:regB E0 okd 202=true:=by decide+kernel
theorem r204:regB E0 okd 204=true:=by decide+kernel
theorem r205:regB E0 okd 205=true:=by decide+kernel
theorem r206:regB E0 okd 206=true:=by decide+kernel
theorem r212:regB E0 okd 212=true:=by decide+kernel
theorem r213:regB E0 okd 213=true:=by decide+kernel
theorem r214:regB E0 okd 214=true:=by decide+kernel
theorem r220:regB E0 okd 220=true:=by decide+kernel
theorem r221:regB E0 okd 221=true:=by decide+kernel
theorem r232:regB E0 okd 232=true:=by decide+kernel
theorem r234:regB E0 okd 234=true:=by decide+kernel
theorem r236:regB E0 okd 236=true:=by decide+kernel
theorem r237:regB E0 okd 237=true:=by decide+kernel
theorem r239:regB E0 okd 239=true:=by decide+kernel
theorem r242:regB E0 okd 242=true:=by decide+kernel
theorem r243:regB E0 okd 243=true:=by decide+kernel
theorem r244:regB E0 okd 244=true:=by decide+kernel
theorem r245:regB E0 okd 245=true:=by decide+kernel
theorem r246:regB E0 okd 246=true:=by decide+kernel
theorem r247:regB E0 okd 247=true:=by decide+kernel
theorem r251:regB E0 okd 251=true:=by decide+kernel
theorem r252:regB E0 okd 252=true:=by decide+kernel
theorem r253:regB E0 okd 253=true:=by decide+kernel
theorem r254:regB E0 okd 254=true:=by decide+kernel
theorem r257:regB E0 okd 257=true:=by decide+kernel
theorem r259:regB E0 okd 259=true:=by decide+kernel
theorem r262:regB E0 okd 262=true:=by decide+kernel
theorem r264:regB E0 okd 264=true:=by decide+kernel
theorem r268:regB E0 okd 268=true:=by decide+kernel
theorem r271:regB E0 okd 271=true:=by decide+kernel
theorem r275:regB E0 okd 275=true:=by decide+kernel
theorem r277:regB E0 okd 277=true:=by decide+kernel
theorem r286:regB E0 okd 286=true:=by decide+kernel
theorem r288:regB E0 okd 288=true:=by decide+kernel
theorem r290:regB E0 okd 290=true:=by decide+kernel
theorem r293:regB E0 okd 293=true:=by decide+kernel
theorem r298:regB E0 okd 298=true:=by decide+kernel
theorem r300:regB E0 okd 300=true:=by decide+kernel
theorem r303:regB E0 okd 303=true:=by decide+kernel
theorem r304:regB E0 okd 304=true:=by decide+kernel
theorem r305:regB E0 okd 305=true:=by decide+kernel
theorem r308:regB E0 okd 308=true:=by decide+kernel
theorem r309:regB E0 okd 309=true:=by decide+kernel
theorem r313:regB E0 okd 313=true:=by decide+kernel
theorem r319:regB E0 okd 319=true:=by decide+kernel
theorem r322:regB E0 okd 322=true:=by decide+kernel
theorem r327:regB E0 okd 327=true:=by decide+kernel
theorem r332:regB E0 okd 332=true:=by decide+kernel
theorem r333:regB E0 okd 333=true:=by decide+kernel
theorem r338:regB E0 okd 338=true:=by decide+kernel
theorem r341:regB E0 okd 341=true:=by decide+kernel
theorem r343:regB E0 okd 343=true:=by decide+kernel
theorem r344:regB E0 okd 344=true:=by decide+kernel
theorem r345:regB E0 okd 345=true:=by decide+kernel
theorem r347:regB E0 okd 347=true:=by decide+kernel
theorem r348:regB E0 okd 348=true:=by decide+kernel
theorem r350:regB E0 okd 350=true:=by decide+kernel
theorem r351:regB E0 okd 351=true:=by decide+kernel
theorem r352:regB E0 okd 352=true:=by decide+kernel
theorem r354:regB E0 okd 354=true:=by decide+kernel
theorem r356:regB E0 okd 356=true:=by decide+kernel
theorem r357:regB E0 okd 357=true:=by decide+kernel
theorem r358:regB E0 okd 358=true:=by decide+kernel
theorem r359:regB E0 okd 359=true:=by decide+kernel
theorem r363:regB E0 okd 363=true:=by decide+kernel
theorem r365:regB E0 okd 365=true:=by decide+kernel
theorem r366:regB E0 okd 366=true:=by decide+kernel
theorem r370:regB E0 okd 370=true:=by decide+kernel
theorem r372:regB E0 okd 372=true:=by decide+kernel
theorem r378:regB E0 okd 378=true:=by decide+kernel
theorem r392:regB E0 okd 392=true:=by decide+kernel
theorem r401:regB E0 okd 401=true:=by decide+kernel
theorem r402:regB E0 okd 402=true:=by decide+kernel
theorem r404:regB E0 okd 404=true:=by decide+kernel
theorem r419:regB E0 okd 419=true:=by decide+kernel
theorem r421:regB E0 okd 421=true:=by decide+kernel
theorem r430:regB E0 okd 430=true:=by decide+kernel
theorem r435:regB E0 okd 435=true:=by decide+kernel
theorem r438:regB E0 okd 438=true:=by decide+kernel
theorem r442:regB E0 okd 442=true:=by decide+kernel
theorem r445:regB E0 okd 445=true:=by decide+kernel
theorem r447:regB E0 okd 447=true:=by decide+kernel
theorem r451:regB E0 okd 451=true:=by decide+kernel
theorem r453:regB E0 okd 453=true:=by decide+kernel
theorem r454:regB E0 okd 454=true:=by decide+kernel
theorem r467:regB E0 okd 467=true:=by decide+kernel
theorem r470:regB E0 okd 470=true:=by decide+kernel
theorem r471:regB E0 okd 471=true:=by decide+kernel
theorem r472:regB E0 okd 472=true:=by decide+kernel
theorem r475:regB E0 okd 475=true:=by decide+kernel
theorem r477:regB E0 okd 477=true:=by decide+kernel
theorem r478:regB E0 okd 478=true:=by decide+kernel
theorem r480:regB E0 okd 480=true:=by decide+kernel
theorem r481:regB E0 okd 481=true:=by decide+kernel
theorem r482:regB E0 okd 482=true:=by decide+kernel
theorem r484:regB E0 okd 484=true:=by decide+kernel
theorem r485:regB E0 okd 485=true:=by decide+kernel
theorem r487:regB E0 okd 487=true:=by decide+kernel
theorem r488:regB E0 okd 488=true:=by decide+kernel
theorem r493:regB E0 okd 493=true:=by decide+kernel
theorem r495:regB E0 okd 495=true:=by decide+kernel
theorem r496:regB E0 okd 496=true:=by decide+kernel
theorem r497:regB E0 okd 497=true:=by decide+kernel
theorem r498:regB E0 okd 498=true:=by decide+kernel
theorem r499:regB E0 okd 499=true:=by decide+kernel
theorem r501:regB E0 okd 501=true:=by decide+kernel
theorem r506:regB E0 okd 506=true:=by decide+kernel
theorem r508:regB E0 okd 508=true:=by decide+kernel
theorem r512:regB E0 okd 512=true:=by decide+kernel
theorem r513:regB E0 okd 513=true:=by decide+kernel
theorem regs:allB (regB E0 okd) [3,4,11,15,24,27,28,29,33,35,36,37,41,42,43,44,45,47,58,59,61,65,69,71,73,74,76,78,85,102,106,109,110,112,113,125,134,135,137,144,145,151,157,158,159,161,162,163,164,167,169,171,174,175,177,187,189,192,197,198,199,200,201,202,204,205,206,212,213,214,220,221,232,234,236,237,239,242,243,244,245,246,247,251,252,253,254,257,259,262,264,268,271,275,277,286,288,290,293,298,300,303,304,305,308,309,313,319,322,327,332,333,338,341,343,344,345,347,348,350,351,352,354,356,357,358,359,363,365,366,370,372,378,392,401,402,404,419,421,430,435,438,442,445,447,451,453,454,467,470,471,472,475,477,478,480,481,482,484,485,487,488,493,495,496,497,498,499,501,506,508,512,513]=true:=(allB_cons r3 (allB_cons r4 (allB_cons r11 (allB_cons r15 (allB_cons r24 (allB_cons r27 (allB_cons r28 (allB_cons r29 (allB_cons r33 (allB_cons r35 (allB_cons r36 (allB_cons r37 (allB_cons r41 (allB_cons r42 (allB_cons r43 (allB_cons r44 (allB_cons r45 (allB_cons r47 (allB_cons r58 (allB_cons r59 (allB_cons r61 (allB_cons r65 (allB_cons r69 (allB_cons r71 (allB_cons r73 (allB_cons r74 (allB_cons r76 (allB_cons r78 (allB_cons r85 (allB_cons r102 (allB_cons r106 (allB_cons r109 (allB_cons r110 (allB_cons r112 (allB_cons r113 (allB_cons r125 (allB_cons r134 (allB_cons r135 (allB_cons r137 (allB_cons r144 (allB_cons r145 (allB_cons r151 (allB_cons r157 (allB_cons r158 (allB_cons r159 (allB_cons r161 (allB_cons r162 (allB_cons r163 (allB_cons r164 (allB_cons r167 (allB_cons r169 (allB_cons r171 (allB_cons r174 (allB_cons r175 (allB_cons r177 (allB_cons r187 (allB_cons r189 (allB_cons r192 (allB_cons r197 (allB_cons r198 (allB_cons r199 (allB_cons r200 (allB_cons r201 (allB_cons r202 (allB_cons r204 (allB_cons r205 (allB_cons r206 (allB_cons r212 (allB_cons r213 (allB_cons r214 (allB_cons r220 (allB_cons r221 (allB_cons r232 (allB_cons r234 (allB_cons r236 (allB_cons r237 (allB_cons r239 (allB_cons r242 (allB_cons r243 (allB_cons r244 (allB_cons r245 (allB_cons r246 (allB_cons r247 (allB_cons r251 (allB_cons r252 (allB_cons r253 (allB_cons r254 (allB_cons r257 (allB_cons r259 (allB_cons r262 (allB_cons r264 (allB_cons r268 (allB_cons r271 (allB_cons r275 (allB_cons r277 (allB_cons r286 (allB_cons r288 (allB_cons r290 (allB_cons r293 (allB_cons r298 (allB_cons r300 (allB_cons r303 (allB_cons r304 (allB_cons r305 (allB_cons r308 (allB_cons r309 (allB_cons r313 (allB_cons r319 (allB_cons r322 (allB_cons r327 (allB_cons r332 (allB_cons r333 (allB_cons r338 (allB_cons r341 (allB_cons r343 (allB_cons r344 (allB_cons r345 (allB_cons r347 (allB_cons r348 (allB_cons r350 (allB_cons r351 (allB_cons r352 (allB_cons r354 (allB_cons r356 (allB_cons r357 (allB_cons r358 (allB_cons r359 (allB_cons r363 (allB_cons r365 (allB_cons r366 (allB_cons r370 (allB_cons r372 (allB_cons r378 (allB_cons r392 (allB_cons r401 (allB_cons r402 (allB_cons r404 (allB_cons r419 (allB_cons r421 (allB_cons r430 (allB_cons r435 (allB_cons r438 (allB_cons r442 (allB_cons r445 (allB_cons r447 (allB_cons r451 (allB_cons r453 (allB_cons r454 (allB_cons r467 (allB_cons r470 (allB_cons r471 (allB_cons r472 (allB_cons r475 (allB_cons r477 (allB_cons r478 (allB_cons r480 (allB_cons r481 (allB_cons r482 (allB_cons r484 (allB_cons r485 (allB_cons r487 (allB_cons r488 (allB_cons r493 (allB_cons r495 (allB_cons r496 (allB_cons r497 (allB_cons r498 (allB_cons r499 (allB_cons r501 (allB_cons r506 (allB_cons r508 (allB_cons r512 (allB_cons r513 (allB_nil _))))))))))))))))))))))))))))))))))))))))))))))))))))))))))))))))))))))))))))))))))))))))))))))))))))))))))))))))))))))))))))))))))))))))))))))))))))))))))))))))))))))))))))))
theorem nregs:(List.range 550).all (fun f=>memN f [3,4,11,15,24,27,28,29,33,35,36,37,41,42,43,44,45,47,58,59,61,65,69,71,73,74,76,78,85,102,106,109,110,112,113,125,134,135,137,144,145,151,157,158,159,161,162,163,164,167,169,171,174,175,177,187,189,192,197,198,199,200,201,202,204,205,206,212,213,214,220,221,232,234,236,237,239,242,243,244,245,246,247,251,252,253,254,257,259,262,264,268,271,275,277,286,288,290,293,298,300,303,304,305,308,309,313,319,322,327,332,333,338,341,343,344,345,347,348,350,351,352,354,356,357,358,359,363,365,366,370,372,378,392,401,402,404,419,421,430,435,438,442,445,447,451,453,454,467,470,471,472,475,477,478,480,481,482,484,485,487,488,493,495,496,497,498,499,501,506,508,512,513]||noDrawB E0 okd f)=true:=by decide+kernel
theorem e313:prog.stoodInHeld 313=false∧prog.eqGuardType prog.depth 313=false:=⟨by kernel_rfl,by kernel_rfl⟩
theorem eqOK: ∀t,E0.eqt t=true→prog.stoodInHeld t=false∧prog.eqGuardType prog.depth t=false:=by
  intro t h
  have h:memN t eqTs=true:=h
  simp only [eqTs,memN] at h
  split at h
  · rename_i hb;rw [Nat.eq_of_beq_eq_true hb];exact e313
  cases h
theorem tabOK:TabOK E0 prog okd:=mkTab eqOK tabT tabZ tabF tabN mixed regs nregs (fun _=>rfl) liesOK
end Go.PV
