/- A part of the law's proof: Chk. -/
import Derived.Test.YtloeagdggmolcaaGreatDoorRows
import Derived.Test.YtloeagdggmolcaaGreatDoorCoreD
import Derived.Test.YtloeagdggmolcaaGreatDoorFn
import Derived.KernelRfl
set_option linter.unusedVariables false
set_option linter.unusedSimpArgs false
namespace Go.Proofs.Mn
open Go Go.Am
noncomputable def bodyOf (f:Func):Code:=f.body.getD .skip
set_option maxRecDepth 1000000 in
theorem ok12:chkF Go.Proofs.Tryz.prog [0,1,2,3] default Trmn.tab 12 Go.Proofs.Tryz.f12 (bodyOf Go.Proofs.Tryz.f12) Trmn.a12=true:=by kernel_rfl
set_option maxRecDepth 1000000 in
theorem ok16:chkF Go.Proofs.Tryz.prog [0,1,2,3] default Trmn.tab 16 Go.Proofs.Tryz.f16 (bodyOf Go.Proofs.Tryz.f16) Trmn.a16=true:=by kernel_rfl
set_option maxRecDepth 1000000 in
theorem ok20:chkF Go.Proofs.Tryz.prog [0,1,2,3] default Trmn.tab 20 Go.Proofs.Tryz.f20 (bodyOf Go.Proofs.Tryz.f20) Trmn.a20=true:=by kernel_rfl
set_option maxRecDepth 1000000 in
theorem ok27:chkF Go.Proofs.Tryz.prog [0,1,2,3] default Trmn.tab 27 Go.Proofs.Tryz.f27 (bodyOf Go.Proofs.Tryz.f27) Trmn.a27=true:=by kernel_rfl
set_option maxRecDepth 1000000 in
theorem ok31:chkF Go.Proofs.Tryz.prog [0,1,2,3] default Trmn.tab 31 Go.Proofs.Tryz.f31 (bodyOf Go.Proofs.Tryz.f31) Trmn.a31=true:=by kernel_rfl
set_option maxRecDepth 1000000 in
theorem ok65:chkF Go.Proofs.Tryz.prog [0,1,2,3] default Trmn.tab 65 Go.Proofs.Tryz.f65 (bodyOf Go.Proofs.Tryz.f65) Trmn.a65=true:=by kernel_rfl
set_option maxRecDepth 1000000 in
theorem ok69:chkF Go.Proofs.Tryz.prog [0,1,2,3] default Trmn.tab 69 Go.Proofs.Tryz.f69 (bodyOf Go.Proofs.Tryz.f69) Trmn.a69=true:=by kernel_rfl
set_option maxRecDepth 1000000 in
theorem ok73:chkF Go.Proofs.Tryz.prog [0,1,2,3] default Trmn.tab 73 Go.Proofs.Tryz.f73 (bodyOf Go.Proofs.Tryz.f73) Trmn.a73=true:=by kernel_rfl
set_option maxRecDepth 1000000 in
theorem ok111:chkF Go.Proofs.Tryz.prog [0,1,2,3] default Trmn.tab 111 Go.Proofs.Tryz.f111 (bodyOf Go.Proofs.Tryz.f111) Trmn.a111=true:=by kernel_rfl
set_option maxRecDepth 1000000 in
theorem ok115:chkF Go.Proofs.Tryz.prog [0,1,2,3] default Trmn.tab 115 Go.Proofs.Tryz.f115 (bodyOf Go.Proofs.Tryz.f115) Trmn.a115=true:=by kernel_rfl
set_option maxRecDepth 1000000 in
theorem ok119:chkF Go.Proofs.Tryz.prog [0,1,2,3] default Trmn.tab 119 Go.Proofs.Tryz.f119 (bodyOf Go.Proofs.Tryz.f119) Trmn.a119=true:=by kernel_rfl
set_option maxRecDepth 1000000 in
theorem ok162:chkF Go.Proofs.Tryz.prog [0,1,2,3] default Trmn.tab 162 Go.Proofs.Tryz.f162 (bodyOf Go.Proofs.Tryz.f162) Trmn.a162=true:=by kernel_rfl
set_option maxRecDepth 1000000 in
theorem ok166:chkF Go.Proofs.Tryz.prog [0,1,2,3] default Trmn.tab 166 Go.Proofs.Tryz.f166 (bodyOf Go.Proofs.Tryz.f166) Trmn.a166=true:=by kernel_rfl
set_option maxRecDepth 1000000 in
theorem ok170:chkF Go.Proofs.Tryz.prog [0,1,2,3] default Trmn.tab 170 Go.Proofs.Tryz.f170 (bodyOf Go.Proofs.Tryz.f170) Trmn.a170=true:=by kernel_rfl
set_option maxRecDepth 1000000 in
theorem ok174:chkF Go.Proofs.Tryz.prog [0,1,2,3] default Trmn.tab 174 Go.Proofs.Tryz.f174 (bodyOf Go.Proofs.Tryz.f174) Trmn.a174=true:=by kernel_rfl
set_option maxRecDepth 1000000 in
theorem ok203:chkF Go.Proofs.Tryz.prog [0,1,2,3] default Trmn.tab 203 Go.Proofs.Tryz.f203 (bodyOf Go.Proofs.Tryz.f203) Trmn.a203=true:=by kernel_rfl
set_option maxRecDepth 1000000 in
theorem ok207:chkF Go.Proofs.Tryz.prog [0,1,2,3] default Trmn.tab 207 Go.Proofs.Tryz.f207 (bodyOf Go.Proofs.Tryz.f207) Trmn.a207=true:=by kernel_rfl
set_option maxRecDepth 1000000 in
theorem ok211:chkF Go.Proofs.Tryz.prog [0,1,2,3] default Trmn.tab 211 Go.Proofs.Tryz.f211 (bodyOf Go.Proofs.Tryz.f211) Trmn.a211=true:=by kernel_rfl
set_option maxRecDepth 1000000 in
theorem ok215:chkF Go.Proofs.Tryz.prog [0,1,2,3] default Trmn.tab 215 Go.Proofs.Tryz.f215 (bodyOf Go.Proofs.Tryz.f215) Trmn.a215=true:=by kernel_rfl
set_option maxRecDepth 1000000 in
theorem ok227:chkF Go.Proofs.Tryz.prog [0,1,2,3] default Trmn.tab 227 Go.Proofs.Tryz.f227 (bodyOf Go.Proofs.Tryz.f227) Trmn.a227=true:=by kernel_rfl
set_option maxRecDepth 1000000 in
theorem ok233:chkF Go.Proofs.Tryz.prog [0,1,2,3] default Trmn.tab 233 Go.Proofs.Tryz.f233 (bodyOf Go.Proofs.Tryz.f233) Trmn.a233=true:=by kernel_rfl
set_option maxRecDepth 1000000 in
theorem ok237:chkF Go.Proofs.Tryz.prog [0,1,2,3] default Trmn.tab 237 Go.Proofs.Tryz.f237 (bodyOf Go.Proofs.Tryz.f237) Trmn.a237=true:=by kernel_rfl
set_option maxRecDepth 1000000 in
theorem ok241:chkF Go.Proofs.Tryz.prog [0,1,2,3] default Trmn.tab 241 Go.Proofs.Tryz.f241 (bodyOf Go.Proofs.Tryz.f241) Trmn.a241=true:=by kernel_rfl
set_option maxRecDepth 1000000 in
theorem ok245:chkF Go.Proofs.Tryz.prog [0,1,2,3] default Trmn.tab 245 Go.Proofs.Tryz.f245 (bodyOf Go.Proofs.Tryz.f245) Trmn.a245=true:=by kernel_rfl
set_option maxRecDepth 1000000 in
theorem ok249:chkF Go.Proofs.Tryz.prog [0,1,2,3] default Trmn.tab 249 Go.Proofs.Tryz.f249 (bodyOf Go.Proofs.Tryz.f249) Trmn.a249=true:=by kernel_rfl
set_option maxRecDepth 1000000 in
theorem ok253:chkF Go.Proofs.Tryz.prog [0,1,2,3] default Trmn.tab 253 Go.Proofs.Tryz.f253 (bodyOf Go.Proofs.Tryz.f253) Trmn.a253=true:=by kernel_rfl
set_option maxRecDepth 1000000 in
theorem ok266:chkF Go.Proofs.Tryz.prog [0,1,2,3] default Trmn.tab 266 Go.Proofs.Tryz.f266 (bodyOf Go.Proofs.Tryz.f266) Trmn.a266=true:=by kernel_rfl
set_option maxRecDepth 1000000 in
theorem ok270:chkF Go.Proofs.Tryz.prog [0,1,2,3] default Trmn.tab 270 Go.Proofs.Tryz.f270 (bodyOf Go.Proofs.Tryz.f270) Trmn.a270=true:=by kernel_rfl
set_option maxRecDepth 1000000 in
theorem ok278:chkF Go.Proofs.Tryz.prog [0,1,2,3] default Trmn.tab 278 Go.Proofs.Tryz.f278 (bodyOf Go.Proofs.Tryz.f278) Trmn.a278=true:=by kernel_rfl
set_option maxRecDepth 1000000 in
theorem ok287:chkF Go.Proofs.Tryz.prog [0,1,2,3] default Trmn.tab 287 Go.Proofs.Tryz.f287 (bodyOf Go.Proofs.Tryz.f287) Trmn.a287=true:=by kernel_rfl
set_option maxRecDepth 1000000 in
theorem ok291:chkF Go.Proofs.Tryz.prog [0,1,2,3] default Trmn.tab 291 Go.Proofs.Tryz.f291 (bodyOf Go.Proofs.Tryz.f291) Trmn.a291=true:=by kernel_rfl
set_option maxRecDepth 1000000 in
theorem ok295:chkF Go.Proofs.Tryz.prog [0,1,2,3] default Trmn.tab 295 Go.Proofs.Tryz.f295 (bodyOf Go.Proofs.Tryz.f295) Trmn.a295=true:=by kernel_rfl
set_option maxRecDepth 1000000 in
theorem ok315:chkF Go.Proofs.Tryz.prog [0,1,2,3] default Trmn.tab 315 Go.Proofs.Tryz.f315 (bodyOf Go.Proofs.Tryz.f315) Trmn.a315=true:=by kernel_rfl
set_option maxRecDepth 1000000 in
theorem ok319:chkF Go.Proofs.Tryz.prog [0,1,2,3] default Trmn.tab 319 Go.Proofs.Tryz.f319 (bodyOf Go.Proofs.Tryz.f319) Trmn.a319=true:=by kernel_rfl
set_option maxRecDepth 1000000 in
theorem ok326:chkF Go.Proofs.Tryz.prog [0,1,2,3] default Trmn.tab 326 Go.Proofs.Tryz.f326 (bodyOf Go.Proofs.Tryz.f326) Trmn.a326=true:=by kernel_rfl
set_option maxRecDepth 1000000 in
theorem ok330:chkF Go.Proofs.Tryz.prog [0,1,2,3] default Trmn.tab 330 Go.Proofs.Tryz.f330 (bodyOf Go.Proofs.Tryz.f330) Trmn.a330=true:=by kernel_rfl
set_option maxRecDepth 1000000 in
theorem ok334:chkF Go.Proofs.Tryz.prog [0,1,2,3] default Trmn.tab 334 Go.Proofs.Tryz.f334 (bodyOf Go.Proofs.Tryz.f334) Trmn.a334=true:=by kernel_rfl
set_option maxRecDepth 1000000 in
theorem ok338:chkF Go.Proofs.Tryz.prog [0,1,2,3] default Trmn.tab 338 Go.Proofs.Tryz.f338 (bodyOf Go.Proofs.Tryz.f338) Trmn.a338=true:=by kernel_rfl
theorem ok12140:chkY Go.Proofs.Tryz.prog [0,1,2,3] default Trmn.tab 12140 Trmn.a12140=true:=by kernel_rfl
theorem ok12780:chkY Go.Proofs.Tryz.prog [0,1,2,3] default Trmn.tab 12780 Trmn.a12780=true:=by kernel_rfl
set_option maxRecDepth 1000000 in
theorem ok9:chkF Go.Proofs.Tryz.prog [0,1,2,3] default Trmn.tab 9 Go.Proofs.Tryz.f9 (bodyOf Go.Proofs.Tryz.f9) Trmn.a9=true:=by kernel_rfl
set_option maxRecDepth 1000000 in
theorem ok17:chkF Go.Proofs.Tryz.prog [0,1,2,3] default Trmn.tab 17 Go.Proofs.Tryz.f17 (bodyOf Go.Proofs.Tryz.f17) Trmn.a17=true:=by kernel_rfl
set_option maxRecDepth 1000000 in
theorem ok28:chkF Go.Proofs.Tryz.prog [0,1,2,3] default Trmn.tab 28 Go.Proofs.Tryz.f28 (bodyOf Go.Proofs.Tryz.f28) Trmn.a28=true:=by kernel_rfl
set_option maxRecDepth 1000000 in
theorem ok32:chkF Go.Proofs.Tryz.prog [0,1,2,3] default Trmn.tab 32 Go.Proofs.Tryz.f32 (bodyOf Go.Proofs.Tryz.f32) Trmn.a32=true:=by kernel_rfl
set_option maxRecDepth 1000000 in
theorem ok36:chkF Go.Proofs.Tryz.prog [0,1,2,3] default Trmn.tab 36 Go.Proofs.Tryz.f36 (bodyOf Go.Proofs.Tryz.f36) Trmn.a36=true:=by kernel_rfl
set_option maxRecDepth 1000000 in
theorem ok40:chkF Go.Proofs.Tryz.prog [0,1,2,3] default Trmn.tab 40 Go.Proofs.Tryz.f40 (bodyOf Go.Proofs.Tryz.f40) Trmn.a40=true:=by kernel_rfl
set_option maxRecDepth 1000000 in
theorem ok66:chkF Go.Proofs.Tryz.prog [0,1,2,3] default Trmn.tab 66 Go.Proofs.Tryz.f66 (bodyOf Go.Proofs.Tryz.f66) Trmn.a66=true:=by kernel_rfl
set_option maxRecDepth 1000000 in
theorem ok70:chkF Go.Proofs.Tryz.prog [0,1,2,3] default Trmn.tab 70 Go.Proofs.Tryz.f70 (bodyOf Go.Proofs.Tryz.f70) Trmn.a70=true:=by kernel_rfl
set_option maxRecDepth 1000000 in
theorem ok112:chkF Go.Proofs.Tryz.prog [0,1,2,3] default Trmn.tab 112 Go.Proofs.Tryz.f112 (bodyOf Go.Proofs.Tryz.f112) Trmn.a112=true:=by kernel_rfl
set_option maxRecDepth 1000000 in
theorem ok116:chkF Go.Proofs.Tryz.prog [0,1,2,3] default Trmn.tab 116 Go.Proofs.Tryz.f116 (bodyOf Go.Proofs.Tryz.f116) Trmn.a116=true:=by kernel_rfl
set_option maxRecDepth 1000000 in
theorem ok120:chkF Go.Proofs.Tryz.prog [0,1,2,3] default Trmn.tab 120 Go.Proofs.Tryz.f120 (bodyOf Go.Proofs.Tryz.f120) Trmn.a120=true:=by kernel_rfl
set_option maxRecDepth 1000000 in
theorem ok163:chkF Go.Proofs.Tryz.prog [0,1,2,3] default Trmn.tab 163 Go.Proofs.Tryz.f163 (bodyOf Go.Proofs.Tryz.f163) Trmn.a163=true:=by kernel_rfl
set_option maxRecDepth 1000000 in
theorem ok167:chkF Go.Proofs.Tryz.prog [0,1,2,3] default Trmn.tab 167 Go.Proofs.Tryz.f167 (bodyOf Go.Proofs.Tryz.f167) Trmn.a167=true:=by kernel_rfl
set_option maxRecDepth 1000000 in
theorem ok171:chkF Go.Proofs.Tryz.prog [0,1,2,3] default Trmn.tab 171 Go.Proofs.Tryz.f171 (bodyOf Go.Proofs.Tryz.f171) Trmn.a171=true:=by kernel_rfl
set_option maxRecDepth 1000000 in
theorem ok175:chkF Go.Proofs.Tryz.prog [0,1,2,3] default Trmn.tab 175 Go.Proofs.Tryz.f175 (bodyOf Go.Proofs.Tryz.f175) Trmn.a175=true:=by kernel_rfl
set_option maxRecDepth 1000000 in
theorem ok200:chkF Go.Proofs.Tryz.prog [0,1,2,3] default Trmn.tab 200 Go.Proofs.Tryz.f200 (bodyOf Go.Proofs.Tryz.f200) Trmn.a200=true:=by kernel_rfl
set_option maxRecDepth 1000000 in
theorem ok204:chkF Go.Proofs.Tryz.prog [0,1,2,3] default Trmn.tab 204 Go.Proofs.Tryz.f204 (bodyOf Go.Proofs.Tryz.f204) Trmn.a204=true:=by kernel_rfl
set_option maxRecDepth 1000000 in
theorem ok208:chkF Go.Proofs.Tryz.prog [0,1,2,3] default Trmn.tab 208 Go.Proofs.Tryz.f208 (bodyOf Go.Proofs.Tryz.f208) Trmn.a208=true:=by kernel_rfl
set_option maxRecDepth 1000000 in
theorem ok212:chkF Go.Proofs.Tryz.prog [0,1,2,3] default Trmn.tab 212 Go.Proofs.Tryz.f212 (bodyOf Go.Proofs.Tryz.f212) Trmn.a212=true:=by kernel_rfl
set_option maxRecDepth 1000000 in
theorem ok216:chkF Go.Proofs.Tryz.prog [0,1,2,3] default Trmn.tab 216 Go.Proofs.Tryz.f216 (bodyOf Go.Proofs.Tryz.f216) Trmn.a216=true:=by kernel_rfl
set_option maxRecDepth 1000000 in
theorem ok224:chkF Go.Proofs.Tryz.prog [0,1,2,3] default Trmn.tab 224 Go.Proofs.Tryz.f224 (bodyOf Go.Proofs.Tryz.f224) Trmn.a224=true:=by kernel_rfl
set_option maxRecDepth 1000000 in
theorem ok228:chkF Go.Proofs.Tryz.prog [0,1,2,3] default Trmn.tab 228 Go.Proofs.Tryz.f228 (bodyOf Go.Proofs.Tryz.f228) Trmn.a228=true:=by kernel_rfl
set_option maxRecDepth 1000000 in
theorem ok234:chkF Go.Proofs.Tryz.prog [0,1,2,3] default Trmn.tab 234 Go.Proofs.Tryz.f234 (bodyOf Go.Proofs.Tryz.f234) Trmn.a234=true:=by kernel_rfl
set_option maxRecDepth 1000000 in
theorem ok238:chkF Go.Proofs.Tryz.prog [0,1,2,3] default Trmn.tab 238 Go.Proofs.Tryz.f238 (bodyOf Go.Proofs.Tryz.f238) Trmn.a238=true:=by kernel_rfl
set_option maxRecDepth 1000000 in
theorem ok242:chkF Go.Proofs.Tryz.prog [0,1,2,3] default Trmn.tab 242 Go.Proofs.Tryz.f242 (bodyOf Go.Proofs.Tryz.f242) Trmn.a242=true:=by kernel_rfl
set_option maxRecDepth 1000000 in
theorem ok246:chkF Go.Proofs.Tryz.prog [0,1,2,3] default Trmn.tab 246 Go.Proofs.Tryz.f246 (bodyOf Go.Proofs.Tryz.f246) Trmn.a246=true:=by kernel_rfl
set_option maxRecDepth 1000000 in
theorem ok250:chkF Go.Proofs.Tryz.prog [0,1,2,3] default Trmn.tab 250 Go.Proofs.Tryz.f250 (bodyOf Go.Proofs.Tryz.f250) Trmn.a250=true:=by kernel_rfl
set_option maxRecDepth 1000000 in
theorem ok254:chkF Go.Proofs.Tryz.prog [0,1,2,3] default Trmn.tab 254 Go.Proofs.Tryz.f254 (bodyOf Go.Proofs.Tryz.f254) Trmn.a254=true:=by kernel_rfl
set_option maxRecDepth 1000000 in
theorem ok267:chkF Go.Proofs.Tryz.prog [0,1,2,3] default Trmn.tab 267 Go.Proofs.Tryz.f267 (bodyOf Go.Proofs.Tryz.f267) Trmn.a267=true:=by kernel_rfl
set_option maxRecDepth 1000000 in
theorem ok271:chkF Go.Proofs.Tryz.prog [0,1,2,3] default Trmn.tab 271 Go.Proofs.Tryz.f271 (bodyOf Go.Proofs.Tryz.f271) Trmn.a271=true:=by kernel_rfl
set_option maxRecDepth 1000000 in
theorem ok279:chkF Go.Proofs.Tryz.prog [0,1,2,3] default Trmn.tab 279 Go.Proofs.Tryz.f279 (bodyOf Go.Proofs.Tryz.f279) Trmn.a279=true:=by kernel_rfl
set_option maxRecDepth 1000000 in
theorem ok288:chkF Go.Proofs.Tryz.prog [0,1,2,3] default Trmn.tab 288 Go.Proofs.Tryz.f288 (bodyOf Go.Proofs.Tryz.f288) Trmn.a288=true:=by kernel_rfl
set_option maxRecDepth 1000000 in
theorem ok292:chkF Go.Proofs.Tryz.prog [0,1,2,3] default Trmn.tab 292 Go.Proofs.Tryz.f292 (bodyOf Go.Proofs.Tryz.f292) Trmn.a292=true:=by kernel_rfl
set_option maxRecDepth 1000000 in
theorem ok297:chkF Go.Proofs.Tryz.prog [0,1,2,3] default Trmn.tab 297 Go.Proofs.Tryz.f297 (bodyOf Go.Proofs.Tryz.f297) Trmn.a297=true:=by kernel_rfl
set_option maxRecDepth 1000000 in
theorem ok316:chkF Go.Proofs.Tryz.prog [0,1,2,3] default Trmn.tab 316 Go.Proofs.Tryz.f316 (bodyOf Go.Proofs.Tryz.f316) Trmn.a316=true:=by kernel_rfl
set_option maxRecDepth 1000000 in
theorem ok320:chkF Go.Proofs.Tryz.prog [0,1,2,3] default Trmn.tab 320 Go.Proofs.Tryz.f320 (bodyOf Go.Proofs.Tryz.f320) Trmn.a320=true:=by kernel_rfl
set_option maxRecDepth 1000000 in
theorem ok327:chkF Go.Proofs.Tryz.prog [0,1,2,3] default Trmn.tab 327 Go.Proofs.Tryz.f327 (bodyOf Go.Proofs.Tryz.f327) Trmn.a327=true:=by kernel_rfl
set_option maxRecDepth 1000000 in
theorem ok331:chkF Go.Proofs.Tryz.prog [0,1,2,3] default Trmn.tab 331 Go.Proofs.Tryz.f331 (bodyOf Go.Proofs.Tryz.f331) Trmn.a331=true:=by kernel_rfl
set_option maxRecDepth 1000000 in
theorem ok335:chkF Go.Proofs.Tryz.prog [0,1,2,3] default Trmn.tab 335 Go.Proofs.Tryz.f335 (bodyOf Go.Proofs.Tryz.f335) Trmn.a335=true:=by kernel_rfl
set_option maxRecDepth 1000000 in
theorem ok339:chkF Go.Proofs.Tryz.prog [0,1,2,3] default Trmn.tab 339 Go.Proofs.Tryz.f339 (bodyOf Go.Proofs.Tryz.f339) Trmn.a339=true:=by kernel_rfl
set_option maxRecDepth 1000000 in
theorem ok6:chkF Go.Proofs.Tryz.prog [0,1,2,3] default Trmn.tab 6 Go.Proofs.Tryz.f6 (bodyOf Go.Proofs.Tryz.f6) Trmn.a6=true:=by kernel_rfl
set_option maxRecDepth 1000000 in
theorem ok10:chkF Go.Proofs.Tryz.prog [0,1,2,3] default Trmn.tab 10 Go.Proofs.Tryz.f10 (bodyOf Go.Proofs.Tryz.f10) Trmn.a10=true:=by kernel_rfl
set_option maxRecDepth 1000000 in
theorem ok14:chkF Go.Proofs.Tryz.prog [0,1,2,3] default Trmn.tab 14 Go.Proofs.Tryz.f14 (bodyOf Go.Proofs.Tryz.f14) Trmn.a14=true:=by kernel_rfl
set_option maxRecDepth 1000000 in
theorem ok18:chkF Go.Proofs.Tryz.prog [0,1,2,3] default Trmn.tab 18 Go.Proofs.Tryz.f18 (bodyOf Go.Proofs.Tryz.f18) Trmn.a18=true:=by kernel_rfl
set_option maxRecDepth 1000000 in
theorem ok25:chkF Go.Proofs.Tryz.prog [0,1,2,3] default Trmn.tab 25 Go.Proofs.Tryz.f25 (bodyOf Go.Proofs.Tryz.f25) Trmn.a25=true:=by kernel_rfl
set_option maxRecDepth 1000000 in
theorem ok29:chkF Go.Proofs.Tryz.prog [0,1,2,3] default Trmn.tab 29 Go.Proofs.Tryz.f29 (bodyOf Go.Proofs.Tryz.f29) Trmn.a29=true:=by kernel_rfl
set_option maxRecDepth 1000000 in
theorem ok33:chkF Go.Proofs.Tryz.prog [0,1,2,3] default Trmn.tab 33 Go.Proofs.Tryz.f33 (bodyOf Go.Proofs.Tryz.f33) Trmn.a33=true:=by kernel_rfl
set_option maxRecDepth 1000000 in
theorem ok37:chkF Go.Proofs.Tryz.prog [0,1,2,3] default Trmn.tab 37 Go.Proofs.Tryz.f37 (bodyOf Go.Proofs.Tryz.f37) Trmn.a37=true:=by kernel_rfl
set_option maxRecDepth 1000000 in
theorem ok41:chkF Go.Proofs.Tryz.prog [0,1,2,3] default Trmn.tab 41 Go.Proofs.Tryz.f41 (bodyOf Go.Proofs.Tryz.f41) Trmn.a41=true:=by kernel_rfl
set_option maxRecDepth 1000000 in
theorem ok45:chkF Go.Proofs.Tryz.prog [0,1,2,3] default Trmn.tab 45 Go.Proofs.Tryz.f45 (bodyOf Go.Proofs.Tryz.f45) Trmn.a45=true:=by kernel_rfl
set_option maxRecDepth 1000000 in
theorem ok67:chkF Go.Proofs.Tryz.prog [0,1,2,3] default Trmn.tab 67 Go.Proofs.Tryz.f67 (bodyOf Go.Proofs.Tryz.f67) Trmn.a67=true:=by kernel_rfl
set_option maxRecDepth 1000000 in
theorem ok71:chkF Go.Proofs.Tryz.prog [0,1,2,3] default Trmn.tab 71 Go.Proofs.Tryz.f71 (bodyOf Go.Proofs.Tryz.f71) Trmn.a71=true:=by kernel_rfl
set_option maxRecDepth 1000000 in
theorem ok113:chkF Go.Proofs.Tryz.prog [0,1,2,3] default Trmn.tab 113 Go.Proofs.Tryz.f113 (bodyOf Go.Proofs.Tryz.f113) Trmn.a113=true:=by kernel_rfl
set_option maxRecDepth 1000000 in
theorem ok117:chkF Go.Proofs.Tryz.prog [0,1,2,3] default Trmn.tab 117 Go.Proofs.Tryz.f117 (bodyOf Go.Proofs.Tryz.f117) Trmn.a117=true:=by kernel_rfl
set_option maxRecDepth 1000000 in
theorem ok121:chkF Go.Proofs.Tryz.prog [0,1,2,3] default Trmn.tab 121 Go.Proofs.Tryz.f121 (bodyOf Go.Proofs.Tryz.f121) Trmn.a121=true:=by kernel_rfl
set_option maxRecDepth 1000000 in
theorem ok164:chkF Go.Proofs.Tryz.prog [0,1,2,3] default Trmn.tab 164 Go.Proofs.Tryz.f164 (bodyOf Go.Proofs.Tryz.f164) Trmn.a164=true:=by kernel_rfl
set_option maxRecDepth 1000000 in
theorem ok168:chkF Go.Proofs.Tryz.prog [0,1,2,3] default Trmn.tab 168 Go.Proofs.Tryz.f168 (bodyOf Go.Proofs.Tryz.f168) Trmn.a168=true:=by kernel_rfl
set_option maxRecDepth 1000000 in
theorem ok172:chkF Go.Proofs.Tryz.prog [0,1,2,3] default Trmn.tab 172 Go.Proofs.Tryz.f172 (bodyOf Go.Proofs.Tryz.f172) Trmn.a172=true:=by kernel_rfl
set_option maxRecDepth 1000000 in
theorem ok176:chkF Go.Proofs.Tryz.prog [0,1,2,3] default Trmn.tab 176 Go.Proofs.Tryz.f176 (bodyOf Go.Proofs.Tryz.f176) Trmn.a176=true:=by kernel_rfl
set_option maxRecDepth 1000000 in
theorem ok201:chkF Go.Proofs.Tryz.prog [0,1,2,3] default Trmn.tab 201 Go.Proofs.Tryz.f201 (bodyOf Go.Proofs.Tryz.f201) Trmn.a201=true:=by kernel_rfl
set_option maxRecDepth 1000000 in
theorem ok205:chkF Go.Proofs.Tryz.prog [0,1,2,3] default Trmn.tab 205 Go.Proofs.Tryz.f205 (bodyOf Go.Proofs.Tryz.f205) Trmn.a205=true:=by kernel_rfl
set_option maxRecDepth 1000000 in
theorem ok209:chkF Go.Proofs.Tryz.prog [0,1,2,3] default Trmn.tab 209 Go.Proofs.Tryz.f209 (bodyOf Go.Proofs.Tryz.f209) Trmn.a209=true:=by kernel_rfl
set_option maxRecDepth 1000000 in
theorem ok213:chkF Go.Proofs.Tryz.prog [0,1,2,3] default Trmn.tab 213 Go.Proofs.Tryz.f213 (bodyOf Go.Proofs.Tryz.f213) Trmn.a213=true:=by kernel_rfl
set_option maxRecDepth 1000000 in
theorem ok225:chkF Go.Proofs.Tryz.prog [0,1,2,3] default Trmn.tab 225 Go.Proofs.Tryz.f225 (bodyOf Go.Proofs.Tryz.f225) Trmn.a225=true:=by kernel_rfl
set_option maxRecDepth 1000000 in
theorem ok231:chkF Go.Proofs.Tryz.prog [0,1,2,3] default Trmn.tab 231 Go.Proofs.Tryz.f231 (bodyOf Go.Proofs.Tryz.f231) Trmn.a231=true:=by kernel_rfl
set_option maxRecDepth 1000000 in
theorem ok235:chkF Go.Proofs.Tryz.prog [0,1,2,3] default Trmn.tab 235 Go.Proofs.Tryz.f235 (bodyOf Go.Proofs.Tryz.f235) Trmn.a235=true:=by kernel_rfl
set_option maxRecDepth 1000000 in
theorem ok239:chkF Go.Proofs.Tryz.prog [0,1,2,3] default Trmn.tab 239 Go.Proofs.Tryz.f239 (bodyOf Go.Proofs.Tryz.f239) Trmn.a239=true:=by kernel_rfl
set_option maxRecDepth 1000000 in
theorem ok243:chkF Go.Proofs.Tryz.prog [0,1,2,3] default Trmn.tab 243 Go.Proofs.Tryz.f243 (bodyOf Go.Proofs.Tryz.f243) Trmn.a243=true:=by kernel_rfl
set_option maxRecDepth 1000000 in
theorem ok247:chkF Go.Proofs.Tryz.prog [0,1,2,3] default Trmn.tab 247 Go.Proofs.Tryz.f247 (bodyOf Go.Proofs.Tryz.f247) Trmn.a247=true:=by kernel_rfl
set_option maxRecDepth 1000000 in
theorem ok251:chkF Go.Proofs.Tryz.prog [0,1,2,3] default Trmn.tab 251 Go.Proofs.Tryz.f251 (bodyOf Go.Proofs.Tryz.f251) Trmn.a251=true:=by kernel_rfl
set_option maxRecDepth 1000000 in
theorem ok255:chkF Go.Proofs.Tryz.prog [0,1,2,3] default Trmn.tab 255 Go.Proofs.Tryz.f255 (bodyOf Go.Proofs.Tryz.f255) Trmn.a255=true:=by kernel_rfl
set_option maxRecDepth 1000000 in
theorem ok268:chkF Go.Proofs.Tryz.prog [0,1,2,3] default Trmn.tab 268 Go.Proofs.Tryz.f268 (bodyOf Go.Proofs.Tryz.f268) Trmn.a268=true:=by kernel_rfl
set_option maxRecDepth 1000000 in
theorem ok276:chkF Go.Proofs.Tryz.prog [0,1,2,3] default Trmn.tab 276 Go.Proofs.Tryz.f276 (bodyOf Go.Proofs.Tryz.f276) Trmn.a276=true:=by kernel_rfl
set_option maxRecDepth 1000000 in
theorem ok289:chkF Go.Proofs.Tryz.prog [0,1,2,3] default Trmn.tab 289 Go.Proofs.Tryz.f289 (bodyOf Go.Proofs.Tryz.f289) Trmn.a289=true:=by kernel_rfl
set_option maxRecDepth 1000000 in
theorem ok293:chkF Go.Proofs.Tryz.prog [0,1,2,3] default Trmn.tab 293 Go.Proofs.Tryz.f293 (bodyOf Go.Proofs.Tryz.f293) Trmn.a293=true:=by kernel_rfl
set_option maxRecDepth 1000000 in
theorem ok313:chkF Go.Proofs.Tryz.prog [0,1,2,3] default Trmn.tab 313 Go.Proofs.Tryz.f313 (bodyOf Go.Proofs.Tryz.f313) Trmn.a313=true:=by kernel_rfl
set_option maxRecDepth 1000000 in
theorem ok317:chkF Go.Proofs.Tryz.prog [0,1,2,3] default Trmn.tab 317 Go.Proofs.Tryz.f317 (bodyOf Go.Proofs.Tryz.f317) Trmn.a317=true:=by kernel_rfl
set_option maxRecDepth 1000000 in
theorem ok321:chkF Go.Proofs.Tryz.prog [0,1,2,3] default Trmn.tab 321 Go.Proofs.Tryz.f321 (bodyOf Go.Proofs.Tryz.f321) Trmn.a321=true:=by kernel_rfl
set_option maxRecDepth 1000000 in
theorem ok328:chkF Go.Proofs.Tryz.prog [0,1,2,3] default Trmn.tab 328 Go.Proofs.Tryz.f328 (bodyOf Go.Proofs.Tryz.f328) Trmn.a328=true:=by kernel_rfl
set_option maxRecDepth 1000000 in
theorem ok332:chkF Go.Proofs.Tryz.prog [0,1,2,3] default Trmn.tab 332 Go.Proofs.Tryz.f332 (bodyOf Go.Proofs.Tryz.f332) Trmn.a332=true:=by kernel_rfl
set_option maxRecDepth 1000000 in
theorem ok336:chkF Go.Proofs.Tryz.prog [0,1,2,3] default Trmn.tab 336 Go.Proofs.Tryz.f336 (bodyOf Go.Proofs.Tryz.f336) Trmn.a336=true:=by kernel_rfl
set_option maxRecDepth 1000000 in
theorem ok7:chkF Go.Proofs.Tryz.prog [0,1,2,3] default Trmn.tab 7 Go.Proofs.Tryz.f7 (bodyOf Go.Proofs.Tryz.f7) Trmn.a7=true:=by kernel_rfl
set_option maxRecDepth 1000000 in
theorem ok26:chkF Go.Proofs.Tryz.prog [0,1,2,3] default Trmn.tab 26 Go.Proofs.Tryz.f26 (bodyOf Go.Proofs.Tryz.f26) Trmn.a26=true:=by kernel_rfl
set_option maxRecDepth 1000000 in
theorem ok30:chkF Go.Proofs.Tryz.prog [0,1,2,3] default Trmn.tab 30 Go.Proofs.Tryz.f30 (bodyOf Go.Proofs.Tryz.f30) Trmn.a30=true:=by kernel_rfl
set_option maxRecDepth 1000000 in
theorem ok34:chkF Go.Proofs.Tryz.prog [0,1,2,3] default Trmn.tab 34 Go.Proofs.Tryz.f34 (bodyOf Go.Proofs.Tryz.f34) Trmn.a34=true:=by kernel_rfl
set_option maxRecDepth 1000000 in
theorem ok38:chkF Go.Proofs.Tryz.prog [0,1,2,3] default Trmn.tab 38 Go.Proofs.Tryz.f38 (bodyOf Go.Proofs.Tryz.f38) Trmn.a38=true:=by kernel_rfl
set_option maxRecDepth 1000000 in
theorem ok72:chkF Go.Proofs.Tryz.prog [0,1,2,3] default Trmn.tab 72 Go.Proofs.Tryz.f72 (bodyOf Go.Proofs.Tryz.f72) Trmn.a72=true:=by kernel_rfl
set_option maxRecDepth 1000000 in
theorem ok114:chkF Go.Proofs.Tryz.prog [0,1,2,3] default Trmn.tab 114 Go.Proofs.Tryz.f114 (bodyOf Go.Proofs.Tryz.f114) Trmn.a114=true:=by kernel_rfl
set_option maxRecDepth 1000000 in
theorem ok118:chkF Go.Proofs.Tryz.prog [0,1,2,3] default Trmn.tab 118 Go.Proofs.Tryz.f118 (bodyOf Go.Proofs.Tryz.f118) Trmn.a118=true:=by kernel_rfl
set_option maxRecDepth 1000000 in
theorem ok122:chkF Go.Proofs.Tryz.prog [0,1,2,3] default Trmn.tab 122 Go.Proofs.Tryz.f122 (bodyOf Go.Proofs.Tryz.f122) Trmn.a122=true:=by kernel_rfl
set_option maxRecDepth 1000000 in
theorem ok165:chkF Go.Proofs.Tryz.prog [0,1,2,3] default Trmn.tab 165 Go.Proofs.Tryz.f165 (bodyOf Go.Proofs.Tryz.f165) Trmn.a165=true:=by kernel_rfl
set_option maxRecDepth 1000000 in
theorem ok169:chkF Go.Proofs.Tryz.prog [0,1,2,3] default Trmn.tab 169 Go.Proofs.Tryz.f169 (bodyOf Go.Proofs.Tryz.f169) Trmn.a169=true:=by kernel_rfl
set_option maxRecDepth 1000000 in
theorem ok173:chkF Go.Proofs.Tryz.prog [0,1,2,3] default Trmn.tab 173 Go.Proofs.Tryz.f173 (bodyOf Go.Proofs.Tryz.f173) Trmn.a173=true:=by kernel_rfl
set_option maxRecDepth 1000000 in
theorem ok202:chkF Go.Proofs.Tryz.prog [0,1,2,3] default Trmn.tab 202 Go.Proofs.Tryz.f202 (bodyOf Go.Proofs.Tryz.f202) Trmn.a202=true:=by kernel_rfl
set_option maxRecDepth 1000000 in
theorem ok206:chkF Go.Proofs.Tryz.prog [0,1,2,3] default Trmn.tab 206 Go.Proofs.Tryz.f206 (bodyOf Go.Proofs.Tryz.f206) Trmn.a206=true:=by kernel_rfl
set_option maxRecDepth 1000000 in
theorem ok210:chkF Go.Proofs.Tryz.prog [0,1,2,3] default Trmn.tab 210 Go.Proofs.Tryz.f210 (bodyOf Go.Proofs.Tryz.f210) Trmn.a210=true:=by kernel_rfl
set_option maxRecDepth 1000000 in
theorem ok214:chkF Go.Proofs.Tryz.prog [0,1,2,3] default Trmn.tab 214 Go.Proofs.Tryz.f214 (bodyOf Go.Proofs.Tryz.f214) Trmn.a214=true:=by kernel_rfl
set_option maxRecDepth 1000000 in
theorem ok226:chkF Go.Proofs.Tryz.prog [0,1,2,3] default Trmn.tab 226 Go.Proofs.Tryz.f226 (bodyOf Go.Proofs.Tryz.f226) Trmn.a226=true:=by kernel_rfl
set_option maxRecDepth 1000000 in
theorem ok232:chkF Go.Proofs.Tryz.prog [0,1,2,3] default Trmn.tab 232 Go.Proofs.Tryz.f232 (bodyOf Go.Proofs.Tryz.f232) Trmn.a232=true:=by kernel_rfl
set_option maxRecDepth 1000000 in
theorem ok236:chkF Go.Proofs.Tryz.prog [0,1,2,3] default Trmn.tab 236 Go.Proofs.Tryz.f236 (bodyOf Go.Proofs.Tryz.f236) Trmn.a236=true:=by kernel_rfl
set_option maxRecDepth 1000000 in
theorem ok240:chkF Go.Proofs.Tryz.prog [0,1,2,3] default Trmn.tab 240 Go.Proofs.Tryz.f240 (bodyOf Go.Proofs.Tryz.f240) Trmn.a240=true:=by kernel_rfl
set_option maxRecDepth 1000000 in
theorem ok244:chkF Go.Proofs.Tryz.prog [0,1,2,3] default Trmn.tab 244 Go.Proofs.Tryz.f244 (bodyOf Go.Proofs.Tryz.f244) Trmn.a244=true:=by kernel_rfl
set_option maxRecDepth 1000000 in
theorem ok248:chkF Go.Proofs.Tryz.prog [0,1,2,3] default Trmn.tab 248 Go.Proofs.Tryz.f248 (bodyOf Go.Proofs.Tryz.f248) Trmn.a248=true:=by kernel_rfl
set_option maxRecDepth 1000000 in
theorem ok252:chkF Go.Proofs.Tryz.prog [0,1,2,3] default Trmn.tab 252 Go.Proofs.Tryz.f252 (bodyOf Go.Proofs.Tryz.f252) Trmn.a252=true:=by kernel_rfl
set_option maxRecDepth 1000000 in
theorem ok260:chkF Go.Proofs.Tryz.prog [0,1,2,3] default Trmn.tab 260 Go.Proofs.Tryz.f260 (bodyOf Go.Proofs.Tryz.f260) Trmn.a260=true:=by kernel_rfl
set_option maxRecDepth 1000000 in
theorem ok269:chkF Go.Proofs.Tryz.prog [0,1,2,3] default Trmn.tab 269 Go.Proofs.Tryz.f269 (bodyOf Go.Proofs.Tryz.f269) Trmn.a269=true:=by kernel_rfl
set_option maxRecDepth 1000000 in
theorem ok277:chkF Go.Proofs.Tryz.prog [0,1,2,3] default Trmn.tab 277 Go.Proofs.Tryz.f277 (bodyOf Go.Proofs.Tryz.f277) Trmn.a277=true:=by kernel_rfl
set_option maxRecDepth 1000000 in
theorem ok286:chkF Go.Proofs.Tryz.prog [0,1,2,3] default Trmn.tab 286 Go.Proofs.Tryz.f286 (bodyOf Go.Proofs.Tryz.f286) Trmn.a286=true:=by kernel_rfl
set_option maxRecDepth 1000000 in
theorem ok294:chkF Go.Proofs.Tryz.prog [0,1,2,3] default Trmn.tab 294 Go.Proofs.Tryz.f294 (bodyOf Go.Proofs.Tryz.f294) Trmn.a294=true:=by kernel_rfl
set_option maxRecDepth 1000000 in
theorem ok314:chkF Go.Proofs.Tryz.prog [0,1,2,3] default Trmn.tab 314 Go.Proofs.Tryz.f314 (bodyOf Go.Proofs.Tryz.f314) Trmn.a314=true:=by kernel_rfl
set_option maxRecDepth 1000000 in
theorem ok318:chkF Go.Proofs.Tryz.prog [0,1,2,3] default Trmn.tab 318 Go.Proofs.Tryz.f318 (bodyOf Go.Proofs.Tryz.f318) Trmn.a318=true:=by kernel_rfl
set_option maxRecDepth 1000000 in
theorem ok322:chkF Go.Proofs.Tryz.prog [0,1,2,3] default Trmn.tab 322 Go.Proofs.Tryz.f322 (bodyOf Go.Proofs.Tryz.f322) Trmn.a322=true:=by kernel_rfl
set_option maxRecDepth 1000000 in
theorem ok329:chkF Go.Proofs.Tryz.prog [0,1,2,3] default Trmn.tab 329 Go.Proofs.Tryz.f329 (bodyOf Go.Proofs.Tryz.f329) Trmn.a329=true:=by kernel_rfl
set_option maxRecDepth 1000000 in
theorem ok333:chkF Go.Proofs.Tryz.prog [0,1,2,3] default Trmn.tab 333 Go.Proofs.Tryz.f333 (bodyOf Go.Proofs.Tryz.f333) Trmn.a333=true:=by kernel_rfl
set_option maxRecDepth 1000000 in
theorem ok337:chkF Go.Proofs.Tryz.prog [0,1,2,3] default Trmn.tab 337 Go.Proofs.Tryz.f337 (bodyOf Go.Proofs.Tryz.f337) Trmn.a337=true:=by kernel_rfl
theorem fn_ok {f:Nat} {fn:Func} {af:AFunc} (h0:Go.Proofs.Tryz.prog.funcs[f]?=some fn) (h1:fn.body.isSome=true) (h2:chkF Go.Proofs.Tryz.prog [0,1,2,3] default Trmn.tab f fn (bodyOf fn) af=true) (h3:af.ins.isEmpty=true) :
  if af.ins.isEmpty then ∃ fn code,Go.Proofs.Tryz.prog.funcs[f]?=some fn∧fn.body=some code∧chkF Go.Proofs.Tryz.prog [0,1,2,3] default Trmn.tab f fn code af=true else chkY Go.Proofs.Tryz.prog [0,1,2,3] default Trmn.tab f af=true:=by
 rw [if_pos h3]
 obtain ⟨c,hc⟩:=Option.isSome_iff_exists.1 h1
 refine ⟨fn,c,h0,hc,?_⟩
 simpa [bodyOf,hc] using h2
theorem rnd_ok {f:Nat} {af:AFunc} (h2:chkY Go.Proofs.Tryz.prog [0,1,2,3] default Trmn.tab f af=true) (h3:af.ins.isEmpty=false) :
  if af.ins.isEmpty then ∃ fn code,Go.Proofs.Tryz.prog.funcs[f]?=some fn∧fn.body=some code∧chkF Go.Proofs.Tryz.prog [0,1,2,3] default Trmn.tab f fn code af=true else chkY Go.Proofs.Tryz.prog [0,1,2,3] default Trmn.tab f af=true:=by
 rw [if_neg (by simp [h3])]
 exact h2
set_option maxRecDepth 100000 in
theorem prog_ok0 {f:Nat} {af:AFunc} (h:Trmn.aprog0 f=some af):if af.ins.isEmpty then ∃ fn code,Go.Proofs.Tryz.prog.funcs[f]?=some fn∧fn.body=some code∧chkF Go.Proofs.Tryz.prog [0,1,2,3] default Trmn.tab f fn code af=true else chkY Go.Proofs.Tryz.prog [0,1,2,3] default Trmn.tab f af=true:=by
 unfold Trmn.aprog0 at h
 split at h
 ·cases h; exact fn_ok Go.Proofs.Tryz.func6 (by kernel_rfl) ok6 rfl
 ·cases h; exact fn_ok Go.Proofs.Tryz.func7 (by kernel_rfl) ok7 rfl
 ·cases h; exact fn_ok Go.Proofs.Tryz.func9 (by kernel_rfl) ok9 rfl
 ·cases h; exact fn_ok Go.Proofs.Tryz.func10 (by kernel_rfl) ok10 rfl
 ·cases h; exact fn_ok Go.Proofs.Tryz.func12 (by kernel_rfl) ok12 rfl
 ·cases h; exact fn_ok Go.Proofs.Tryz.func14 (by kernel_rfl) ok14 rfl
 ·cases h; exact fn_ok Go.Proofs.Tryz.func16 (by kernel_rfl) ok16 rfl
 ·cases h; exact fn_ok Go.Proofs.Tryz.func17 (by kernel_rfl) ok17 rfl
 ·cases h; exact fn_ok Go.Proofs.Tryz.func18 (by kernel_rfl) ok18 rfl
 ·cases h; exact fn_ok Go.Proofs.Tryz.func20 (by kernel_rfl) ok20 rfl
 ·cases h; exact fn_ok Go.Proofs.Tryz.func25 (by kernel_rfl) ok25 rfl
 ·cases h; exact fn_ok Go.Proofs.Tryz.func26 (by kernel_rfl) ok26 rfl
 ·cases h; exact fn_ok Go.Proofs.Tryz.func27 (by kernel_rfl) ok27 rfl
 ·cases h; exact fn_ok Go.Proofs.Tryz.func28 (by kernel_rfl) ok28 rfl
 ·cases h; exact fn_ok Go.Proofs.Tryz.func29 (by kernel_rfl) ok29 rfl
 ·cases h; exact fn_ok Go.Proofs.Tryz.func30 (by kernel_rfl) ok30 rfl
 ·cases h; exact fn_ok Go.Proofs.Tryz.func31 (by kernel_rfl) ok31 rfl
 ·cases h; exact fn_ok Go.Proofs.Tryz.func32 (by kernel_rfl) ok32 rfl
 ·cases h; exact fn_ok Go.Proofs.Tryz.func33 (by kernel_rfl) ok33 rfl
 ·cases h; exact fn_ok Go.Proofs.Tryz.func34 (by kernel_rfl) ok34 rfl
 ·cases h; exact fn_ok Go.Proofs.Tryz.func36 (by kernel_rfl) ok36 rfl
 ·cases h; exact fn_ok Go.Proofs.Tryz.func37 (by kernel_rfl) ok37 rfl
 ·cases h; exact fn_ok Go.Proofs.Tryz.func38 (by kernel_rfl) ok38 rfl
 ·cases h; exact fn_ok Go.Proofs.Tryz.func40 (by kernel_rfl) ok40 rfl
 ·cases h; exact fn_ok Go.Proofs.Tryz.func41 (by kernel_rfl) ok41 rfl
 ·cases h; exact fn_ok Go.Proofs.Tryz.func45 (by kernel_rfl) ok45 rfl
 ·cases h; exact fn_ok Go.Proofs.Tryz.func65 (by kernel_rfl) ok65 rfl
 ·cases h; exact fn_ok Go.Proofs.Tryz.func66 (by kernel_rfl) ok66 rfl
 ·cases h; exact fn_ok Go.Proofs.Tryz.func67 (by kernel_rfl) ok67 rfl
 ·cases h; exact fn_ok Go.Proofs.Tryz.func69 (by kernel_rfl) ok69 rfl
 ·cases h; exact fn_ok Go.Proofs.Tryz.func70 (by kernel_rfl) ok70 rfl
 ·cases h; exact fn_ok Go.Proofs.Tryz.func71 (by kernel_rfl) ok71 rfl
 ·cases h; exact fn_ok Go.Proofs.Tryz.func72 (by kernel_rfl) ok72 rfl
 ·cases h; exact fn_ok Go.Proofs.Tryz.func73 (by kernel_rfl) ok73 rfl
 ·cases h
set_option maxRecDepth 100000 in
theorem prog_ok1 {f:Nat} {af:AFunc} (h:Trmn.aprog1 f=some af):if af.ins.isEmpty then ∃ fn code,Go.Proofs.Tryz.prog.funcs[f]?=some fn∧fn.body=some code∧chkF Go.Proofs.Tryz.prog [0,1,2,3] default Trmn.tab f fn code af=true else chkY Go.Proofs.Tryz.prog [0,1,2,3] default Trmn.tab f af=true:=by
 unfold Trmn.aprog1 at h
 split at h
 ·cases h; exact fn_ok Go.Proofs.Tryz.func111 (by kernel_rfl) ok111 rfl
 ·cases h; exact fn_ok Go.Proofs.Tryz.func112 (by kernel_rfl) ok112 rfl
 ·cases h; exact fn_ok Go.Proofs.Tryz.func113 (by kernel_rfl) ok113 rfl
 ·cases h; exact fn_ok Go.Proofs.Tryz.func114 (by kernel_rfl) ok114 rfl
 ·cases h; exact fn_ok Go.Proofs.Tryz.func115 (by kernel_rfl) ok115 rfl
 ·cases h; exact fn_ok Go.Proofs.Tryz.func116 (by kernel_rfl) ok116 rfl
 ·cases h; exact fn_ok Go.Proofs.Tryz.func117 (by kernel_rfl) ok117 rfl
 ·cases h; exact fn_ok Go.Proofs.Tryz.func118 (by kernel_rfl) ok118 rfl
 ·cases h; exact fn_ok Go.Proofs.Tryz.func119 (by kernel_rfl) ok119 rfl
 ·cases h; exact fn_ok Go.Proofs.Tryz.func120 (by kernel_rfl) ok120 rfl
 ·cases h; exact fn_ok Go.Proofs.Tryz.func121 (by kernel_rfl) ok121 rfl
 ·cases h; exact fn_ok Go.Proofs.Tryz.func122 (by kernel_rfl) ok122 rfl
 ·cases h; exact fn_ok Go.Proofs.Tryz.func162 (by kernel_rfl) ok162 rfl
 ·cases h; exact fn_ok Go.Proofs.Tryz.func163 (by kernel_rfl) ok163 rfl
 ·cases h; exact fn_ok Go.Proofs.Tryz.func164 (by kernel_rfl) ok164 rfl
 ·cases h; exact fn_ok Go.Proofs.Tryz.func165 (by kernel_rfl) ok165 rfl
 ·cases h; exact fn_ok Go.Proofs.Tryz.func166 (by kernel_rfl) ok166 rfl
 ·cases h; exact fn_ok Go.Proofs.Tryz.func167 (by kernel_rfl) ok167 rfl
 ·cases h; exact fn_ok Go.Proofs.Tryz.func168 (by kernel_rfl) ok168 rfl
 ·cases h; exact fn_ok Go.Proofs.Tryz.func169 (by kernel_rfl) ok169 rfl
 ·cases h; exact fn_ok Go.Proofs.Tryz.func170 (by kernel_rfl) ok170 rfl
 ·cases h; exact fn_ok Go.Proofs.Tryz.func171 (by kernel_rfl) ok171 rfl
 ·cases h; exact fn_ok Go.Proofs.Tryz.func172 (by kernel_rfl) ok172 rfl
 ·cases h; exact fn_ok Go.Proofs.Tryz.func173 (by kernel_rfl) ok173 rfl
 ·cases h; exact fn_ok Go.Proofs.Tryz.func174 (by kernel_rfl) ok174 rfl
 ·cases h; exact fn_ok Go.Proofs.Tryz.func175 (by kernel_rfl) ok175 rfl
 ·cases h; exact fn_ok Go.Proofs.Tryz.func176 (by kernel_rfl) ok176 rfl
 ·cases h; exact fn_ok Go.Proofs.Tryz.func200 (by kernel_rfl) ok200 rfl
 ·cases h; exact fn_ok Go.Proofs.Tryz.func201 (by kernel_rfl) ok201 rfl
 ·cases h; exact fn_ok Go.Proofs.Tryz.func202 (by kernel_rfl) ok202 rfl
 ·cases h
set_option maxRecDepth 100000 in
theorem prog_ok2 {f:Nat} {af:AFunc} (h:Trmn.aprog2 f=some af):if af.ins.isEmpty then ∃ fn code,Go.Proofs.Tryz.prog.funcs[f]?=some fn∧fn.body=some code∧chkF Go.Proofs.Tryz.prog [0,1,2,3] default Trmn.tab f fn code af=true else chkY Go.Proofs.Tryz.prog [0,1,2,3] default Trmn.tab f af=true:=by
 unfold Trmn.aprog2 at h
 split at h
 ·cases h; exact fn_ok Go.Proofs.Tryz.func203 (by kernel_rfl) ok203 rfl
 ·cases h; exact fn_ok Go.Proofs.Tryz.func204 (by kernel_rfl) ok204 rfl
 ·cases h; exact fn_ok Go.Proofs.Tryz.func205 (by kernel_rfl) ok205 rfl
 ·cases h; exact fn_ok Go.Proofs.Tryz.func206 (by kernel_rfl) ok206 rfl
 ·cases h; exact fn_ok Go.Proofs.Tryz.func207 (by kernel_rfl) ok207 rfl
 ·cases h; exact fn_ok Go.Proofs.Tryz.func208 (by kernel_rfl) ok208 rfl
 ·cases h; exact fn_ok Go.Proofs.Tryz.func209 (by kernel_rfl) ok209 rfl
 ·cases h; exact fn_ok Go.Proofs.Tryz.func210 (by kernel_rfl) ok210 rfl
 ·cases h; exact fn_ok Go.Proofs.Tryz.func211 (by kernel_rfl) ok211 rfl
 ·cases h; exact fn_ok Go.Proofs.Tryz.func212 (by kernel_rfl) ok212 rfl
 ·cases h; exact fn_ok Go.Proofs.Tryz.func213 (by kernel_rfl) ok213 rfl
 ·cases h; exact fn_ok Go.Proofs.Tryz.func214 (by kernel_rfl) ok214 rfl
 ·cases h; exact fn_ok Go.Proofs.Tryz.func215 (by kernel_rfl) ok215 rfl
 ·cases h; exact fn_ok Go.Proofs.Tryz.func216 (by kernel_rfl) ok216 rfl
 ·cases h; exact fn_ok Go.Proofs.Tryz.func224 (by kernel_rfl) ok224 rfl
 ·cases h; exact fn_ok Go.Proofs.Tryz.func225 (by kernel_rfl) ok225 rfl
 ·cases h; exact fn_ok Go.Proofs.Tryz.func226 (by kernel_rfl) ok226 rfl
 ·cases h; exact fn_ok Go.Proofs.Tryz.func227 (by kernel_rfl) ok227 rfl
 ·cases h; exact fn_ok Go.Proofs.Tryz.func228 (by kernel_rfl) ok228 rfl
 ·cases h; exact fn_ok Go.Proofs.Tryz.func231 (by kernel_rfl) ok231 rfl
 ·cases h; exact fn_ok Go.Proofs.Tryz.func232 (by kernel_rfl) ok232 rfl
 ·cases h; exact fn_ok Go.Proofs.Tryz.func233 (by kernel_rfl) ok233 rfl
 ·cases h; exact fn_ok Go.Proofs.Tryz.func234 (by kernel_rfl) ok234 rfl
 ·cases h; exact fn_ok Go.Proofs.Tryz.func235 (by kernel_rfl) ok235 rfl
 ·cases h; exact fn_ok Go.Proofs.Tryz.func236 (by kernel_rfl) ok236 rfl
 ·cases h; exact fn_ok Go.Proofs.Tryz.func237 (by kernel_rfl) ok237 rfl
 ·cases h; exact fn_ok Go.Proofs.Tryz.func238 (by kernel_rfl) ok238 rfl
 ·cases h; exact fn_ok Go.Proofs.Tryz.func239 (by kernel_rfl) ok239 rfl
 ·cases h; exact fn_ok Go.Proofs.Tryz.func240 (by kernel_rfl) ok240 rfl
 ·cases h; exact fn_ok Go.Proofs.Tryz.func241 (by kernel_rfl) ok241 rfl
 ·cases h; exact fn_ok Go.Proofs.Tryz.func242 (by kernel_rfl) ok242 rfl
 ·cases h; exact fn_ok Go.Proofs.Tryz.func243 (by kernel_rfl) ok243 rfl
 ·cases h; exact fn_ok Go.Proofs.Tryz.func244 (by kernel_rfl) ok244 rfl
 ·cases h; exact fn_ok Go.Proofs.Tryz.func245 (by kernel_rfl) ok245 rfl
 ·cases h; exact fn_ok Go.Proofs.Tryz.func246 (by kernel_rfl) ok246 rfl
 ·cases h; exact fn_ok Go.Proofs.Tryz.func247 (by kernel_rfl) ok247 rfl
 ·cases h; exact fn_ok Go.Proofs.Tryz.func248 (by kernel_rfl) ok248 rfl
 ·cases h; exact fn_ok Go.Proofs.Tryz.func249 (by kernel_rfl) ok249 rfl
 ·cases h; exact fn_ok Go.Proofs.Tryz.func250 (by kernel_rfl) ok250 rfl
 ·cases h; exact fn_ok Go.Proofs.Tryz.func251 (by kernel_rfl) ok251 rfl
 ·cases h; exact fn_ok Go.Proofs.Tryz.func252 (by kernel_rfl) ok252 rfl
 ·cases h; exact fn_ok Go.Proofs.Tryz.func253 (by kernel_rfl) ok253 rfl
 ·cases h; exact fn_ok Go.Proofs.Tryz.func254 (by kernel_rfl) ok254 rfl
 ·cases h; exact fn_ok Go.Proofs.Tryz.func255 (by kernel_rfl) ok255 rfl
 ·cases h; exact fn_ok Go.Proofs.Tryz.func260 (by kernel_rfl) ok260 rfl
 ·cases h; exact fn_ok Go.Proofs.Tryz.func266 (by kernel_rfl) ok266 rfl
 ·cases h; exact fn_ok Go.Proofs.Tryz.func267 (by kernel_rfl) ok267 rfl
 ·cases h; exact fn_ok Go.Proofs.Tryz.func268 (by kernel_rfl) ok268 rfl
 ·cases h; exact fn_ok Go.Proofs.Tryz.func269 (by kernel_rfl) ok269 rfl
 ·cases h
set_option maxRecDepth 100000 in
theorem prog_ok3 {f:Nat} {af:AFunc} (h:Trmn.aprog3 f=some af):if af.ins.isEmpty then ∃ fn code,Go.Proofs.Tryz.prog.funcs[f]?=some fn∧fn.body=some code∧chkF Go.Proofs.Tryz.prog [0,1,2,3] default Trmn.tab f fn code af=true else chkY Go.Proofs.Tryz.prog [0,1,2,3] default Trmn.tab f af=true:=by
 unfold Trmn.aprog3 at h
 split at h
 ·cases h; exact fn_ok Go.Proofs.Tryz.func270 (by kernel_rfl) ok270 rfl
 ·cases h; exact fn_ok Go.Proofs.Tryz.func271 (by kernel_rfl) ok271 rfl
 ·cases h; exact fn_ok Go.Proofs.Tryz.func276 (by kernel_rfl) ok276 rfl
 ·cases h; exact fn_ok Go.Proofs.Tryz.func277 (by kernel_rfl) ok277 rfl
 ·cases h; exact fn_ok Go.Proofs.Tryz.func278 (by kernel_rfl) ok278 rfl
 ·cases h; exact fn_ok Go.Proofs.Tryz.func279 (by kernel_rfl) ok279 rfl
 ·cases h; exact fn_ok Go.Proofs.Tryz.func286 (by kernel_rfl) ok286 rfl
 ·cases h; exact fn_ok Go.Proofs.Tryz.func287 (by kernel_rfl) ok287 rfl
 ·cases h; exact fn_ok Go.Proofs.Tryz.func288 (by kernel_rfl) ok288 rfl
 ·cases h; exact fn_ok Go.Proofs.Tryz.func289 (by kernel_rfl) ok289 rfl
 ·cases h; exact fn_ok Go.Proofs.Tryz.func291 (by kernel_rfl) ok291 rfl
 ·cases h; exact fn_ok Go.Proofs.Tryz.func292 (by kernel_rfl) ok292 rfl
 ·cases h; exact fn_ok Go.Proofs.Tryz.func293 (by kernel_rfl) ok293 rfl
 ·cases h; exact fn_ok Go.Proofs.Tryz.func294 (by kernel_rfl) ok294 rfl
 ·cases h; exact fn_ok Go.Proofs.Tryz.func295 (by kernel_rfl) ok295 rfl
 ·cases h; exact fn_ok Go.Proofs.Tryz.func297 (by kernel_rfl) ok297 rfl
 ·cases h; exact fn_ok Go.Proofs.Tryz.func313 (by kernel_rfl) ok313 rfl
 ·cases h; exact fn_ok Go.Proofs.Tryz.func314 (by kernel_rfl) ok314 rfl
 ·cases h; exact fn_ok Go.Proofs.Tryz.func315 (by kernel_rfl) ok315 rfl
 ·cases h; exact fn_ok Go.Proofs.Tryz.func316 (by kernel_rfl) ok316 rfl
 ·cases h; exact fn_ok Go.Proofs.Tryz.func317 (by kernel_rfl) ok317 rfl
 ·cases h; exact fn_ok Go.Proofs.Tryz.func318 (by kernel_rfl) ok318 rfl
 ·cases h; exact fn_ok Go.Proofs.Tryz.func319 (by kernel_rfl) ok319 rfl
 ·cases h; exact fn_ok Go.Proofs.Tryz.func320 (by kernel_rfl) ok320 rfl
 ·cases h; exact fn_ok Go.Proofs.Tryz.func321 (by kernel_rfl) ok321 rfl
 ·cases h; exact fn_ok Go.Proofs.Tryz.func322 (by kernel_rfl) ok322 rfl
 ·cases h; exact fn_ok Go.Proofs.Tryz.func326 (by kernel_rfl) ok326 rfl
 ·cases h; exact fn_ok Go.Proofs.Tryz.func327 (by kernel_rfl) ok327 rfl
 ·cases h; exact fn_ok Go.Proofs.Tryz.func328 (by kernel_rfl) ok328 rfl
 ·cases h; exact fn_ok Go.Proofs.Tryz.func329 (by kernel_rfl) ok329 rfl
 ·cases h; exact fn_ok Go.Proofs.Tryz.func330 (by kernel_rfl) ok330 rfl
 ·cases h; exact fn_ok Go.Proofs.Tryz.func331 (by kernel_rfl) ok331 rfl
 ·cases h; exact fn_ok Go.Proofs.Tryz.func332 (by kernel_rfl) ok332 rfl
 ·cases h; exact fn_ok Go.Proofs.Tryz.func333 (by kernel_rfl) ok333 rfl
 ·cases h; exact fn_ok Go.Proofs.Tryz.func334 (by kernel_rfl) ok334 rfl
 ·cases h; exact fn_ok Go.Proofs.Tryz.func335 (by kernel_rfl) ok335 rfl
 ·cases h; exact fn_ok Go.Proofs.Tryz.func336 (by kernel_rfl) ok336 rfl
 ·cases h; exact fn_ok Go.Proofs.Tryz.func337 (by kernel_rfl) ok337 rfl
 ·cases h; exact fn_ok Go.Proofs.Tryz.func338 (by kernel_rfl) ok338 rfl
 ·cases h; exact fn_ok Go.Proofs.Tryz.func339 (by kernel_rfl) ok339 rfl
 ·cases h; exact rnd_ok ok12140 rfl
 ·cases h; exact rnd_ok ok12780 rfl
 ·cases h
theorem prog_ok:ProgOK Go.Proofs.Tryz.prog [0,1,2,3] default Trmn.tab Trmn.aprog:=by
 intro f af h
 unfold Trmn.aprog at h
 split at h
 ·rename_i x e; cases h; exact prog_ok0 e
 split at h
 ·rename_i x e; cases h; exact prog_ok1 e
 split at h
 ·rename_i x e; cases h; exact prog_ok2 e
 exact prog_ok3 h
end Go.Proofs.Mn
