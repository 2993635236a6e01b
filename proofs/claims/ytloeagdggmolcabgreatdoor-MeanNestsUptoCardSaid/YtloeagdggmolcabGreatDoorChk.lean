/- A part of the law's proof: Chk. -/
import Derived.Test.YtloeagdggmolcabGreatDoorRows
import Derived.Test.YtloeagdggmolcabGreatDoorCoreD
import Derived.Test.YtloeagdggmolcabGreatDoorFn
import Derived.KernelRfl
set_option linter.unusedVariables false
set_option linter.unusedSimpArgs false
namespace Go.Proofs.Mm
open Go Go.Am
noncomputable def bodyOf (f:Func):Code:=f.body.getD .skip
set_option maxRecDepth 1000000 in
theorem ok3:chkF Go.Proofs.Tryz.prog [0,4,6,7] default Trmm.tab 3 Go.Proofs.Tryz.f3 (bodyOf Go.Proofs.Tryz.f3) Trmm.a3=true:=by kernel_rfl
set_option maxRecDepth 1000000 in
theorem ok9:chkF Go.Proofs.Tryz.prog [0,4,6,7] default Trmm.tab 9 Go.Proofs.Tryz.f9 (bodyOf Go.Proofs.Tryz.f9) Trmm.a9=true:=by kernel_rfl
set_option maxRecDepth 1000000 in
theorem ok13:chkF Go.Proofs.Tryz.prog [0,4,6,7] default Trmm.tab 13 Go.Proofs.Tryz.f13 (bodyOf Go.Proofs.Tryz.f13) Trmm.a13=true:=by kernel_rfl
set_option maxRecDepth 1000000 in
theorem ok20:chkF Go.Proofs.Tryz.prog [0,4,6,7] default Trmm.tab 20 Go.Proofs.Tryz.f20 (bodyOf Go.Proofs.Tryz.f20) Trmm.a20=true:=by kernel_rfl
set_option maxRecDepth 1000000 in
theorem ok24:chkF Go.Proofs.Tryz.prog [0,4,6,7] default Trmm.tab 24 Go.Proofs.Tryz.f24 (bodyOf Go.Proofs.Tryz.f24) Trmm.a24=true:=by kernel_rfl
set_option maxRecDepth 1000000 in
theorem ok36:chkF Go.Proofs.Tryz.prog [0,4,6,7] default Trmm.tab 36 Go.Proofs.Tryz.f36 (bodyOf Go.Proofs.Tryz.f36) Trmm.a36=true:=by kernel_rfl
set_option maxRecDepth 1000000 in
theorem ok42:chkF Go.Proofs.Tryz.prog [0,4,6,7] default Trmm.tab 42 Go.Proofs.Tryz.f42 (bodyOf Go.Proofs.Tryz.f42) Trmm.a42=true:=by kernel_rfl
set_option maxRecDepth 1000000 in
theorem ok60:chkF Go.Proofs.Tryz.prog [0,4,6,7] default Trmm.tab 60 Go.Proofs.Tryz.f60 (bodyOf Go.Proofs.Tryz.f60) Trmm.a60=true:=by kernel_rfl
set_option maxRecDepth 1000000 in
theorem ok64:chkF Go.Proofs.Tryz.prog [0,4,6,7] default Trmm.tab 64 Go.Proofs.Tryz.f64 (bodyOf Go.Proofs.Tryz.f64) Trmm.a64=true:=by kernel_rfl
set_option maxRecDepth 1000000 in
theorem ok68:chkF Go.Proofs.Tryz.prog [0,4,6,7] default Trmm.tab 68 Go.Proofs.Tryz.f68 (bodyOf Go.Proofs.Tryz.f68) Trmm.a68=true:=by kernel_rfl
set_option maxRecDepth 1000000 in
theorem ok80:chkF Go.Proofs.Tryz.prog [0,4,6,7] default Trmm.tab 80 Go.Proofs.Tryz.f80 (bodyOf Go.Proofs.Tryz.f80) Trmm.a80=true:=by kernel_rfl
set_option maxRecDepth 1000000 in
theorem ok84:chkF Go.Proofs.Tryz.prog [0,4,6,7] default Trmm.tab 84 Go.Proofs.Tryz.f84 (bodyOf Go.Proofs.Tryz.f84) Trmm.a84=true:=by kernel_rfl
set_option maxRecDepth 1000000 in
theorem ok88:chkF Go.Proofs.Tryz.prog [0,4,6,7] default Trmm.tab 88 Go.Proofs.Tryz.f88 (bodyOf Go.Proofs.Tryz.f88) Trmm.a88=true:=by kernel_rfl
set_option maxRecDepth 1000000 in
theorem ok92:chkF Go.Proofs.Tryz.prog [0,4,6,7] default Trmm.tab 92 Go.Proofs.Tryz.f92 (bodyOf Go.Proofs.Tryz.f92) Trmm.a92=true:=by kernel_rfl
set_option maxRecDepth 1000000 in
theorem ok99:chkF Go.Proofs.Tryz.prog [0,4,6,7] default Trmm.tab 99 Go.Proofs.Tryz.f99 (bodyOf Go.Proofs.Tryz.f99) Trmm.a99=true:=by kernel_rfl
set_option maxRecDepth 1000000 in
theorem ok103:chkF Go.Proofs.Tryz.prog [0,4,6,7] default Trmm.tab 103 Go.Proofs.Tryz.f103 (bodyOf Go.Proofs.Tryz.f103) Trmm.a103=true:=by kernel_rfl
set_option maxRecDepth 1000000 in
theorem ok107:chkF Go.Proofs.Tryz.prog [0,4,6,7] default Trmm.tab 107 Go.Proofs.Tryz.f107 (bodyOf Go.Proofs.Tryz.f107) Trmm.a107=true:=by kernel_rfl
set_option maxRecDepth 1000000 in
theorem ok113:chkF Go.Proofs.Tryz.prog [0,4,6,7] default Trmm.tab 113 Go.Proofs.Tryz.f113 (bodyOf Go.Proofs.Tryz.f113) Trmm.a113=true:=by kernel_rfl
set_option maxRecDepth 1000000 in
theorem ok117:chkF Go.Proofs.Tryz.prog [0,4,6,7] default Trmm.tab 117 Go.Proofs.Tryz.f117 (bodyOf Go.Proofs.Tryz.f117) Trmm.a117=true:=by kernel_rfl
set_option maxRecDepth 1000000 in
theorem ok121:chkF Go.Proofs.Tryz.prog [0,4,6,7] default Trmm.tab 121 Go.Proofs.Tryz.f121 (bodyOf Go.Proofs.Tryz.f121) Trmm.a121=true:=by kernel_rfl
set_option maxRecDepth 1000000 in
theorem ok125:chkF Go.Proofs.Tryz.prog [0,4,6,7] default Trmm.tab 125 Go.Proofs.Tryz.f125 (bodyOf Go.Proofs.Tryz.f125) Trmm.a125=true:=by kernel_rfl
set_option maxRecDepth 1000000 in
theorem ok134:chkF Go.Proofs.Tryz.prog [0,4,6,7] default Trmm.tab 134 Go.Proofs.Tryz.f134 (bodyOf Go.Proofs.Tryz.f134) Trmm.a134=true:=by kernel_rfl
set_option maxRecDepth 1000000 in
theorem ok138:chkF Go.Proofs.Tryz.prog [0,4,6,7] default Trmm.tab 138 Go.Proofs.Tryz.f138 (bodyOf Go.Proofs.Tryz.f138) Trmm.a138=true:=by kernel_rfl
set_option maxRecDepth 1000000 in
theorem ok142:chkF Go.Proofs.Tryz.prog [0,4,6,7] default Trmm.tab 142 Go.Proofs.Tryz.f142 (bodyOf Go.Proofs.Tryz.f142) Trmm.a142=true:=by kernel_rfl
set_option maxRecDepth 1000000 in
theorem ok146:chkF Go.Proofs.Tryz.prog [0,4,6,7] default Trmm.tab 146 Go.Proofs.Tryz.f146 (bodyOf Go.Proofs.Tryz.f146) Trmm.a146=true:=by kernel_rfl
set_option maxRecDepth 1000000 in
theorem ok150:chkF Go.Proofs.Tryz.prog [0,4,6,7] default Trmm.tab 150 Go.Proofs.Tryz.f150 (bodyOf Go.Proofs.Tryz.f150) Trmm.a150=true:=by kernel_rfl
set_option maxRecDepth 1000000 in
theorem ok158:chkF Go.Proofs.Tryz.prog [0,4,6,7] default Trmm.tab 158 Go.Proofs.Tryz.f158 (bodyOf Go.Proofs.Tryz.f158) Trmm.a158=true:=by kernel_rfl
set_option maxRecDepth 1000000 in
theorem ok162:chkF Go.Proofs.Tryz.prog [0,4,6,7] default Trmm.tab 162 Go.Proofs.Tryz.f162 (bodyOf Go.Proofs.Tryz.f162) Trmm.a162=true:=by kernel_rfl
set_option maxRecDepth 1000000 in
theorem ok171:chkF Go.Proofs.Tryz.prog [0,4,6,7] default Trmm.tab 171 Go.Proofs.Tryz.f171 (bodyOf Go.Proofs.Tryz.f171) Trmm.a171=true:=by kernel_rfl
set_option maxRecDepth 1000000 in
theorem ok175:chkF Go.Proofs.Tryz.prog [0,4,6,7] default Trmm.tab 175 Go.Proofs.Tryz.f175 (bodyOf Go.Proofs.Tryz.f175) Trmm.a175=true:=by kernel_rfl
set_option maxRecDepth 1000000 in
theorem ok180:chkF Go.Proofs.Tryz.prog [0,4,6,7] default Trmm.tab 180 Go.Proofs.Tryz.f180 (bodyOf Go.Proofs.Tryz.f180) Trmm.a180=true:=by kernel_rfl
set_option maxRecDepth 1000000 in
theorem ok184:chkF Go.Proofs.Tryz.prog [0,4,6,7] default Trmm.tab 184 Go.Proofs.Tryz.f184 (bodyOf Go.Proofs.Tryz.f184) Trmm.a184=true:=by kernel_rfl
set_option maxRecDepth 1000000 in
theorem ok203:chkF Go.Proofs.Tryz.prog [0,4,6,7] default Trmm.tab 203 Go.Proofs.Tryz.f203 (bodyOf Go.Proofs.Tryz.f203) Trmm.a203=true:=by kernel_rfl
set_option maxRecDepth 1000000 in
theorem ok207:chkF Go.Proofs.Tryz.prog [0,4,6,7] default Trmm.tab 207 Go.Proofs.Tryz.f207 (bodyOf Go.Proofs.Tryz.f207) Trmm.a207=true:=by kernel_rfl
set_option maxRecDepth 1000000 in
theorem ok211:chkF Go.Proofs.Tryz.prog [0,4,6,7] default Trmm.tab 211 Go.Proofs.Tryz.f211 (bodyOf Go.Proofs.Tryz.f211) Trmm.a211=true:=by kernel_rfl
set_option maxRecDepth 1000000 in
theorem ok218:chkF Go.Proofs.Tryz.prog [0,4,6,7] default Trmm.tab 218 Go.Proofs.Tryz.f218 (bodyOf Go.Proofs.Tryz.f218) Trmm.a218=true:=by kernel_rfl
set_option maxRecDepth 1000000 in
theorem ok222:chkF Go.Proofs.Tryz.prog [0,4,6,7] default Trmm.tab 222 Go.Proofs.Tryz.f222 (bodyOf Go.Proofs.Tryz.f222) Trmm.a222=true:=by kernel_rfl
set_option maxRecDepth 1000000 in
theorem ok226:chkF Go.Proofs.Tryz.prog [0,4,6,7] default Trmm.tab 226 Go.Proofs.Tryz.f226 (bodyOf Go.Proofs.Tryz.f226) Trmm.a226=true:=by kernel_rfl
theorem ok11230:chkY Go.Proofs.Tryz.prog [0,4,6,7] default Trmm.tab 11230 Trmm.a11230=true:=by kernel_rfl
theorem ok11720:chkY Go.Proofs.Tryz.prog [0,4,6,7] default Trmm.tab 11720 Trmm.a11720=true:=by kernel_rfl
set_option maxRecDepth 1000000 in
theorem ok6:chkF Go.Proofs.Tryz.prog [0,4,6,7] default Trmm.tab 6 Go.Proofs.Tryz.f6 (bodyOf Go.Proofs.Tryz.f6) Trmm.a6=true:=by kernel_rfl
set_option maxRecDepth 1000000 in
theorem ok10:chkF Go.Proofs.Tryz.prog [0,4,6,7] default Trmm.tab 10 Go.Proofs.Tryz.f10 (bodyOf Go.Proofs.Tryz.f10) Trmm.a10=true:=by kernel_rfl
set_option maxRecDepth 1000000 in
theorem ok15:chkF Go.Proofs.Tryz.prog [0,4,6,7] default Trmm.tab 15 Go.Proofs.Tryz.f15 (bodyOf Go.Proofs.Tryz.f15) Trmm.a15=true:=by kernel_rfl
set_option maxRecDepth 1000000 in
theorem ok21:chkF Go.Proofs.Tryz.prog [0,4,6,7] default Trmm.tab 21 Go.Proofs.Tryz.f21 (bodyOf Go.Proofs.Tryz.f21) Trmm.a21=true:=by kernel_rfl
set_option maxRecDepth 1000000 in
theorem ok25:chkF Go.Proofs.Tryz.prog [0,4,6,7] default Trmm.tab 25 Go.Proofs.Tryz.f25 (bodyOf Go.Proofs.Tryz.f25) Trmm.a25=true:=by kernel_rfl
set_option maxRecDepth 1000000 in
theorem ok38:chkF Go.Proofs.Tryz.prog [0,4,6,7] default Trmm.tab 38 Go.Proofs.Tryz.f38 (bodyOf Go.Proofs.Tryz.f38) Trmm.a38=true:=by kernel_rfl
set_option maxRecDepth 1000000 in
theorem ok57:chkF Go.Proofs.Tryz.prog [0,4,6,7] default Trmm.tab 57 Go.Proofs.Tryz.f57 (bodyOf Go.Proofs.Tryz.f57) Trmm.a57=true:=by kernel_rfl
set_option maxRecDepth 1000000 in
theorem ok61:chkF Go.Proofs.Tryz.prog [0,4,6,7] default Trmm.tab 61 Go.Proofs.Tryz.f61 (bodyOf Go.Proofs.Tryz.f61) Trmm.a61=true:=by kernel_rfl
set_option maxRecDepth 1000000 in
theorem ok65:chkF Go.Proofs.Tryz.prog [0,4,6,7] default Trmm.tab 65 Go.Proofs.Tryz.f65 (bodyOf Go.Proofs.Tryz.f65) Trmm.a65=true:=by kernel_rfl
set_option maxRecDepth 1000000 in
theorem ok69:chkF Go.Proofs.Tryz.prog [0,4,6,7] default Trmm.tab 69 Go.Proofs.Tryz.f69 (bodyOf Go.Proofs.Tryz.f69) Trmm.a69=true:=by kernel_rfl
set_option maxRecDepth 1000000 in
theorem ok81:chkF Go.Proofs.Tryz.prog [0,4,6,7] default Trmm.tab 81 Go.Proofs.Tryz.f81 (bodyOf Go.Proofs.Tryz.f81) Trmm.a81=true:=by kernel_rfl
set_option maxRecDepth 1000000 in
theorem ok85:chkF Go.Proofs.Tryz.prog [0,4,6,7] default Trmm.tab 85 Go.Proofs.Tryz.f85 (bodyOf Go.Proofs.Tryz.f85) Trmm.a85=true:=by kernel_rfl
set_option maxRecDepth 1000000 in
theorem ok89:chkF Go.Proofs.Tryz.prog [0,4,6,7] default Trmm.tab 89 Go.Proofs.Tryz.f89 (bodyOf Go.Proofs.Tryz.f89) Trmm.a89=true:=by kernel_rfl
set_option maxRecDepth 1000000 in
theorem ok93:chkF Go.Proofs.Tryz.prog [0,4,6,7] default Trmm.tab 93 Go.Proofs.Tryz.f93 (bodyOf Go.Proofs.Tryz.f93) Trmm.a93=true:=by kernel_rfl
set_option maxRecDepth 1000000 in
theorem ok100:chkF Go.Proofs.Tryz.prog [0,4,6,7] default Trmm.tab 100 Go.Proofs.Tryz.f100 (bodyOf Go.Proofs.Tryz.f100) Trmm.a100=true:=by kernel_rfl
set_option maxRecDepth 1000000 in
theorem ok104:chkF Go.Proofs.Tryz.prog [0,4,6,7] default Trmm.tab 104 Go.Proofs.Tryz.f104 (bodyOf Go.Proofs.Tryz.f104) Trmm.a104=true:=by kernel_rfl
set_option maxRecDepth 1000000 in
theorem ok108:chkF Go.Proofs.Tryz.prog [0,4,6,7] default Trmm.tab 108 Go.Proofs.Tryz.f108 (bodyOf Go.Proofs.Tryz.f108) Trmm.a108=true:=by kernel_rfl
set_option maxRecDepth 1000000 in
theorem ok114:chkF Go.Proofs.Tryz.prog [0,4,6,7] default Trmm.tab 114 Go.Proofs.Tryz.f114 (bodyOf Go.Proofs.Tryz.f114) Trmm.a114=true:=by kernel_rfl
set_option maxRecDepth 1000000 in
theorem ok118:chkF Go.Proofs.Tryz.prog [0,4,6,7] default Trmm.tab 118 Go.Proofs.Tryz.f118 (bodyOf Go.Proofs.Tryz.f118) Trmm.a118=true:=by kernel_rfl
set_option maxRecDepth 1000000 in
theorem ok122:chkF Go.Proofs.Tryz.prog [0,4,6,7] default Trmm.tab 122 Go.Proofs.Tryz.f122 (bodyOf Go.Proofs.Tryz.f122) Trmm.a122=true:=by kernel_rfl
set_option maxRecDepth 1000000 in
theorem ok126:chkF Go.Proofs.Tryz.prog [0,4,6,7] default Trmm.tab 126 Go.Proofs.Tryz.f126 (bodyOf Go.Proofs.Tryz.f126) Trmm.a126=true:=by kernel_rfl
set_option maxRecDepth 1000000 in
theorem ok135:chkF Go.Proofs.Tryz.prog [0,4,6,7] default Trmm.tab 135 Go.Proofs.Tryz.f135 (bodyOf Go.Proofs.Tryz.f135) Trmm.a135=true:=by kernel_rfl
set_option maxRecDepth 1000000 in
theorem ok139:chkF Go.Proofs.Tryz.prog [0,4,6,7] default Trmm.tab 139 Go.Proofs.Tryz.f139 (bodyOf Go.Proofs.Tryz.f139) Trmm.a139=true:=by kernel_rfl
set_option maxRecDepth 1000000 in
theorem ok143:chkF Go.Proofs.Tryz.prog [0,4,6,7] default Trmm.tab 143 Go.Proofs.Tryz.f143 (bodyOf Go.Proofs.Tryz.f143) Trmm.a143=true:=by kernel_rfl
set_option maxRecDepth 1000000 in
theorem ok147:chkF Go.Proofs.Tryz.prog [0,4,6,7] default Trmm.tab 147 Go.Proofs.Tryz.f147 (bodyOf Go.Proofs.Tryz.f147) Trmm.a147=true:=by kernel_rfl
set_option maxRecDepth 1000000 in
theorem ok151:chkF Go.Proofs.Tryz.prog [0,4,6,7] default Trmm.tab 151 Go.Proofs.Tryz.f151 (bodyOf Go.Proofs.Tryz.f151) Trmm.a151=true:=by kernel_rfl
set_option maxRecDepth 1000000 in
theorem ok159:chkF Go.Proofs.Tryz.prog [0,4,6,7] default Trmm.tab 159 Go.Proofs.Tryz.f159 (bodyOf Go.Proofs.Tryz.f159) Trmm.a159=true:=by kernel_rfl
set_option maxRecDepth 1000000 in
theorem ok168:chkF Go.Proofs.Tryz.prog [0,4,6,7] default Trmm.tab 168 Go.Proofs.Tryz.f168 (bodyOf Go.Proofs.Tryz.f168) Trmm.a168=true:=by kernel_rfl
set_option maxRecDepth 1000000 in
theorem ok172:chkF Go.Proofs.Tryz.prog [0,4,6,7] default Trmm.tab 172 Go.Proofs.Tryz.f172 (bodyOf Go.Proofs.Tryz.f172) Trmm.a172=true:=by kernel_rfl
set_option maxRecDepth 1000000 in
theorem ok176:chkF Go.Proofs.Tryz.prog [0,4,6,7] default Trmm.tab 176 Go.Proofs.Tryz.f176 (bodyOf Go.Proofs.Tryz.f176) Trmm.a176=true:=by kernel_rfl
set_option maxRecDepth 1000000 in
theorem ok181:chkF Go.Proofs.Tryz.prog [0,4,6,7] default Trmm.tab 181 Go.Proofs.Tryz.f181 (bodyOf Go.Proofs.Tryz.f181) Trmm.a181=true:=by kernel_rfl
set_option maxRecDepth 1000000 in
theorem ok185:chkF Go.Proofs.Tryz.prog [0,4,6,7] default Trmm.tab 185 Go.Proofs.Tryz.f185 (bodyOf Go.Proofs.Tryz.f185) Trmm.a185=true:=by kernel_rfl
set_option maxRecDepth 1000000 in
theorem ok204:chkF Go.Proofs.Tryz.prog [0,4,6,7] default Trmm.tab 204 Go.Proofs.Tryz.f204 (bodyOf Go.Proofs.Tryz.f204) Trmm.a204=true:=by kernel_rfl
set_option maxRecDepth 1000000 in
theorem ok208:chkF Go.Proofs.Tryz.prog [0,4,6,7] default Trmm.tab 208 Go.Proofs.Tryz.f208 (bodyOf Go.Proofs.Tryz.f208) Trmm.a208=true:=by kernel_rfl
set_option maxRecDepth 1000000 in
theorem ok212:chkF Go.Proofs.Tryz.prog [0,4,6,7] default Trmm.tab 212 Go.Proofs.Tryz.f212 (bodyOf Go.Proofs.Tryz.f212) Trmm.a212=true:=by kernel_rfl
set_option maxRecDepth 1000000 in
theorem ok219:chkF Go.Proofs.Tryz.prog [0,4,6,7] default Trmm.tab 219 Go.Proofs.Tryz.f219 (bodyOf Go.Proofs.Tryz.f219) Trmm.a219=true:=by kernel_rfl
set_option maxRecDepth 1000000 in
theorem ok223:chkF Go.Proofs.Tryz.prog [0,4,6,7] default Trmm.tab 223 Go.Proofs.Tryz.f223 (bodyOf Go.Proofs.Tryz.f223) Trmm.a223=true:=by kernel_rfl
set_option maxRecDepth 1000000 in
theorem ok227:chkF Go.Proofs.Tryz.prog [0,4,6,7] default Trmm.tab 227 Go.Proofs.Tryz.f227 (bodyOf Go.Proofs.Tryz.f227) Trmm.a227=true:=by kernel_rfl
set_option maxRecDepth 1000000 in
theorem ok7:chkF Go.Proofs.Tryz.prog [0,4,6,7] default Trmm.tab 7 Go.Proofs.Tryz.f7 (bodyOf Go.Proofs.Tryz.f7) Trmm.a7=true:=by kernel_rfl
set_option maxRecDepth 1000000 in
theorem ok11:chkF Go.Proofs.Tryz.prog [0,4,6,7] default Trmm.tab 11 Go.Proofs.Tryz.f11 (bodyOf Go.Proofs.Tryz.f11) Trmm.a11=true:=by kernel_rfl
set_option maxRecDepth 1000000 in
theorem ok16:chkF Go.Proofs.Tryz.prog [0,4,6,7] default Trmm.tab 16 Go.Proofs.Tryz.f16 (bodyOf Go.Proofs.Tryz.f16) Trmm.a16=true:=by kernel_rfl
set_option maxRecDepth 1000000 in
theorem ok22:chkF Go.Proofs.Tryz.prog [0,4,6,7] default Trmm.tab 22 Go.Proofs.Tryz.f22 (bodyOf Go.Proofs.Tryz.f22) Trmm.a22=true:=by kernel_rfl
set_option maxRecDepth 1000000 in
theorem ok34:chkF Go.Proofs.Tryz.prog [0,4,6,7] default Trmm.tab 34 Go.Proofs.Tryz.f34 (bodyOf Go.Proofs.Tryz.f34) Trmm.a34=true:=by kernel_rfl
set_option maxRecDepth 1000000 in
theorem ok39:chkF Go.Proofs.Tryz.prog [0,4,6,7] default Trmm.tab 39 Go.Proofs.Tryz.f39 (bodyOf Go.Proofs.Tryz.f39) Trmm.a39=true:=by kernel_rfl
set_option maxRecDepth 1000000 in
theorem ok58:chkF Go.Proofs.Tryz.prog [0,4,6,7] default Trmm.tab 58 Go.Proofs.Tryz.f58 (bodyOf Go.Proofs.Tryz.f58) Trmm.a58=true:=by kernel_rfl
set_option maxRecDepth 1000000 in
theorem ok62:chkF Go.Proofs.Tryz.prog [0,4,6,7] default Trmm.tab 62 Go.Proofs.Tryz.f62 (bodyOf Go.Proofs.Tryz.f62) Trmm.a62=true:=by kernel_rfl
set_option maxRecDepth 1000000 in
theorem ok66:chkF Go.Proofs.Tryz.prog [0,4,6,7] default Trmm.tab 66 Go.Proofs.Tryz.f66 (bodyOf Go.Proofs.Tryz.f66) Trmm.a66=true:=by kernel_rfl
set_option maxRecDepth 1000000 in
theorem ok78:chkF Go.Proofs.Tryz.prog [0,4,6,7] default Trmm.tab 78 Go.Proofs.Tryz.f78 (bodyOf Go.Proofs.Tryz.f78) Trmm.a78=true:=by kernel_rfl
set_option maxRecDepth 1000000 in
theorem ok82:chkF Go.Proofs.Tryz.prog [0,4,6,7] default Trmm.tab 82 Go.Proofs.Tryz.f82 (bodyOf Go.Proofs.Tryz.f82) Trmm.a82=true:=by kernel_rfl
set_option maxRecDepth 1000000 in
theorem ok86:chkF Go.Proofs.Tryz.prog [0,4,6,7] default Trmm.tab 86 Go.Proofs.Tryz.f86 (bodyOf Go.Proofs.Tryz.f86) Trmm.a86=true:=by kernel_rfl
set_option maxRecDepth 1000000 in
theorem ok90:chkF Go.Proofs.Tryz.prog [0,4,6,7] default Trmm.tab 90 Go.Proofs.Tryz.f90 (bodyOf Go.Proofs.Tryz.f90) Trmm.a90=true:=by kernel_rfl
set_option maxRecDepth 1000000 in
theorem ok94:chkF Go.Proofs.Tryz.prog [0,4,6,7] default Trmm.tab 94 Go.Proofs.Tryz.f94 (bodyOf Go.Proofs.Tryz.f94) Trmm.a94=true:=by kernel_rfl
set_option maxRecDepth 1000000 in
theorem ok101:chkF Go.Proofs.Tryz.prog [0,4,6,7] default Trmm.tab 101 Go.Proofs.Tryz.f101 (bodyOf Go.Proofs.Tryz.f101) Trmm.a101=true:=by kernel_rfl
set_option maxRecDepth 1000000 in
theorem ok105:chkF Go.Proofs.Tryz.prog [0,4,6,7] default Trmm.tab 105 Go.Proofs.Tryz.f105 (bodyOf Go.Proofs.Tryz.f105) Trmm.a105=true:=by kernel_rfl
set_option maxRecDepth 1000000 in
theorem ok111:chkF Go.Proofs.Tryz.prog [0,4,6,7] default Trmm.tab 111 Go.Proofs.Tryz.f111 (bodyOf Go.Proofs.Tryz.f111) Trmm.a111=true:=by kernel_rfl
set_option maxRecDepth 1000000 in
theorem ok115:chkF Go.Proofs.Tryz.prog [0,4,6,7] default Trmm.tab 115 Go.Proofs.Tryz.f115 (bodyOf Go.Proofs.Tryz.f115) Trmm.a115=true:=by kernel_rfl
set_option maxRecDepth 1000000 in
theorem ok119:chkF Go.Proofs.Tryz.prog [0,4,6,7] default Trmm.tab 119 Go.Proofs.Tryz.f119 (bodyOf Go.Proofs.Tryz.f119) Trmm.a119=true:=by kernel_rfl
set_option maxRecDepth 1000000 in
theorem ok123:chkF Go.Proofs.Tryz.prog [0,4,6,7] default Trmm.tab 123 Go.Proofs.Tryz.f123 (bodyOf Go.Proofs.Tryz.f123) Trmm.a123=true:=by kernel_rfl
set_option maxRecDepth 1000000 in
theorem ok132:chkF Go.Proofs.Tryz.prog [0,4,6,7] default Trmm.tab 132 Go.Proofs.Tryz.f132 (bodyOf Go.Proofs.Tryz.f132) Trmm.a132=true:=by kernel_rfl
set_option maxRecDepth 1000000 in
theorem ok136:chkF Go.Proofs.Tryz.prog [0,4,6,7] default Trmm.tab 136 Go.Proofs.Tryz.f136 (bodyOf Go.Proofs.Tryz.f136) Trmm.a136=true:=by kernel_rfl
set_option maxRecDepth 1000000 in
theorem ok140:chkF Go.Proofs.Tryz.prog [0,4,6,7] default Trmm.tab 140 Go.Proofs.Tryz.f140 (bodyOf Go.Proofs.Tryz.f140) Trmm.a140=true:=by kernel_rfl
set_option maxRecDepth 1000000 in
theorem ok144:chkF Go.Proofs.Tryz.prog [0,4,6,7] default Trmm.tab 144 Go.Proofs.Tryz.f144 (bodyOf Go.Proofs.Tryz.f144) Trmm.a144=true:=by kernel_rfl
set_option maxRecDepth 1000000 in
theorem ok148:chkF Go.Proofs.Tryz.prog [0,4,6,7] default Trmm.tab 148 Go.Proofs.Tryz.f148 (bodyOf Go.Proofs.Tryz.f148) Trmm.a148=true:=by kernel_rfl
set_option maxRecDepth 1000000 in
theorem ok156:chkF Go.Proofs.Tryz.prog [0,4,6,7] default Trmm.tab 156 Go.Proofs.Tryz.f156 (bodyOf Go.Proofs.Tryz.f156) Trmm.a156=true:=by kernel_rfl
set_option maxRecDepth 1000000 in
theorem ok160:chkF Go.Proofs.Tryz.prog [0,4,6,7] default Trmm.tab 160 Go.Proofs.Tryz.f160 (bodyOf Go.Proofs.Tryz.f160) Trmm.a160=true:=by kernel_rfl
set_option maxRecDepth 1000000 in
theorem ok169:chkF Go.Proofs.Tryz.prog [0,4,6,7] default Trmm.tab 169 Go.Proofs.Tryz.f169 (bodyOf Go.Proofs.Tryz.f169) Trmm.a169=true:=by kernel_rfl
set_option maxRecDepth 1000000 in
theorem ok173:chkF Go.Proofs.Tryz.prog [0,4,6,7] default Trmm.tab 173 Go.Proofs.Tryz.f173 (bodyOf Go.Proofs.Tryz.f173) Trmm.a173=true:=by kernel_rfl
set_option maxRecDepth 1000000 in
theorem ok177:chkF Go.Proofs.Tryz.prog [0,4,6,7] default Trmm.tab 177 Go.Proofs.Tryz.f177 (bodyOf Go.Proofs.Tryz.f177) Trmm.a177=true:=by kernel_rfl
set_option maxRecDepth 1000000 in
theorem ok182:chkF Go.Proofs.Tryz.prog [0,4,6,7] default Trmm.tab 182 Go.Proofs.Tryz.f182 (bodyOf Go.Proofs.Tryz.f182) Trmm.a182=true:=by kernel_rfl
set_option maxRecDepth 1000000 in
theorem ok186:chkF Go.Proofs.Tryz.prog [0,4,6,7] default Trmm.tab 186 Go.Proofs.Tryz.f186 (bodyOf Go.Proofs.Tryz.f186) Trmm.a186=true:=by kernel_rfl
set_option maxRecDepth 1000000 in
theorem ok205:chkF Go.Proofs.Tryz.prog [0,4,6,7] default Trmm.tab 205 Go.Proofs.Tryz.f205 (bodyOf Go.Proofs.Tryz.f205) Trmm.a205=true:=by kernel_rfl
set_option maxRecDepth 1000000 in
theorem ok209:chkF Go.Proofs.Tryz.prog [0,4,6,7] default Trmm.tab 209 Go.Proofs.Tryz.f209 (bodyOf Go.Proofs.Tryz.f209) Trmm.a209=true:=by kernel_rfl
set_option maxRecDepth 1000000 in
theorem ok216:chkF Go.Proofs.Tryz.prog [0,4,6,7] default Trmm.tab 216 Go.Proofs.Tryz.f216 (bodyOf Go.Proofs.Tryz.f216) Trmm.a216=true:=by kernel_rfl
set_option maxRecDepth 1000000 in
theorem ok220:chkF Go.Proofs.Tryz.prog [0,4,6,7] default Trmm.tab 220 Go.Proofs.Tryz.f220 (bodyOf Go.Proofs.Tryz.f220) Trmm.a220=true:=by kernel_rfl
set_option maxRecDepth 1000000 in
theorem ok224:chkF Go.Proofs.Tryz.prog [0,4,6,7] default Trmm.tab 224 Go.Proofs.Tryz.f224 (bodyOf Go.Proofs.Tryz.f224) Trmm.a224=true:=by kernel_rfl
set_option maxRecDepth 1000000 in
theorem ok228:chkF Go.Proofs.Tryz.prog [0,4,6,7] default Trmm.tab 228 Go.Proofs.Tryz.f228 (bodyOf Go.Proofs.Tryz.f228) Trmm.a228=true:=by kernel_rfl
set_option maxRecDepth 1000000 in
theorem ok8:chkF Go.Proofs.Tryz.prog [0,4,6,7] default Trmm.tab 8 Go.Proofs.Tryz.f8 (bodyOf Go.Proofs.Tryz.f8) Trmm.a8=true:=by kernel_rfl
set_option maxRecDepth 1000000 in
theorem ok12:chkF Go.Proofs.Tryz.prog [0,4,6,7] default Trmm.tab 12 Go.Proofs.Tryz.f12 (bodyOf Go.Proofs.Tryz.f12) Trmm.a12=true:=by kernel_rfl
set_option maxRecDepth 1000000 in
theorem ok19:chkF Go.Proofs.Tryz.prog [0,4,6,7] default Trmm.tab 19 Go.Proofs.Tryz.f19 (bodyOf Go.Proofs.Tryz.f19) Trmm.a19=true:=by kernel_rfl
set_option maxRecDepth 1000000 in
theorem ok23:chkF Go.Proofs.Tryz.prog [0,4,6,7] default Trmm.tab 23 Go.Proofs.Tryz.f23 (bodyOf Go.Proofs.Tryz.f23) Trmm.a23=true:=by kernel_rfl
set_option maxRecDepth 1000000 in
theorem ok35:chkF Go.Proofs.Tryz.prog [0,4,6,7] default Trmm.tab 35 Go.Proofs.Tryz.f35 (bodyOf Go.Proofs.Tryz.f35) Trmm.a35=true:=by kernel_rfl
set_option maxRecDepth 1000000 in
theorem ok41:chkF Go.Proofs.Tryz.prog [0,4,6,7] default Trmm.tab 41 Go.Proofs.Tryz.f41 (bodyOf Go.Proofs.Tryz.f41) Trmm.a41=true:=by kernel_rfl
set_option maxRecDepth 1000000 in
theorem ok59:chkF Go.Proofs.Tryz.prog [0,4,6,7] default Trmm.tab 59 Go.Proofs.Tryz.f59 (bodyOf Go.Proofs.Tryz.f59) Trmm.a59=true:=by kernel_rfl
set_option maxRecDepth 1000000 in
theorem ok63:chkF Go.Proofs.Tryz.prog [0,4,6,7] default Trmm.tab 63 Go.Proofs.Tryz.f63 (bodyOf Go.Proofs.Tryz.f63) Trmm.a63=true:=by kernel_rfl
set_option maxRecDepth 1000000 in
theorem ok67:chkF Go.Proofs.Tryz.prog [0,4,6,7] default Trmm.tab 67 Go.Proofs.Tryz.f67 (bodyOf Go.Proofs.Tryz.f67) Trmm.a67=true:=by kernel_rfl
set_option maxRecDepth 1000000 in
theorem ok79:chkF Go.Proofs.Tryz.prog [0,4,6,7] default Trmm.tab 79 Go.Proofs.Tryz.f79 (bodyOf Go.Proofs.Tryz.f79) Trmm.a79=true:=by kernel_rfl
set_option maxRecDepth 1000000 in
theorem ok83:chkF Go.Proofs.Tryz.prog [0,4,6,7] default Trmm.tab 83 Go.Proofs.Tryz.f83 (bodyOf Go.Proofs.Tryz.f83) Trmm.a83=true:=by kernel_rfl
set_option maxRecDepth 1000000 in
theorem ok87:chkF Go.Proofs.Tryz.prog [0,4,6,7] default Trmm.tab 87 Go.Proofs.Tryz.f87 (bodyOf Go.Proofs.Tryz.f87) Trmm.a87=true:=by kernel_rfl
set_option maxRecDepth 1000000 in
theorem ok91:chkF Go.Proofs.Tryz.prog [0,4,6,7] default Trmm.tab 91 Go.Proofs.Tryz.f91 (bodyOf Go.Proofs.Tryz.f91) Trmm.a91=true:=by kernel_rfl
set_option maxRecDepth 1000000 in
theorem ok98:chkF Go.Proofs.Tryz.prog [0,4,6,7] default Trmm.tab 98 Go.Proofs.Tryz.f98 (bodyOf Go.Proofs.Tryz.f98) Trmm.a98=true:=by kernel_rfl
set_option maxRecDepth 1000000 in
theorem ok102:chkF Go.Proofs.Tryz.prog [0,4,6,7] default Trmm.tab 102 Go.Proofs.Tryz.f102 (bodyOf Go.Proofs.Tryz.f102) Trmm.a102=true:=by kernel_rfl
set_option maxRecDepth 1000000 in
theorem ok106:chkF Go.Proofs.Tryz.prog [0,4,6,7] default Trmm.tab 106 Go.Proofs.Tryz.f106 (bodyOf Go.Proofs.Tryz.f106) Trmm.a106=true:=by kernel_rfl
set_option maxRecDepth 1000000 in
theorem ok112:chkF Go.Proofs.Tryz.prog [0,4,6,7] default Trmm.tab 112 Go.Proofs.Tryz.f112 (bodyOf Go.Proofs.Tryz.f112) Trmm.a112=true:=by kernel_rfl
set_option maxRecDepth 1000000 in
theorem ok116:chkF Go.Proofs.Tryz.prog [0,4,6,7] default Trmm.tab 116 Go.Proofs.Tryz.f116 (bodyOf Go.Proofs.Tryz.f116) Trmm.a116=true:=by kernel_rfl
set_option maxRecDepth 1000000 in
theorem ok120:chkF Go.Proofs.Tryz.prog [0,4,6,7] default Trmm.tab 120 Go.Proofs.Tryz.f120 (bodyOf Go.Proofs.Tryz.f120) Trmm.a120=true:=by kernel_rfl
set_option maxRecDepth 1000000 in
theorem ok124:chkF Go.Proofs.Tryz.prog [0,4,6,7] default Trmm.tab 124 Go.Proofs.Tryz.f124 (bodyOf Go.Proofs.Tryz.f124) Trmm.a124=true:=by kernel_rfl
set_option maxRecDepth 1000000 in
theorem ok133:chkF Go.Proofs.Tryz.prog [0,4,6,7] default Trmm.tab 133 Go.Proofs.Tryz.f133 (bodyOf Go.Proofs.Tryz.f133) Trmm.a133=true:=by kernel_rfl
set_option maxRecDepth 1000000 in
theorem ok137:chkF Go.Proofs.Tryz.prog [0,4,6,7] default Trmm.tab 137 Go.Proofs.Tryz.f137 (bodyOf Go.Proofs.Tryz.f137) Trmm.a137=true:=by kernel_rfl
set_option maxRecDepth 1000000 in
theorem ok141:chkF Go.Proofs.Tryz.prog [0,4,6,7] default Trmm.tab 141 Go.Proofs.Tryz.f141 (bodyOf Go.Proofs.Tryz.f141) Trmm.a141=true:=by kernel_rfl
set_option maxRecDepth 1000000 in
theorem ok145:chkF Go.Proofs.Tryz.prog [0,4,6,7] default Trmm.tab 145 Go.Proofs.Tryz.f145 (bodyOf Go.Proofs.Tryz.f145) Trmm.a145=true:=by kernel_rfl
set_option maxRecDepth 1000000 in
theorem ok149:chkF Go.Proofs.Tryz.prog [0,4,6,7] default Trmm.tab 149 Go.Proofs.Tryz.f149 (bodyOf Go.Proofs.Tryz.f149) Trmm.a149=true:=by kernel_rfl
set_option maxRecDepth 1000000 in
theorem ok157:chkF Go.Proofs.Tryz.prog [0,4,6,7] default Trmm.tab 157 Go.Proofs.Tryz.f157 (bodyOf Go.Proofs.Tryz.f157) Trmm.a157=true:=by kernel_rfl
set_option maxRecDepth 1000000 in
theorem ok161:chkF Go.Proofs.Tryz.prog [0,4,6,7] default Trmm.tab 161 Go.Proofs.Tryz.f161 (bodyOf Go.Proofs.Tryz.f161) Trmm.a161=true:=by kernel_rfl
set_option maxRecDepth 1000000 in
theorem ok170:chkF Go.Proofs.Tryz.prog [0,4,6,7] default Trmm.tab 170 Go.Proofs.Tryz.f170 (bodyOf Go.Proofs.Tryz.f170) Trmm.a170=true:=by kernel_rfl
set_option maxRecDepth 1000000 in
theorem ok174:chkF Go.Proofs.Tryz.prog [0,4,6,7] default Trmm.tab 174 Go.Proofs.Tryz.f174 (bodyOf Go.Proofs.Tryz.f174) Trmm.a174=true:=by kernel_rfl
set_option maxRecDepth 1000000 in
theorem ok178:chkF Go.Proofs.Tryz.prog [0,4,6,7] default Trmm.tab 178 Go.Proofs.Tryz.f178 (bodyOf Go.Proofs.Tryz.f178) Trmm.a178=true:=by kernel_rfl
set_option maxRecDepth 1000000 in
theorem ok183:chkF Go.Proofs.Tryz.prog [0,4,6,7] default Trmm.tab 183 Go.Proofs.Tryz.f183 (bodyOf Go.Proofs.Tryz.f183) Trmm.a183=true:=by kernel_rfl
set_option maxRecDepth 1000000 in
theorem ok187:chkF Go.Proofs.Tryz.prog [0,4,6,7] default Trmm.tab 187 Go.Proofs.Tryz.f187 (bodyOf Go.Proofs.Tryz.f187) Trmm.a187=true:=by kernel_rfl
set_option maxRecDepth 1000000 in
theorem ok206:chkF Go.Proofs.Tryz.prog [0,4,6,7] default Trmm.tab 206 Go.Proofs.Tryz.f206 (bodyOf Go.Proofs.Tryz.f206) Trmm.a206=true:=by kernel_rfl
set_option maxRecDepth 1000000 in
theorem ok210:chkF Go.Proofs.Tryz.prog [0,4,6,7] default Trmm.tab 210 Go.Proofs.Tryz.f210 (bodyOf Go.Proofs.Tryz.f210) Trmm.a210=true:=by kernel_rfl
set_option maxRecDepth 1000000 in
theorem ok217:chkF Go.Proofs.Tryz.prog [0,4,6,7] default Trmm.tab 217 Go.Proofs.Tryz.f217 (bodyOf Go.Proofs.Tryz.f217) Trmm.a217=true:=by kernel_rfl
set_option maxRecDepth 1000000 in
theorem ok221:chkF Go.Proofs.Tryz.prog [0,4,6,7] default Trmm.tab 221 Go.Proofs.Tryz.f221 (bodyOf Go.Proofs.Tryz.f221) Trmm.a221=true:=by kernel_rfl
set_option maxRecDepth 1000000 in
theorem ok225:chkF Go.Proofs.Tryz.prog [0,4,6,7] default Trmm.tab 225 Go.Proofs.Tryz.f225 (bodyOf Go.Proofs.Tryz.f225) Trmm.a225=true:=by kernel_rfl
set_option maxRecDepth 1000000 in
theorem ok229:chkF Go.Proofs.Tryz.prog [0,4,6,7] default Trmm.tab 229 Go.Proofs.Tryz.f229 (bodyOf Go.Proofs.Tryz.f229) Trmm.a229=true:=by kernel_rfl
theorem fn_ok {f:Nat} {fn:Func} {af:AFunc} (h0:Go.Proofs.Tryz.prog.funcs[f]?=some fn) (h1:fn.body.isSome=true) (h2:chkF Go.Proofs.Tryz.prog [0,4,6,7] default Trmm.tab f fn (bodyOf fn) af=true) (h3:af.ins.isEmpty=true) :
  if af.ins.isEmpty then ∃ fn code,Go.Proofs.Tryz.prog.funcs[f]?=some fn∧fn.body=some code∧chkF Go.Proofs.Tryz.prog [0,4,6,7] default Trmm.tab f fn code af=true else chkY Go.Proofs.Tryz.prog [0,4,6,7] default Trmm.tab f af=true:=by
 rw [if_pos h3]
 obtain ⟨c,hc⟩:=Option.isSome_iff_exists.1 h1
 refine ⟨fn,c,h0,hc,?_⟩
 simpa [bodyOf,hc] using h2
theorem rnd_ok {f:Nat} {af:AFunc} (h2:chkY Go.Proofs.Tryz.prog [0,4,6,7] default Trmm.tab f af=true) (h3:af.ins.isEmpty=false) :
  if af.ins.isEmpty then ∃ fn code,Go.Proofs.Tryz.prog.funcs[f]?=some fn∧fn.body=some code∧chkF Go.Proofs.Tryz.prog [0,4,6,7] default Trmm.tab f fn code af=true else chkY Go.Proofs.Tryz.prog [0,4,6,7] default Trmm.tab f af=true:=by
 rw [if_neg (by simp [h3])]
 exact h2
set_option maxRecDepth 100000 in
theorem prog_ok0 {f:Nat} {af:AFunc} (h:Trmm.aprog0 f=some af):if af.ins.isEmpty then ∃ fn code,Go.Proofs.Tryz.prog.funcs[f]?=some fn∧fn.body=some code∧chkF Go.Proofs.Tryz.prog [0,4,6,7] default Trmm.tab f fn code af=true else chkY Go.Proofs.Tryz.prog [0,4,6,7] default Trmm.tab f af=true:=by
 unfold Trmm.aprog0 at h
 split at h
 ·cases h; exact fn_ok Go.Proofs.Tryz.func3 (by kernel_rfl) ok3 rfl
 ·cases h; exact fn_ok Go.Proofs.Tryz.func6 (by kernel_rfl) ok6 rfl
 ·cases h; exact fn_ok Go.Proofs.Tryz.func7 (by kernel_rfl) ok7 rfl
 ·cases h; exact fn_ok Go.Proofs.Tryz.func8 (by kernel_rfl) ok8 rfl
 ·cases h; exact fn_ok Go.Proofs.Tryz.func9 (by kernel_rfl) ok9 rfl
 ·cases h; exact fn_ok Go.Proofs.Tryz.func10 (by kernel_rfl) ok10 rfl
 ·cases h; exact fn_ok Go.Proofs.Tryz.func11 (by kernel_rfl) ok11 rfl
 ·cases h; exact fn_ok Go.Proofs.Tryz.func12 (by kernel_rfl) ok12 rfl
 ·cases h; exact fn_ok Go.Proofs.Tryz.func13 (by kernel_rfl) ok13 rfl
 ·cases h; exact fn_ok Go.Proofs.Tryz.func15 (by kernel_rfl) ok15 rfl
 ·cases h; exact fn_ok Go.Proofs.Tryz.func16 (by kernel_rfl) ok16 rfl
 ·cases h; exact fn_ok Go.Proofs.Tryz.func19 (by kernel_rfl) ok19 rfl
 ·cases h; exact fn_ok Go.Proofs.Tryz.func20 (by kernel_rfl) ok20 rfl
 ·cases h; exact fn_ok Go.Proofs.Tryz.func21 (by kernel_rfl) ok21 rfl
 ·cases h; exact fn_ok Go.Proofs.Tryz.func22 (by kernel_rfl) ok22 rfl
 ·cases h; exact fn_ok Go.Proofs.Tryz.func23 (by kernel_rfl) ok23 rfl
 ·cases h; exact fn_ok Go.Proofs.Tryz.func24 (by kernel_rfl) ok24 rfl
 ·cases h; exact fn_ok Go.Proofs.Tryz.func25 (by kernel_rfl) ok25 rfl
 ·cases h; exact fn_ok Go.Proofs.Tryz.func34 (by kernel_rfl) ok34 rfl
 ·cases h; exact fn_ok Go.Proofs.Tryz.func35 (by kernel_rfl) ok35 rfl
 ·cases h; exact fn_ok Go.Proofs.Tryz.func36 (by kernel_rfl) ok36 rfl
 ·cases h; exact fn_ok Go.Proofs.Tryz.func38 (by kernel_rfl) ok38 rfl
 ·cases h; exact fn_ok Go.Proofs.Tryz.func39 (by kernel_rfl) ok39 rfl
 ·cases h; exact fn_ok Go.Proofs.Tryz.func41 (by kernel_rfl) ok41 rfl
 ·cases h; exact fn_ok Go.Proofs.Tryz.func42 (by kernel_rfl) ok42 rfl
 ·cases h; exact fn_ok Go.Proofs.Tryz.func57 (by kernel_rfl) ok57 rfl
 ·cases h; exact fn_ok Go.Proofs.Tryz.func58 (by kernel_rfl) ok58 rfl
 ·cases h; exact fn_ok Go.Proofs.Tryz.func59 (by kernel_rfl) ok59 rfl
 ·cases h; exact fn_ok Go.Proofs.Tryz.func60 (by kernel_rfl) ok60 rfl
 ·cases h; exact fn_ok Go.Proofs.Tryz.func61 (by kernel_rfl) ok61 rfl
 ·cases h; exact fn_ok Go.Proofs.Tryz.func62 (by kernel_rfl) ok62 rfl
 ·cases h; exact fn_ok Go.Proofs.Tryz.func63 (by kernel_rfl) ok63 rfl
 ·cases h; exact fn_ok Go.Proofs.Tryz.func64 (by kernel_rfl) ok64 rfl
 ·cases h; exact fn_ok Go.Proofs.Tryz.func65 (by kernel_rfl) ok65 rfl
 ·cases h; exact fn_ok Go.Proofs.Tryz.func66 (by kernel_rfl) ok66 rfl
 ·cases h; exact fn_ok Go.Proofs.Tryz.func67 (by kernel_rfl) ok67 rfl
 ·cases h; exact fn_ok Go.Proofs.Tryz.func68 (by kernel_rfl) ok68 rfl
 ·cases h; exact fn_ok Go.Proofs.Tryz.func69 (by kernel_rfl) ok69 rfl
 ·cases h; exact fn_ok Go.Proofs.Tryz.func78 (by kernel_rfl) ok78 rfl
 ·cases h; exact fn_ok Go.Proofs.Tryz.func79 (by kernel_rfl) ok79 rfl
 ·cases h; exact fn_ok Go.Proofs.Tryz.func80 (by kernel_rfl) ok80 rfl
 ·cases h; exact fn_ok Go.Proofs.Tryz.func81 (by kernel_rfl) ok81 rfl
 ·cases h; exact fn_ok Go.Proofs.Tryz.func82 (by kernel_rfl) ok82 rfl
 ·cases h; exact fn_ok Go.Proofs.Tryz.func83 (by kernel_rfl) ok83 rfl
 ·cases h; exact fn_ok Go.Proofs.Tryz.func84 (by kernel_rfl) ok84 rfl
 ·cases h; exact fn_ok Go.Proofs.Tryz.func85 (by kernel_rfl) ok85 rfl
 ·cases h; exact fn_ok Go.Proofs.Tryz.func86 (by kernel_rfl) ok86 rfl
 ·cases h; exact fn_ok Go.Proofs.Tryz.func87 (by kernel_rfl) ok87 rfl
 ·cases h; exact fn_ok Go.Proofs.Tryz.func88 (by kernel_rfl) ok88 rfl
 ·cases h; exact fn_ok Go.Proofs.Tryz.func89 (by kernel_rfl) ok89 rfl
 ·cases h; exact fn_ok Go.Proofs.Tryz.func90 (by kernel_rfl) ok90 rfl
 ·cases h; exact fn_ok Go.Proofs.Tryz.func91 (by kernel_rfl) ok91 rfl
 ·cases h; exact fn_ok Go.Proofs.Tryz.func92 (by kernel_rfl) ok92 rfl
 ·cases h; exact fn_ok Go.Proofs.Tryz.func93 (by kernel_rfl) ok93 rfl
 ·cases h; exact fn_ok Go.Proofs.Tryz.func94 (by kernel_rfl) ok94 rfl
 ·cases h; exact fn_ok Go.Proofs.Tryz.func98 (by kernel_rfl) ok98 rfl
 ·cases h; exact fn_ok Go.Proofs.Tryz.func99 (by kernel_rfl) ok99 rfl
 ·cases h; exact fn_ok Go.Proofs.Tryz.func100 (by kernel_rfl) ok100 rfl
 ·cases h; exact fn_ok Go.Proofs.Tryz.func101 (by kernel_rfl) ok101 rfl
 ·cases h; exact fn_ok Go.Proofs.Tryz.func102 (by kernel_rfl) ok102 rfl
 ·cases h
set_option maxRecDepth 100000 in
theorem prog_ok1 {f:Nat} {af:AFunc} (h:Trmm.aprog1 f=some af):if af.ins.isEmpty then ∃ fn code,Go.Proofs.Tryz.prog.funcs[f]?=some fn∧fn.body=some code∧chkF Go.Proofs.Tryz.prog [0,4,6,7] default Trmm.tab f fn code af=true else chkY Go.Proofs.Tryz.prog [0,4,6,7] default Trmm.tab f af=true:=by
 unfold Trmm.aprog1 at h
 split at h
 ·cases h; exact fn_ok Go.Proofs.Tryz.func103 (by kernel_rfl) ok103 rfl
 ·cases h; exact fn_ok Go.Proofs.Tryz.func104 (by kernel_rfl) ok104 rfl
 ·cases h; exact fn_ok Go.Proofs.Tryz.func105 (by kernel_rfl) ok105 rfl
 ·cases h; exact fn_ok Go.Proofs.Tryz.func106 (by kernel_rfl) ok106 rfl
 ·cases h; exact fn_ok Go.Proofs.Tryz.func107 (by kernel_rfl) ok107 rfl
 ·cases h; exact fn_ok Go.Proofs.Tryz.func108 (by kernel_rfl) ok108 rfl
 ·cases h; exact fn_ok Go.Proofs.Tryz.func111 (by kernel_rfl) ok111 rfl
 ·cases h; exact fn_ok Go.Proofs.Tryz.func112 (by kernel_rfl) ok112 rfl
 ·cases h; exact fn_ok Go.Proofs.Tryz.func113 (by kernel_rfl) ok113 rfl
 ·cases h; exact fn_ok Go.Proofs.Tryz.func114 (by kernel_rfl) ok114 rfl
 ·cases h; exact fn_ok Go.Proofs.Tryz.func115 (by kernel_rfl) ok115 rfl
 ·cases h; exact fn_ok Go.Proofs.Tryz.func116 (by kernel_rfl) ok116 rfl
 ·cases h; exact fn_ok Go.Proofs.Tryz.func117 (by kernel_rfl) ok117 rfl
 ·cases h; exact fn_ok Go.Proofs.Tryz.func118 (by kernel_rfl) ok118 rfl
 ·cases h; exact fn_ok Go.Proofs.Tryz.func119 (by kernel_rfl) ok119 rfl
 ·cases h; exact fn_ok Go.Proofs.Tryz.func120 (by kernel_rfl) ok120 rfl
 ·cases h; exact fn_ok Go.Proofs.Tryz.func121 (by kernel_rfl) ok121 rfl
 ·cases h; exact fn_ok Go.Proofs.Tryz.func122 (by kernel_rfl) ok122 rfl
 ·cases h; exact fn_ok Go.Proofs.Tryz.func123 (by kernel_rfl) ok123 rfl
 ·cases h; exact fn_ok Go.Proofs.Tryz.func124 (by kernel_rfl) ok124 rfl
 ·cases h; exact fn_ok Go.Proofs.Tryz.func125 (by kernel_rfl) ok125 rfl
 ·cases h; exact fn_ok Go.Proofs.Tryz.func126 (by kernel_rfl) ok126 rfl
 ·cases h; exact fn_ok Go.Proofs.Tryz.func132 (by kernel_rfl) ok132 rfl
 ·cases h; exact fn_ok Go.Proofs.Tryz.func133 (by kernel_rfl) ok133 rfl
 ·cases h; exact fn_ok Go.Proofs.Tryz.func134 (by kernel_rfl) ok134 rfl
 ·cases h; exact fn_ok Go.Proofs.Tryz.func135 (by kernel_rfl) ok135 rfl
 ·cases h; exact fn_ok Go.Proofs.Tryz.func136 (by kernel_rfl) ok136 rfl
 ·cases h; exact fn_ok Go.Proofs.Tryz.func137 (by kernel_rfl) ok137 rfl
 ·cases h; exact fn_ok Go.Proofs.Tryz.func138 (by kernel_rfl) ok138 rfl
 ·cases h; exact fn_ok Go.Proofs.Tryz.func139 (by kernel_rfl) ok139 rfl
 ·cases h; exact fn_ok Go.Proofs.Tryz.func140 (by kernel_rfl) ok140 rfl
 ·cases h; exact fn_ok Go.Proofs.Tryz.func141 (by kernel_rfl) ok141 rfl
 ·cases h; exact fn_ok Go.Proofs.Tryz.func142 (by kernel_rfl) ok142 rfl
 ·cases h; exact fn_ok Go.Proofs.Tryz.func143 (by kernel_rfl) ok143 rfl
 ·cases h; exact fn_ok Go.Proofs.Tryz.func144 (by kernel_rfl) ok144 rfl
 ·cases h; exact fn_ok Go.Proofs.Tryz.func145 (by kernel_rfl) ok145 rfl
 ·cases h; exact fn_ok Go.Proofs.Tryz.func146 (by kernel_rfl) ok146 rfl
 ·cases h; exact fn_ok Go.Proofs.Tryz.func147 (by kernel_rfl) ok147 rfl
 ·cases h; exact fn_ok Go.Proofs.Tryz.func148 (by kernel_rfl) ok148 rfl
 ·cases h; exact fn_ok Go.Proofs.Tryz.func149 (by kernel_rfl) ok149 rfl
 ·cases h; exact fn_ok Go.Proofs.Tryz.func150 (by kernel_rfl) ok150 rfl
 ·cases h; exact fn_ok Go.Proofs.Tryz.func151 (by kernel_rfl) ok151 rfl
 ·cases h; exact fn_ok Go.Proofs.Tryz.func156 (by kernel_rfl) ok156 rfl
 ·cases h; exact fn_ok Go.Proofs.Tryz.func157 (by kernel_rfl) ok157 rfl
 ·cases h; exact fn_ok Go.Proofs.Tryz.func158 (by kernel_rfl) ok158 rfl
 ·cases h; exact fn_ok Go.Proofs.Tryz.func159 (by kernel_rfl) ok159 rfl
 ·cases h; exact fn_ok Go.Proofs.Tryz.func160 (by kernel_rfl) ok160 rfl
 ·cases h; exact fn_ok Go.Proofs.Tryz.func161 (by kernel_rfl) ok161 rfl
 ·cases h; exact fn_ok Go.Proofs.Tryz.func162 (by kernel_rfl) ok162 rfl
 ·cases h; exact fn_ok Go.Proofs.Tryz.func168 (by kernel_rfl) ok168 rfl
 ·cases h; exact fn_ok Go.Proofs.Tryz.func169 (by kernel_rfl) ok169 rfl
 ·cases h; exact fn_ok Go.Proofs.Tryz.func170 (by kernel_rfl) ok170 rfl
 ·cases h; exact fn_ok Go.Proofs.Tryz.func171 (by kernel_rfl) ok171 rfl
 ·cases h; exact fn_ok Go.Proofs.Tryz.func172 (by kernel_rfl) ok172 rfl
 ·cases h; exact fn_ok Go.Proofs.Tryz.func173 (by kernel_rfl) ok173 rfl
 ·cases h; exact fn_ok Go.Proofs.Tryz.func174 (by kernel_rfl) ok174 rfl
 ·cases h; exact fn_ok Go.Proofs.Tryz.func175 (by kernel_rfl) ok175 rfl
 ·cases h; exact fn_ok Go.Proofs.Tryz.func176 (by kernel_rfl) ok176 rfl
 ·cases h; exact fn_ok Go.Proofs.Tryz.func177 (by kernel_rfl) ok177 rfl
 ·cases h; exact fn_ok Go.Proofs.Tryz.func178 (by kernel_rfl) ok178 rfl
 ·cases h
set_option maxRecDepth 100000 in
theorem prog_ok2 {f:Nat} {af:AFunc} (h:Trmm.aprog2 f=some af):if af.ins.isEmpty then ∃ fn code,Go.Proofs.Tryz.prog.funcs[f]?=some fn∧fn.body=some code∧chkF Go.Proofs.Tryz.prog [0,4,6,7] default Trmm.tab f fn code af=true else chkY Go.Proofs.Tryz.prog [0,4,6,7] default Trmm.tab f af=true:=by
 unfold Trmm.aprog2 at h
 split at h
 ·cases h; exact fn_ok Go.Proofs.Tryz.func180 (by kernel_rfl) ok180 rfl
 ·cases h; exact fn_ok Go.Proofs.Tryz.func181 (by kernel_rfl) ok181 rfl
 ·cases h; exact fn_ok Go.Proofs.Tryz.func182 (by kernel_rfl) ok182 rfl
 ·cases h; exact fn_ok Go.Proofs.Tryz.func183 (by kernel_rfl) ok183 rfl
 ·cases h; exact fn_ok Go.Proofs.Tryz.func184 (by kernel_rfl) ok184 rfl
 ·cases h; exact fn_ok Go.Proofs.Tryz.func185 (by kernel_rfl) ok185 rfl
 ·cases h; exact fn_ok Go.Proofs.Tryz.func186 (by kernel_rfl) ok186 rfl
 ·cases h; exact fn_ok Go.Proofs.Tryz.func187 (by kernel_rfl) ok187 rfl
 ·cases h; exact fn_ok Go.Proofs.Tryz.func203 (by kernel_rfl) ok203 rfl
 ·cases h; exact fn_ok Go.Proofs.Tryz.func204 (by kernel_rfl) ok204 rfl
 ·cases h; exact fn_ok Go.Proofs.Tryz.func205 (by kernel_rfl) ok205 rfl
 ·cases h; exact fn_ok Go.Proofs.Tryz.func206 (by kernel_rfl) ok206 rfl
 ·cases h; exact fn_ok Go.Proofs.Tryz.func207 (by kernel_rfl) ok207 rfl
 ·cases h; exact fn_ok Go.Proofs.Tryz.func208 (by kernel_rfl) ok208 rfl
 ·cases h; exact fn_ok Go.Proofs.Tryz.func209 (by kernel_rfl) ok209 rfl
 ·cases h; exact fn_ok Go.Proofs.Tryz.func210 (by kernel_rfl) ok210 rfl
 ·cases h; exact fn_ok Go.Proofs.Tryz.func211 (by kernel_rfl) ok211 rfl
 ·cases h; exact fn_ok Go.Proofs.Tryz.func212 (by kernel_rfl) ok212 rfl
 ·cases h; exact fn_ok Go.Proofs.Tryz.func216 (by kernel_rfl) ok216 rfl
 ·cases h; exact fn_ok Go.Proofs.Tryz.func217 (by kernel_rfl) ok217 rfl
 ·cases h; exact fn_ok Go.Proofs.Tryz.func218 (by kernel_rfl) ok218 rfl
 ·cases h; exact fn_ok Go.Proofs.Tryz.func219 (by kernel_rfl) ok219 rfl
 ·cases h; exact fn_ok Go.Proofs.Tryz.func220 (by kernel_rfl) ok220 rfl
 ·cases h; exact fn_ok Go.Proofs.Tryz.func221 (by kernel_rfl) ok221 rfl
 ·cases h; exact fn_ok Go.Proofs.Tryz.func222 (by kernel_rfl) ok222 rfl
 ·cases h; exact fn_ok Go.Proofs.Tryz.func223 (by kernel_rfl) ok223 rfl
 ·cases h; exact fn_ok Go.Proofs.Tryz.func224 (by kernel_rfl) ok224 rfl
 ·cases h; exact fn_ok Go.Proofs.Tryz.func225 (by kernel_rfl) ok225 rfl
 ·cases h; exact fn_ok Go.Proofs.Tryz.func226 (by kernel_rfl) ok226 rfl
 ·cases h; exact fn_ok Go.Proofs.Tryz.func227 (by kernel_rfl) ok227 rfl
 ·cases h; exact fn_ok Go.Proofs.Tryz.func228 (by kernel_rfl) ok228 rfl
 ·cases h; exact fn_ok Go.Proofs.Tryz.func229 (by kernel_rfl) ok229 rfl
 ·cases h; exact rnd_ok ok11230 rfl
 ·cases h; exact rnd_ok ok11720 rfl
 ·cases h
theorem prog_ok:ProgOK Go.Proofs.Tryz.prog [0,4,6,7] default Trmm.tab Trmm.aprog:=by
 intro f af h
 unfold Trmm.aprog at h
 split at h
 ·rename_i x e; cases h; exact prog_ok0 e
 split at h
 ·rename_i x e; cases h; exact prog_ok1 e
 exact prog_ok2 h
end Go.Proofs.Mm
