/- A part of the law's proof: Chk. -/
import Derived.Test.YtlgehpjbhijknaaGreatDoorRows
import Derived.Test.YtlgehpjbhijknaaGreatDoorCoreD
import Derived.Test.YtlgehpjbhijknaaGreatDoorFn
import Derived.KernelRfl
set_option linter.unusedVariables false
set_option linter.unusedSimpArgs false
namespace Go.Proofs.Nst
open Go Go.Am
noncomputable def bodyOf (f:Func):Code:=f.body.getD .skip
set_option maxRecDepth 1000000 in
theorem ok8:chkF Go.Proofs.Tryz.prog [0,1,2] default Trnz.tab 8 Go.Proofs.Tryz.f8 (bodyOf Go.Proofs.Tryz.f8) Trnz.a8=true:=by kernel_rfl
set_option maxRecDepth 1000000 in
theorem ok12:chkF Go.Proofs.Tryz.prog [0,1,2] default Trnz.tab 12 Go.Proofs.Tryz.f12 (bodyOf Go.Proofs.Tryz.f12) Trnz.a12=true:=by kernel_rfl
set_option maxRecDepth 1000000 in
theorem ok16:chkF Go.Proofs.Tryz.prog [0,1,2] default Trnz.tab 16 Go.Proofs.Tryz.f16 (bodyOf Go.Proofs.Tryz.f16) Trnz.a16=true:=by kernel_rfl
set_option maxRecDepth 1000000 in
theorem ok20:chkF Go.Proofs.Tryz.prog [0,1,2] default Trnz.tab 20 Go.Proofs.Tryz.f20 (bodyOf Go.Proofs.Tryz.f20) Trnz.a20=true:=by kernel_rfl
set_option maxRecDepth 1000000 in
theorem ok32:chkF Go.Proofs.Tryz.prog [0,1,2] default Trnz.tab 32 Go.Proofs.Tryz.f32 (bodyOf Go.Proofs.Tryz.f32) Trnz.a32=true:=by kernel_rfl
set_option maxRecDepth 1000000 in
theorem ok36:chkF Go.Proofs.Tryz.prog [0,1,2] default Trnz.tab 36 Go.Proofs.Tryz.f36 (bodyOf Go.Proofs.Tryz.f36) Trnz.a36=true:=by kernel_rfl
set_option maxRecDepth 1000000 in
theorem ok40:chkF Go.Proofs.Tryz.prog [0,1,2] default Trnz.tab 40 Go.Proofs.Tryz.f40 (bodyOf Go.Proofs.Tryz.f40) Trnz.a40=true:=by kernel_rfl
set_option maxRecDepth 1000000 in
theorem ok44:chkF Go.Proofs.Tryz.prog [0,1,2] default Trnz.tab 44 Go.Proofs.Tryz.f44 (bodyOf Go.Proofs.Tryz.f44) Trnz.a44=true:=by kernel_rfl
set_option maxRecDepth 1000000 in
theorem ok48:chkF Go.Proofs.Tryz.prog [0,1,2] default Trnz.tab 48 Go.Proofs.Tryz.f48 (bodyOf Go.Proofs.Tryz.f48) Trnz.a48=true:=by kernel_rfl
set_option maxRecDepth 1000000 in
theorem ok52:chkF Go.Proofs.Tryz.prog [0,1,2] default Trnz.tab 52 Go.Proofs.Tryz.f52 (bodyOf Go.Proofs.Tryz.f52) Trnz.a52=true:=by kernel_rfl
set_option maxRecDepth 1000000 in
theorem ok56:chkF Go.Proofs.Tryz.prog [0,1,2] default Trnz.tab 56 Go.Proofs.Tryz.f56 (bodyOf Go.Proofs.Tryz.f56) Trnz.a56=true:=by kernel_rfl
set_option maxRecDepth 1000000 in
theorem ok60:chkF Go.Proofs.Tryz.prog [0,1,2] default Trnz.tab 60 Go.Proofs.Tryz.f60 (bodyOf Go.Proofs.Tryz.f60) Trnz.a60=true:=by kernel_rfl
set_option maxRecDepth 1000000 in
theorem ok64:chkF Go.Proofs.Tryz.prog [0,1,2] default Trnz.tab 64 Go.Proofs.Tryz.f64 (bodyOf Go.Proofs.Tryz.f64) Trnz.a64=true:=by kernel_rfl
set_option maxRecDepth 1000000 in
theorem ok68:chkF Go.Proofs.Tryz.prog [0,1,2] default Trnz.tab 68 Go.Proofs.Tryz.f68 (bodyOf Go.Proofs.Tryz.f68) Trnz.a68=true:=by kernel_rfl
set_option maxRecDepth 1000000 in
theorem ok72:chkF Go.Proofs.Tryz.prog [0,1,2] default Trnz.tab 72 Go.Proofs.Tryz.f72 (bodyOf Go.Proofs.Tryz.f72) Trnz.a72=true:=by kernel_rfl
set_option maxRecDepth 1000000 in
theorem ok84:chkF Go.Proofs.Tryz.prog [0,1,2] default Trnz.tab 84 Go.Proofs.Tryz.f84 (bodyOf Go.Proofs.Tryz.f84) Trnz.a84=true:=by kernel_rfl
set_option maxRecDepth 1000000 in
theorem ok88:chkF Go.Proofs.Tryz.prog [0,1,2] default Trnz.tab 88 Go.Proofs.Tryz.f88 (bodyOf Go.Proofs.Tryz.f88) Trnz.a88=true:=by kernel_rfl
set_option maxRecDepth 1000000 in
theorem ok92:chkF Go.Proofs.Tryz.prog [0,1,2] default Trnz.tab 92 Go.Proofs.Tryz.f92 (bodyOf Go.Proofs.Tryz.f92) Trnz.a92=true:=by kernel_rfl
set_option maxRecDepth 1000000 in
theorem ok96:chkF Go.Proofs.Tryz.prog [0,1,2] default Trnz.tab 96 Go.Proofs.Tryz.f96 (bodyOf Go.Proofs.Tryz.f96) Trnz.a96=true:=by kernel_rfl
set_option maxRecDepth 1000000 in
theorem ok100:chkF Go.Proofs.Tryz.prog [0,1,2] default Trnz.tab 100 Go.Proofs.Tryz.f100 (bodyOf Go.Proofs.Tryz.f100) Trnz.a100=true:=by kernel_rfl
set_option maxRecDepth 1000000 in
theorem ok104:chkF Go.Proofs.Tryz.prog [0,1,2] default Trnz.tab 104 Go.Proofs.Tryz.f104 (bodyOf Go.Proofs.Tryz.f104) Trnz.a104=true:=by kernel_rfl
set_option maxRecDepth 1000000 in
theorem ok108:chkF Go.Proofs.Tryz.prog [0,1,2] default Trnz.tab 108 Go.Proofs.Tryz.f108 (bodyOf Go.Proofs.Tryz.f108) Trnz.a108=true:=by kernel_rfl
set_option maxRecDepth 1000000 in
theorem ok116:chkF Go.Proofs.Tryz.prog [0,1,2] default Trnz.tab 116 Go.Proofs.Tryz.f116 (bodyOf Go.Proofs.Tryz.f116) Trnz.a116=true:=by kernel_rfl
set_option maxRecDepth 1000000 in
theorem ok120:chkF Go.Proofs.Tryz.prog [0,1,2] default Trnz.tab 120 Go.Proofs.Tryz.f120 (bodyOf Go.Proofs.Tryz.f120) Trnz.a120=true:=by kernel_rfl
set_option maxRecDepth 1000000 in
theorem ok124:chkF Go.Proofs.Tryz.prog [0,1,2] default Trnz.tab 124 Go.Proofs.Tryz.f124 (bodyOf Go.Proofs.Tryz.f124) Trnz.a124=true:=by kernel_rfl
set_option maxRecDepth 1000000 in
theorem ok128:chkF Go.Proofs.Tryz.prog [0,1,2] default Trnz.tab 128 Go.Proofs.Tryz.f128 (bodyOf Go.Proofs.Tryz.f128) Trnz.a128=true:=by kernel_rfl
set_option maxRecDepth 1000000 in
theorem ok132:chkF Go.Proofs.Tryz.prog [0,1,2] default Trnz.tab 132 Go.Proofs.Tryz.f132 (bodyOf Go.Proofs.Tryz.f132) Trnz.a132=true:=by kernel_rfl
set_option maxRecDepth 1000000 in
theorem ok278:chkF Go.Proofs.Tryz.prog [0,1,2] default Trnz.tab 278 Go.Proofs.Tryz.f278 (bodyOf Go.Proofs.Tryz.f278) Trnz.a278=true:=by kernel_rfl
theorem ok10500:chkY Go.Proofs.Tryz.prog [0,1,2] default Trnz.tab 10500 Trnz.a10500=true:=by kernel_rfl
set_option maxRecDepth 1000000 in
theorem ok4:chkF Go.Proofs.Tryz.prog [0,1,2] default Trnz.tab 4 Go.Proofs.Tryz.f4 (bodyOf Go.Proofs.Tryz.f4) Trnz.a4=true:=by kernel_rfl
set_option maxRecDepth 1000000 in
theorem ok9:chkF Go.Proofs.Tryz.prog [0,1,2] default Trnz.tab 9 Go.Proofs.Tryz.f9 (bodyOf Go.Proofs.Tryz.f9) Trnz.a9=true:=by kernel_rfl
set_option maxRecDepth 1000000 in
theorem ok13:chkF Go.Proofs.Tryz.prog [0,1,2] default Trnz.tab 13 Go.Proofs.Tryz.f13 (bodyOf Go.Proofs.Tryz.f13) Trnz.a13=true:=by kernel_rfl
set_option maxRecDepth 1000000 in
theorem ok17:chkF Go.Proofs.Tryz.prog [0,1,2] default Trnz.tab 17 Go.Proofs.Tryz.f17 (bodyOf Go.Proofs.Tryz.f17) Trnz.a17=true:=by kernel_rfl
set_option maxRecDepth 1000000 in
theorem ok29:chkF Go.Proofs.Tryz.prog [0,1,2] default Trnz.tab 29 Go.Proofs.Tryz.f29 (bodyOf Go.Proofs.Tryz.f29) Trnz.a29=true:=by kernel_rfl
set_option maxRecDepth 1000000 in
theorem ok33:chkF Go.Proofs.Tryz.prog [0,1,2] default Trnz.tab 33 Go.Proofs.Tryz.f33 (bodyOf Go.Proofs.Tryz.f33) Trnz.a33=true:=by kernel_rfl
set_option maxRecDepth 1000000 in
theorem ok37:chkF Go.Proofs.Tryz.prog [0,1,2] default Trnz.tab 37 Go.Proofs.Tryz.f37 (bodyOf Go.Proofs.Tryz.f37) Trnz.a37=true:=by kernel_rfl
set_option maxRecDepth 1000000 in
theorem ok41:chkF Go.Proofs.Tryz.prog [0,1,2] default Trnz.tab 41 Go.Proofs.Tryz.f41 (bodyOf Go.Proofs.Tryz.f41) Trnz.a41=true:=by kernel_rfl
set_option maxRecDepth 1000000 in
theorem ok45:chkF Go.Proofs.Tryz.prog [0,1,2] default Trnz.tab 45 Go.Proofs.Tryz.f45 (bodyOf Go.Proofs.Tryz.f45) Trnz.a45=true:=by kernel_rfl
set_option maxRecDepth 1000000 in
theorem ok49:chkF Go.Proofs.Tryz.prog [0,1,2] default Trnz.tab 49 Go.Proofs.Tryz.f49 (bodyOf Go.Proofs.Tryz.f49) Trnz.a49=true:=by kernel_rfl
set_option maxRecDepth 1000000 in
theorem ok53:chkF Go.Proofs.Tryz.prog [0,1,2] default Trnz.tab 53 Go.Proofs.Tryz.f53 (bodyOf Go.Proofs.Tryz.f53) Trnz.a53=true:=by kernel_rfl
set_option maxRecDepth 1000000 in
theorem ok57:chkF Go.Proofs.Tryz.prog [0,1,2] default Trnz.tab 57 Go.Proofs.Tryz.f57 (bodyOf Go.Proofs.Tryz.f57) Trnz.a57=true:=by kernel_rfl
set_option maxRecDepth 1000000 in
theorem ok61:chkF Go.Proofs.Tryz.prog [0,1,2] default Trnz.tab 61 Go.Proofs.Tryz.f61 (bodyOf Go.Proofs.Tryz.f61) Trnz.a61=true:=by kernel_rfl
set_option maxRecDepth 1000000 in
theorem ok65:chkF Go.Proofs.Tryz.prog [0,1,2] default Trnz.tab 65 Go.Proofs.Tryz.f65 (bodyOf Go.Proofs.Tryz.f65) Trnz.a65=true:=by kernel_rfl
set_option maxRecDepth 1000000 in
theorem ok69:chkF Go.Proofs.Tryz.prog [0,1,2] default Trnz.tab 69 Go.Proofs.Tryz.f69 (bodyOf Go.Proofs.Tryz.f69) Trnz.a69=true:=by kernel_rfl
set_option maxRecDepth 1000000 in
theorem ok73:chkF Go.Proofs.Tryz.prog [0,1,2] default Trnz.tab 73 Go.Proofs.Tryz.f73 (bodyOf Go.Proofs.Tryz.f73) Trnz.a73=true:=by kernel_rfl
set_option maxRecDepth 1000000 in
theorem ok85:chkF Go.Proofs.Tryz.prog [0,1,2] default Trnz.tab 85 Go.Proofs.Tryz.f85 (bodyOf Go.Proofs.Tryz.f85) Trnz.a85=true:=by kernel_rfl
set_option maxRecDepth 1000000 in
theorem ok89:chkF Go.Proofs.Tryz.prog [0,1,2] default Trnz.tab 89 Go.Proofs.Tryz.f89 (bodyOf Go.Proofs.Tryz.f89) Trnz.a89=true:=by kernel_rfl
set_option maxRecDepth 1000000 in
theorem ok93:chkF Go.Proofs.Tryz.prog [0,1,2] default Trnz.tab 93 Go.Proofs.Tryz.f93 (bodyOf Go.Proofs.Tryz.f93) Trnz.a93=true:=by kernel_rfl
set_option maxRecDepth 1000000 in
theorem ok97:chkF Go.Proofs.Tryz.prog [0,1,2] default Trnz.tab 97 Go.Proofs.Tryz.f97 (bodyOf Go.Proofs.Tryz.f97) Trnz.a97=true:=by kernel_rfl
set_option maxRecDepth 1000000 in
theorem ok101:chkF Go.Proofs.Tryz.prog [0,1,2] default Trnz.tab 101 Go.Proofs.Tryz.f101 (bodyOf Go.Proofs.Tryz.f101) Trnz.a101=true:=by kernel_rfl
set_option maxRecDepth 1000000 in
theorem ok105:chkF Go.Proofs.Tryz.prog [0,1,2] default Trnz.tab 105 Go.Proofs.Tryz.f105 (bodyOf Go.Proofs.Tryz.f105) Trnz.a105=true:=by kernel_rfl
set_option maxRecDepth 1000000 in
theorem ok109:chkF Go.Proofs.Tryz.prog [0,1,2] default Trnz.tab 109 Go.Proofs.Tryz.f109 (bodyOf Go.Proofs.Tryz.f109) Trnz.a109=true:=by kernel_rfl
set_option maxRecDepth 1000000 in
theorem ok117:chkF Go.Proofs.Tryz.prog [0,1,2] default Trnz.tab 117 Go.Proofs.Tryz.f117 (bodyOf Go.Proofs.Tryz.f117) Trnz.a117=true:=by kernel_rfl
set_option maxRecDepth 1000000 in
theorem ok121:chkF Go.Proofs.Tryz.prog [0,1,2] default Trnz.tab 121 Go.Proofs.Tryz.f121 (bodyOf Go.Proofs.Tryz.f121) Trnz.a121=true:=by kernel_rfl
set_option maxRecDepth 1000000 in
theorem ok125:chkF Go.Proofs.Tryz.prog [0,1,2] default Trnz.tab 125 Go.Proofs.Tryz.f125 (bodyOf Go.Proofs.Tryz.f125) Trnz.a125=true:=by kernel_rfl
set_option maxRecDepth 1000000 in
theorem ok129:chkF Go.Proofs.Tryz.prog [0,1,2] default Trnz.tab 129 Go.Proofs.Tryz.f129 (bodyOf Go.Proofs.Tryz.f129) Trnz.a129=true:=by kernel_rfl
set_option maxRecDepth 1000000 in
theorem ok133:chkF Go.Proofs.Tryz.prog [0,1,2] default Trnz.tab 133 Go.Proofs.Tryz.f133 (bodyOf Go.Proofs.Tryz.f133) Trnz.a133=true:=by kernel_rfl
set_option maxRecDepth 1000000 in
theorem ok279:chkF Go.Proofs.Tryz.prog [0,1,2] default Trnz.tab 279 Go.Proofs.Tryz.f279 (bodyOf Go.Proofs.Tryz.f279) Trnz.a279=true:=by kernel_rfl
set_option maxRecDepth 1000000 in
theorem ok6:chkF Go.Proofs.Tryz.prog [0,1,2] default Trnz.tab 6 Go.Proofs.Tryz.f6 (bodyOf Go.Proofs.Tryz.f6) Trnz.a6=true:=by kernel_rfl
set_option maxRecDepth 1000000 in
theorem ok10:chkF Go.Proofs.Tryz.prog [0,1,2] default Trnz.tab 10 Go.Proofs.Tryz.f10 (bodyOf Go.Proofs.Tryz.f10) Trnz.a10=true:=by kernel_rfl
set_option maxRecDepth 1000000 in
theorem ok14:chkF Go.Proofs.Tryz.prog [0,1,2] default Trnz.tab 14 Go.Proofs.Tryz.f14 (bodyOf Go.Proofs.Tryz.f14) Trnz.a14=true:=by kernel_rfl
set_option maxRecDepth 1000000 in
theorem ok18:chkF Go.Proofs.Tryz.prog [0,1,2] default Trnz.tab 18 Go.Proofs.Tryz.f18 (bodyOf Go.Proofs.Tryz.f18) Trnz.a18=true:=by kernel_rfl
set_option maxRecDepth 1000000 in
theorem ok30:chkF Go.Proofs.Tryz.prog [0,1,2] default Trnz.tab 30 Go.Proofs.Tryz.f30 (bodyOf Go.Proofs.Tryz.f30) Trnz.a30=true:=by kernel_rfl
set_option maxRecDepth 1000000 in
theorem ok34:chkF Go.Proofs.Tryz.prog [0,1,2] default Trnz.tab 34 Go.Proofs.Tryz.f34 (bodyOf Go.Proofs.Tryz.f34) Trnz.a34=true:=by kernel_rfl
set_option maxRecDepth 1000000 in
theorem ok38:chkF Go.Proofs.Tryz.prog [0,1,2] default Trnz.tab 38 Go.Proofs.Tryz.f38 (bodyOf Go.Proofs.Tryz.f38) Trnz.a38=true:=by kernel_rfl
set_option maxRecDepth 1000000 in
theorem ok42:chkF Go.Proofs.Tryz.prog [0,1,2] default Trnz.tab 42 Go.Proofs.Tryz.f42 (bodyOf Go.Proofs.Tryz.f42) Trnz.a42=true:=by kernel_rfl
set_option maxRecDepth 1000000 in
theorem ok46:chkF Go.Proofs.Tryz.prog [0,1,2] default Trnz.tab 46 Go.Proofs.Tryz.f46 (bodyOf Go.Proofs.Tryz.f46) Trnz.a46=true:=by kernel_rfl
set_option maxRecDepth 1000000 in
theorem ok50:chkF Go.Proofs.Tryz.prog [0,1,2] default Trnz.tab 50 Go.Proofs.Tryz.f50 (bodyOf Go.Proofs.Tryz.f50) Trnz.a50=true:=by kernel_rfl
set_option maxRecDepth 1000000 in
theorem ok54:chkF Go.Proofs.Tryz.prog [0,1,2] default Trnz.tab 54 Go.Proofs.Tryz.f54 (bodyOf Go.Proofs.Tryz.f54) Trnz.a54=true:=by kernel_rfl
set_option maxRecDepth 1000000 in
theorem ok58:chkF Go.Proofs.Tryz.prog [0,1,2] default Trnz.tab 58 Go.Proofs.Tryz.f58 (bodyOf Go.Proofs.Tryz.f58) Trnz.a58=true:=by kernel_rfl
set_option maxRecDepth 1000000 in
theorem ok62:chkF Go.Proofs.Tryz.prog [0,1,2] default Trnz.tab 62 Go.Proofs.Tryz.f62 (bodyOf Go.Proofs.Tryz.f62) Trnz.a62=true:=by kernel_rfl
set_option maxRecDepth 1000000 in
theorem ok66:chkF Go.Proofs.Tryz.prog [0,1,2] default Trnz.tab 66 Go.Proofs.Tryz.f66 (bodyOf Go.Proofs.Tryz.f66) Trnz.a66=true:=by kernel_rfl
set_option maxRecDepth 1000000 in
theorem ok70:chkF Go.Proofs.Tryz.prog [0,1,2] default Trnz.tab 70 Go.Proofs.Tryz.f70 (bodyOf Go.Proofs.Tryz.f70) Trnz.a70=true:=by kernel_rfl
set_option maxRecDepth 1000000 in
theorem ok82:chkF Go.Proofs.Tryz.prog [0,1,2] default Trnz.tab 82 Go.Proofs.Tryz.f82 (bodyOf Go.Proofs.Tryz.f82) Trnz.a82=true:=by kernel_rfl
set_option maxRecDepth 1000000 in
theorem ok86:chkF Go.Proofs.Tryz.prog [0,1,2] default Trnz.tab 86 Go.Proofs.Tryz.f86 (bodyOf Go.Proofs.Tryz.f86) Trnz.a86=true:=by kernel_rfl
set_option maxRecDepth 1000000 in
theorem ok90:chkF Go.Proofs.Tryz.prog [0,1,2] default Trnz.tab 90 Go.Proofs.Tryz.f90 (bodyOf Go.Proofs.Tryz.f90) Trnz.a90=true:=by kernel_rfl
set_option maxRecDepth 1000000 in
theorem ok94:chkF Go.Proofs.Tryz.prog [0,1,2] default Trnz.tab 94 Go.Proofs.Tryz.f94 (bodyOf Go.Proofs.Tryz.f94) Trnz.a94=true:=by kernel_rfl
set_option maxRecDepth 1000000 in
theorem ok98:chkF Go.Proofs.Tryz.prog [0,1,2] default Trnz.tab 98 Go.Proofs.Tryz.f98 (bodyOf Go.Proofs.Tryz.f98) Trnz.a98=true:=by kernel_rfl
set_option maxRecDepth 1000000 in
theorem ok102:chkF Go.Proofs.Tryz.prog [0,1,2] default Trnz.tab 102 Go.Proofs.Tryz.f102 (bodyOf Go.Proofs.Tryz.f102) Trnz.a102=true:=by kernel_rfl
set_option maxRecDepth 1000000 in
theorem ok106:chkF Go.Proofs.Tryz.prog [0,1,2] default Trnz.tab 106 Go.Proofs.Tryz.f106 (bodyOf Go.Proofs.Tryz.f106) Trnz.a106=true:=by kernel_rfl
set_option maxRecDepth 1000000 in
theorem ok110:chkF Go.Proofs.Tryz.prog [0,1,2] default Trnz.tab 110 Go.Proofs.Tryz.f110 (bodyOf Go.Proofs.Tryz.f110) Trnz.a110=true:=by kernel_rfl
set_option maxRecDepth 1000000 in
theorem ok118:chkF Go.Proofs.Tryz.prog [0,1,2] default Trnz.tab 118 Go.Proofs.Tryz.f118 (bodyOf Go.Proofs.Tryz.f118) Trnz.a118=true:=by kernel_rfl
set_option maxRecDepth 1000000 in
theorem ok122:chkF Go.Proofs.Tryz.prog [0,1,2] default Trnz.tab 122 Go.Proofs.Tryz.f122 (bodyOf Go.Proofs.Tryz.f122) Trnz.a122=true:=by kernel_rfl
set_option maxRecDepth 1000000 in
theorem ok126:chkF Go.Proofs.Tryz.prog [0,1,2] default Trnz.tab 126 Go.Proofs.Tryz.f126 (bodyOf Go.Proofs.Tryz.f126) Trnz.a126=true:=by kernel_rfl
set_option maxRecDepth 1000000 in
theorem ok130:chkF Go.Proofs.Tryz.prog [0,1,2] default Trnz.tab 130 Go.Proofs.Tryz.f130 (bodyOf Go.Proofs.Tryz.f130) Trnz.a130=true:=by kernel_rfl
set_option maxRecDepth 1000000 in
theorem ok276:chkF Go.Proofs.Tryz.prog [0,1,2] default Trnz.tab 276 Go.Proofs.Tryz.f276 (bodyOf Go.Proofs.Tryz.f276) Trnz.a276=true:=by kernel_rfl
set_option maxRecDepth 1000000 in
theorem ok280:chkF Go.Proofs.Tryz.prog [0,1,2] default Trnz.tab 280 Go.Proofs.Tryz.f280 (bodyOf Go.Proofs.Tryz.f280) Trnz.a280=true:=by kernel_rfl
set_option maxRecDepth 1000000 in
theorem ok7:chkF Go.Proofs.Tryz.prog [0,1,2] default Trnz.tab 7 Go.Proofs.Tryz.f7 (bodyOf Go.Proofs.Tryz.f7) Trnz.a7=true:=by kernel_rfl
set_option maxRecDepth 1000000 in
theorem ok11:chkF Go.Proofs.Tryz.prog [0,1,2] default Trnz.tab 11 Go.Proofs.Tryz.f11 (bodyOf Go.Proofs.Tryz.f11) Trnz.a11=true:=by kernel_rfl
set_option maxRecDepth 1000000 in
theorem ok15:chkF Go.Proofs.Tryz.prog [0,1,2] default Trnz.tab 15 Go.Proofs.Tryz.f15 (bodyOf Go.Proofs.Tryz.f15) Trnz.a15=true:=by kernel_rfl
set_option maxRecDepth 1000000 in
theorem ok19:chkF Go.Proofs.Tryz.prog [0,1,2] default Trnz.tab 19 Go.Proofs.Tryz.f19 (bodyOf Go.Proofs.Tryz.f19) Trnz.a19=true:=by kernel_rfl
set_option maxRecDepth 1000000 in
theorem ok31:chkF Go.Proofs.Tryz.prog [0,1,2] default Trnz.tab 31 Go.Proofs.Tryz.f31 (bodyOf Go.Proofs.Tryz.f31) Trnz.a31=true:=by kernel_rfl
set_option maxRecDepth 1000000 in
theorem ok35:chkF Go.Proofs.Tryz.prog [0,1,2] default Trnz.tab 35 Go.Proofs.Tryz.f35 (bodyOf Go.Proofs.Tryz.f35) Trnz.a35=true:=by kernel_rfl
set_option maxRecDepth 1000000 in
theorem ok39:chkF Go.Proofs.Tryz.prog [0,1,2] default Trnz.tab 39 Go.Proofs.Tryz.f39 (bodyOf Go.Proofs.Tryz.f39) Trnz.a39=true:=by kernel_rfl
set_option maxRecDepth 1000000 in
theorem ok43:chkF Go.Proofs.Tryz.prog [0,1,2] default Trnz.tab 43 Go.Proofs.Tryz.f43 (bodyOf Go.Proofs.Tryz.f43) Trnz.a43=true:=by kernel_rfl
set_option maxRecDepth 1000000 in
theorem ok47:chkF Go.Proofs.Tryz.prog [0,1,2] default Trnz.tab 47 Go.Proofs.Tryz.f47 (bodyOf Go.Proofs.Tryz.f47) Trnz.a47=true:=by kernel_rfl
set_option maxRecDepth 1000000 in
theorem ok51:chkF Go.Proofs.Tryz.prog [0,1,2] default Trnz.tab 51 Go.Proofs.Tryz.f51 (bodyOf Go.Proofs.Tryz.f51) Trnz.a51=true:=by kernel_rfl
set_option maxRecDepth 1000000 in
theorem ok55:chkF Go.Proofs.Tryz.prog [0,1,2] default Trnz.tab 55 Go.Proofs.Tryz.f55 (bodyOf Go.Proofs.Tryz.f55) Trnz.a55=true:=by kernel_rfl
set_option maxRecDepth 1000000 in
theorem ok59:chkF Go.Proofs.Tryz.prog [0,1,2] default Trnz.tab 59 Go.Proofs.Tryz.f59 (bodyOf Go.Proofs.Tryz.f59) Trnz.a59=true:=by kernel_rfl
set_option maxRecDepth 1000000 in
theorem ok63:chkF Go.Proofs.Tryz.prog [0,1,2] default Trnz.tab 63 Go.Proofs.Tryz.f63 (bodyOf Go.Proofs.Tryz.f63) Trnz.a63=true:=by kernel_rfl
set_option maxRecDepth 1000000 in
theorem ok67:chkF Go.Proofs.Tryz.prog [0,1,2] default Trnz.tab 67 Go.Proofs.Tryz.f67 (bodyOf Go.Proofs.Tryz.f67) Trnz.a67=true:=by kernel_rfl
set_option maxRecDepth 1000000 in
theorem ok71:chkF Go.Proofs.Tryz.prog [0,1,2] default Trnz.tab 71 Go.Proofs.Tryz.f71 (bodyOf Go.Proofs.Tryz.f71) Trnz.a71=true:=by kernel_rfl
set_option maxRecDepth 1000000 in
theorem ok83:chkF Go.Proofs.Tryz.prog [0,1,2] default Trnz.tab 83 Go.Proofs.Tryz.f83 (bodyOf Go.Proofs.Tryz.f83) Trnz.a83=true:=by kernel_rfl
set_option maxRecDepth 1000000 in
theorem ok87:chkF Go.Proofs.Tryz.prog [0,1,2] default Trnz.tab 87 Go.Proofs.Tryz.f87 (bodyOf Go.Proofs.Tryz.f87) Trnz.a87=true:=by kernel_rfl
set_option maxRecDepth 1000000 in
theorem ok91:chkF Go.Proofs.Tryz.prog [0,1,2] default Trnz.tab 91 Go.Proofs.Tryz.f91 (bodyOf Go.Proofs.Tryz.f91) Trnz.a91=true:=by kernel_rfl
set_option maxRecDepth 1000000 in
theorem ok95:chkF Go.Proofs.Tryz.prog [0,1,2] default Trnz.tab 95 Go.Proofs.Tryz.f95 (bodyOf Go.Proofs.Tryz.f95) Trnz.a95=true:=by kernel_rfl
set_option maxRecDepth 1000000 in
theorem ok99:chkF Go.Proofs.Tryz.prog [0,1,2] default Trnz.tab 99 Go.Proofs.Tryz.f99 (bodyOf Go.Proofs.Tryz.f99) Trnz.a99=true:=by kernel_rfl
set_option maxRecDepth 1000000 in
theorem ok103:chkF Go.Proofs.Tryz.prog [0,1,2] default Trnz.tab 103 Go.Proofs.Tryz.f103 (bodyOf Go.Proofs.Tryz.f103) Trnz.a103=true:=by kernel_rfl
set_option maxRecDepth 1000000 in
theorem ok107:chkF Go.Proofs.Tryz.prog [0,1,2] default Trnz.tab 107 Go.Proofs.Tryz.f107 (bodyOf Go.Proofs.Tryz.f107) Trnz.a107=true:=by kernel_rfl
set_option maxRecDepth 1000000 in
theorem ok115:chkF Go.Proofs.Tryz.prog [0,1,2] default Trnz.tab 115 Go.Proofs.Tryz.f115 (bodyOf Go.Proofs.Tryz.f115) Trnz.a115=true:=by kernel_rfl
set_option maxRecDepth 1000000 in
theorem ok119:chkF Go.Proofs.Tryz.prog [0,1,2] default Trnz.tab 119 Go.Proofs.Tryz.f119 (bodyOf Go.Proofs.Tryz.f119) Trnz.a119=true:=by kernel_rfl
set_option maxRecDepth 1000000 in
theorem ok123:chkF Go.Proofs.Tryz.prog [0,1,2] default Trnz.tab 123 Go.Proofs.Tryz.f123 (bodyOf Go.Proofs.Tryz.f123) Trnz.a123=true:=by kernel_rfl
set_option maxRecDepth 1000000 in
theorem ok127:chkF Go.Proofs.Tryz.prog [0,1,2] default Trnz.tab 127 Go.Proofs.Tryz.f127 (bodyOf Go.Proofs.Tryz.f127) Trnz.a127=true:=by kernel_rfl
set_option maxRecDepth 1000000 in
theorem ok131:chkF Go.Proofs.Tryz.prog [0,1,2] default Trnz.tab 131 Go.Proofs.Tryz.f131 (bodyOf Go.Proofs.Tryz.f131) Trnz.a131=true:=by kernel_rfl
set_option maxRecDepth 1000000 in
theorem ok277:chkF Go.Proofs.Tryz.prog [0,1,2] default Trnz.tab 277 Go.Proofs.Tryz.f277 (bodyOf Go.Proofs.Tryz.f277) Trnz.a277=true:=by kernel_rfl
theorem fn_ok {f:Nat} {fn:Func} {af:AFunc} (h0:Go.Proofs.Tryz.prog.funcs[f]?=some fn) (h1:fn.body.isSome=true) (h2:chkF Go.Proofs.Tryz.prog [0,1,2] default Trnz.tab f fn (bodyOf fn) af=true) (h3:af.ins.isEmpty=true) :
  if af.ins.isEmpty then ∃ fn code,Go.Proofs.Tryz.prog.funcs[f]?=some fn∧fn.body=some code∧chkF Go.Proofs.Tryz.prog [0,1,2] default Trnz.tab f fn code af=true else chkY Go.Proofs.Tryz.prog [0,1,2] default Trnz.tab f af=true:=by
 rw [if_pos h3]
 obtain ⟨c,hc⟩:=Option.isSome_iff_exists.1 h1
 refine ⟨fn,c,h0,hc,?_⟩
 simpa [bodyOf,hc] using h2
theorem rnd_ok {f:Nat} {af:AFunc} (h2:chkY Go.Proofs.Tryz.prog [0,1,2] default Trnz.tab f af=true) (h3:af.ins.isEmpty=false) :
  if af.ins.isEmpty then ∃ fn code,Go.Proofs.Tryz.prog.funcs[f]?=some fn∧fn.body=some code∧chkF Go.Proofs.Tryz.prog [0,1,2] default Trnz.tab f fn code af=true else chkY Go.Proofs.Tryz.prog [0,1,2] default Trnz.tab f af=true:=by
 rw [if_neg (by simp [h3])]
 exact h2
set_option maxRecDepth 100000 in
theorem prog_ok:ProgOK Go.Proofs.Tryz.prog [0,1,2] default Trnz.tab Trnz.aprog:=by
 intro f af h
 unfold Trnz.aprog at h
 split at h
 ·cases h; exact fn_ok Go.Proofs.Tryz.func4 (by kernel_rfl) ok4 rfl
 ·cases h; exact fn_ok Go.Proofs.Tryz.func6 (by kernel_rfl) ok6 rfl
 ·cases h; exact fn_ok Go.Proofs.Tryz.func7 (by kernel_rfl) ok7 rfl
 ·cases h; exact fn_ok Go.Proofs.Tryz.func8 (by kernel_rfl) ok8 rfl
 ·cases h; exact fn_ok Go.Proofs.Tryz.func9 (by kernel_rfl) ok9 rfl
 ·cases h; exact fn_ok Go.Proofs.Tryz.func10 (by kernel_rfl) ok10 rfl
 ·cases h; exact fn_ok Go.Proofs.Tryz.func11 (by kernel_rfl) ok11 rfl
 ·cases h; exact fn_ok Go.Proofs.Tryz.func12 (by kernel_rfl) ok12 rfl
 ·cases h; exact fn_ok Go.Proofs.Tryz.func13 (by kernel_rfl) ok13 rfl
 ·cases h; exact fn_ok Go.Proofs.Tryz.func14 (by kernel_rfl) ok14 rfl
 ·cases h; exact fn_ok Go.Proofs.Tryz.func15 (by kernel_rfl) ok15 rfl
 ·cases h; exact fn_ok Go.Proofs.Tryz.func16 (by kernel_rfl) ok16 rfl
 ·cases h; exact fn_ok Go.Proofs.Tryz.func17 (by kernel_rfl) ok17 rfl
 ·cases h; exact fn_ok Go.Proofs.Tryz.func18 (by kernel_rfl) ok18 rfl
 ·cases h; exact fn_ok Go.Proofs.Tryz.func19 (by kernel_rfl) ok19 rfl
 ·cases h; exact fn_ok Go.Proofs.Tryz.func20 (by kernel_rfl) ok20 rfl
 ·cases h; exact fn_ok Go.Proofs.Tryz.func29 (by kernel_rfl) ok29 rfl
 ·cases h; exact fn_ok Go.Proofs.Tryz.func30 (by kernel_rfl) ok30 rfl
 ·cases h; exact fn_ok Go.Proofs.Tryz.func31 (by kernel_rfl) ok31 rfl
 ·cases h; exact fn_ok Go.Proofs.Tryz.func32 (by kernel_rfl) ok32 rfl
 ·cases h; exact fn_ok Go.Proofs.Tryz.func33 (by kernel_rfl) ok33 rfl
 ·cases h; exact fn_ok Go.Proofs.Tryz.func34 (by kernel_rfl) ok34 rfl
 ·cases h; exact fn_ok Go.Proofs.Tryz.func35 (by kernel_rfl) ok35 rfl
 ·cases h; exact fn_ok Go.Proofs.Tryz.func36 (by kernel_rfl) ok36 rfl
 ·cases h; exact fn_ok Go.Proofs.Tryz.func37 (by kernel_rfl) ok37 rfl
 ·cases h; exact fn_ok Go.Proofs.Tryz.func38 (by kernel_rfl) ok38 rfl
 ·cases h; exact fn_ok Go.Proofs.Tryz.func39 (by kernel_rfl) ok39 rfl
 ·cases h; exact fn_ok Go.Proofs.Tryz.func40 (by kernel_rfl) ok40 rfl
 ·cases h; exact fn_ok Go.Proofs.Tryz.func41 (by kernel_rfl) ok41 rfl
 ·cases h; exact fn_ok Go.Proofs.Tryz.func42 (by kernel_rfl) ok42 rfl
 ·cases h; exact fn_ok Go.Proofs.Tryz.func43 (by kernel_rfl) ok43 rfl
 ·cases h; exact fn_ok Go.Proofs.Tryz.func44 (by kernel_rfl) ok44 rfl
 ·cases h; exact fn_ok Go.Proofs.Tryz.func45 (by kernel_rfl) ok45 rfl
 ·cases h; exact fn_ok Go.Proofs.Tryz.func46 (by kernel_rfl) ok46 rfl
 ·cases h; exact fn_ok Go.Proofs.Tryz.func47 (by kernel_rfl) ok47 rfl
 ·cases h; exact fn_ok Go.Proofs.Tryz.func48 (by kernel_rfl) ok48 rfl
 ·cases h; exact fn_ok Go.Proofs.Tryz.func49 (by kernel_rfl) ok49 rfl
 ·cases h; exact fn_ok Go.Proofs.Tryz.func50 (by kernel_rfl) ok50 rfl
 ·cases h; exact fn_ok Go.Proofs.Tryz.func51 (by kernel_rfl) ok51 rfl
 ·cases h; exact fn_ok Go.Proofs.Tryz.func52 (by kernel_rfl) ok52 rfl
 ·cases h; exact fn_ok Go.Proofs.Tryz.func53 (by kernel_rfl) ok53 rfl
 ·cases h; exact fn_ok Go.Proofs.Tryz.func54 (by kernel_rfl) ok54 rfl
 ·cases h; exact fn_ok Go.Proofs.Tryz.func55 (by kernel_rfl) ok55 rfl
 ·cases h; exact fn_ok Go.Proofs.Tryz.func56 (by kernel_rfl) ok56 rfl
 ·cases h; exact fn_ok Go.Proofs.Tryz.func57 (by kernel_rfl) ok57 rfl
 ·cases h; exact fn_ok Go.Proofs.Tryz.func58 (by kernel_rfl) ok58 rfl
 ·cases h; exact fn_ok Go.Proofs.Tryz.func59 (by kernel_rfl) ok59 rfl
 ·cases h; exact fn_ok Go.Proofs.Tryz.func60 (by kernel_rfl) ok60 rfl
 ·cases h; exact fn_ok Go.Proofs.Tryz.func61 (by kernel_rfl) ok61 rfl
 ·cases h; exact fn_ok Go.Proofs.Tryz.func62 (by kernel_rfl) ok62 rfl
 ·cases h; exact fn_ok Go.Proofs.Tryz.func63 (by kernel_rfl) ok63 rfl
 ·cases h; exact fn_ok Go.Proofs.Tryz.func64 (by kernel_rfl) ok64 rfl
 ·cases h; exact fn_ok Go.Proofs.Tryz.func65 (by kernel_rfl) ok65 rfl
 ·cases h; exact fn_ok Go.Proofs.Tryz.func66 (by kernel_rfl) ok66 rfl
 ·cases h; exact fn_ok Go.Proofs.Tryz.func67 (by kernel_rfl) ok67 rfl
 ·cases h; exact fn_ok Go.Proofs.Tryz.func68 (by kernel_rfl) ok68 rfl
 ·cases h; exact fn_ok Go.Proofs.Tryz.func69 (by kernel_rfl) ok69 rfl
 ·cases h; exact fn_ok Go.Proofs.Tryz.func70 (by kernel_rfl) ok70 rfl
 ·cases h; exact fn_ok Go.Proofs.Tryz.func71 (by kernel_rfl) ok71 rfl
 ·cases h; exact fn_ok Go.Proofs.Tryz.func72 (by kernel_rfl) ok72 rfl
 ·cases h; exact fn_ok Go.Proofs.Tryz.func73 (by kernel_rfl) ok73 rfl
 ·cases h; exact fn_ok Go.Proofs.Tryz.func82 (by kernel_rfl) ok82 rfl
 ·cases h; exact fn_ok Go.Proofs.Tryz.func83 (by kernel_rfl) ok83 rfl
 ·cases h; exact fn_ok Go.Proofs.Tryz.func84 (by kernel_rfl) ok84 rfl
 ·cases h; exact fn_ok Go.Proofs.Tryz.func85 (by kernel_rfl) ok85 rfl
 ·cases h; exact fn_ok Go.Proofs.Tryz.func86 (by kernel_rfl) ok86 rfl
 ·cases h; exact fn_ok Go.Proofs.Tryz.func87 (by kernel_rfl) ok87 rfl
 ·cases h; exact fn_ok Go.Proofs.Tryz.func88 (by kernel_rfl) ok88 rfl
 ·cases h; exact fn_ok Go.Proofs.Tryz.func89 (by kernel_rfl) ok89 rfl
 ·cases h; exact fn_ok Go.Proofs.Tryz.func90 (by kernel_rfl) ok90 rfl
 ·cases h; exact fn_ok Go.Proofs.Tryz.func91 (by kernel_rfl) ok91 rfl
 ·cases h; exact fn_ok Go.Proofs.Tryz.func92 (by kernel_rfl) ok92 rfl
 ·cases h; exact fn_ok Go.Proofs.Tryz.func93 (by kernel_rfl) ok93 rfl
 ·cases h; exact fn_ok Go.Proofs.Tryz.func94 (by kernel_rfl) ok94 rfl
 ·cases h; exact fn_ok Go.Proofs.Tryz.func95 (by kernel_rfl) ok95 rfl
 ·cases h; exact fn_ok Go.Proofs.Tryz.func96 (by kernel_rfl) ok96 rfl
 ·cases h; exact fn_ok Go.Proofs.Tryz.func97 (by kernel_rfl) ok97 rfl
 ·cases h; exact fn_ok Go.Proofs.Tryz.func98 (by kernel_rfl) ok98 rfl
 ·cases h; exact fn_ok Go.Proofs.Tryz.func99 (by kernel_rfl) ok99 rfl
 ·cases h; exact fn_ok Go.Proofs.Tryz.func100 (by kernel_rfl) ok100 rfl
 ·cases h; exact fn_ok Go.Proofs.Tryz.func101 (by kernel_rfl) ok101 rfl
 ·cases h; exact fn_ok Go.Proofs.Tryz.func102 (by kernel_rfl) ok102 rfl
 ·cases h; exact fn_ok Go.Proofs.Tryz.func103 (by kernel_rfl) ok103 rfl
 ·cases h; exact fn_ok Go.Proofs.Tryz.func104 (by kernel_rfl) ok104 rfl
 ·cases h; exact fn_ok Go.Proofs.Tryz.func105 (by kernel_rfl) ok105 rfl
 ·cases h; exact fn_ok Go.Proofs.Tryz.func106 (by kernel_rfl) ok106 rfl
 ·cases h; exact fn_ok Go.Proofs.Tryz.func107 (by kernel_rfl) ok107 rfl
 ·cases h; exact fn_ok Go.Proofs.Tryz.func108 (by kernel_rfl) ok108 rfl
 ·cases h; exact fn_ok Go.Proofs.Tryz.func109 (by kernel_rfl) ok109 rfl
 ·cases h; exact fn_ok Go.Proofs.Tryz.func110 (by kernel_rfl) ok110 rfl
 ·cases h; exact fn_ok Go.Proofs.Tryz.func115 (by kernel_rfl) ok115 rfl
 ·cases h; exact fn_ok Go.Proofs.Tryz.func116 (by kernel_rfl) ok116 rfl
 ·cases h; exact fn_ok Go.Proofs.Tryz.func117 (by kernel_rfl) ok117 rfl
 ·cases h; exact fn_ok Go.Proofs.Tryz.func118 (by kernel_rfl) ok118 rfl
 ·cases h; exact fn_ok Go.Proofs.Tryz.func119 (by kernel_rfl) ok119 rfl
 ·cases h; exact fn_ok Go.Proofs.Tryz.func120 (by kernel_rfl) ok120 rfl
 ·cases h; exact fn_ok Go.Proofs.Tryz.func121 (by kernel_rfl) ok121 rfl
 ·cases h; exact fn_ok Go.Proofs.Tryz.func122 (by kernel_rfl) ok122 rfl
 ·cases h; exact fn_ok Go.Proofs.Tryz.func123 (by kernel_rfl) ok123 rfl
 ·cases h; exact fn_ok Go.Proofs.Tryz.func124 (by kernel_rfl) ok124 rfl
 ·cases h; exact fn_ok Go.Proofs.Tryz.func125 (by kernel_rfl) ok125 rfl
 ·cases h; exact fn_ok Go.Proofs.Tryz.func126 (by kernel_rfl) ok126 rfl
 ·cases h; exact fn_ok Go.Proofs.Tryz.func127 (by kernel_rfl) ok127 rfl
 ·cases h; exact fn_ok Go.Proofs.Tryz.func128 (by kernel_rfl) ok128 rfl
 ·cases h; exact fn_ok Go.Proofs.Tryz.func129 (by kernel_rfl) ok129 rfl
 ·cases h; exact fn_ok Go.Proofs.Tryz.func130 (by kernel_rfl) ok130 rfl
 ·cases h; exact fn_ok Go.Proofs.Tryz.func131 (by kernel_rfl) ok131 rfl
 ·cases h; exact fn_ok Go.Proofs.Tryz.func132 (by kernel_rfl) ok132 rfl
 ·cases h; exact fn_ok Go.Proofs.Tryz.func133 (by kernel_rfl) ok133 rfl
 ·cases h; exact fn_ok Go.Proofs.Tryz.func276 (by kernel_rfl) ok276 rfl
 ·cases h; exact fn_ok Go.Proofs.Tryz.func277 (by kernel_rfl) ok277 rfl
 ·cases h; exact fn_ok Go.Proofs.Tryz.func278 (by kernel_rfl) ok278 rfl
 ·cases h; exact fn_ok Go.Proofs.Tryz.func279 (by kernel_rfl) ok279 rfl
 ·cases h; exact fn_ok Go.Proofs.Tryz.func280 (by kernel_rfl) ok280 rfl
 ·cases h; exact rnd_ok ok10500 rfl
 ·cases h
end Go.Proofs.Nst
