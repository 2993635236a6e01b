/- A part of the law's proof: Chk. -/
import Derived.Test.YtlilodefhmolpaaGreatDoorRows
import Derived.Test.YtlilodefhmolpaaGreatDoorCoreD
import Derived.Test.YtlilodefhmolpaaGreatDoorFn
import Derived.KernelRfl
set_option linter.unusedVariables false
set_option linter.unusedSimpArgs false
namespace Go.Proofs.Zst
open Go Go.Am
noncomputable def bodyOf (f:Func):Code:=f.body.getD .skip
set_option maxRecDepth 1000000 in
theorem ok3:chkF Go.Proofs.Tryz.prog [0,1,2,3] default Trst.tab 3 Go.Proofs.Tryz.f3 (bodyOf Go.Proofs.Tryz.f3) Trst.a3=true:=by kernel_rfl
set_option maxRecDepth 1000000 in
theorem ok7:chkF Go.Proofs.Tryz.prog [0,1,2,3] default Trst.tab 7 Go.Proofs.Tryz.f7 (bodyOf Go.Proofs.Tryz.f7) Trst.a7=true:=by kernel_rfl
set_option maxRecDepth 1000000 in
theorem ok11:chkF Go.Proofs.Tryz.prog [0,1,2,3] default Trst.tab 11 Go.Proofs.Tryz.f11 (bodyOf Go.Proofs.Tryz.f11) Trst.a11=true:=by kernel_rfl
set_option maxRecDepth 1000000 in
theorem ok15:chkF Go.Proofs.Tryz.prog [0,1,2,3] default Trst.tab 15 Go.Proofs.Tryz.f15 (bodyOf Go.Proofs.Tryz.f15) Trst.a15=true:=by kernel_rfl
set_option maxRecDepth 1000000 in
theorem ok19:chkF Go.Proofs.Tryz.prog [0,1,2,3] default Trst.tab 19 Go.Proofs.Tryz.f19 (bodyOf Go.Proofs.Tryz.f19) Trst.a19=true:=by kernel_rfl
set_option maxRecDepth 1000000 in
theorem ok23:chkF Go.Proofs.Tryz.prog [0,1,2,3] default Trst.tab 23 Go.Proofs.Tryz.f23 (bodyOf Go.Proofs.Tryz.f23) Trst.a23=true:=by kernel_rfl
set_option maxRecDepth 1000000 in
theorem ok27:chkF Go.Proofs.Tryz.prog [0,1,2,3] default Trst.tab 27 Go.Proofs.Tryz.f27 (bodyOf Go.Proofs.Tryz.f27) Trst.a27=true:=by kernel_rfl
set_option maxRecDepth 1000000 in
theorem ok31:chkF Go.Proofs.Tryz.prog [0,1,2,3] default Trst.tab 31 Go.Proofs.Tryz.f31 (bodyOf Go.Proofs.Tryz.f31) Trst.a31=true:=by kernel_rfl
set_option maxRecDepth 1000000 in
theorem ok35:chkF Go.Proofs.Tryz.prog [0,1,2,3] default Trst.tab 35 Go.Proofs.Tryz.f35 (bodyOf Go.Proofs.Tryz.f35) Trst.a35=true:=by kernel_rfl
set_option maxRecDepth 1000000 in
theorem ok39:chkF Go.Proofs.Tryz.prog [0,1,2,3] default Trst.tab 39 Go.Proofs.Tryz.f39 (bodyOf Go.Proofs.Tryz.f39) Trst.a39=true:=by kernel_rfl
set_option maxRecDepth 1000000 in
theorem ok43:chkF Go.Proofs.Tryz.prog [0,1,2,3] default Trst.tab 43 Go.Proofs.Tryz.f43 (bodyOf Go.Proofs.Tryz.f43) Trst.a43=true:=by kernel_rfl
set_option maxRecDepth 1000000 in
theorem ok50:chkF Go.Proofs.Tryz.prog [0,1,2,3] default Trst.tab 50 Go.Proofs.Tryz.f50 (bodyOf Go.Proofs.Tryz.f50) Trst.a50=true:=by kernel_rfl
set_option maxRecDepth 1000000 in
theorem ok56:chkF Go.Proofs.Tryz.prog [0,1,2,3] default Trst.tab 56 Go.Proofs.Tryz.f56 (bodyOf Go.Proofs.Tryz.f56) Trst.a56=true:=by kernel_rfl
set_option maxRecDepth 1000000 in
theorem ok63:chkF Go.Proofs.Tryz.prog [0,1,2,3] default Trst.tab 63 Go.Proofs.Tryz.f63 (bodyOf Go.Proofs.Tryz.f63) Trst.a63=true:=by kernel_rfl
set_option maxRecDepth 1000000 in
theorem ok71:chkF Go.Proofs.Tryz.prog [0,1,2,3] default Trst.tab 71 Go.Proofs.Tryz.f71 (bodyOf Go.Proofs.Tryz.f71) Trst.a71=true:=by kernel_rfl
set_option maxRecDepth 1000000 in
theorem ok75:chkF Go.Proofs.Tryz.prog [0,1,2,3] default Trst.tab 75 Go.Proofs.Tryz.f75 (bodyOf Go.Proofs.Tryz.f75) Trst.a75=true:=by kernel_rfl
set_option maxRecDepth 1000000 in
theorem ok79:chkF Go.Proofs.Tryz.prog [0,1,2,3] default Trst.tab 79 Go.Proofs.Tryz.f79 (bodyOf Go.Proofs.Tryz.f79) Trst.a79=true:=by kernel_rfl
set_option maxRecDepth 1000000 in
theorem ok86:chkF Go.Proofs.Tryz.prog [0,1,2,3] default Trst.tab 86 Go.Proofs.Tryz.f86 (bodyOf Go.Proofs.Tryz.f86) Trst.a86=true:=by kernel_rfl
set_option maxRecDepth 1000000 in
theorem ok90:chkF Go.Proofs.Tryz.prog [0,1,2,3] default Trst.tab 90 Go.Proofs.Tryz.f90 (bodyOf Go.Proofs.Tryz.f90) Trst.a90=true:=by kernel_rfl
set_option maxRecDepth 1000000 in
theorem ok95:chkF Go.Proofs.Tryz.prog [0,1,2,3] default Trst.tab 95 Go.Proofs.Tryz.f95 (bodyOf Go.Proofs.Tryz.f95) Trst.a95=true:=by kernel_rfl
set_option maxRecDepth 1000000 in
theorem ok100:chkF Go.Proofs.Tryz.prog [0,1,2,3] default Trst.tab 100 Go.Proofs.Tryz.f100 (bodyOf Go.Proofs.Tryz.f100) Trst.a100=true:=by kernel_rfl
set_option maxRecDepth 1000000 in
theorem ok104:chkF Go.Proofs.Tryz.prog [0,1,2,3] default Trst.tab 104 Go.Proofs.Tryz.f104 (bodyOf Go.Proofs.Tryz.f104) Trst.a104=true:=by kernel_rfl
set_option maxRecDepth 1000000 in
theorem ok108:chkF Go.Proofs.Tryz.prog [0,1,2,3] default Trst.tab 108 Go.Proofs.Tryz.f108 (bodyOf Go.Proofs.Tryz.f108) Trst.a108=true:=by kernel_rfl
set_option maxRecDepth 1000000 in
theorem ok112:chkF Go.Proofs.Tryz.prog [0,1,2,3] default Trst.tab 112 Go.Proofs.Tryz.f112 (bodyOf Go.Proofs.Tryz.f112) Trst.a112=true:=by kernel_rfl
set_option maxRecDepth 1000000 in
theorem ok116:chkF Go.Proofs.Tryz.prog [0,1,2,3] default Trst.tab 116 Go.Proofs.Tryz.f116 (bodyOf Go.Proofs.Tryz.f116) Trst.a116=true:=by kernel_rfl
set_option maxRecDepth 1000000 in
theorem ok120:chkF Go.Proofs.Tryz.prog [0,1,2,3] default Trst.tab 120 Go.Proofs.Tryz.f120 (bodyOf Go.Proofs.Tryz.f120) Trst.a120=true:=by kernel_rfl
set_option maxRecDepth 1000000 in
theorem ok126:chkF Go.Proofs.Tryz.prog [0,1,2,3] default Trst.tab 126 Go.Proofs.Tryz.f126 (bodyOf Go.Proofs.Tryz.f126) Trst.a126=true:=by kernel_rfl
set_option maxRecDepth 1000000 in
theorem ok132:chkF Go.Proofs.Tryz.prog [0,1,2,3] default Trst.tab 132 Go.Proofs.Tryz.f132 (bodyOf Go.Proofs.Tryz.f132) Trst.a132=true:=by kernel_rfl
set_option maxRecDepth 1000000 in
theorem ok136:chkF Go.Proofs.Tryz.prog [0,1,2,3] default Trst.tab 136 Go.Proofs.Tryz.f136 (bodyOf Go.Proofs.Tryz.f136) Trst.a136=true:=by kernel_rfl
set_option maxRecDepth 1000000 in
theorem ok145:chkF Go.Proofs.Tryz.prog [0,1,2,3] default Trst.tab 145 Go.Proofs.Tryz.f145 (bodyOf Go.Proofs.Tryz.f145) Trst.a145=true:=by kernel_rfl
set_option maxRecDepth 1000000 in
theorem ok176:chkF Go.Proofs.Tryz.prog [0,1,2,3] default Trst.tab 176 Go.Proofs.Tryz.f176 (bodyOf Go.Proofs.Tryz.f176) Trst.a176=true:=by kernel_rfl
set_option maxRecDepth 1000000 in
theorem ok180:chkF Go.Proofs.Tryz.prog [0,1,2,3] default Trst.tab 180 Go.Proofs.Tryz.f180 (bodyOf Go.Proofs.Tryz.f180) Trst.a180=true:=by kernel_rfl
set_option maxRecDepth 1000000 in
theorem ok195:chkF Go.Proofs.Tryz.prog [0,1,2,3] default Trst.tab 195 Go.Proofs.Tryz.f195 (bodyOf Go.Proofs.Tryz.f195) Trst.a195=true:=by kernel_rfl
theorem ok10230:chkY Go.Proofs.Tryz.prog [0,1,2,3] default Trst.tab 10230 Trst.a10230=true:=by kernel_rfl
theorem ok10310:chkY Go.Proofs.Tryz.prog [0,1,2,3] default Trst.tab 10310 Trst.a10310=true:=by kernel_rfl
theorem ok10350:chkY Go.Proofs.Tryz.prog [0,1,2,3] default Trst.tab 10350 Trst.a10350=true:=by kernel_rfl
theorem ok10900:chkY Go.Proofs.Tryz.prog [0,1,2,3] default Trst.tab 10900 Trst.a10900=true:=by kernel_rfl
set_option maxRecDepth 1000000 in
theorem ok4:chkF Go.Proofs.Tryz.prog [0,1,2,3] default Trst.tab 4 Go.Proofs.Tryz.f4 (bodyOf Go.Proofs.Tryz.f4) Trst.a4=true:=by kernel_rfl
set_option maxRecDepth 1000000 in
theorem ok8:chkF Go.Proofs.Tryz.prog [0,1,2,3] default Trst.tab 8 Go.Proofs.Tryz.f8 (bodyOf Go.Proofs.Tryz.f8) Trst.a8=true:=by kernel_rfl
set_option maxRecDepth 1000000 in
theorem ok12:chkF Go.Proofs.Tryz.prog [0,1,2,3] default Trst.tab 12 Go.Proofs.Tryz.f12 (bodyOf Go.Proofs.Tryz.f12) Trst.a12=true:=by kernel_rfl
set_option maxRecDepth 1000000 in
theorem ok16:chkF Go.Proofs.Tryz.prog [0,1,2,3] default Trst.tab 16 Go.Proofs.Tryz.f16 (bodyOf Go.Proofs.Tryz.f16) Trst.a16=true:=by kernel_rfl
set_option maxRecDepth 1000000 in
theorem ok20:chkF Go.Proofs.Tryz.prog [0,1,2,3] default Trst.tab 20 Go.Proofs.Tryz.f20 (bodyOf Go.Proofs.Tryz.f20) Trst.a20=true:=by kernel_rfl
set_option maxRecDepth 1000000 in
theorem ok24:chkF Go.Proofs.Tryz.prog [0,1,2,3] default Trst.tab 24 Go.Proofs.Tryz.f24 (bodyOf Go.Proofs.Tryz.f24) Trst.a24=true:=by kernel_rfl
set_option maxRecDepth 1000000 in
theorem ok28:chkF Go.Proofs.Tryz.prog [0,1,2,3] default Trst.tab 28 Go.Proofs.Tryz.f28 (bodyOf Go.Proofs.Tryz.f28) Trst.a28=true:=by kernel_rfl
set_option maxRecDepth 1000000 in
theorem ok32:chkF Go.Proofs.Tryz.prog [0,1,2,3] default Trst.tab 32 Go.Proofs.Tryz.f32 (bodyOf Go.Proofs.Tryz.f32) Trst.a32=true:=by kernel_rfl
set_option maxRecDepth 1000000 in
theorem ok36:chkF Go.Proofs.Tryz.prog [0,1,2,3] default Trst.tab 36 Go.Proofs.Tryz.f36 (bodyOf Go.Proofs.Tryz.f36) Trst.a36=true:=by kernel_rfl
set_option maxRecDepth 1000000 in
theorem ok40:chkF Go.Proofs.Tryz.prog [0,1,2,3] default Trst.tab 40 Go.Proofs.Tryz.f40 (bodyOf Go.Proofs.Tryz.f40) Trst.a40=true:=by kernel_rfl
set_option maxRecDepth 1000000 in
theorem ok44:chkF Go.Proofs.Tryz.prog [0,1,2,3] default Trst.tab 44 Go.Proofs.Tryz.f44 (bodyOf Go.Proofs.Tryz.f44) Trst.a44=true:=by kernel_rfl
set_option maxRecDepth 1000000 in
theorem ok52:chkF Go.Proofs.Tryz.prog [0,1,2,3] default Trst.tab 52 Go.Proofs.Tryz.f52 (bodyOf Go.Proofs.Tryz.f52) Trst.a52=true:=by kernel_rfl
set_option maxRecDepth 1000000 in
theorem ok58:chkF Go.Proofs.Tryz.prog [0,1,2,3] default Trst.tab 58 Go.Proofs.Tryz.f58 (bodyOf Go.Proofs.Tryz.f58) Trst.a58=true:=by kernel_rfl
set_option maxRecDepth 1000000 in
theorem ok64:chkF Go.Proofs.Tryz.prog [0,1,2,3] default Trst.tab 64 Go.Proofs.Tryz.f64 (bodyOf Go.Proofs.Tryz.f64) Trst.a64=true:=by kernel_rfl
set_option maxRecDepth 1000000 in
theorem ok72:chkF Go.Proofs.Tryz.prog [0,1,2,3] default Trst.tab 72 Go.Proofs.Tryz.f72 (bodyOf Go.Proofs.Tryz.f72) Trst.a72=true:=by kernel_rfl
set_option maxRecDepth 1000000 in
theorem ok76:chkF Go.Proofs.Tryz.prog [0,1,2,3] default Trst.tab 76 Go.Proofs.Tryz.f76 (bodyOf Go.Proofs.Tryz.f76) Trst.a76=true:=by kernel_rfl
set_option maxRecDepth 1000000 in
theorem ok81:chkF Go.Proofs.Tryz.prog [0,1,2,3] default Trst.tab 81 Go.Proofs.Tryz.f81 (bodyOf Go.Proofs.Tryz.f81) Trst.a81=true:=by kernel_rfl
set_option maxRecDepth 1000000 in
theorem ok87:chkF Go.Proofs.Tryz.prog [0,1,2,3] default Trst.tab 87 Go.Proofs.Tryz.f87 (bodyOf Go.Proofs.Tryz.f87) Trst.a87=true:=by kernel_rfl
set_option maxRecDepth 1000000 in
theorem ok92:chkF Go.Proofs.Tryz.prog [0,1,2,3] default Trst.tab 92 Go.Proofs.Tryz.f92 (bodyOf Go.Proofs.Tryz.f92) Trst.a92=true:=by kernel_rfl
set_option maxRecDepth 1000000 in
theorem ok96:chkF Go.Proofs.Tryz.prog [0,1,2,3] default Trst.tab 96 Go.Proofs.Tryz.f96 (bodyOf Go.Proofs.Tryz.f96) Trst.a96=true:=by kernel_rfl
set_option maxRecDepth 1000000 in
theorem ok101:chkF Go.Proofs.Tryz.prog [0,1,2,3] default Trst.tab 101 Go.Proofs.Tryz.f101 (bodyOf Go.Proofs.Tryz.f101) Trst.a101=true:=by kernel_rfl
set_option maxRecDepth 1000000 in
theorem ok105:chkF Go.Proofs.Tryz.prog [0,1,2,3] default Trst.tab 105 Go.Proofs.Tryz.f105 (bodyOf Go.Proofs.Tryz.f105) Trst.a105=true:=by kernel_rfl
set_option maxRecDepth 1000000 in
theorem ok109:chkF Go.Proofs.Tryz.prog [0,1,2,3] default Trst.tab 109 Go.Proofs.Tryz.f109 (bodyOf Go.Proofs.Tryz.f109) Trst.a109=true:=by kernel_rfl
set_option maxRecDepth 1000000 in
theorem ok113:chkF Go.Proofs.Tryz.prog [0,1,2,3] default Trst.tab 113 Go.Proofs.Tryz.f113 (bodyOf Go.Proofs.Tryz.f113) Trst.a113=true:=by kernel_rfl
set_option maxRecDepth 1000000 in
theorem ok117:chkF Go.Proofs.Tryz.prog [0,1,2,3] default Trst.tab 117 Go.Proofs.Tryz.f117 (bodyOf Go.Proofs.Tryz.f117) Trst.a117=true:=by kernel_rfl
set_option maxRecDepth 1000000 in
theorem ok121:chkF Go.Proofs.Tryz.prog [0,1,2,3] default Trst.tab 121 Go.Proofs.Tryz.f121 (bodyOf Go.Proofs.Tryz.f121) Trst.a121=true:=by kernel_rfl
set_option maxRecDepth 1000000 in
theorem ok127:chkF Go.Proofs.Tryz.prog [0,1,2,3] default Trst.tab 127 Go.Proofs.Tryz.f127 (bodyOf Go.Proofs.Tryz.f127) Trst.a127=true:=by kernel_rfl
set_option maxRecDepth 1000000 in
theorem ok133:chkF Go.Proofs.Tryz.prog [0,1,2,3] default Trst.tab 133 Go.Proofs.Tryz.f133 (bodyOf Go.Proofs.Tryz.f133) Trst.a133=true:=by kernel_rfl
set_option maxRecDepth 1000000 in
theorem ok137:chkF Go.Proofs.Tryz.prog [0,1,2,3] default Trst.tab 137 Go.Proofs.Tryz.f137 (bodyOf Go.Proofs.Tryz.f137) Trst.a137=true:=by kernel_rfl
set_option maxRecDepth 1000000 in
theorem ok173:chkF Go.Proofs.Tryz.prog [0,1,2,3] default Trst.tab 173 Go.Proofs.Tryz.f173 (bodyOf Go.Proofs.Tryz.f173) Trst.a173=true:=by kernel_rfl
set_option maxRecDepth 1000000 in
theorem ok177:chkF Go.Proofs.Tryz.prog [0,1,2,3] default Trst.tab 177 Go.Proofs.Tryz.f177 (bodyOf Go.Proofs.Tryz.f177) Trst.a177=true:=by kernel_rfl
set_option maxRecDepth 1000000 in
theorem ok184:chkF Go.Proofs.Tryz.prog [0,1,2,3] default Trst.tab 184 Go.Proofs.Tryz.f184 (bodyOf Go.Proofs.Tryz.f184) Trst.a184=true:=by kernel_rfl
set_option maxRecDepth 1000000 in
theorem ok197:chkF Go.Proofs.Tryz.prog [0,1,2,3] default Trst.tab 197 Go.Proofs.Tryz.f197 (bodyOf Go.Proofs.Tryz.f197) Trst.a197=true:=by kernel_rfl
set_option maxRecDepth 1000000 in
theorem ok5:chkF Go.Proofs.Tryz.prog [0,1,2,3] default Trst.tab 5 Go.Proofs.Tryz.f5 (bodyOf Go.Proofs.Tryz.f5) Trst.a5=true:=by kernel_rfl
set_option maxRecDepth 1000000 in
theorem ok9:chkF Go.Proofs.Tryz.prog [0,1,2,3] default Trst.tab 9 Go.Proofs.Tryz.f9 (bodyOf Go.Proofs.Tryz.f9) Trst.a9=true:=by kernel_rfl
set_option maxRecDepth 1000000 in
theorem ok13:chkF Go.Proofs.Tryz.prog [0,1,2,3] default Trst.tab 13 Go.Proofs.Tryz.f13 (bodyOf Go.Proofs.Tryz.f13) Trst.a13=true:=by kernel_rfl
set_option maxRecDepth 1000000 in
theorem ok17:chkF Go.Proofs.Tryz.prog [0,1,2,3] default Trst.tab 17 Go.Proofs.Tryz.f17 (bodyOf Go.Proofs.Tryz.f17) Trst.a17=true:=by kernel_rfl
set_option maxRecDepth 1000000 in
theorem ok21:chkF Go.Proofs.Tryz.prog [0,1,2,3] default Trst.tab 21 Go.Proofs.Tryz.f21 (bodyOf Go.Proofs.Tryz.f21) Trst.a21=true:=by kernel_rfl
set_option maxRecDepth 1000000 in
theorem ok25:chkF Go.Proofs.Tryz.prog [0,1,2,3] default Trst.tab 25 Go.Proofs.Tryz.f25 (bodyOf Go.Proofs.Tryz.f25) Trst.a25=true:=by kernel_rfl
set_option maxRecDepth 1000000 in
theorem ok29:chkF Go.Proofs.Tryz.prog [0,1,2,3] default Trst.tab 29 Go.Proofs.Tryz.f29 (bodyOf Go.Proofs.Tryz.f29) Trst.a29=true:=by kernel_rfl
set_option maxRecDepth 1000000 in
theorem ok33:chkF Go.Proofs.Tryz.prog [0,1,2,3] default Trst.tab 33 Go.Proofs.Tryz.f33 (bodyOf Go.Proofs.Tryz.f33) Trst.a33=true:=by kernel_rfl
set_option maxRecDepth 1000000 in
theorem ok37:chkF Go.Proofs.Tryz.prog [0,1,2,3] default Trst.tab 37 Go.Proofs.Tryz.f37 (bodyOf Go.Proofs.Tryz.f37) Trst.a37=true:=by kernel_rfl
set_option maxRecDepth 1000000 in
theorem ok41:chkF Go.Proofs.Tryz.prog [0,1,2,3] default Trst.tab 41 Go.Proofs.Tryz.f41 (bodyOf Go.Proofs.Tryz.f41) Trst.a41=true:=by kernel_rfl
set_option maxRecDepth 1000000 in
theorem ok47:chkF Go.Proofs.Tryz.prog [0,1,2,3] default Trst.tab 47 Go.Proofs.Tryz.f47 (bodyOf Go.Proofs.Tryz.f47) Trst.a47=true:=by kernel_rfl
set_option maxRecDepth 1000000 in
theorem ok53:chkF Go.Proofs.Tryz.prog [0,1,2,3] default Trst.tab 53 Go.Proofs.Tryz.f53 (bodyOf Go.Proofs.Tryz.f53) Trst.a53=true:=by kernel_rfl
set_option maxRecDepth 1000000 in
theorem ok60:chkF Go.Proofs.Tryz.prog [0,1,2,3] default Trst.tab 60 Go.Proofs.Tryz.f60 (bodyOf Go.Proofs.Tryz.f60) Trst.a60=true:=by kernel_rfl
set_option maxRecDepth 1000000 in
theorem ok66:chkF Go.Proofs.Tryz.prog [0,1,2,3] default Trst.tab 66 Go.Proofs.Tryz.f66 (bodyOf Go.Proofs.Tryz.f66) Trst.a66=true:=by kernel_rfl
set_option maxRecDepth 1000000 in
theorem ok73:chkF Go.Proofs.Tryz.prog [0,1,2,3] default Trst.tab 73 Go.Proofs.Tryz.f73 (bodyOf Go.Proofs.Tryz.f73) Trst.a73=true:=by kernel_rfl
set_option maxRecDepth 1000000 in
theorem ok77:chkF Go.Proofs.Tryz.prog [0,1,2,3] default Trst.tab 77 Go.Proofs.Tryz.f77 (bodyOf Go.Proofs.Tryz.f77) Trst.a77=true:=by kernel_rfl
set_option maxRecDepth 1000000 in
theorem ok82:chkF Go.Proofs.Tryz.prog [0,1,2,3] default Trst.tab 82 Go.Proofs.Tryz.f82 (bodyOf Go.Proofs.Tryz.f82) Trst.a82=true:=by kernel_rfl
set_option maxRecDepth 1000000 in
theorem ok88:chkF Go.Proofs.Tryz.prog [0,1,2,3] default Trst.tab 88 Go.Proofs.Tryz.f88 (bodyOf Go.Proofs.Tryz.f88) Trst.a88=true:=by kernel_rfl
set_option maxRecDepth 1000000 in
theorem ok93:chkF Go.Proofs.Tryz.prog [0,1,2,3] default Trst.tab 93 Go.Proofs.Tryz.f93 (bodyOf Go.Proofs.Tryz.f93) Trst.a93=true:=by kernel_rfl
set_option maxRecDepth 1000000 in
theorem ok97:chkF Go.Proofs.Tryz.prog [0,1,2,3] default Trst.tab 97 Go.Proofs.Tryz.f97 (bodyOf Go.Proofs.Tryz.f97) Trst.a97=true:=by kernel_rfl
set_option maxRecDepth 1000000 in
theorem ok102:chkF Go.Proofs.Tryz.prog [0,1,2,3] default Trst.tab 102 Go.Proofs.Tryz.f102 (bodyOf Go.Proofs.Tryz.f102) Trst.a102=true:=by kernel_rfl
set_option maxRecDepth 1000000 in
theorem ok106:chkF Go.Proofs.Tryz.prog [0,1,2,3] default Trst.tab 106 Go.Proofs.Tryz.f106 (bodyOf Go.Proofs.Tryz.f106) Trst.a106=true:=by kernel_rfl
set_option maxRecDepth 1000000 in
theorem ok110:chkF Go.Proofs.Tryz.prog [0,1,2,3] default Trst.tab 110 Go.Proofs.Tryz.f110 (bodyOf Go.Proofs.Tryz.f110) Trst.a110=true:=by kernel_rfl
set_option maxRecDepth 1000000 in
theorem ok114:chkF Go.Proofs.Tryz.prog [0,1,2,3] default Trst.tab 114 Go.Proofs.Tryz.f114 (bodyOf Go.Proofs.Tryz.f114) Trst.a114=true:=by kernel_rfl
set_option maxRecDepth 1000000 in
theorem ok118:chkF Go.Proofs.Tryz.prog [0,1,2,3] default Trst.tab 118 Go.Proofs.Tryz.f118 (bodyOf Go.Proofs.Tryz.f118) Trst.a118=true:=by kernel_rfl
set_option maxRecDepth 1000000 in
theorem ok122:chkF Go.Proofs.Tryz.prog [0,1,2,3] default Trst.tab 122 Go.Proofs.Tryz.f122 (bodyOf Go.Proofs.Tryz.f122) Trst.a122=true:=by kernel_rfl
set_option maxRecDepth 1000000 in
theorem ok128:chkF Go.Proofs.Tryz.prog [0,1,2,3] default Trst.tab 128 Go.Proofs.Tryz.f128 (bodyOf Go.Proofs.Tryz.f128) Trst.a128=true:=by kernel_rfl
set_option maxRecDepth 1000000 in
theorem ok134:chkF Go.Proofs.Tryz.prog [0,1,2,3] default Trst.tab 134 Go.Proofs.Tryz.f134 (bodyOf Go.Proofs.Tryz.f134) Trst.a134=true:=by kernel_rfl
set_option maxRecDepth 1000000 in
theorem ok138:chkF Go.Proofs.Tryz.prog [0,1,2,3] default Trst.tab 138 Go.Proofs.Tryz.f138 (bodyOf Go.Proofs.Tryz.f138) Trst.a138=true:=by kernel_rfl
set_option maxRecDepth 1000000 in
theorem ok174:chkF Go.Proofs.Tryz.prog [0,1,2,3] default Trst.tab 174 Go.Proofs.Tryz.f174 (bodyOf Go.Proofs.Tryz.f174) Trst.a174=true:=by kernel_rfl
set_option maxRecDepth 1000000 in
theorem ok178:chkF Go.Proofs.Tryz.prog [0,1,2,3] default Trst.tab 178 Go.Proofs.Tryz.f178 (bodyOf Go.Proofs.Tryz.f178) Trst.a178=true:=by kernel_rfl
set_option maxRecDepth 1000000 in
theorem ok185:chkF Go.Proofs.Tryz.prog [0,1,2,3] default Trst.tab 185 Go.Proofs.Tryz.f185 (bodyOf Go.Proofs.Tryz.f185) Trst.a185=true:=by kernel_rfl
set_option maxRecDepth 1000000 in
theorem ok6:chkF Go.Proofs.Tryz.prog [0,1,2,3] default Trst.tab 6 Go.Proofs.Tryz.f6 (bodyOf Go.Proofs.Tryz.f6) Trst.a6=true:=by kernel_rfl
set_option maxRecDepth 1000000 in
theorem ok10:chkF Go.Proofs.Tryz.prog [0,1,2,3] default Trst.tab 10 Go.Proofs.Tryz.f10 (bodyOf Go.Proofs.Tryz.f10) Trst.a10=true:=by kernel_rfl
set_option maxRecDepth 1000000 in
theorem ok14:chkF Go.Proofs.Tryz.prog [0,1,2,3] default Trst.tab 14 Go.Proofs.Tryz.f14 (bodyOf Go.Proofs.Tryz.f14) Trst.a14=true:=by kernel_rfl
set_option maxRecDepth 1000000 in
theorem ok18:chkF Go.Proofs.Tryz.prog [0,1,2,3] default Trst.tab 18 Go.Proofs.Tryz.f18 (bodyOf Go.Proofs.Tryz.f18) Trst.a18=true:=by kernel_rfl
set_option maxRecDepth 1000000 in
theorem ok22:chkF Go.Proofs.Tryz.prog [0,1,2,3] default Trst.tab 22 Go.Proofs.Tryz.f22 (bodyOf Go.Proofs.Tryz.f22) Trst.a22=true:=by kernel_rfl
set_option maxRecDepth 1000000 in
theorem ok26:chkF Go.Proofs.Tryz.prog [0,1,2,3] default Trst.tab 26 Go.Proofs.Tryz.f26 (bodyOf Go.Proofs.Tryz.f26) Trst.a26=true:=by kernel_rfl
set_option maxRecDepth 1000000 in
theorem ok30:chkF Go.Proofs.Tryz.prog [0,1,2,3] default Trst.tab 30 Go.Proofs.Tryz.f30 (bodyOf Go.Proofs.Tryz.f30) Trst.a30=true:=by kernel_rfl
set_option maxRecDepth 1000000 in
theorem ok34:chkF Go.Proofs.Tryz.prog [0,1,2,3] default Trst.tab 34 Go.Proofs.Tryz.f34 (bodyOf Go.Proofs.Tryz.f34) Trst.a34=true:=by kernel_rfl
set_option maxRecDepth 1000000 in
theorem ok38:chkF Go.Proofs.Tryz.prog [0,1,2,3] default Trst.tab 38 Go.Proofs.Tryz.f38 (bodyOf Go.Proofs.Tryz.f38) Trst.a38=true:=by kernel_rfl
set_option maxRecDepth 1000000 in
theorem ok42:chkF Go.Proofs.Tryz.prog [0,1,2,3] default Trst.tab 42 Go.Proofs.Tryz.f42 (bodyOf Go.Proofs.Tryz.f42) Trst.a42=true:=by kernel_rfl
set_option maxRecDepth 1000000 in
theorem ok49:chkF Go.Proofs.Tryz.prog [0,1,2,3] default Trst.tab 49 Go.Proofs.Tryz.f49 (bodyOf Go.Proofs.Tryz.f49) Trst.a49=true:=by kernel_rfl
set_option maxRecDepth 1000000 in
theorem ok55:chkF Go.Proofs.Tryz.prog [0,1,2,3] default Trst.tab 55 Go.Proofs.Tryz.f55 (bodyOf Go.Proofs.Tryz.f55) Trst.a55=true:=by kernel_rfl
set_option maxRecDepth 1000000 in
theorem ok62:chkF Go.Proofs.Tryz.prog [0,1,2,3] default Trst.tab 62 Go.Proofs.Tryz.f62 (bodyOf Go.Proofs.Tryz.f62) Trst.a62=true:=by kernel_rfl
set_option maxRecDepth 1000000 in
theorem ok70:chkF Go.Proofs.Tryz.prog [0,1,2,3] default Trst.tab 70 Go.Proofs.Tryz.f70 (bodyOf Go.Proofs.Tryz.f70) Trst.a70=true:=by kernel_rfl
set_option maxRecDepth 1000000 in
theorem ok74:chkF Go.Proofs.Tryz.prog [0,1,2,3] default Trst.tab 74 Go.Proofs.Tryz.f74 (bodyOf Go.Proofs.Tryz.f74) Trst.a74=true:=by kernel_rfl
set_option maxRecDepth 1000000 in
theorem ok78:chkF Go.Proofs.Tryz.prog [0,1,2,3] default Trst.tab 78 Go.Proofs.Tryz.f78 (bodyOf Go.Proofs.Tryz.f78) Trst.a78=true:=by kernel_rfl
set_option maxRecDepth 1000000 in
theorem ok85:chkF Go.Proofs.Tryz.prog [0,1,2,3] default Trst.tab 85 Go.Proofs.Tryz.f85 (bodyOf Go.Proofs.Tryz.f85) Trst.a85=true:=by kernel_rfl
set_option maxRecDepth 1000000 in
theorem ok89:chkF Go.Proofs.Tryz.prog [0,1,2,3] default Trst.tab 89 Go.Proofs.Tryz.f89 (bodyOf Go.Proofs.Tryz.f89) Trst.a89=true:=by kernel_rfl
set_option maxRecDepth 1000000 in
theorem ok94:chkF Go.Proofs.Tryz.prog [0,1,2,3] default Trst.tab 94 Go.Proofs.Tryz.f94 (bodyOf Go.Proofs.Tryz.f94) Trst.a94=true:=by kernel_rfl
set_option maxRecDepth 1000000 in
theorem ok99:chkF Go.Proofs.Tryz.prog [0,1,2,3] default Trst.tab 99 Go.Proofs.Tryz.f99 (bodyOf Go.Proofs.Tryz.f99) Trst.a99=true:=by kernel_rfl
set_option maxRecDepth 1000000 in
theorem ok103:chkF Go.Proofs.Tryz.prog [0,1,2,3] default Trst.tab 103 Go.Proofs.Tryz.f103 (bodyOf Go.Proofs.Tryz.f103) Trst.a103=true:=by kernel_rfl
set_option maxRecDepth 1000000 in
theorem ok107:chkF Go.Proofs.Tryz.prog [0,1,2,3] default Trst.tab 107 Go.Proofs.Tryz.f107 (bodyOf Go.Proofs.Tryz.f107) Trst.a107=true:=by kernel_rfl
set_option maxRecDepth 1000000 in
theorem ok111:chkF Go.Proofs.Tryz.prog [0,1,2,3] default Trst.tab 111 Go.Proofs.Tryz.f111 (bodyOf Go.Proofs.Tryz.f111) Trst.a111=true:=by kernel_rfl
set_option maxRecDepth 1000000 in
theorem ok115:chkF Go.Proofs.Tryz.prog [0,1,2,3] default Trst.tab 115 Go.Proofs.Tryz.f115 (bodyOf Go.Proofs.Tryz.f115) Trst.a115=true:=by kernel_rfl
set_option maxRecDepth 1000000 in
theorem ok119:chkF Go.Proofs.Tryz.prog [0,1,2,3] default Trst.tab 119 Go.Proofs.Tryz.f119 (bodyOf Go.Proofs.Tryz.f119) Trst.a119=true:=by kernel_rfl
set_option maxRecDepth 1000000 in
theorem ok123:chkF Go.Proofs.Tryz.prog [0,1,2,3] default Trst.tab 123 Go.Proofs.Tryz.f123 (bodyOf Go.Proofs.Tryz.f123) Trst.a123=true:=by kernel_rfl
set_option maxRecDepth 1000000 in
theorem ok131:chkF Go.Proofs.Tryz.prog [0,1,2,3] default Trst.tab 131 Go.Proofs.Tryz.f131 (bodyOf Go.Proofs.Tryz.f131) Trst.a131=true:=by kernel_rfl
set_option maxRecDepth 1000000 in
theorem ok135:chkF Go.Proofs.Tryz.prog [0,1,2,3] default Trst.tab 135 Go.Proofs.Tryz.f135 (bodyOf Go.Proofs.Tryz.f135) Trst.a135=true:=by kernel_rfl
set_option maxRecDepth 1000000 in
theorem ok139:chkF Go.Proofs.Tryz.prog [0,1,2,3] default Trst.tab 139 Go.Proofs.Tryz.f139 (bodyOf Go.Proofs.Tryz.f139) Trst.a139=true:=by kernel_rfl
set_option maxRecDepth 1000000 in
theorem ok175:chkF Go.Proofs.Tryz.prog [0,1,2,3] default Trst.tab 175 Go.Proofs.Tryz.f175 (bodyOf Go.Proofs.Tryz.f175) Trst.a175=true:=by kernel_rfl
set_option maxRecDepth 1000000 in
theorem ok179:chkF Go.Proofs.Tryz.prog [0,1,2,3] default Trst.tab 179 Go.Proofs.Tryz.f179 (bodyOf Go.Proofs.Tryz.f179) Trst.a179=true:=by kernel_rfl
set_option maxRecDepth 1000000 in
theorem ok188:chkF Go.Proofs.Tryz.prog [0,1,2,3] default Trst.tab 188 Go.Proofs.Tryz.f188 (bodyOf Go.Proofs.Tryz.f188) Trst.a188=true:=by kernel_rfl
theorem fn_ok {f:Nat} {fn:Func} {af:AFunc} (h0:Go.Proofs.Tryz.prog.funcs[f]?=some fn) (h1:fn.body.isSome=true) (h2:chkF Go.Proofs.Tryz.prog [0,1,2,3] default Trst.tab f fn (bodyOf fn) af=true) (h3:af.ins.isEmpty=true) :
  if af.ins.isEmpty then ∃ fn code,Go.Proofs.Tryz.prog.funcs[f]?=some fn∧fn.body=some code∧chkF Go.Proofs.Tryz.prog [0,1,2,3] default Trst.tab f fn code af=true else chkY Go.Proofs.Tryz.prog [0,1,2,3] default Trst.tab f af=true:=by
 rw [if_pos h3]
 obtain ⟨c,hc⟩:=Option.isSome_iff_exists.1 h1
 refine ⟨fn,c,h0,hc,?_⟩
 simpa [bodyOf,hc] using h2
theorem rnd_ok {f:Nat} {af:AFunc} (h2:chkY Go.Proofs.Tryz.prog [0,1,2,3] default Trst.tab f af=true) (h3:af.ins.isEmpty=false) :
  if af.ins.isEmpty then ∃ fn code,Go.Proofs.Tryz.prog.funcs[f]?=some fn∧fn.body=some code∧chkF Go.Proofs.Tryz.prog [0,1,2,3] default Trst.tab f fn code af=true else chkY Go.Proofs.Tryz.prog [0,1,2,3] default Trst.tab f af=true:=by
 rw [if_neg (by simp [h3])]
 exact h2
set_option maxRecDepth 100000 in
theorem prog_ok:ProgOK Go.Proofs.Tryz.prog [0,1,2,3] default Trst.tab Trst.aprog:=by
 intro f af h
 unfold Trst.aprog at h
 split at h
 ·cases h; exact fn_ok Go.Proofs.Tryz.func3 (by kernel_rfl) ok3 rfl
 ·cases h; exact fn_ok Go.Proofs.Tryz.func4 (by kernel_rfl) ok4 rfl
 ·cases h; exact fn_ok Go.Proofs.Tryz.func5 (by kernel_rfl) ok5 rfl
 ·cases h; exact fn_ok Go.Proofs.Tryz.func6 (by kernel_rfl) ok6 rfl
 ·cases h; exact fn_ok Go.Proofs.Tryz.func7 (by kernel_rfl) ok7 rfl
 ·cases h; exact fn_ok Go.Proofs.Tryz.func8 (by kernel_rfl) ok8 rfl
 ·cases h; exact fn_ok Go.Proofs.Tryz.func9 (by kernel_rfl) ok9 rfl
 ·cases h; exact fn_ok Go.Proofs.Tryz.func10 (by kernel_rfl) ok10 rfl
 ·cases h; exact fn_ok Go.Proofs.Tryz.func11 (by kernel_rfl) ok11 rfl
 ·cases h; exact fn_ok Go.Proofs.Tryz.func12 (by kernel_rfl) ok12 rfl
 ·cases h; exact fn_ok Go.Proofs.Tryz.func13 (by kernel_rfl) ok13 rfl
 ·cases h; exact fn_ok Go.Proofs.Tryz.func14 (by kernel_rfl) ok14 rfl
 ·cases h; exact fn_ok Go.Proofs.Tryz.func15 (by kernel_rfl) ok15 rfl
 ·cases h; exact fn_ok Go.Proofs.Tryz.func16 (by kernel_rfl) ok16 rfl
 ·cases h; exact fn_ok Go.Proofs.Tryz.func17 (by kernel_rfl) ok17 rfl
 ·cases h; exact fn_ok Go.Proofs.Tryz.func18 (by kernel_rfl) ok18 rfl
 ·cases h; exact fn_ok Go.Proofs.Tryz.func19 (by kernel_rfl) ok19 rfl
 ·cases h; exact fn_ok Go.Proofs.Tryz.func20 (by kernel_rfl) ok20 rfl
 ·cases h; exact fn_ok Go.Proofs.Tryz.func21 (by kernel_rfl) ok21 rfl
 ·cases h; exact fn_ok Go.Proofs.Tryz.func22 (by kernel_rfl) ok22 rfl
 ·cases h; exact fn_ok Go.Proofs.Tryz.func23 (by kernel_rfl) ok23 rfl
 ·cases h; exact fn_ok Go.Proofs.Tryz.func24 (by kernel_rfl) ok24 rfl
 ·cases h; exact fn_ok Go.Proofs.Tryz.func25 (by kernel_rfl) ok25 rfl
 ·cases h; exact fn_ok Go.Proofs.Tryz.func26 (by kernel_rfl) ok26 rfl
 ·cases h; exact fn_ok Go.Proofs.Tryz.func27 (by kernel_rfl) ok27 rfl
 ·cases h; exact fn_ok Go.Proofs.Tryz.func28 (by kernel_rfl) ok28 rfl
 ·cases h; exact fn_ok Go.Proofs.Tryz.func29 (by kernel_rfl) ok29 rfl
 ·cases h; exact fn_ok Go.Proofs.Tryz.func30 (by kernel_rfl) ok30 rfl
 ·cases h; exact fn_ok Go.Proofs.Tryz.func31 (by kernel_rfl) ok31 rfl
 ·cases h; exact fn_ok Go.Proofs.Tryz.func32 (by kernel_rfl) ok32 rfl
 ·cases h; exact fn_ok Go.Proofs.Tryz.func33 (by kernel_rfl) ok33 rfl
 ·cases h; exact fn_ok Go.Proofs.Tryz.func34 (by kernel_rfl) ok34 rfl
 ·cases h; exact fn_ok Go.Proofs.Tryz.func35 (by kernel_rfl) ok35 rfl
 ·cases h; exact fn_ok Go.Proofs.Tryz.func36 (by kernel_rfl) ok36 rfl
 ·cases h; exact fn_ok Go.Proofs.Tryz.func37 (by kernel_rfl) ok37 rfl
 ·cases h; exact fn_ok Go.Proofs.Tryz.func38 (by kernel_rfl) ok38 rfl
 ·cases h; exact fn_ok Go.Proofs.Tryz.func39 (by kernel_rfl) ok39 rfl
 ·cases h; exact fn_ok Go.Proofs.Tryz.func40 (by kernel_rfl) ok40 rfl
 ·cases h; exact fn_ok Go.Proofs.Tryz.func41 (by kernel_rfl) ok41 rfl
 ·cases h; exact fn_ok Go.Proofs.Tryz.func42 (by kernel_rfl) ok42 rfl
 ·cases h; exact fn_ok Go.Proofs.Tryz.func43 (by kernel_rfl) ok43 rfl
 ·cases h; exact fn_ok Go.Proofs.Tryz.func44 (by kernel_rfl) ok44 rfl
 ·cases h; exact fn_ok Go.Proofs.Tryz.func47 (by kernel_rfl) ok47 rfl
 ·cases h; exact fn_ok Go.Proofs.Tryz.func49 (by kernel_rfl) ok49 rfl
 ·cases h; exact fn_ok Go.Proofs.Tryz.func50 (by kernel_rfl) ok50 rfl
 ·cases h; exact fn_ok Go.Proofs.Tryz.func52 (by kernel_rfl) ok52 rfl
 ·cases h; exact fn_ok Go.Proofs.Tryz.func53 (by kernel_rfl) ok53 rfl
 ·cases h; exact fn_ok Go.Proofs.Tryz.func55 (by kernel_rfl) ok55 rfl
 ·cases h; exact fn_ok Go.Proofs.Tryz.func56 (by kernel_rfl) ok56 rfl
 ·cases h; exact fn_ok Go.Proofs.Tryz.func58 (by kernel_rfl) ok58 rfl
 ·cases h; exact fn_ok Go.Proofs.Tryz.func60 (by kernel_rfl) ok60 rfl
 ·cases h; exact fn_ok Go.Proofs.Tryz.func62 (by kernel_rfl) ok62 rfl
 ·cases h; exact fn_ok Go.Proofs.Tryz.func63 (by kernel_rfl) ok63 rfl
 ·cases h; exact fn_ok Go.Proofs.Tryz.func64 (by kernel_rfl) ok64 rfl
 ·cases h; exact fn_ok Go.Proofs.Tryz.func66 (by kernel_rfl) ok66 rfl
 ·cases h; exact fn_ok Go.Proofs.Tryz.func70 (by kernel_rfl) ok70 rfl
 ·cases h; exact fn_ok Go.Proofs.Tryz.func71 (by kernel_rfl) ok71 rfl
 ·cases h; exact fn_ok Go.Proofs.Tryz.func72 (by kernel_rfl) ok72 rfl
 ·cases h; exact fn_ok Go.Proofs.Tryz.func73 (by kernel_rfl) ok73 rfl
 ·cases h; exact fn_ok Go.Proofs.Tryz.func74 (by kernel_rfl) ok74 rfl
 ·cases h; exact fn_ok Go.Proofs.Tryz.func75 (by kernel_rfl) ok75 rfl
 ·cases h; exact fn_ok Go.Proofs.Tryz.func76 (by kernel_rfl) ok76 rfl
 ·cases h; exact fn_ok Go.Proofs.Tryz.func77 (by kernel_rfl) ok77 rfl
 ·cases h; exact fn_ok Go.Proofs.Tryz.func78 (by kernel_rfl) ok78 rfl
 ·cases h; exact fn_ok Go.Proofs.Tryz.func79 (by kernel_rfl) ok79 rfl
 ·cases h; exact fn_ok Go.Proofs.Tryz.func81 (by kernel_rfl) ok81 rfl
 ·cases h; exact fn_ok Go.Proofs.Tryz.func82 (by kernel_rfl) ok82 rfl
 ·cases h; exact fn_ok Go.Proofs.Tryz.func85 (by kernel_rfl) ok85 rfl
 ·cases h; exact fn_ok Go.Proofs.Tryz.func86 (by kernel_rfl) ok86 rfl
 ·cases h; exact fn_ok Go.Proofs.Tryz.func87 (by kernel_rfl) ok87 rfl
 ·cases h; exact fn_ok Go.Proofs.Tryz.func88 (by kernel_rfl) ok88 rfl
 ·cases h; exact fn_ok Go.Proofs.Tryz.func89 (by kernel_rfl) ok89 rfl
 ·cases h; exact fn_ok Go.Proofs.Tryz.func90 (by kernel_rfl) ok90 rfl
 ·cases h; exact fn_ok Go.Proofs.Tryz.func92 (by kernel_rfl) ok92 rfl
 ·cases h; exact fn_ok Go.Proofs.Tryz.func93 (by kernel_rfl) ok93 rfl
 ·cases h; exact fn_ok Go.Proofs.Tryz.func94 (by kernel_rfl) ok94 rfl
 ·cases h; exact fn_ok Go.Proofs.Tryz.func95 (by kernel_rfl) ok95 rfl
 ·cases h; exact fn_ok Go.Proofs.Tryz.func96 (by kernel_rfl) ok96 rfl
 ·cases h; exact fn_ok Go.Proofs.Tryz.func97 (by kernel_rfl) ok97 rfl
 ·cases h; exact fn_ok Go.Proofs.Tryz.func99 (by kernel_rfl) ok99 rfl
 ·cases h; exact fn_ok Go.Proofs.Tryz.func100 (by kernel_rfl) ok100 rfl
 ·cases h; exact fn_ok Go.Proofs.Tryz.func101 (by kernel_rfl) ok101 rfl
 ·cases h; exact fn_ok Go.Proofs.Tryz.func102 (by kernel_rfl) ok102 rfl
 ·cases h; exact fn_ok Go.Proofs.Tryz.func103 (by kernel_rfl) ok103 rfl
 ·cases h; exact fn_ok Go.Proofs.Tryz.func104 (by kernel_rfl) ok104 rfl
 ·cases h; exact fn_ok Go.Proofs.Tryz.func105 (by kernel_rfl) ok105 rfl
 ·cases h; exact fn_ok Go.Proofs.Tryz.func106 (by kernel_rfl) ok106 rfl
 ·cases h; exact fn_ok Go.Proofs.Tryz.func107 (by kernel_rfl) ok107 rfl
 ·cases h; exact fn_ok Go.Proofs.Tryz.func108 (by kernel_rfl) ok108 rfl
 ·cases h; exact fn_ok Go.Proofs.Tryz.func109 (by kernel_rfl) ok109 rfl
 ·cases h; exact fn_ok Go.Proofs.Tryz.func110 (by kernel_rfl) ok110 rfl
 ·cases h; exact fn_ok Go.Proofs.Tryz.func111 (by kernel_rfl) ok111 rfl
 ·cases h; exact fn_ok Go.Proofs.Tryz.func112 (by kernel_rfl) ok112 rfl
 ·cases h; exact fn_ok Go.Proofs.Tryz.func113 (by kernel_rfl) ok113 rfl
 ·cases h; exact fn_ok Go.Proofs.Tryz.func114 (by kernel_rfl) ok114 rfl
 ·cases h; exact fn_ok Go.Proofs.Tryz.func115 (by kernel_rfl) ok115 rfl
 ·cases h; exact fn_ok Go.Proofs.Tryz.func116 (by kernel_rfl) ok116 rfl
 ·cases h; exact fn_ok Go.Proofs.Tryz.func117 (by kernel_rfl) ok117 rfl
 ·cases h; exact fn_ok Go.Proofs.Tryz.func118 (by kernel_rfl) ok118 rfl
 ·cases h; exact fn_ok Go.Proofs.Tryz.func119 (by kernel_rfl) ok119 rfl
 ·cases h; exact fn_ok Go.Proofs.Tryz.func120 (by kernel_rfl) ok120 rfl
 ·cases h; exact fn_ok Go.Proofs.Tryz.func121 (by kernel_rfl) ok121 rfl
 ·cases h; exact fn_ok Go.Proofs.Tryz.func122 (by kernel_rfl) ok122 rfl
 ·cases h; exact fn_ok Go.Proofs.Tryz.func123 (by kernel_rfl) ok123 rfl
 ·cases h; exact fn_ok Go.Proofs.Tryz.func126 (by kernel_rfl) ok126 rfl
 ·cases h; exact fn_ok Go.Proofs.Tryz.func127 (by kernel_rfl) ok127 rfl
 ·cases h; exact fn_ok Go.Proofs.Tryz.func128 (by kernel_rfl) ok128 rfl
 ·cases h; exact fn_ok Go.Proofs.Tryz.func131 (by kernel_rfl) ok131 rfl
 ·cases h; exact fn_ok Go.Proofs.Tryz.func132 (by kernel_rfl) ok132 rfl
 ·cases h; exact fn_ok Go.Proofs.Tryz.func133 (by kernel_rfl) ok133 rfl
 ·cases h; exact fn_ok Go.Proofs.Tryz.func134 (by kernel_rfl) ok134 rfl
 ·cases h; exact fn_ok Go.Proofs.Tryz.func135 (by kernel_rfl) ok135 rfl
 ·cases h; exact fn_ok Go.Proofs.Tryz.func136 (by kernel_rfl) ok136 rfl
 ·cases h; exact fn_ok Go.Proofs.Tryz.func137 (by kernel_rfl) ok137 rfl
 ·cases h; exact fn_ok Go.Proofs.Tryz.func138 (by kernel_rfl) ok138 rfl
 ·cases h; exact fn_ok Go.Proofs.Tryz.func139 (by kernel_rfl) ok139 rfl
 ·cases h; exact fn_ok Go.Proofs.Tryz.func145 (by kernel_rfl) ok145 rfl
 ·cases h; exact fn_ok Go.Proofs.Tryz.func173 (by kernel_rfl) ok173 rfl
 ·cases h; exact fn_ok Go.Proofs.Tryz.func174 (by kernel_rfl) ok174 rfl
 ·cases h; exact fn_ok Go.Proofs.Tryz.func175 (by kernel_rfl) ok175 rfl
 ·cases h; exact fn_ok Go.Proofs.Tryz.func176 (by kernel_rfl) ok176 rfl
 ·cases h; exact fn_ok Go.Proofs.Tryz.func177 (by kernel_rfl) ok177 rfl
 ·cases h; exact fn_ok Go.Proofs.Tryz.func178 (by kernel_rfl) ok178 rfl
 ·cases h; exact fn_ok Go.Proofs.Tryz.func179 (by kernel_rfl) ok179 rfl
 ·cases h; exact fn_ok Go.Proofs.Tryz.func180 (by kernel_rfl) ok180 rfl
 ·cases h; exact fn_ok Go.Proofs.Tryz.func184 (by kernel_rfl) ok184 rfl
 ·cases h; exact fn_ok Go.Proofs.Tryz.func185 (by kernel_rfl) ok185 rfl
 ·cases h; exact fn_ok Go.Proofs.Tryz.func188 (by kernel_rfl) ok188 rfl
 ·cases h; exact fn_ok Go.Proofs.Tryz.func195 (by kernel_rfl) ok195 rfl
 ·cases h; exact fn_ok Go.Proofs.Tryz.func197 (by kernel_rfl) ok197 rfl
 ·cases h; exact rnd_ok ok10230 rfl
 ·cases h; exact rnd_ok ok10310 rfl
 ·cases h; exact rnd_ok ok10350 rfl
 ·cases h; exact rnd_ok ok10900 rfl
 ·cases h
end Go.Proofs.Zst
