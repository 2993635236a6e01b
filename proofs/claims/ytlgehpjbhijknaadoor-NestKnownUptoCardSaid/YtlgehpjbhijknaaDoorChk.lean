/- A part of the law's proof: Chk. -/
import Derived.Test.YtlgehpjbhijknaaDoorRows
import Derived.Test.YtlgehpjbhijknaaDoorCoreD
import Derived.Test.YtlgehpjbhijknaaDoorFn
import Derived.KernelRfl
set_option linter.unusedVariables false
set_option linter.unusedSimpArgs false
namespace Go.Proofs.Nst
open Go Go.Am
noncomputable def bodyOf (f:Func):Code:=f.body.getD .skip
set_option maxRecDepth 1000000 in
theorem ok11:chkF Go.Proofs.Tryd.prog [0,1,2] default Trnx.tab 11 Go.Proofs.Tryd.f11 (bodyOf Go.Proofs.Tryd.f11) Trnx.a11=true:=by kernel_rfl
set_option maxRecDepth 1000000 in
theorem ok27:chkF Go.Proofs.Tryd.prog [0,1,2] default Trnx.tab 27 Go.Proofs.Tryd.f27 (bodyOf Go.Proofs.Tryd.f27) Trnx.a27=true:=by kernel_rfl
set_option maxRecDepth 1000000 in
theorem ok31:chkF Go.Proofs.Tryd.prog [0,1,2] default Trnx.tab 31 Go.Proofs.Tryd.f31 (bodyOf Go.Proofs.Tryd.f31) Trnx.a31=true:=by kernel_rfl
set_option maxRecDepth 1000000 in
theorem ok35:chkF Go.Proofs.Tryd.prog [0,1,2] default Trnx.tab 35 Go.Proofs.Tryd.f35 (bodyOf Go.Proofs.Tryd.f35) Trnx.a35=true:=by kernel_rfl
set_option maxRecDepth 1000000 in
theorem ok39:chkF Go.Proofs.Tryd.prog [0,1,2] default Trnx.tab 39 Go.Proofs.Tryd.f39 (bodyOf Go.Proofs.Tryd.f39) Trnx.a39=true:=by kernel_rfl
set_option maxRecDepth 1000000 in
theorem ok43:chkF Go.Proofs.Tryd.prog [0,1,2] default Trnx.tab 43 Go.Proofs.Tryd.f43 (bodyOf Go.Proofs.Tryd.f43) Trnx.a43=true:=by kernel_rfl
set_option maxRecDepth 1000000 in
theorem ok47:chkF Go.Proofs.Tryd.prog [0,1,2] default Trnx.tab 47 Go.Proofs.Tryd.f47 (bodyOf Go.Proofs.Tryd.f47) Trnx.a47=true:=by kernel_rfl
set_option maxRecDepth 1000000 in
theorem ok51:chkF Go.Proofs.Tryd.prog [0,1,2] default Trnx.tab 51 Go.Proofs.Tryd.f51 (bodyOf Go.Proofs.Tryd.f51) Trnx.a51=true:=by kernel_rfl
set_option maxRecDepth 1000000 in
theorem ok59:chkF Go.Proofs.Tryd.prog [0,1,2] default Trnx.tab 59 Go.Proofs.Tryd.f59 (bodyOf Go.Proofs.Tryd.f59) Trnx.a59=true:=by kernel_rfl
set_option maxRecDepth 1000000 in
theorem ok63:chkF Go.Proofs.Tryd.prog [0,1,2] default Trnx.tab 63 Go.Proofs.Tryd.f63 (bodyOf Go.Proofs.Tryd.f63) Trnx.a63=true:=by kernel_rfl
set_option maxRecDepth 1000000 in
theorem ok67:chkF Go.Proofs.Tryd.prog [0,1,2] default Trnx.tab 67 Go.Proofs.Tryd.f67 (bodyOf Go.Proofs.Tryd.f67) Trnx.a67=true:=by kernel_rfl
set_option maxRecDepth 1000000 in
theorem ok71:chkF Go.Proofs.Tryd.prog [0,1,2] default Trnx.tab 71 Go.Proofs.Tryd.f71 (bodyOf Go.Proofs.Tryd.f71) Trnx.a71=true:=by kernel_rfl
set_option maxRecDepth 1000000 in
theorem ok75:chkF Go.Proofs.Tryd.prog [0,1,2] default Trnx.tab 75 Go.Proofs.Tryd.f75 (bodyOf Go.Proofs.Tryd.f75) Trnx.a75=true:=by kernel_rfl
set_option maxRecDepth 1000000 in
theorem ok79:chkF Go.Proofs.Tryd.prog [0,1,2] default Trnx.tab 79 Go.Proofs.Tryd.f79 (bodyOf Go.Proofs.Tryd.f79) Trnx.a79=true:=by kernel_rfl
set_option maxRecDepth 1000000 in
theorem ok83:chkF Go.Proofs.Tryd.prog [0,1,2] default Trnx.tab 83 Go.Proofs.Tryd.f83 (bodyOf Go.Proofs.Tryd.f83) Trnx.a83=true:=by kernel_rfl
set_option maxRecDepth 1000000 in
theorem ok87:chkF Go.Proofs.Tryd.prog [0,1,2] default Trnx.tab 87 Go.Proofs.Tryd.f87 (bodyOf Go.Proofs.Tryd.f87) Trnx.a87=true:=by kernel_rfl
set_option maxRecDepth 1000000 in
theorem ok91:chkF Go.Proofs.Tryd.prog [0,1,2] default Trnx.tab 91 Go.Proofs.Tryd.f91 (bodyOf Go.Proofs.Tryd.f91) Trnx.a91=true:=by kernel_rfl
set_option maxRecDepth 1000000 in
theorem ok95:chkF Go.Proofs.Tryd.prog [0,1,2] default Trnx.tab 95 Go.Proofs.Tryd.f95 (bodyOf Go.Proofs.Tryd.f95) Trnx.a95=true:=by kernel_rfl
set_option maxRecDepth 1000000 in
theorem ok99:chkF Go.Proofs.Tryd.prog [0,1,2] default Trnx.tab 99 Go.Proofs.Tryd.f99 (bodyOf Go.Proofs.Tryd.f99) Trnx.a99=true:=by kernel_rfl
set_option maxRecDepth 1000000 in
theorem ok103:chkF Go.Proofs.Tryd.prog [0,1,2] default Trnx.tab 103 Go.Proofs.Tryd.f103 (bodyOf Go.Proofs.Tryd.f103) Trnx.a103=true:=by kernel_rfl
set_option maxRecDepth 1000000 in
theorem ok111:chkF Go.Proofs.Tryd.prog [0,1,2] default Trnx.tab 111 Go.Proofs.Tryd.f111 (bodyOf Go.Proofs.Tryd.f111) Trnx.a111=true:=by kernel_rfl
set_option maxRecDepth 1000000 in
theorem ok131:chkF Go.Proofs.Tryd.prog [0,1,2] default Trnx.tab 131 Go.Proofs.Tryd.f131 (bodyOf Go.Proofs.Tryd.f131) Trnx.a131=true:=by kernel_rfl
theorem ok10690:chkY Go.Proofs.Tryd.prog [0,1,2] default Trnx.tab 10690 Trnx.a10690=true:=by kernel_rfl
set_option maxRecDepth 1000000 in
theorem ok12:chkF Go.Proofs.Tryd.prog [0,1,2] default Trnx.tab 12 Go.Proofs.Tryd.f12 (bodyOf Go.Proofs.Tryd.f12) Trnx.a12=true:=by kernel_rfl
set_option maxRecDepth 1000000 in
theorem ok16:chkF Go.Proofs.Tryd.prog [0,1,2] default Trnx.tab 16 Go.Proofs.Tryd.f16 (bodyOf Go.Proofs.Tryd.f16) Trnx.a16=true:=by kernel_rfl
set_option maxRecDepth 1000000 in
theorem ok20:chkF Go.Proofs.Tryd.prog [0,1,2] default Trnx.tab 20 Go.Proofs.Tryd.f20 (bodyOf Go.Proofs.Tryd.f20) Trnx.a20=true:=by kernel_rfl
set_option maxRecDepth 1000000 in
theorem ok24:chkF Go.Proofs.Tryd.prog [0,1,2] default Trnx.tab 24 Go.Proofs.Tryd.f24 (bodyOf Go.Proofs.Tryd.f24) Trnx.a24=true:=by kernel_rfl
set_option maxRecDepth 1000000 in
theorem ok28:chkF Go.Proofs.Tryd.prog [0,1,2] default Trnx.tab 28 Go.Proofs.Tryd.f28 (bodyOf Go.Proofs.Tryd.f28) Trnx.a28=true:=by kernel_rfl
set_option maxRecDepth 1000000 in
theorem ok40:chkF Go.Proofs.Tryd.prog [0,1,2] default Trnx.tab 40 Go.Proofs.Tryd.f40 (bodyOf Go.Proofs.Tryd.f40) Trnx.a40=true:=by kernel_rfl
set_option maxRecDepth 1000000 in
theorem ok44:chkF Go.Proofs.Tryd.prog [0,1,2] default Trnx.tab 44 Go.Proofs.Tryd.f44 (bodyOf Go.Proofs.Tryd.f44) Trnx.a44=true:=by kernel_rfl
set_option maxRecDepth 1000000 in
theorem ok48:chkF Go.Proofs.Tryd.prog [0,1,2] default Trnx.tab 48 Go.Proofs.Tryd.f48 (bodyOf Go.Proofs.Tryd.f48) Trnx.a48=true:=by kernel_rfl
set_option maxRecDepth 1000000 in
theorem ok52:chkF Go.Proofs.Tryd.prog [0,1,2] default Trnx.tab 52 Go.Proofs.Tryd.f52 (bodyOf Go.Proofs.Tryd.f52) Trnx.a52=true:=by kernel_rfl
set_option maxRecDepth 1000000 in
theorem ok56:chkF Go.Proofs.Tryd.prog [0,1,2] default Trnx.tab 56 Go.Proofs.Tryd.f56 (bodyOf Go.Proofs.Tryd.f56) Trnx.a56=true:=by kernel_rfl
set_option maxRecDepth 1000000 in
theorem ok64:chkF Go.Proofs.Tryd.prog [0,1,2] default Trnx.tab 64 Go.Proofs.Tryd.f64 (bodyOf Go.Proofs.Tryd.f64) Trnx.a64=true:=by kernel_rfl
set_option maxRecDepth 1000000 in
theorem ok72:chkF Go.Proofs.Tryd.prog [0,1,2] default Trnx.tab 72 Go.Proofs.Tryd.f72 (bodyOf Go.Proofs.Tryd.f72) Trnx.a72=true:=by kernel_rfl
set_option maxRecDepth 1000000 in
theorem ok76:chkF Go.Proofs.Tryd.prog [0,1,2] default Trnx.tab 76 Go.Proofs.Tryd.f76 (bodyOf Go.Proofs.Tryd.f76) Trnx.a76=true:=by kernel_rfl
set_option maxRecDepth 1000000 in
theorem ok80:chkF Go.Proofs.Tryd.prog [0,1,2] default Trnx.tab 80 Go.Proofs.Tryd.f80 (bodyOf Go.Proofs.Tryd.f80) Trnx.a80=true:=by kernel_rfl
set_option maxRecDepth 1000000 in
theorem ok88:chkF Go.Proofs.Tryd.prog [0,1,2] default Trnx.tab 88 Go.Proofs.Tryd.f88 (bodyOf Go.Proofs.Tryd.f88) Trnx.a88=true:=by kernel_rfl
set_option maxRecDepth 1000000 in
theorem ok92:chkF Go.Proofs.Tryd.prog [0,1,2] default Trnx.tab 92 Go.Proofs.Tryd.f92 (bodyOf Go.Proofs.Tryd.f92) Trnx.a92=true:=by kernel_rfl
set_option maxRecDepth 1000000 in
theorem ok96:chkF Go.Proofs.Tryd.prog [0,1,2] default Trnx.tab 96 Go.Proofs.Tryd.f96 (bodyOf Go.Proofs.Tryd.f96) Trnx.a96=true:=by kernel_rfl
set_option maxRecDepth 1000000 in
theorem ok100:chkF Go.Proofs.Tryd.prog [0,1,2] default Trnx.tab 100 Go.Proofs.Tryd.f100 (bodyOf Go.Proofs.Tryd.f100) Trnx.a100=true:=by kernel_rfl
set_option maxRecDepth 1000000 in
theorem ok104:chkF Go.Proofs.Tryd.prog [0,1,2] default Trnx.tab 104 Go.Proofs.Tryd.f104 (bodyOf Go.Proofs.Tryd.f104) Trnx.a104=true:=by kernel_rfl
set_option maxRecDepth 1000000 in
theorem ok108:chkF Go.Proofs.Tryd.prog [0,1,2] default Trnx.tab 108 Go.Proofs.Tryd.f108 (bodyOf Go.Proofs.Tryd.f108) Trnx.a108=true:=by kernel_rfl
set_option maxRecDepth 1000000 in
theorem ok128:chkF Go.Proofs.Tryd.prog [0,1,2] default Trnx.tab 128 Go.Proofs.Tryd.f128 (bodyOf Go.Proofs.Tryd.f128) Trnx.a128=true:=by kernel_rfl
set_option maxRecDepth 1000000 in
theorem ok132:chkF Go.Proofs.Tryd.prog [0,1,2] default Trnx.tab 132 Go.Proofs.Tryd.f132 (bodyOf Go.Proofs.Tryd.f132) Trnx.a132=true:=by kernel_rfl
set_option maxRecDepth 1000000 in
theorem ok9:chkF Go.Proofs.Tryd.prog [0,1,2] default Trnx.tab 9 Go.Proofs.Tryd.f9 (bodyOf Go.Proofs.Tryd.f9) Trnx.a9=true:=by kernel_rfl
set_option maxRecDepth 1000000 in
theorem ok29:chkF Go.Proofs.Tryd.prog [0,1,2] default Trnx.tab 29 Go.Proofs.Tryd.f29 (bodyOf Go.Proofs.Tryd.f29) Trnx.a29=true:=by kernel_rfl
set_option maxRecDepth 1000000 in
theorem ok41:chkF Go.Proofs.Tryd.prog [0,1,2] default Trnx.tab 41 Go.Proofs.Tryd.f41 (bodyOf Go.Proofs.Tryd.f41) Trnx.a41=true:=by kernel_rfl
set_option maxRecDepth 1000000 in
theorem ok45:chkF Go.Proofs.Tryd.prog [0,1,2] default Trnx.tab 45 Go.Proofs.Tryd.f45 (bodyOf Go.Proofs.Tryd.f45) Trnx.a45=true:=by kernel_rfl
set_option maxRecDepth 1000000 in
theorem ok49:chkF Go.Proofs.Tryd.prog [0,1,2] default Trnx.tab 49 Go.Proofs.Tryd.f49 (bodyOf Go.Proofs.Tryd.f49) Trnx.a49=true:=by kernel_rfl
set_option maxRecDepth 1000000 in
theorem ok53:chkF Go.Proofs.Tryd.prog [0,1,2] default Trnx.tab 53 Go.Proofs.Tryd.f53 (bodyOf Go.Proofs.Tryd.f53) Trnx.a53=true:=by kernel_rfl
set_option maxRecDepth 1000000 in
theorem ok61:chkF Go.Proofs.Tryd.prog [0,1,2] default Trnx.tab 61 Go.Proofs.Tryd.f61 (bodyOf Go.Proofs.Tryd.f61) Trnx.a61=true:=by kernel_rfl
set_option maxRecDepth 1000000 in
theorem ok69:chkF Go.Proofs.Tryd.prog [0,1,2] default Trnx.tab 69 Go.Proofs.Tryd.f69 (bodyOf Go.Proofs.Tryd.f69) Trnx.a69=true:=by kernel_rfl
set_option maxRecDepth 1000000 in
theorem ok73:chkF Go.Proofs.Tryd.prog [0,1,2] default Trnx.tab 73 Go.Proofs.Tryd.f73 (bodyOf Go.Proofs.Tryd.f73) Trnx.a73=true:=by kernel_rfl
set_option maxRecDepth 1000000 in
theorem ok77:chkF Go.Proofs.Tryd.prog [0,1,2] default Trnx.tab 77 Go.Proofs.Tryd.f77 (bodyOf Go.Proofs.Tryd.f77) Trnx.a77=true:=by kernel_rfl
set_option maxRecDepth 1000000 in
theorem ok81:chkF Go.Proofs.Tryd.prog [0,1,2] default Trnx.tab 81 Go.Proofs.Tryd.f81 (bodyOf Go.Proofs.Tryd.f81) Trnx.a81=true:=by kernel_rfl
set_option maxRecDepth 1000000 in
theorem ok85:chkF Go.Proofs.Tryd.prog [0,1,2] default Trnx.tab 85 Go.Proofs.Tryd.f85 (bodyOf Go.Proofs.Tryd.f85) Trnx.a85=true:=by kernel_rfl
set_option maxRecDepth 1000000 in
theorem ok93:chkF Go.Proofs.Tryd.prog [0,1,2] default Trnx.tab 93 Go.Proofs.Tryd.f93 (bodyOf Go.Proofs.Tryd.f93) Trnx.a93=true:=by kernel_rfl
set_option maxRecDepth 1000000 in
theorem ok97:chkF Go.Proofs.Tryd.prog [0,1,2] default Trnx.tab 97 Go.Proofs.Tryd.f97 (bodyOf Go.Proofs.Tryd.f97) Trnx.a97=true:=by kernel_rfl
set_option maxRecDepth 1000000 in
theorem ok101:chkF Go.Proofs.Tryd.prog [0,1,2] default Trnx.tab 101 Go.Proofs.Tryd.f101 (bodyOf Go.Proofs.Tryd.f101) Trnx.a101=true:=by kernel_rfl
set_option maxRecDepth 1000000 in
theorem ok105:chkF Go.Proofs.Tryd.prog [0,1,2] default Trnx.tab 105 Go.Proofs.Tryd.f105 (bodyOf Go.Proofs.Tryd.f105) Trnx.a105=true:=by kernel_rfl
set_option maxRecDepth 1000000 in
theorem ok109:chkF Go.Proofs.Tryd.prog [0,1,2] default Trnx.tab 109 Go.Proofs.Tryd.f109 (bodyOf Go.Proofs.Tryd.f109) Trnx.a109=true:=by kernel_rfl
set_option maxRecDepth 1000000 in
theorem ok129:chkF Go.Proofs.Tryd.prog [0,1,2] default Trnx.tab 129 Go.Proofs.Tryd.f129 (bodyOf Go.Proofs.Tryd.f129) Trnx.a129=true:=by kernel_rfl
set_option maxRecDepth 1000000 in
theorem ok14:chkF Go.Proofs.Tryd.prog [0,1,2] default Trnx.tab 14 Go.Proofs.Tryd.f14 (bodyOf Go.Proofs.Tryd.f14) Trnx.a14=true:=by kernel_rfl
set_option maxRecDepth 1000000 in
theorem ok18:chkF Go.Proofs.Tryd.prog [0,1,2] default Trnx.tab 18 Go.Proofs.Tryd.f18 (bodyOf Go.Proofs.Tryd.f18) Trnx.a18=true:=by kernel_rfl
set_option maxRecDepth 1000000 in
theorem ok22:chkF Go.Proofs.Tryd.prog [0,1,2] default Trnx.tab 22 Go.Proofs.Tryd.f22 (bodyOf Go.Proofs.Tryd.f22) Trnx.a22=true:=by kernel_rfl
set_option maxRecDepth 1000000 in
theorem ok26:chkF Go.Proofs.Tryd.prog [0,1,2] default Trnx.tab 26 Go.Proofs.Tryd.f26 (bodyOf Go.Proofs.Tryd.f26) Trnx.a26=true:=by kernel_rfl
set_option maxRecDepth 1000000 in
theorem ok34:chkF Go.Proofs.Tryd.prog [0,1,2] default Trnx.tab 34 Go.Proofs.Tryd.f34 (bodyOf Go.Proofs.Tryd.f34) Trnx.a34=true:=by kernel_rfl
set_option maxRecDepth 1000000 in
theorem ok42:chkF Go.Proofs.Tryd.prog [0,1,2] default Trnx.tab 42 Go.Proofs.Tryd.f42 (bodyOf Go.Proofs.Tryd.f42) Trnx.a42=true:=by kernel_rfl
set_option maxRecDepth 1000000 in
theorem ok46:chkF Go.Proofs.Tryd.prog [0,1,2] default Trnx.tab 46 Go.Proofs.Tryd.f46 (bodyOf Go.Proofs.Tryd.f46) Trnx.a46=true:=by kernel_rfl
set_option maxRecDepth 1000000 in
theorem ok50:chkF Go.Proofs.Tryd.prog [0,1,2] default Trnx.tab 50 Go.Proofs.Tryd.f50 (bodyOf Go.Proofs.Tryd.f50) Trnx.a50=true:=by kernel_rfl
set_option maxRecDepth 1000000 in
theorem ok58:chkF Go.Proofs.Tryd.prog [0,1,2] default Trnx.tab 58 Go.Proofs.Tryd.f58 (bodyOf Go.Proofs.Tryd.f58) Trnx.a58=true:=by kernel_rfl
set_option maxRecDepth 1000000 in
theorem ok62:chkF Go.Proofs.Tryd.prog [0,1,2] default Trnx.tab 62 Go.Proofs.Tryd.f62 (bodyOf Go.Proofs.Tryd.f62) Trnx.a62=true:=by kernel_rfl
set_option maxRecDepth 1000000 in
theorem ok70:chkF Go.Proofs.Tryd.prog [0,1,2] default Trnx.tab 70 Go.Proofs.Tryd.f70 (bodyOf Go.Proofs.Tryd.f70) Trnx.a70=true:=by kernel_rfl
set_option maxRecDepth 1000000 in
theorem ok74:chkF Go.Proofs.Tryd.prog [0,1,2] default Trnx.tab 74 Go.Proofs.Tryd.f74 (bodyOf Go.Proofs.Tryd.f74) Trnx.a74=true:=by kernel_rfl
set_option maxRecDepth 1000000 in
theorem ok78:chkF Go.Proofs.Tryd.prog [0,1,2] default Trnx.tab 78 Go.Proofs.Tryd.f78 (bodyOf Go.Proofs.Tryd.f78) Trnx.a78=true:=by kernel_rfl
set_option maxRecDepth 1000000 in
theorem ok82:chkF Go.Proofs.Tryd.prog [0,1,2] default Trnx.tab 82 Go.Proofs.Tryd.f82 (bodyOf Go.Proofs.Tryd.f82) Trnx.a82=true:=by kernel_rfl
set_option maxRecDepth 1000000 in
theorem ok86:chkF Go.Proofs.Tryd.prog [0,1,2] default Trnx.tab 86 Go.Proofs.Tryd.f86 (bodyOf Go.Proofs.Tryd.f86) Trnx.a86=true:=by kernel_rfl
set_option maxRecDepth 1000000 in
theorem ok90:chkF Go.Proofs.Tryd.prog [0,1,2] default Trnx.tab 90 Go.Proofs.Tryd.f90 (bodyOf Go.Proofs.Tryd.f90) Trnx.a90=true:=by kernel_rfl
set_option maxRecDepth 1000000 in
theorem ok94:chkF Go.Proofs.Tryd.prog [0,1,2] default Trnx.tab 94 Go.Proofs.Tryd.f94 (bodyOf Go.Proofs.Tryd.f94) Trnx.a94=true:=by kernel_rfl
set_option maxRecDepth 1000000 in
theorem ok98:chkF Go.Proofs.Tryd.prog [0,1,2] default Trnx.tab 98 Go.Proofs.Tryd.f98 (bodyOf Go.Proofs.Tryd.f98) Trnx.a98=true:=by kernel_rfl
set_option maxRecDepth 1000000 in
theorem ok102:chkF Go.Proofs.Tryd.prog [0,1,2] default Trnx.tab 102 Go.Proofs.Tryd.f102 (bodyOf Go.Proofs.Tryd.f102) Trnx.a102=true:=by kernel_rfl
set_option maxRecDepth 1000000 in
theorem ok110:chkF Go.Proofs.Tryd.prog [0,1,2] default Trnx.tab 110 Go.Proofs.Tryd.f110 (bodyOf Go.Proofs.Tryd.f110) Trnx.a110=true:=by kernel_rfl
set_option maxRecDepth 1000000 in
theorem ok130:chkF Go.Proofs.Tryd.prog [0,1,2] default Trnx.tab 130 Go.Proofs.Tryd.f130 (bodyOf Go.Proofs.Tryd.f130) Trnx.a130=true:=by kernel_rfl
theorem fn_ok {f:Nat} {fn:Func} {af:AFunc} (h0:Go.Proofs.Tryd.prog.funcs[f]?=some fn) (h1:fn.body.isSome=true) (h2:chkF Go.Proofs.Tryd.prog [0,1,2] default Trnx.tab f fn (bodyOf fn) af=true) (h3:af.ins.isEmpty=true) :
  if af.ins.isEmpty then ∃ fn code,Go.Proofs.Tryd.prog.funcs[f]?=some fn∧fn.body=some code∧chkF Go.Proofs.Tryd.prog [0,1,2] default Trnx.tab f fn code af=true else chkY Go.Proofs.Tryd.prog [0,1,2] default Trnx.tab f af=true:=by
 rw [if_pos h3]
 obtain ⟨c,hc⟩:=Option.isSome_iff_exists.1 h1
 refine ⟨fn,c,h0,hc,?_⟩
 simpa [bodyOf,hc] using h2
theorem rnd_ok {f:Nat} {af:AFunc} (h2:chkY Go.Proofs.Tryd.prog [0,1,2] default Trnx.tab f af=true) (h3:af.ins.isEmpty=false) :
  if af.ins.isEmpty then ∃ fn code,Go.Proofs.Tryd.prog.funcs[f]?=some fn∧fn.body=some code∧chkF Go.Proofs.Tryd.prog [0,1,2] default Trnx.tab f fn code af=true else chkY Go.Proofs.Tryd.prog [0,1,2] default Trnx.tab f af=true:=by
 rw [if_neg (by simp [h3])]
 exact h2
set_option maxRecDepth 100000 in
theorem prog_ok:ProgOK Go.Proofs.Tryd.prog [0,1,2] default Trnx.tab Trnx.aprog:=by
 intro f af h
 unfold Trnx.aprog at h
 split at h
 ·cases h; exact fn_ok Go.Proofs.Tryd.func9 (by kernel_rfl) ok9 rfl
 ·cases h; exact fn_ok Go.Proofs.Tryd.func11 (by kernel_rfl) ok11 rfl
 ·cases h; exact fn_ok Go.Proofs.Tryd.func12 (by kernel_rfl) ok12 rfl
 ·cases h; exact fn_ok Go.Proofs.Tryd.func14 (by kernel_rfl) ok14 rfl
 ·cases h; exact fn_ok Go.Proofs.Tryd.func16 (by kernel_rfl) ok16 rfl
 ·cases h; exact fn_ok Go.Proofs.Tryd.func18 (by kernel_rfl) ok18 rfl
 ·cases h; exact fn_ok Go.Proofs.Tryd.func20 (by kernel_rfl) ok20 rfl
 ·cases h; exact fn_ok Go.Proofs.Tryd.func22 (by kernel_rfl) ok22 rfl
 ·cases h; exact fn_ok Go.Proofs.Tryd.func24 (by kernel_rfl) ok24 rfl
 ·cases h; exact fn_ok Go.Proofs.Tryd.func26 (by kernel_rfl) ok26 rfl
 ·cases h; exact fn_ok Go.Proofs.Tryd.func27 (by kernel_rfl) ok27 rfl
 ·cases h; exact fn_ok Go.Proofs.Tryd.func28 (by kernel_rfl) ok28 rfl
 ·cases h; exact fn_ok Go.Proofs.Tryd.func29 (by kernel_rfl) ok29 rfl
 ·cases h; exact fn_ok Go.Proofs.Tryd.func31 (by kernel_rfl) ok31 rfl
 ·cases h; exact fn_ok Go.Proofs.Tryd.func34 (by kernel_rfl) ok34 rfl
 ·cases h; exact fn_ok Go.Proofs.Tryd.func35 (by kernel_rfl) ok35 rfl
 ·cases h; exact fn_ok Go.Proofs.Tryd.func39 (by kernel_rfl) ok39 rfl
 ·cases h; exact fn_ok Go.Proofs.Tryd.func40 (by kernel_rfl) ok40 rfl
 ·cases h; exact fn_ok Go.Proofs.Tryd.func41 (by kernel_rfl) ok41 rfl
 ·cases h; exact fn_ok Go.Proofs.Tryd.func42 (by kernel_rfl) ok42 rfl
 ·cases h; exact fn_ok Go.Proofs.Tryd.func43 (by kernel_rfl) ok43 rfl
 ·cases h; exact fn_ok Go.Proofs.Tryd.func44 (by kernel_rfl) ok44 rfl
 ·cases h; exact fn_ok Go.Proofs.Tryd.func45 (by kernel_rfl) ok45 rfl
 ·cases h; exact fn_ok Go.Proofs.Tryd.func46 (by kernel_rfl) ok46 rfl
 ·cases h; exact fn_ok Go.Proofs.Tryd.func47 (by kernel_rfl) ok47 rfl
 ·cases h; exact fn_ok Go.Proofs.Tryd.func48 (by kernel_rfl) ok48 rfl
 ·cases h; exact fn_ok Go.Proofs.Tryd.func49 (by kernel_rfl) ok49 rfl
 ·cases h; exact fn_ok Go.Proofs.Tryd.func50 (by kernel_rfl) ok50 rfl
 ·cases h; exact fn_ok Go.Proofs.Tryd.func51 (by kernel_rfl) ok51 rfl
 ·cases h; exact fn_ok Go.Proofs.Tryd.func52 (by kernel_rfl) ok52 rfl
 ·cases h; exact fn_ok Go.Proofs.Tryd.func53 (by kernel_rfl) ok53 rfl
 ·cases h; exact fn_ok Go.Proofs.Tryd.func56 (by kernel_rfl) ok56 rfl
 ·cases h; exact fn_ok Go.Proofs.Tryd.func58 (by kernel_rfl) ok58 rfl
 ·cases h; exact fn_ok Go.Proofs.Tryd.func59 (by kernel_rfl) ok59 rfl
 ·cases h; exact fn_ok Go.Proofs.Tryd.func61 (by kernel_rfl) ok61 rfl
 ·cases h; exact fn_ok Go.Proofs.Tryd.func62 (by kernel_rfl) ok62 rfl
 ·cases h; exact fn_ok Go.Proofs.Tryd.func63 (by kernel_rfl) ok63 rfl
 ·cases h; exact fn_ok Go.Proofs.Tryd.func64 (by kernel_rfl) ok64 rfl
 ·cases h; exact fn_ok Go.Proofs.Tryd.func67 (by kernel_rfl) ok67 rfl
 ·cases h; exact fn_ok Go.Proofs.Tryd.func69 (by kernel_rfl) ok69 rfl
 ·cases h; exact fn_ok Go.Proofs.Tryd.func70 (by kernel_rfl) ok70 rfl
 ·cases h; exact fn_ok Go.Proofs.Tryd.func71 (by kernel_rfl) ok71 rfl
 ·cases h; exact fn_ok Go.Proofs.Tryd.func72 (by kernel_rfl) ok72 rfl
 ·cases h; exact fn_ok Go.Proofs.Tryd.func73 (by kernel_rfl) ok73 rfl
 ·cases h; exact fn_ok Go.Proofs.Tryd.func74 (by kernel_rfl) ok74 rfl
 ·cases h; exact fn_ok Go.Proofs.Tryd.func75 (by kernel_rfl) ok75 rfl
 ·cases h; exact fn_ok Go.Proofs.Tryd.func76 (by kernel_rfl) ok76 rfl
 ·cases h; exact fn_ok Go.Proofs.Tryd.func77 (by kernel_rfl) ok77 rfl
 ·cases h; exact fn_ok Go.Proofs.Tryd.func78 (by kernel_rfl) ok78 rfl
 ·cases h; exact fn_ok Go.Proofs.Tryd.func79 (by kernel_rfl) ok79 rfl
 ·cases h; exact fn_ok Go.Proofs.Tryd.func80 (by kernel_rfl) ok80 rfl
 ·cases h; exact fn_ok Go.Proofs.Tryd.func81 (by kernel_rfl) ok81 rfl
 ·cases h; exact fn_ok Go.Proofs.Tryd.func82 (by kernel_rfl) ok82 rfl
 ·cases h; exact fn_ok Go.Proofs.Tryd.func83 (by kernel_rfl) ok83 rfl
 ·cases h; exact fn_ok Go.Proofs.Tryd.func85 (by kernel_rfl) ok85 rfl
 ·cases h; exact fn_ok Go.Proofs.Tryd.func86 (by kernel_rfl) ok86 rfl
 ·cases h; exact fn_ok Go.Proofs.Tryd.func87 (by kernel_rfl) ok87 rfl
 ·cases h; exact fn_ok Go.Proofs.Tryd.func88 (by kernel_rfl) ok88 rfl
 ·cases h; exact fn_ok Go.Proofs.Tryd.func90 (by kernel_rfl) ok90 rfl
 ·cases h; exact fn_ok Go.Proofs.Tryd.func91 (by kernel_rfl) ok91 rfl
 ·cases h; exact fn_ok Go.Proofs.Tryd.func92 (by kernel_rfl) ok92 rfl
 ·cases h; exact fn_ok Go.Proofs.Tryd.func93 (by kernel_rfl) ok93 rfl
 ·cases h; exact fn_ok Go.Proofs.Tryd.func94 (by kernel_rfl) ok94 rfl
 ·cases h; exact fn_ok Go.Proofs.Tryd.func95 (by kernel_rfl) ok95 rfl
 ·cases h; exact fn_ok Go.Proofs.Tryd.func96 (by kernel_rfl) ok96 rfl
 ·cases h; exact fn_ok Go.Proofs.Tryd.func97 (by kernel_rfl) ok97 rfl
 ·cases h; exact fn_ok Go.Proofs.Tryd.func98 (by kernel_rfl) ok98 rfl
 ·cases h; exact fn_ok Go.Proofs.Tryd.func99 (by kernel_rfl) ok99 rfl
 ·cases h; exact fn_ok Go.Proofs.Tryd.func100 (by kernel_rfl) ok100 rfl
 ·cases h; exact fn_ok Go.Proofs.Tryd.func101 (by kernel_rfl) ok101 rfl
 ·cases h; exact fn_ok Go.Proofs.Tryd.func102 (by kernel_rfl) ok102 rfl
 ·cases h; exact fn_ok Go.Proofs.Tryd.func103 (by kernel_rfl) ok103 rfl
 ·cases h; exact fn_ok Go.Proofs.Tryd.func104 (by kernel_rfl) ok104 rfl
 ·cases h; exact fn_ok Go.Proofs.Tryd.func105 (by kernel_rfl) ok105 rfl
 ·cases h; exact fn_ok Go.Proofs.Tryd.func108 (by kernel_rfl) ok108 rfl
 ·cases h; exact fn_ok Go.Proofs.Tryd.func109 (by kernel_rfl) ok109 rfl
 ·cases h; exact fn_ok Go.Proofs.Tryd.func110 (by kernel_rfl) ok110 rfl
 ·cases h; exact fn_ok Go.Proofs.Tryd.func111 (by kernel_rfl) ok111 rfl
 ·cases h; exact fn_ok Go.Proofs.Tryd.func128 (by kernel_rfl) ok128 rfl
 ·cases h; exact fn_ok Go.Proofs.Tryd.func129 (by kernel_rfl) ok129 rfl
 ·cases h; exact fn_ok Go.Proofs.Tryd.func130 (by kernel_rfl) ok130 rfl
 ·cases h; exact fn_ok Go.Proofs.Tryd.func131 (by kernel_rfl) ok131 rfl
 ·cases h; exact fn_ok Go.Proofs.Tryd.func132 (by kernel_rfl) ok132 rfl
 ·cases h; exact rnd_ok ok10690 rfl
 ·cases h
end Go.Proofs.Nst
