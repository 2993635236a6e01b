/- Each function passes the check against the program. -/
import Derived.Test.YtncbmdeinohnbaaDoorRows
import Derived.Test.YtncbmdeinohnbaaDoorAmCoreC
import Derived.Test.YtncbmdeinohnbaaDoorFileFnB
import Derived.KernelRfl
/- The check of every function of File. -/
namespace Go.Proofs.FileA
open Go Go.Am
noncomputable def bodyOf (f : Func) : Code := f.body.getD .skip
theorem fn_ok {f : Nat} {fn : Func} {af : AFunc} (h0 : Go.Proofs.Tryd.prog.funcs[f]? = some fn) (h1 : fn.body.isSome = true) (h2 : chkF Go.Proofs.Tryd.prog [0] default fn (bodyOf fn) af = true) :
    ∃ fn code, Go.Proofs.Tryd.prog.funcs[f]? = some fn ∧ fn.body = some code ∧ chkF Go.Proofs.Tryd.prog [0] default fn code af = true := by
  obtain ⟨c, hc⟩ := Option.isSome_iff_exists.1 h1
  refine ⟨fn, c, h0, hc, ?_⟩
  simpa [bodyOf, hc] using h2
theorem ok3 : chkF Go.Proofs.Tryd.prog [0] default Go.Proofs.Tryd.f3 (bodyOf Go.Proofs.Tryd.f3) Tryd.a3 = true := by kernel_rfl
theorem ok4 : chkF Go.Proofs.Tryd.prog [0] default Go.Proofs.Tryd.f4 (bodyOf Go.Proofs.Tryd.f4) Tryd.a4 = true := by kernel_rfl
theorem ok5 : chkF Go.Proofs.Tryd.prog [0] default Go.Proofs.Tryd.f5 (bodyOf Go.Proofs.Tryd.f5) Tryd.a5 = true := by kernel_rfl
theorem ok6 : chkF Go.Proofs.Tryd.prog [0] default Go.Proofs.Tryd.f6 (bodyOf Go.Proofs.Tryd.f6) Tryd.a6 = true := by kernel_rfl
theorem ok7 : chkF Go.Proofs.Tryd.prog [0] default Go.Proofs.Tryd.f7 (bodyOf Go.Proofs.Tryd.f7) Tryd.a7 = true := by kernel_rfl
theorem ok8 : chkF Go.Proofs.Tryd.prog [0] default Go.Proofs.Tryd.f8 (bodyOf Go.Proofs.Tryd.f8) Tryd.a8 = true := by kernel_rfl
theorem ok9 : chkF Go.Proofs.Tryd.prog [0] default Go.Proofs.Tryd.f9 (bodyOf Go.Proofs.Tryd.f9) Tryd.a9 = true := by kernel_rfl
theorem ok10 : chkF Go.Proofs.Tryd.prog [0] default Go.Proofs.Tryd.f10 (bodyOf Go.Proofs.Tryd.f10) Tryd.a10 = true := by kernel_rfl
theorem ok11 : chkF Go.Proofs.Tryd.prog [0] default Go.Proofs.Tryd.f11 (bodyOf Go.Proofs.Tryd.f11) Tryd.a11 = true := by kernel_rfl
theorem ok12 : chkF Go.Proofs.Tryd.prog [0] default Go.Proofs.Tryd.f12 (bodyOf Go.Proofs.Tryd.f12) Tryd.a12 = true := by kernel_rfl
theorem ok13 : chkF Go.Proofs.Tryd.prog [0] default Go.Proofs.Tryd.f13 (bodyOf Go.Proofs.Tryd.f13) Tryd.a13 = true := by kernel_rfl
theorem ok14 : chkF Go.Proofs.Tryd.prog [0] default Go.Proofs.Tryd.f14 (bodyOf Go.Proofs.Tryd.f14) Tryd.a14 = true := by kernel_rfl
theorem ok15 : chkF Go.Proofs.Tryd.prog [0] default Go.Proofs.Tryd.f15 (bodyOf Go.Proofs.Tryd.f15) Tryd.a15 = true := by kernel_rfl
theorem ok16 : chkF Go.Proofs.Tryd.prog [0] default Go.Proofs.Tryd.f16 (bodyOf Go.Proofs.Tryd.f16) Tryd.a16 = true := by kernel_rfl
theorem ok17 : chkF Go.Proofs.Tryd.prog [0] default Go.Proofs.Tryd.f17 (bodyOf Go.Proofs.Tryd.f17) Tryd.a17 = true := by kernel_rfl
theorem ok18 : chkF Go.Proofs.Tryd.prog [0] default Go.Proofs.Tryd.f18 (bodyOf Go.Proofs.Tryd.f18) Tryd.a18 = true := by kernel_rfl
theorem ok19 : chkF Go.Proofs.Tryd.prog [0] default Go.Proofs.Tryd.f19 (bodyOf Go.Proofs.Tryd.f19) Tryd.a19 = true := by kernel_rfl
theorem ok20 : chkF Go.Proofs.Tryd.prog [0] default Go.Proofs.Tryd.f20 (bodyOf Go.Proofs.Tryd.f20) Tryd.a20 = true := by kernel_rfl
theorem ok21 : chkF Go.Proofs.Tryd.prog [0] default Go.Proofs.Tryd.f21 (bodyOf Go.Proofs.Tryd.f21) Tryd.a21 = true := by kernel_rfl
theorem ok22 : chkF Go.Proofs.Tryd.prog [0] default Go.Proofs.Tryd.f22 (bodyOf Go.Proofs.Tryd.f22) Tryd.a22 = true := by kernel_rfl
theorem ok23 : chkF Go.Proofs.Tryd.prog [0] default Go.Proofs.Tryd.f23 (bodyOf Go.Proofs.Tryd.f23) Tryd.a23 = true := by kernel_rfl
theorem ok24 : chkF Go.Proofs.Tryd.prog [0] default Go.Proofs.Tryd.f24 (bodyOf Go.Proofs.Tryd.f24) Tryd.a24 = true := by kernel_rfl
theorem ok25 : chkF Go.Proofs.Tryd.prog [0] default Go.Proofs.Tryd.f25 (bodyOf Go.Proofs.Tryd.f25) Tryd.a25 = true := by kernel_rfl
theorem ok26 : chkF Go.Proofs.Tryd.prog [0] default Go.Proofs.Tryd.f26 (bodyOf Go.Proofs.Tryd.f26) Tryd.a26 = true := by kernel_rfl
theorem ok27 : chkF Go.Proofs.Tryd.prog [0] default Go.Proofs.Tryd.f27 (bodyOf Go.Proofs.Tryd.f27) Tryd.a27 = true := by kernel_rfl
theorem ok28 : chkF Go.Proofs.Tryd.prog [0] default Go.Proofs.Tryd.f28 (bodyOf Go.Proofs.Tryd.f28) Tryd.a28 = true := by kernel_rfl
theorem ok29 : chkF Go.Proofs.Tryd.prog [0] default Go.Proofs.Tryd.f29 (bodyOf Go.Proofs.Tryd.f29) Tryd.a29 = true := by kernel_rfl
theorem ok30 : chkF Go.Proofs.Tryd.prog [0] default Go.Proofs.Tryd.f30 (bodyOf Go.Proofs.Tryd.f30) Tryd.a30 = true := by kernel_rfl
theorem ok31 : chkF Go.Proofs.Tryd.prog [0] default Go.Proofs.Tryd.f31 (bodyOf Go.Proofs.Tryd.f31) Tryd.a31 = true := by kernel_rfl
theorem ok32 : chkF Go.Proofs.Tryd.prog [0] default Go.Proofs.Tryd.f32 (bodyOf Go.Proofs.Tryd.f32) Tryd.a32 = true := by kernel_rfl
theorem ok33 : chkF Go.Proofs.Tryd.prog [0] default Go.Proofs.Tryd.f33 (bodyOf Go.Proofs.Tryd.f33) Tryd.a33 = true := by kernel_rfl
theorem ok34 : chkF Go.Proofs.Tryd.prog [0] default Go.Proofs.Tryd.f34 (bodyOf Go.Proofs.Tryd.f34) Tryd.a34 = true := by kernel_rfl
theorem ok35 : chkF Go.Proofs.Tryd.prog [0] default Go.Proofs.Tryd.f35 (bodyOf Go.Proofs.Tryd.f35) Tryd.a35 = true := by kernel_rfl
theorem ok36 : chkF Go.Proofs.Tryd.prog [0] default Go.Proofs.Tryd.f36 (bodyOf Go.Proofs.Tryd.f36) Tryd.a36 = true := by kernel_rfl
theorem ok37 : chkF Go.Proofs.Tryd.prog [0] default Go.Proofs.Tryd.f37 (bodyOf Go.Proofs.Tryd.f37) Tryd.a37 = true := by kernel_rfl
theorem ok38 : chkF Go.Proofs.Tryd.prog [0] default Go.Proofs.Tryd.f38 (bodyOf Go.Proofs.Tryd.f38) Tryd.a38 = true := by kernel_rfl
theorem ok39 : chkF Go.Proofs.Tryd.prog [0] default Go.Proofs.Tryd.f39 (bodyOf Go.Proofs.Tryd.f39) Tryd.a39 = true := by kernel_rfl
theorem ok40 : chkF Go.Proofs.Tryd.prog [0] default Go.Proofs.Tryd.f40 (bodyOf Go.Proofs.Tryd.f40) Tryd.a40 = true := by kernel_rfl
theorem ok41 : chkF Go.Proofs.Tryd.prog [0] default Go.Proofs.Tryd.f41 (bodyOf Go.Proofs.Tryd.f41) Tryd.a41 = true := by kernel_rfl
theorem ok42 : chkF Go.Proofs.Tryd.prog [0] default Go.Proofs.Tryd.f42 (bodyOf Go.Proofs.Tryd.f42) Tryd.a42 = true := by kernel_rfl
theorem ok43 : chkF Go.Proofs.Tryd.prog [0] default Go.Proofs.Tryd.f43 (bodyOf Go.Proofs.Tryd.f43) Tryd.a43 = true := by kernel_rfl
theorem ok44 : chkF Go.Proofs.Tryd.prog [0] default Go.Proofs.Tryd.f44 (bodyOf Go.Proofs.Tryd.f44) Tryd.a44 = true := by kernel_rfl
theorem ok45 : chkF Go.Proofs.Tryd.prog [0] default Go.Proofs.Tryd.f45 (bodyOf Go.Proofs.Tryd.f45) Tryd.a45 = true := by kernel_rfl
theorem ok46 : chkF Go.Proofs.Tryd.prog [0] default Go.Proofs.Tryd.f46 (bodyOf Go.Proofs.Tryd.f46) Tryd.a46 = true := by kernel_rfl
theorem ok47 : chkF Go.Proofs.Tryd.prog [0] default Go.Proofs.Tryd.f47 (bodyOf Go.Proofs.Tryd.f47) Tryd.a47 = true := by kernel_rfl
theorem ok48 : chkF Go.Proofs.Tryd.prog [0] default Go.Proofs.Tryd.f48 (bodyOf Go.Proofs.Tryd.f48) Tryd.a48 = true := by kernel_rfl
theorem ok49 : chkF Go.Proofs.Tryd.prog [0] default Go.Proofs.Tryd.f49 (bodyOf Go.Proofs.Tryd.f49) Tryd.a49 = true := by kernel_rfl
theorem ok50 : chkF Go.Proofs.Tryd.prog [0] default Go.Proofs.Tryd.f50 (bodyOf Go.Proofs.Tryd.f50) Tryd.a50 = true := by kernel_rfl
theorem ok51 : chkF Go.Proofs.Tryd.prog [0] default Go.Proofs.Tryd.f51 (bodyOf Go.Proofs.Tryd.f51) Tryd.a51 = true := by kernel_rfl
theorem ok52 : chkF Go.Proofs.Tryd.prog [0] default Go.Proofs.Tryd.f52 (bodyOf Go.Proofs.Tryd.f52) Tryd.a52 = true := by kernel_rfl
theorem ok53 : chkF Go.Proofs.Tryd.prog [0] default Go.Proofs.Tryd.f53 (bodyOf Go.Proofs.Tryd.f53) Tryd.a53 = true := by kernel_rfl
theorem ok54 : chkF Go.Proofs.Tryd.prog [0] default Go.Proofs.Tryd.f54 (bodyOf Go.Proofs.Tryd.f54) Tryd.a54 = true := by kernel_rfl
theorem ok55 : chkF Go.Proofs.Tryd.prog [0] default Go.Proofs.Tryd.f55 (bodyOf Go.Proofs.Tryd.f55) Tryd.a55 = true := by kernel_rfl
theorem ok56 : chkF Go.Proofs.Tryd.prog [0] default Go.Proofs.Tryd.f56 (bodyOf Go.Proofs.Tryd.f56) Tryd.a56 = true := by kernel_rfl
theorem ok57 : chkF Go.Proofs.Tryd.prog [0] default Go.Proofs.Tryd.f57 (bodyOf Go.Proofs.Tryd.f57) Tryd.a57 = true := by kernel_rfl
theorem ok58 : chkF Go.Proofs.Tryd.prog [0] default Go.Proofs.Tryd.f58 (bodyOf Go.Proofs.Tryd.f58) Tryd.a58 = true := by kernel_rfl
theorem ok59 : chkF Go.Proofs.Tryd.prog [0] default Go.Proofs.Tryd.f59 (bodyOf Go.Proofs.Tryd.f59) Tryd.a59 = true := by kernel_rfl
theorem ok60 : chkF Go.Proofs.Tryd.prog [0] default Go.Proofs.Tryd.f60 (bodyOf Go.Proofs.Tryd.f60) Tryd.a60 = true := by kernel_rfl
theorem ok61 : chkF Go.Proofs.Tryd.prog [0] default Go.Proofs.Tryd.f61 (bodyOf Go.Proofs.Tryd.f61) Tryd.a61 = true := by kernel_rfl
theorem ok62 : chkF Go.Proofs.Tryd.prog [0] default Go.Proofs.Tryd.f62 (bodyOf Go.Proofs.Tryd.f62) Tryd.a62 = true := by kernel_rfl
theorem ok63 : chkF Go.Proofs.Tryd.prog [0] default Go.Proofs.Tryd.f63 (bodyOf Go.Proofs.Tryd.f63) Tryd.a63 = true := by kernel_rfl
theorem ok64 : chkF Go.Proofs.Tryd.prog [0] default Go.Proofs.Tryd.f64 (bodyOf Go.Proofs.Tryd.f64) Tryd.a64 = true := by kernel_rfl
theorem ok65 : chkF Go.Proofs.Tryd.prog [0] default Go.Proofs.Tryd.f65 (bodyOf Go.Proofs.Tryd.f65) Tryd.a65 = true := by kernel_rfl
theorem ok66 : chkF Go.Proofs.Tryd.prog [0] default Go.Proofs.Tryd.f66 (bodyOf Go.Proofs.Tryd.f66) Tryd.a66 = true := by kernel_rfl
theorem ok67 : chkF Go.Proofs.Tryd.prog [0] default Go.Proofs.Tryd.f67 (bodyOf Go.Proofs.Tryd.f67) Tryd.a67 = true := by kernel_rfl
theorem ok68 : chkF Go.Proofs.Tryd.prog [0] default Go.Proofs.Tryd.f68 (bodyOf Go.Proofs.Tryd.f68) Tryd.a68 = true := by kernel_rfl
theorem ok69 : chkF Go.Proofs.Tryd.prog [0] default Go.Proofs.Tryd.f69 (bodyOf Go.Proofs.Tryd.f69) Tryd.a69 = true := by kernel_rfl
theorem ok70 : chkF Go.Proofs.Tryd.prog [0] default Go.Proofs.Tryd.f70 (bodyOf Go.Proofs.Tryd.f70) Tryd.a70 = true := by kernel_rfl
theorem ok71 : chkF Go.Proofs.Tryd.prog [0] default Go.Proofs.Tryd.f71 (bodyOf Go.Proofs.Tryd.f71) Tryd.a71 = true := by kernel_rfl
theorem ok72 : chkF Go.Proofs.Tryd.prog [0] default Go.Proofs.Tryd.f72 (bodyOf Go.Proofs.Tryd.f72) Tryd.a72 = true := by kernel_rfl
theorem ok73 : chkF Go.Proofs.Tryd.prog [0] default Go.Proofs.Tryd.f73 (bodyOf Go.Proofs.Tryd.f73) Tryd.a73 = true := by kernel_rfl
theorem ok74 : chkF Go.Proofs.Tryd.prog [0] default Go.Proofs.Tryd.f74 (bodyOf Go.Proofs.Tryd.f74) Tryd.a74 = true := by kernel_rfl
theorem ok75 : chkF Go.Proofs.Tryd.prog [0] default Go.Proofs.Tryd.f75 (bodyOf Go.Proofs.Tryd.f75) Tryd.a75 = true := by kernel_rfl
theorem ok76 : chkF Go.Proofs.Tryd.prog [0] default Go.Proofs.Tryd.f76 (bodyOf Go.Proofs.Tryd.f76) Tryd.a76 = true := by kernel_rfl
theorem ok77 : chkF Go.Proofs.Tryd.prog [0] default Go.Proofs.Tryd.f77 (bodyOf Go.Proofs.Tryd.f77) Tryd.a77 = true := by kernel_rfl
theorem ok78 : chkF Go.Proofs.Tryd.prog [0] default Go.Proofs.Tryd.f78 (bodyOf Go.Proofs.Tryd.f78) Tryd.a78 = true := by kernel_rfl
theorem ok79 : chkF Go.Proofs.Tryd.prog [0] default Go.Proofs.Tryd.f79 (bodyOf Go.Proofs.Tryd.f79) Tryd.a79 = true := by kernel_rfl
theorem ok80 : chkF Go.Proofs.Tryd.prog [0] default Go.Proofs.Tryd.f80 (bodyOf Go.Proofs.Tryd.f80) Tryd.a80 = true := by kernel_rfl
theorem ok81 : chkF Go.Proofs.Tryd.prog [0] default Go.Proofs.Tryd.f81 (bodyOf Go.Proofs.Tryd.f81) Tryd.a81 = true := by kernel_rfl
theorem ok82 : chkF Go.Proofs.Tryd.prog [0] default Go.Proofs.Tryd.f82 (bodyOf Go.Proofs.Tryd.f82) Tryd.a82 = true := by kernel_rfl
theorem ok83 : chkF Go.Proofs.Tryd.prog [0] default Go.Proofs.Tryd.f83 (bodyOf Go.Proofs.Tryd.f83) Tryd.a83 = true := by kernel_rfl
theorem ok84 : chkF Go.Proofs.Tryd.prog [0] default Go.Proofs.Tryd.f84 (bodyOf Go.Proofs.Tryd.f84) Tryd.a84 = true := by kernel_rfl
theorem ok85 : chkF Go.Proofs.Tryd.prog [0] default Go.Proofs.Tryd.f85 (bodyOf Go.Proofs.Tryd.f85) Tryd.a85 = true := by kernel_rfl
theorem ok86 : chkF Go.Proofs.Tryd.prog [0] default Go.Proofs.Tryd.f86 (bodyOf Go.Proofs.Tryd.f86) Tryd.a86 = true := by kernel_rfl
theorem ok87 : chkF Go.Proofs.Tryd.prog [0] default Go.Proofs.Tryd.f87 (bodyOf Go.Proofs.Tryd.f87) Tryd.a87 = true := by kernel_rfl
theorem ok88 : chkF Go.Proofs.Tryd.prog [0] default Go.Proofs.Tryd.f88 (bodyOf Go.Proofs.Tryd.f88) Tryd.a88 = true := by kernel_rfl
theorem ok89 : chkF Go.Proofs.Tryd.prog [0] default Go.Proofs.Tryd.f89 (bodyOf Go.Proofs.Tryd.f89) Tryd.a89 = true := by kernel_rfl
theorem ok90 : chkF Go.Proofs.Tryd.prog [0] default Go.Proofs.Tryd.f90 (bodyOf Go.Proofs.Tryd.f90) Tryd.a90 = true := by kernel_rfl
theorem ok91 : chkF Go.Proofs.Tryd.prog [0] default Go.Proofs.Tryd.f91 (bodyOf Go.Proofs.Tryd.f91) Tryd.a91 = true := by kernel_rfl
theorem ok92 : chkF Go.Proofs.Tryd.prog [0] default Go.Proofs.Tryd.f92 (bodyOf Go.Proofs.Tryd.f92) Tryd.a92 = true := by kernel_rfl
theorem ok93 : chkF Go.Proofs.Tryd.prog [0] default Go.Proofs.Tryd.f93 (bodyOf Go.Proofs.Tryd.f93) Tryd.a93 = true := by kernel_rfl
theorem ok94 : chkF Go.Proofs.Tryd.prog [0] default Go.Proofs.Tryd.f94 (bodyOf Go.Proofs.Tryd.f94) Tryd.a94 = true := by kernel_rfl
theorem ok95 : chkF Go.Proofs.Tryd.prog [0] default Go.Proofs.Tryd.f95 (bodyOf Go.Proofs.Tryd.f95) Tryd.a95 = true := by kernel_rfl
theorem ok96 : chkF Go.Proofs.Tryd.prog [0] default Go.Proofs.Tryd.f96 (bodyOf Go.Proofs.Tryd.f96) Tryd.a96 = true := by kernel_rfl
theorem ok97 : chkF Go.Proofs.Tryd.prog [0] default Go.Proofs.Tryd.f97 (bodyOf Go.Proofs.Tryd.f97) Tryd.a97 = true := by kernel_rfl
theorem ok98 : chkF Go.Proofs.Tryd.prog [0] default Go.Proofs.Tryd.f98 (bodyOf Go.Proofs.Tryd.f98) Tryd.a98 = true := by kernel_rfl
theorem ok99 : chkF Go.Proofs.Tryd.prog [0] default Go.Proofs.Tryd.f99 (bodyOf Go.Proofs.Tryd.f99) Tryd.a99 = true := by kernel_rfl
theorem ok100 : chkF Go.Proofs.Tryd.prog [0] default Go.Proofs.Tryd.f100 (bodyOf Go.Proofs.Tryd.f100) Tryd.a100 = true := by kernel_rfl
theorem ok101 : chkF Go.Proofs.Tryd.prog [0] default Go.Proofs.Tryd.f101 (bodyOf Go.Proofs.Tryd.f101) Tryd.a101 = true := by kernel_rfl
theorem ok102 : chkF Go.Proofs.Tryd.prog [0] default Go.Proofs.Tryd.f102 (bodyOf Go.Proofs.Tryd.f102) Tryd.a102 = true := by kernel_rfl
theorem ok103 : chkF Go.Proofs.Tryd.prog [0] default Go.Proofs.Tryd.f103 (bodyOf Go.Proofs.Tryd.f103) Tryd.a103 = true := by kernel_rfl
theorem ok104 : chkF Go.Proofs.Tryd.prog [0] default Go.Proofs.Tryd.f104 (bodyOf Go.Proofs.Tryd.f104) Tryd.a104 = true := by kernel_rfl
theorem ok105 : chkF Go.Proofs.Tryd.prog [0] default Go.Proofs.Tryd.f105 (bodyOf Go.Proofs.Tryd.f105) Tryd.a105 = true := by kernel_rfl
theorem ok121 : chkF Go.Proofs.Tryd.prog [0] default Go.Proofs.Tryd.f121 (bodyOf Go.Proofs.Tryd.f121) Tryd.a121 = true := by kernel_rfl
theorem ok122 : chkF Go.Proofs.Tryd.prog [0] default Go.Proofs.Tryd.f122 (bodyOf Go.Proofs.Tryd.f122) Tryd.a122 = true := by kernel_rfl
theorem ok124 : chkF Go.Proofs.Tryd.prog [0] default Go.Proofs.Tryd.f124 (bodyOf Go.Proofs.Tryd.f124) Tryd.a124 = true := by kernel_rfl
theorem ok125 : chkF Go.Proofs.Tryd.prog [0] default Go.Proofs.Tryd.f125 (bodyOf Go.Proofs.Tryd.f125) Tryd.a125 = true := by kernel_rfl
theorem ok126 : chkF Go.Proofs.Tryd.prog [0] default Go.Proofs.Tryd.f126 (bodyOf Go.Proofs.Tryd.f126) Tryd.a126 = true := by kernel_rfl
theorem ok127 : chkF Go.Proofs.Tryd.prog [0] default Go.Proofs.Tryd.f127 (bodyOf Go.Proofs.Tryd.f127) Tryd.a127 = true := by kernel_rfl
theorem ok128 : chkF Go.Proofs.Tryd.prog [0] default Go.Proofs.Tryd.f128 (bodyOf Go.Proofs.Tryd.f128) Tryd.a128 = true := by kernel_rfl
theorem ok129 : chkF Go.Proofs.Tryd.prog [0] default Go.Proofs.Tryd.f129 (bodyOf Go.Proofs.Tryd.f129) Tryd.a129 = true := by kernel_rfl
theorem ok130 : chkF Go.Proofs.Tryd.prog [0] default Go.Proofs.Tryd.f130 (bodyOf Go.Proofs.Tryd.f130) Tryd.a130 = true := by kernel_rfl
theorem ok131 : chkF Go.Proofs.Tryd.prog [0] default Go.Proofs.Tryd.f131 (bodyOf Go.Proofs.Tryd.f131) Tryd.a131 = true := by kernel_rfl
theorem ok132 : chkF Go.Proofs.Tryd.prog [0] default Go.Proofs.Tryd.f132 (bodyOf Go.Proofs.Tryd.f132) Tryd.a132 = true := by kernel_rfl
theorem ok133 : chkF Go.Proofs.Tryd.prog [0] default Go.Proofs.Tryd.f133 (bodyOf Go.Proofs.Tryd.f133) Tryd.a133 = true := by kernel_rfl
theorem ok134 : chkF Go.Proofs.Tryd.prog [0] default Go.Proofs.Tryd.f134 (bodyOf Go.Proofs.Tryd.f134) Tryd.a134 = true := by kernel_rfl
theorem ok135 : chkF Go.Proofs.Tryd.prog [0] default Go.Proofs.Tryd.f135 (bodyOf Go.Proofs.Tryd.f135) Tryd.a135 = true := by kernel_rfl
theorem ok136 : chkF Go.Proofs.Tryd.prog [0] default Go.Proofs.Tryd.f136 (bodyOf Go.Proofs.Tryd.f136) Tryd.a136 = true := by kernel_rfl
theorem ok137 : chkF Go.Proofs.Tryd.prog [0] default Go.Proofs.Tryd.f137 (bodyOf Go.Proofs.Tryd.f137) Tryd.a137 = true := by kernel_rfl
theorem ok138 : chkF Go.Proofs.Tryd.prog [0] default Go.Proofs.Tryd.f138 (bodyOf Go.Proofs.Tryd.f138) Tryd.a138 = true := by kernel_rfl
theorem ok139 : chkF Go.Proofs.Tryd.prog [0] default Go.Proofs.Tryd.f139 (bodyOf Go.Proofs.Tryd.f139) Tryd.a139 = true := by kernel_rfl
theorem ok140 : chkF Go.Proofs.Tryd.prog [0] default Go.Proofs.Tryd.f140 (bodyOf Go.Proofs.Tryd.f140) Tryd.a140 = true := by kernel_rfl
theorem ok141 : chkF Go.Proofs.Tryd.prog [0] default Go.Proofs.Tryd.f141 (bodyOf Go.Proofs.Tryd.f141) Tryd.a141 = true := by kernel_rfl
theorem ok142 : chkF Go.Proofs.Tryd.prog [0] default Go.Proofs.Tryd.f142 (bodyOf Go.Proofs.Tryd.f142) Tryd.a142 = true := by kernel_rfl
theorem ok143 : chkF Go.Proofs.Tryd.prog [0] default Go.Proofs.Tryd.f143 (bodyOf Go.Proofs.Tryd.f143) Tryd.a143 = true := by kernel_rfl
theorem ok144 : chkF Go.Proofs.Tryd.prog [0] default Go.Proofs.Tryd.f144 (bodyOf Go.Proofs.Tryd.f144) Tryd.a144 = true := by kernel_rfl
theorem ok145 : chkF Go.Proofs.Tryd.prog [0] default Go.Proofs.Tryd.f145 (bodyOf Go.Proofs.Tryd.f145) Tryd.a145 = true := by kernel_rfl
theorem ok146 : chkF Go.Proofs.Tryd.prog [0] default Go.Proofs.Tryd.f146 (bodyOf Go.Proofs.Tryd.f146) Tryd.a146 = true := by kernel_rfl
theorem ok147 : chkF Go.Proofs.Tryd.prog [0] default Go.Proofs.Tryd.f147 (bodyOf Go.Proofs.Tryd.f147) Tryd.a147 = true := by kernel_rfl
theorem ok148 : chkF Go.Proofs.Tryd.prog [0] default Go.Proofs.Tryd.f148 (bodyOf Go.Proofs.Tryd.f148) Tryd.a148 = true := by kernel_rfl
theorem ok149 : chkF Go.Proofs.Tryd.prog [0] default Go.Proofs.Tryd.f149 (bodyOf Go.Proofs.Tryd.f149) Tryd.a149 = true := by kernel_rfl
theorem ok150 : chkF Go.Proofs.Tryd.prog [0] default Go.Proofs.Tryd.f150 (bodyOf Go.Proofs.Tryd.f150) Tryd.a150 = true := by kernel_rfl
theorem ok151 : chkF Go.Proofs.Tryd.prog [0] default Go.Proofs.Tryd.f151 (bodyOf Go.Proofs.Tryd.f151) Tryd.a151 = true := by kernel_rfl
theorem prog_ok : ProgOK Go.Proofs.Tryd.prog [0] default Tryd.aprog := by
  intro f af h
  unfold Tryd.aprog at h
  split at h
  · cases h; exact fn_ok Go.Proofs.Tryd.func3 (by kernel_rfl) ok3
  · cases h; exact fn_ok Go.Proofs.Tryd.func4 (by kernel_rfl) ok4
  · cases h; exact fn_ok Go.Proofs.Tryd.func5 (by kernel_rfl) ok5
  · cases h; exact fn_ok Go.Proofs.Tryd.func6 (by kernel_rfl) ok6
  · cases h; exact fn_ok Go.Proofs.Tryd.func7 (by kernel_rfl) ok7
  · cases h; exact fn_ok Go.Proofs.Tryd.func8 (by kernel_rfl) ok8
  · cases h; exact fn_ok Go.Proofs.Tryd.func9 (by kernel_rfl) ok9
  · cases h; exact fn_ok Go.Proofs.Tryd.func10 (by kernel_rfl) ok10
  · cases h; exact fn_ok Go.Proofs.Tryd.func11 (by kernel_rfl) ok11
  · cases h; exact fn_ok Go.Proofs.Tryd.func12 (by kernel_rfl) ok12
  · cases h; exact fn_ok Go.Proofs.Tryd.func13 (by kernel_rfl) ok13
  · cases h; exact fn_ok Go.Proofs.Tryd.func14 (by kernel_rfl) ok14
  · cases h; exact fn_ok Go.Proofs.Tryd.func15 (by kernel_rfl) ok15
  · cases h; exact fn_ok Go.Proofs.Tryd.func16 (by kernel_rfl) ok16
  · cases h; exact fn_ok Go.Proofs.Tryd.func17 (by kernel_rfl) ok17
  · cases h; exact fn_ok Go.Proofs.Tryd.func18 (by kernel_rfl) ok18
  · cases h; exact fn_ok Go.Proofs.Tryd.func19 (by kernel_rfl) ok19
  · cases h; exact fn_ok Go.Proofs.Tryd.func20 (by kernel_rfl) ok20
  · cases h; exact fn_ok Go.Proofs.Tryd.func21 (by kernel_rfl) ok21
  · cases h; exact fn_ok Go.Proofs.Tryd.func22 (by kernel_rfl) ok22
  · cases h; exact fn_ok Go.Proofs.Tryd.func23 (by kernel_rfl) ok23
  · cases h; exact fn_ok Go.Proofs.Tryd.func24 (by kernel_rfl) ok24
  · cases h; exact fn_ok Go.Proofs.Tryd.func25 (by kernel_rfl) ok25
  · cases h; exact fn_ok Go.Proofs.Tryd.func26 (by kernel_rfl) ok26
  · cases h; exact fn_ok Go.Proofs.Tryd.func27 (by kernel_rfl) ok27
  · cases h; exact fn_ok Go.Proofs.Tryd.func28 (by kernel_rfl) ok28
  · cases h; exact fn_ok Go.Proofs.Tryd.func29 (by kernel_rfl) ok29
  · cases h; exact fn_ok Go.Proofs.Tryd.func30 (by kernel_rfl) ok30
  · cases h; exact fn_ok Go.Proofs.Tryd.func31 (by kernel_rfl) ok31
  · cases h; exact fn_ok Go.Proofs.Tryd.func32 (by kernel_rfl) ok32
  · cases h; exact fn_ok Go.Proofs.Tryd.func33 (by kernel_rfl) ok33
  · cases h; exact fn_ok Go.Proofs.Tryd.func34 (by kernel_rfl) ok34
  · cases h; exact fn_ok Go.Proofs.Tryd.func35 (by kernel_rfl) ok35
  · cases h; exact fn_ok Go.Proofs.Tryd.func36 (by kernel_rfl) ok36
  · cases h; exact fn_ok Go.Proofs.Tryd.func37 (by kernel_rfl) ok37
  · cases h; exact fn_ok Go.Proofs.Tryd.func38 (by kernel_rfl) ok38
  · cases h; exact fn_ok Go.Proofs.Tryd.func39 (by kernel_rfl) ok39
  · cases h; exact fn_ok Go.Proofs.Tryd.func40 (by kernel_rfl) ok40
  · cases h; exact fn_ok Go.Proofs.Tryd.func41 (by kernel_rfl) ok41
  · cases h; exact fn_ok Go.Proofs.Tryd.func42 (by kernel_rfl) ok42
  · cases h; exact fn_ok Go.Proofs.Tryd.func43 (by kernel_rfl) ok43
  · cases h; exact fn_ok Go.Proofs.Tryd.func44 (by kernel_rfl) ok44
  · cases h; exact fn_ok Go.Proofs.Tryd.func45 (by kernel_rfl) ok45
  · cases h; exact fn_ok Go.Proofs.Tryd.func46 (by kernel_rfl) ok46
  · cases h; exact fn_ok Go.Proofs.Tryd.func47 (by kernel_rfl) ok47
  · cases h; exact fn_ok Go.Proofs.Tryd.func48 (by kernel_rfl) ok48
  · cases h; exact fn_ok Go.Proofs.Tryd.func49 (by kernel_rfl) ok49
  · cases h; exact fn_ok Go.Proofs.Tryd.func50 (by kernel_rfl) ok50
  · cases h; exact fn_ok Go.Proofs.Tryd.func51 (by kernel_rfl) ok51
  · cases h; exact fn_ok Go.Proofs.Tryd.func52 (by kernel_rfl) ok52
  · cases h; exact fn_ok Go.Proofs.Tryd.func53 (by kernel_rfl) ok53
  · cases h; exact fn_ok Go.Proofs.Tryd.func54 (by kernel_rfl) ok54
  · cases h; exact fn_ok Go.Proofs.Tryd.func55 (by kernel_rfl) ok55
  · cases h; exact fn_ok Go.Proofs.Tryd.func56 (by kernel_rfl) ok56
  · cases h; exact fn_ok Go.Proofs.Tryd.func57 (by kernel_rfl) ok57
  · cases h; exact fn_ok Go.Proofs.Tryd.func58 (by kernel_rfl) ok58
  · cases h; exact fn_ok Go.Proofs.Tryd.func59 (by kernel_rfl) ok59
  · cases h; exact fn_ok Go.Proofs.Tryd.func60 (by kernel_rfl) ok60
  · cases h; exact fn_ok Go.Proofs.Tryd.func61 (by kernel_rfl) ok61
  · cases h; exact fn_ok Go.Proofs.Tryd.func62 (by kernel_rfl) ok62
  · cases h; exact fn_ok Go.Proofs.Tryd.func63 (by kernel_rfl) ok63
  · cases h; exact fn_ok Go.Proofs.Tryd.func64 (by kernel_rfl) ok64
  · cases h; exact fn_ok Go.Proofs.Tryd.func65 (by kernel_rfl) ok65
  · cases h; exact fn_ok Go.Proofs.Tryd.func66 (by kernel_rfl) ok66
  · cases h; exact fn_ok Go.Proofs.Tryd.func67 (by kernel_rfl) ok67
  · cases h; exact fn_ok Go.Proofs.Tryd.func68 (by kernel_rfl) ok68
  · cases h; exact fn_ok Go.Proofs.Tryd.func69 (by kernel_rfl) ok69
  · cases h; exact fn_ok Go.Proofs.Tryd.func70 (by kernel_rfl) ok70
  · cases h; exact fn_ok Go.Proofs.Tryd.func71 (by kernel_rfl) ok71
  · cases h; exact fn_ok Go.Proofs.Tryd.func72 (by kernel_rfl) ok72
  · cases h; exact fn_ok Go.Proofs.Tryd.func73 (by kernel_rfl) ok73
  · cases h; exact fn_ok Go.Proofs.Tryd.func74 (by kernel_rfl) ok74
  · cases h; exact fn_ok Go.Proofs.Tryd.func75 (by kernel_rfl) ok75
  · cases h; exact fn_ok Go.Proofs.Tryd.func76 (by kernel_rfl) ok76
  · cases h; exact fn_ok Go.Proofs.Tryd.func77 (by kernel_rfl) ok77
  · cases h; exact fn_ok Go.Proofs.Tryd.func78 (by kernel_rfl) ok78
  · cases h; exact fn_ok Go.Proofs.Tryd.func79 (by kernel_rfl) ok79
  · cases h; exact fn_ok Go.Proofs.Tryd.func80 (by kernel_rfl) ok80
  · cases h; exact fn_ok Go.Proofs.Tryd.func81 (by kernel_rfl) ok81
  · cases h; exact fn_ok Go.Proofs.Tryd.func82 (by kernel_rfl) ok82
  · cases h; exact fn_ok Go.Proofs.Tryd.func83 (by kernel_rfl) ok83
  · cases h; exact fn_ok Go.Proofs.Tryd.func84 (by kernel_rfl) ok84
  · cases h; exact fn_ok Go.Proofs.Tryd.func85 (by kernel_rfl) ok85
  · cases h; exact fn_ok Go.Proofs.Tryd.func86 (by kernel_rfl) ok86
  · cases h; exact fn_ok Go.Proofs.Tryd.func87 (by kernel_rfl) ok87
  · cases h; exact fn_ok Go.Proofs.Tryd.func88 (by kernel_rfl) ok88
  · cases h; exact fn_ok Go.Proofs.Tryd.func89 (by kernel_rfl) ok89
  · cases h; exact fn_ok Go.Proofs.Tryd.func90 (by kernel_rfl) ok90
  · cases h; exact fn_ok Go.Proofs.Tryd.func91 (by kernel_rfl) ok91
  · cases h; exact fn_ok Go.Proofs.Tryd.func92 (by kernel_rfl) ok92
  · cases h; exact fn_ok Go.Proofs.Tryd.func93 (by kernel_rfl) ok93
  · cases h; exact fn_ok Go.Proofs.Tryd.func94 (by kernel_rfl) ok94
  · cases h; exact fn_ok Go.Proofs.Tryd.func95 (by kernel_rfl) ok95
  · cases h; exact fn_ok Go.Proofs.Tryd.func96 (by kernel_rfl) ok96
  · cases h; exact fn_ok Go.Proofs.Tryd.func97 (by kernel_rfl) ok97
  · cases h; exact fn_ok Go.Proofs.Tryd.func98 (by kernel_rfl) ok98
  · cases h; exact fn_ok Go.Proofs.Tryd.func99 (by kernel_rfl) ok99
  · cases h; exact fn_ok Go.Proofs.Tryd.func100 (by kernel_rfl) ok100
  · cases h; exact fn_ok Go.Proofs.Tryd.func101 (by kernel_rfl) ok101
  · cases h; exact fn_ok Go.Proofs.Tryd.func102 (by kernel_rfl) ok102
  · cases h; exact fn_ok Go.Proofs.Tryd.func103 (by kernel_rfl) ok103
  · cases h; exact fn_ok Go.Proofs.Tryd.func104 (by kernel_rfl) ok104
  · cases h; exact fn_ok Go.Proofs.Tryd.func105 (by kernel_rfl) ok105
  · cases h; exact fn_ok Go.Proofs.Tryd.func121 (by kernel_rfl) ok121
  · cases h; exact fn_ok Go.Proofs.Tryd.func122 (by kernel_rfl) ok122
  · cases h; exact fn_ok Go.Proofs.Tryd.func124 (by kernel_rfl) ok124
  · cases h; exact fn_ok Go.Proofs.Tryd.func125 (by kernel_rfl) ok125
  · cases h; exact fn_ok Go.Proofs.Tryd.func126 (by kernel_rfl) ok126
  · cases h; exact fn_ok Go.Proofs.Tryd.func127 (by kernel_rfl) ok127
  · cases h; exact fn_ok Go.Proofs.Tryd.func128 (by kernel_rfl) ok128
  · cases h; exact fn_ok Go.Proofs.Tryd.func129 (by kernel_rfl) ok129
  · cases h; exact fn_ok Go.Proofs.Tryd.func130 (by kernel_rfl) ok130
  · cases h; exact fn_ok Go.Proofs.Tryd.func131 (by kernel_rfl) ok131
  · cases h; exact fn_ok Go.Proofs.Tryd.func132 (by kernel_rfl) ok132
  · cases h; exact fn_ok Go.Proofs.Tryd.func133 (by kernel_rfl) ok133
  · cases h; exact fn_ok Go.Proofs.Tryd.func134 (by kernel_rfl) ok134
  · cases h; exact fn_ok Go.Proofs.Tryd.func135 (by kernel_rfl) ok135
  · cases h; exact fn_ok Go.Proofs.Tryd.func136 (by kernel_rfl) ok136
  · cases h; exact fn_ok Go.Proofs.Tryd.func137 (by kernel_rfl) ok137
  · cases h; exact fn_ok Go.Proofs.Tryd.func138 (by kernel_rfl) ok138
  · cases h; exact fn_ok Go.Proofs.Tryd.func139 (by kernel_rfl) ok139
  · cases h; exact fn_ok Go.Proofs.Tryd.func140 (by kernel_rfl) ok140
  · cases h; exact fn_ok Go.Proofs.Tryd.func141 (by kernel_rfl) ok141
  · cases h; exact fn_ok Go.Proofs.Tryd.func142 (by kernel_rfl) ok142
  · cases h; exact fn_ok Go.Proofs.Tryd.func143 (by kernel_rfl) ok143
  · cases h; exact fn_ok Go.Proofs.Tryd.func144 (by kernel_rfl) ok144
  · cases h; exact fn_ok Go.Proofs.Tryd.func145 (by kernel_rfl) ok145
  · cases h; exact fn_ok Go.Proofs.Tryd.func146 (by kernel_rfl) ok146
  · cases h; exact fn_ok Go.Proofs.Tryd.func147 (by kernel_rfl) ok147
  · cases h; exact fn_ok Go.Proofs.Tryd.func148 (by kernel_rfl) ok148
  · cases h; exact fn_ok Go.Proofs.Tryd.func149 (by kernel_rfl) ok149
  · cases h; exact fn_ok Go.Proofs.Tryd.func150 (by kernel_rfl) ok150
  · cases h; exact fn_ok Go.Proofs.Tryd.func151 (by kernel_rfl) ok151
  · cases h
end Go.Proofs.FileA
