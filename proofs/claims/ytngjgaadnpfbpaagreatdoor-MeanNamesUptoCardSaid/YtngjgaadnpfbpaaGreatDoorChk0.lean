/- A part of the law's proof: Chk0. -/
import Derived.Test.YtngjgaadnpfbpaaGreatDoorRows
import Derived.Test.YtngjgaadnpfbpaaGreatDoorCoreD
import Derived.Test.YtngjgaadnpfbpaaGreatDoorFn
import Derived.KernelRfl
/- The check of the functions of a program, part 0. -/
namespace Go.Proofs.Zmn
open Go Go.Am
noncomputable def bodyOf (f : Func) : Code := f.body.getD .skip
set_option maxRecDepth 1000000 in
theorem ok3 : chkF Go.Proofs.Tryz.prog [0, 2, 6, 7] default Trmn.tab 3 Go.Proofs.Tryz.f3 (bodyOf Go.Proofs.Tryz.f3) Trmn.a3 = true := by kernel_rfl
set_option maxRecDepth 1000000 in
theorem ok7 : chkF Go.Proofs.Tryz.prog [0, 2, 6, 7] default Trmn.tab 7 Go.Proofs.Tryz.f7 (bodyOf Go.Proofs.Tryz.f7) Trmn.a7 = true := by kernel_rfl
set_option maxRecDepth 1000000 in
theorem ok11 : chkF Go.Proofs.Tryz.prog [0, 2, 6, 7] default Trmn.tab 11 Go.Proofs.Tryz.f11 (bodyOf Go.Proofs.Tryz.f11) Trmn.a11 = true := by kernel_rfl
set_option maxRecDepth 1000000 in
theorem ok15 : chkF Go.Proofs.Tryz.prog [0, 2, 6, 7] default Trmn.tab 15 Go.Proofs.Tryz.f15 (bodyOf Go.Proofs.Tryz.f15) Trmn.a15 = true := by kernel_rfl
set_option maxRecDepth 1000000 in
theorem ok19 : chkF Go.Proofs.Tryz.prog [0, 2, 6, 7] default Trmn.tab 19 Go.Proofs.Tryz.f19 (bodyOf Go.Proofs.Tryz.f19) Trmn.a19 = true := by kernel_rfl
set_option maxRecDepth 1000000 in
theorem ok23 : chkF Go.Proofs.Tryz.prog [0, 2, 6, 7] default Trmn.tab 23 Go.Proofs.Tryz.f23 (bodyOf Go.Proofs.Tryz.f23) Trmn.a23 = true := by kernel_rfl
set_option maxRecDepth 1000000 in
theorem ok27 : chkF Go.Proofs.Tryz.prog [0, 2, 6, 7] default Trmn.tab 27 Go.Proofs.Tryz.f27 (bodyOf Go.Proofs.Tryz.f27) Trmn.a27 = true := by kernel_rfl
set_option maxRecDepth 1000000 in
theorem ok31 : chkF Go.Proofs.Tryz.prog [0, 2, 6, 7] default Trmn.tab 31 Go.Proofs.Tryz.f31 (bodyOf Go.Proofs.Tryz.f31) Trmn.a31 = true := by kernel_rfl
set_option maxRecDepth 1000000 in
theorem ok36 : chkF Go.Proofs.Tryz.prog [0, 2, 6, 7] default Trmn.tab 36 Go.Proofs.Tryz.f36 (bodyOf Go.Proofs.Tryz.f36) Trmn.a36 = true := by kernel_rfl
set_option maxRecDepth 1000000 in
theorem ok40 : chkF Go.Proofs.Tryz.prog [0, 2, 6, 7] default Trmn.tab 40 Go.Proofs.Tryz.f40 (bodyOf Go.Proofs.Tryz.f40) Trmn.a40 = true := by kernel_rfl
set_option maxRecDepth 1000000 in
theorem ok44 : chkF Go.Proofs.Tryz.prog [0, 2, 6, 7] default Trmn.tab 44 Go.Proofs.Tryz.f44 (bodyOf Go.Proofs.Tryz.f44) Trmn.a44 = true := by kernel_rfl
set_option maxRecDepth 1000000 in
theorem ok49 : chkF Go.Proofs.Tryz.prog [0, 2, 6, 7] default Trmn.tab 49 Go.Proofs.Tryz.f49 (bodyOf Go.Proofs.Tryz.f49) Trmn.a49 = true := by kernel_rfl
set_option maxRecDepth 1000000 in
theorem ok53 : chkF Go.Proofs.Tryz.prog [0, 2, 6, 7] default Trmn.tab 53 Go.Proofs.Tryz.f53 (bodyOf Go.Proofs.Tryz.f53) Trmn.a53 = true := by kernel_rfl
set_option maxRecDepth 1000000 in
theorem ok58 : chkF Go.Proofs.Tryz.prog [0, 2, 6, 7] default Trmn.tab 58 Go.Proofs.Tryz.f58 (bodyOf Go.Proofs.Tryz.f58) Trmn.a58 = true := by kernel_rfl
set_option maxRecDepth 1000000 in
theorem ok62 : chkF Go.Proofs.Tryz.prog [0, 2, 6, 7] default Trmn.tab 62 Go.Proofs.Tryz.f62 (bodyOf Go.Proofs.Tryz.f62) Trmn.a62 = true := by kernel_rfl
set_option maxRecDepth 1000000 in
theorem ok66 : chkF Go.Proofs.Tryz.prog [0, 2, 6, 7] default Trmn.tab 66 Go.Proofs.Tryz.f66 (bodyOf Go.Proofs.Tryz.f66) Trmn.a66 = true := by kernel_rfl
set_option maxRecDepth 1000000 in
theorem ok70 : chkF Go.Proofs.Tryz.prog [0, 2, 6, 7] default Trmn.tab 70 Go.Proofs.Tryz.f70 (bodyOf Go.Proofs.Tryz.f70) Trmn.a70 = true := by kernel_rfl
set_option maxRecDepth 1000000 in
theorem ok76 : chkF Go.Proofs.Tryz.prog [0, 2, 6, 7] default Trmn.tab 76 Go.Proofs.Tryz.f76 (bodyOf Go.Proofs.Tryz.f76) Trmn.a76 = true := by kernel_rfl
set_option maxRecDepth 1000000 in
theorem ok82 : chkF Go.Proofs.Tryz.prog [0, 2, 6, 7] default Trmn.tab 82 Go.Proofs.Tryz.f82 (bodyOf Go.Proofs.Tryz.f82) Trmn.a82 = true := by kernel_rfl
set_option maxRecDepth 1000000 in
theorem ok92 : chkF Go.Proofs.Tryz.prog [0, 2, 6, 7] default Trmn.tab 92 Go.Proofs.Tryz.f92 (bodyOf Go.Proofs.Tryz.f92) Trmn.a92 = true := by kernel_rfl
set_option maxRecDepth 1000000 in
theorem ok104 : chkF Go.Proofs.Tryz.prog [0, 2, 6, 7] default Trmn.tab 104 Go.Proofs.Tryz.f104 (bodyOf Go.Proofs.Tryz.f104) Trmn.a104 = true := by kernel_rfl
set_option maxRecDepth 1000000 in
theorem ok113 : chkF Go.Proofs.Tryz.prog [0, 2, 6, 7] default Trmn.tab 113 Go.Proofs.Tryz.f113 (bodyOf Go.Proofs.Tryz.f113) Trmn.a113 = true := by kernel_rfl
set_option maxRecDepth 1000000 in
theorem ok122 : chkF Go.Proofs.Tryz.prog [0, 2, 6, 7] default Trmn.tab 122 Go.Proofs.Tryz.f122 (bodyOf Go.Proofs.Tryz.f122) Trmn.a122 = true := by kernel_rfl
set_option maxRecDepth 1000000 in
theorem ok133 : chkF Go.Proofs.Tryz.prog [0, 2, 6, 7] default Trmn.tab 133 Go.Proofs.Tryz.f133 (bodyOf Go.Proofs.Tryz.f133) Trmn.a133 = true := by kernel_rfl
set_option maxRecDepth 1000000 in
theorem ok138 : chkF Go.Proofs.Tryz.prog [0, 2, 6, 7] default Trmn.tab 138 Go.Proofs.Tryz.f138 (bodyOf Go.Proofs.Tryz.f138) Trmn.a138 = true := by kernel_rfl
set_option maxRecDepth 1000000 in
theorem ok142 : chkF Go.Proofs.Tryz.prog [0, 2, 6, 7] default Trmn.tab 142 Go.Proofs.Tryz.f142 (bodyOf Go.Proofs.Tryz.f142) Trmn.a142 = true := by kernel_rfl
set_option maxRecDepth 1000000 in
theorem ok162 : chkF Go.Proofs.Tryz.prog [0, 2, 6, 7] default Trmn.tab 162 Go.Proofs.Tryz.f162 (bodyOf Go.Proofs.Tryz.f162) Trmn.a162 = true := by kernel_rfl
set_option maxRecDepth 1000000 in
theorem ok175 : chkF Go.Proofs.Tryz.prog [0, 2, 6, 7] default Trmn.tab 175 Go.Proofs.Tryz.f175 (bodyOf Go.Proofs.Tryz.f175) Trmn.a175 = true := by kernel_rfl
set_option maxRecDepth 1000000 in
theorem ok186 : chkF Go.Proofs.Tryz.prog [0, 2, 6, 7] default Trmn.tab 186 Go.Proofs.Tryz.f186 (bodyOf Go.Proofs.Tryz.f186) Trmn.a186 = true := by kernel_rfl
theorem ok10690 : chkY Go.Proofs.Tryz.prog [0, 2, 6, 7] default Trmn.tab 10690 Trmn.a10690 = true := by kernel_rfl
theorem ok11250 : chkY Go.Proofs.Tryz.prog [0, 2, 6, 7] default Trmn.tab 11250 Trmn.a11250 = true := by kernel_rfl
end Go.Proofs.Zmn
/- The check of the functions of a program, part 1. -/
namespace Go.Proofs.Zmn
open Go Go.Am
set_option maxRecDepth 1000000 in
theorem ok4 : chkF Go.Proofs.Tryz.prog [0, 2, 6, 7] default Trmn.tab 4 Go.Proofs.Tryz.f4 (bodyOf Go.Proofs.Tryz.f4) Trmn.a4 = true := by kernel_rfl
set_option maxRecDepth 1000000 in
theorem ok8 : chkF Go.Proofs.Tryz.prog [0, 2, 6, 7] default Trmn.tab 8 Go.Proofs.Tryz.f8 (bodyOf Go.Proofs.Tryz.f8) Trmn.a8 = true := by kernel_rfl
set_option maxRecDepth 1000000 in
theorem ok12 : chkF Go.Proofs.Tryz.prog [0, 2, 6, 7] default Trmn.tab 12 Go.Proofs.Tryz.f12 (bodyOf Go.Proofs.Tryz.f12) Trmn.a12 = true := by kernel_rfl
set_option maxRecDepth 1000000 in
theorem ok16 : chkF Go.Proofs.Tryz.prog [0, 2, 6, 7] default Trmn.tab 16 Go.Proofs.Tryz.f16 (bodyOf Go.Proofs.Tryz.f16) Trmn.a16 = true := by kernel_rfl
set_option maxRecDepth 1000000 in
theorem ok20 : chkF Go.Proofs.Tryz.prog [0, 2, 6, 7] default Trmn.tab 20 Go.Proofs.Tryz.f20 (bodyOf Go.Proofs.Tryz.f20) Trmn.a20 = true := by kernel_rfl
set_option maxRecDepth 1000000 in
theorem ok24 : chkF Go.Proofs.Tryz.prog [0, 2, 6, 7] default Trmn.tab 24 Go.Proofs.Tryz.f24 (bodyOf Go.Proofs.Tryz.f24) Trmn.a24 = true := by kernel_rfl
set_option maxRecDepth 1000000 in
theorem ok28 : chkF Go.Proofs.Tryz.prog [0, 2, 6, 7] default Trmn.tab 28 Go.Proofs.Tryz.f28 (bodyOf Go.Proofs.Tryz.f28) Trmn.a28 = true := by kernel_rfl
set_option maxRecDepth 1000000 in
theorem ok32 : chkF Go.Proofs.Tryz.prog [0, 2, 6, 7] default Trmn.tab 32 Go.Proofs.Tryz.f32 (bodyOf Go.Proofs.Tryz.f32) Trmn.a32 = true := by kernel_rfl
set_option maxRecDepth 1000000 in
theorem ok37 : chkF Go.Proofs.Tryz.prog [0, 2, 6, 7] default Trmn.tab 37 Go.Proofs.Tryz.f37 (bodyOf Go.Proofs.Tryz.f37) Trmn.a37 = true := by kernel_rfl
set_option maxRecDepth 1000000 in
theorem ok41 : chkF Go.Proofs.Tryz.prog [0, 2, 6, 7] default Trmn.tab 41 Go.Proofs.Tryz.f41 (bodyOf Go.Proofs.Tryz.f41) Trmn.a41 = true := by kernel_rfl
set_option maxRecDepth 1000000 in
theorem ok45 : chkF Go.Proofs.Tryz.prog [0, 2, 6, 7] default Trmn.tab 45 Go.Proofs.Tryz.f45 (bodyOf Go.Proofs.Tryz.f45) Trmn.a45 = true := by kernel_rfl
set_option maxRecDepth 1000000 in
theorem ok50 : chkF Go.Proofs.Tryz.prog [0, 2, 6, 7] default Trmn.tab 50 Go.Proofs.Tryz.f50 (bodyOf Go.Proofs.Tryz.f50) Trmn.a50 = true := by kernel_rfl
set_option maxRecDepth 1000000 in
theorem ok55 : chkF Go.Proofs.Tryz.prog [0, 2, 6, 7] default Trmn.tab 55 Go.Proofs.Tryz.f55 (bodyOf Go.Proofs.Tryz.f55) Trmn.a55 = true := by kernel_rfl
set_option maxRecDepth 1000000 in
theorem ok59 : chkF Go.Proofs.Tryz.prog [0, 2, 6, 7] default Trmn.tab 59 Go.Proofs.Tryz.f59 (bodyOf Go.Proofs.Tryz.f59) Trmn.a59 = true := by kernel_rfl
set_option maxRecDepth 1000000 in
theorem ok63 : chkF Go.Proofs.Tryz.prog [0, 2, 6, 7] default Trmn.tab 63 Go.Proofs.Tryz.f63 (bodyOf Go.Proofs.Tryz.f63) Trmn.a63 = true := by kernel_rfl
set_option maxRecDepth 1000000 in
theorem ok67 : chkF Go.Proofs.Tryz.prog [0, 2, 6, 7] default Trmn.tab 67 Go.Proofs.Tryz.f67 (bodyOf Go.Proofs.Tryz.f67) Trmn.a67 = true := by kernel_rfl
set_option maxRecDepth 1000000 in
theorem ok71 : chkF Go.Proofs.Tryz.prog [0, 2, 6, 7] default Trmn.tab 71 Go.Proofs.Tryz.f71 (bodyOf Go.Proofs.Tryz.f71) Trmn.a71 = true := by kernel_rfl
set_option maxRecDepth 1000000 in
theorem ok79 : chkF Go.Proofs.Tryz.prog [0, 2, 6, 7] default Trmn.tab 79 Go.Proofs.Tryz.f79 (bodyOf Go.Proofs.Tryz.f79) Trmn.a79 = true := by kernel_rfl
set_option maxRecDepth 1000000 in
theorem ok83 : chkF Go.Proofs.Tryz.prog [0, 2, 6, 7] default Trmn.tab 83 Go.Proofs.Tryz.f83 (bodyOf Go.Proofs.Tryz.f83) Trmn.a83 = true := by kernel_rfl
set_option maxRecDepth 1000000 in
theorem ok95 : chkF Go.Proofs.Tryz.prog [0, 2, 6, 7] default Trmn.tab 95 Go.Proofs.Tryz.f95 (bodyOf Go.Proofs.Tryz.f95) Trmn.a95 = true := by kernel_rfl
set_option maxRecDepth 1000000 in
theorem ok110 : chkF Go.Proofs.Tryz.prog [0, 2, 6, 7] default Trmn.tab 110 Go.Proofs.Tryz.f110 (bodyOf Go.Proofs.Tryz.f110) Trmn.a110 = true := by kernel_rfl
set_option maxRecDepth 1000000 in
theorem ok114 : chkF Go.Proofs.Tryz.prog [0, 2, 6, 7] default Trmn.tab 114 Go.Proofs.Tryz.f114 (bodyOf Go.Proofs.Tryz.f114) Trmn.a114 = true := by kernel_rfl
set_option maxRecDepth 1000000 in
theorem ok123 : chkF Go.Proofs.Tryz.prog [0, 2, 6, 7] default Trmn.tab 123 Go.Proofs.Tryz.f123 (bodyOf Go.Proofs.Tryz.f123) Trmn.a123 = true := by kernel_rfl
set_option maxRecDepth 1000000 in
theorem ok134 : chkF Go.Proofs.Tryz.prog [0, 2, 6, 7] default Trmn.tab 134 Go.Proofs.Tryz.f134 (bodyOf Go.Proofs.Tryz.f134) Trmn.a134 = true := by kernel_rfl
set_option maxRecDepth 1000000 in
theorem ok139 : chkF Go.Proofs.Tryz.prog [0, 2, 6, 7] default Trmn.tab 139 Go.Proofs.Tryz.f139 (bodyOf Go.Proofs.Tryz.f139) Trmn.a139 = true := by kernel_rfl
set_option maxRecDepth 1000000 in
theorem ok143 : chkF Go.Proofs.Tryz.prog [0, 2, 6, 7] default Trmn.tab 143 Go.Proofs.Tryz.f143 (bodyOf Go.Proofs.Tryz.f143) Trmn.a143 = true := by kernel_rfl
set_option maxRecDepth 1000000 in
theorem ok163 : chkF Go.Proofs.Tryz.prog [0, 2, 6, 7] default Trmn.tab 163 Go.Proofs.Tryz.f163 (bodyOf Go.Proofs.Tryz.f163) Trmn.a163 = true := by kernel_rfl
set_option maxRecDepth 1000000 in
theorem ok176 : chkF Go.Proofs.Tryz.prog [0, 2, 6, 7] default Trmn.tab 176 Go.Proofs.Tryz.f176 (bodyOf Go.Proofs.Tryz.f176) Trmn.a176 = true := by kernel_rfl
set_option maxRecDepth 1000000 in
theorem ok187 : chkF Go.Proofs.Tryz.prog [0, 2, 6, 7] default Trmn.tab 187 Go.Proofs.Tryz.f187 (bodyOf Go.Proofs.Tryz.f187) Trmn.a187 = true := by kernel_rfl
end Go.Proofs.Zmn
