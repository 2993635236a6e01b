/- A part of the law's proof: Chk1. -/
import Derived.Test.YtngjgaadnpfbpaaGreatDoorRows
import Derived.Test.YtngjgaadnpfbpaaGreatDoorCoreD
import Derived.Test.YtngjgaadnpfbpaaGreatDoorFn
import Derived.KernelRfl
import Derived.Test.YtngjgaadnpfbpaaGreatDoorChk0
/- The check of the functions of a program, part 2. -/
namespace Go.Proofs.Zmn
open Go Go.Am
set_option maxRecDepth 1000000 in
theorem ok5 : chkF Go.Proofs.Tryz.prog [0, 2, 6, 7] default Trmn.tab 5 Go.Proofs.Tryz.f5 (bodyOf Go.Proofs.Tryz.f5) Trmn.a5 = true := by kernel_rfl
set_option maxRecDepth 1000000 in
theorem ok9 : chkF Go.Proofs.Tryz.prog [0, 2, 6, 7] default Trmn.tab 9 Go.Proofs.Tryz.f9 (bodyOf Go.Proofs.Tryz.f9) Trmn.a9 = true := by kernel_rfl
set_option maxRecDepth 1000000 in
theorem ok13 : chkF Go.Proofs.Tryz.prog [0, 2, 6, 7] default Trmn.tab 13 Go.Proofs.Tryz.f13 (bodyOf Go.Proofs.Tryz.f13) Trmn.a13 = true := by kernel_rfl
set_option maxRecDepth 1000000 in
theorem ok17 : chkF Go.Proofs.Tryz.prog [0, 2, 6, 7] default Trmn.tab 17 Go.Proofs.Tryz.f17 (bodyOf Go.Proofs.Tryz.f17) Trmn.a17 = true := by kernel_rfl
set_option maxRecDepth 1000000 in
theorem ok21 : chkF Go.Proofs.Tryz.prog [0, 2, 6, 7] default Trmn.tab 21 Go.Proofs.Tryz.f21 (bodyOf Go.Proofs.Tryz.f21) Trmn.a21 = true := by kernel_rfl
set_option maxRecDepth 1000000 in
theorem ok25 : chkF Go.Proofs.Tryz.prog [0, 2, 6, 7] default Trmn.tab 25 Go.Proofs.Tryz.f25 (bodyOf Go.Proofs.Tryz.f25) Trmn.a25 = true := by kernel_rfl
set_option maxRecDepth 1000000 in
theorem ok29 : chkF Go.Proofs.Tryz.prog [0, 2, 6, 7] default Trmn.tab 29 Go.Proofs.Tryz.f29 (bodyOf Go.Proofs.Tryz.f29) Trmn.a29 = true := by kernel_rfl
set_option maxRecDepth 1000000 in
theorem ok33 : chkF Go.Proofs.Tryz.prog [0, 2, 6, 7] default Trmn.tab 33 Go.Proofs.Tryz.f33 (bodyOf Go.Proofs.Tryz.f33) Trmn.a33 = true := by kernel_rfl
set_option maxRecDepth 1000000 in
theorem ok38 : chkF Go.Proofs.Tryz.prog [0, 2, 6, 7] default Trmn.tab 38 Go.Proofs.Tryz.f38 (bodyOf Go.Proofs.Tryz.f38) Trmn.a38 = true := by kernel_rfl
set_option maxRecDepth 1000000 in
theorem ok42 : chkF Go.Proofs.Tryz.prog [0, 2, 6, 7] default Trmn.tab 42 Go.Proofs.Tryz.f42 (bodyOf Go.Proofs.Tryz.f42) Trmn.a42 = true := by kernel_rfl
set_option maxRecDepth 1000000 in
theorem ok46 : chkF Go.Proofs.Tryz.prog [0, 2, 6, 7] default Trmn.tab 46 Go.Proofs.Tryz.f46 (bodyOf Go.Proofs.Tryz.f46) Trmn.a46 = true := by kernel_rfl
set_option maxRecDepth 1000000 in
theorem ok51 : chkF Go.Proofs.Tryz.prog [0, 2, 6, 7] default Trmn.tab 51 Go.Proofs.Tryz.f51 (bodyOf Go.Proofs.Tryz.f51) Trmn.a51 = true := by kernel_rfl
set_option maxRecDepth 1000000 in
theorem ok56 : chkF Go.Proofs.Tryz.prog [0, 2, 6, 7] default Trmn.tab 56 Go.Proofs.Tryz.f56 (bodyOf Go.Proofs.Tryz.f56) Trmn.a56 = true := by kernel_rfl
set_option maxRecDepth 1000000 in
theorem ok60 : chkF Go.Proofs.Tryz.prog [0, 2, 6, 7] default Trmn.tab 60 Go.Proofs.Tryz.f60 (bodyOf Go.Proofs.Tryz.f60) Trmn.a60 = true := by kernel_rfl
set_option maxRecDepth 1000000 in
theorem ok64 : chkF Go.Proofs.Tryz.prog [0, 2, 6, 7] default Trmn.tab 64 Go.Proofs.Tryz.f64 (bodyOf Go.Proofs.Tryz.f64) Trmn.a64 = true := by kernel_rfl
set_option maxRecDepth 1000000 in
theorem ok68 : chkF Go.Proofs.Tryz.prog [0, 2, 6, 7] default Trmn.tab 68 Go.Proofs.Tryz.f68 (bodyOf Go.Proofs.Tryz.f68) Trmn.a68 = true := by kernel_rfl
set_option maxRecDepth 1000000 in
theorem ok74 : chkF Go.Proofs.Tryz.prog [0, 2, 6, 7] default Trmn.tab 74 Go.Proofs.Tryz.f74 (bodyOf Go.Proofs.Tryz.f74) Trmn.a74 = true := by kernel_rfl
set_option maxRecDepth 1000000 in
theorem ok80 : chkF Go.Proofs.Tryz.prog [0, 2, 6, 7] default Trmn.tab 80 Go.Proofs.Tryz.f80 (bodyOf Go.Proofs.Tryz.f80) Trmn.a80 = true := by kernel_rfl
set_option maxRecDepth 1000000 in
theorem ok84 : chkF Go.Proofs.Tryz.prog [0, 2, 6, 7] default Trmn.tab 84 Go.Proofs.Tryz.f84 (bodyOf Go.Proofs.Tryz.f84) Trmn.a84 = true := by kernel_rfl
set_option maxRecDepth 1000000 in
theorem ok98 : chkF Go.Proofs.Tryz.prog [0, 2, 6, 7] default Trmn.tab 98 Go.Proofs.Tryz.f98 (bodyOf Go.Proofs.Tryz.f98) Trmn.a98 = true := by kernel_rfl
set_option maxRecDepth 1000000 in
theorem ok111 : chkF Go.Proofs.Tryz.prog [0, 2, 6, 7] default Trmn.tab 111 Go.Proofs.Tryz.f111 (bodyOf Go.Proofs.Tryz.f111) Trmn.a111 = true := by kernel_rfl
set_option maxRecDepth 1000000 in
theorem ok116 : chkF Go.Proofs.Tryz.prog [0, 2, 6, 7] default Trmn.tab 116 Go.Proofs.Tryz.f116 (bodyOf Go.Proofs.Tryz.f116) Trmn.a116 = true := by kernel_rfl
set_option maxRecDepth 1000000 in
theorem ok124 : chkF Go.Proofs.Tryz.prog [0, 2, 6, 7] default Trmn.tab 124 Go.Proofs.Tryz.f124 (bodyOf Go.Proofs.Tryz.f124) Trmn.a124 = true := by kernel_rfl
set_option maxRecDepth 1000000 in
theorem ok135 : chkF Go.Proofs.Tryz.prog [0, 2, 6, 7] default Trmn.tab 135 Go.Proofs.Tryz.f135 (bodyOf Go.Proofs.Tryz.f135) Trmn.a135 = true := by kernel_rfl
set_option maxRecDepth 1000000 in
theorem ok140 : chkF Go.Proofs.Tryz.prog [0, 2, 6, 7] default Trmn.tab 140 Go.Proofs.Tryz.f140 (bodyOf Go.Proofs.Tryz.f140) Trmn.a140 = true := by kernel_rfl
set_option maxRecDepth 1000000 in
theorem ok145 : chkF Go.Proofs.Tryz.prog [0, 2, 6, 7] default Trmn.tab 145 Go.Proofs.Tryz.f145 (bodyOf Go.Proofs.Tryz.f145) Trmn.a145 = true := by kernel_rfl
set_option maxRecDepth 1000000 in
theorem ok166 : chkF Go.Proofs.Tryz.prog [0, 2, 6, 7] default Trmn.tab 166 Go.Proofs.Tryz.f166 (bodyOf Go.Proofs.Tryz.f166) Trmn.a166 = true := by kernel_rfl
set_option maxRecDepth 1000000 in
theorem ok177 : chkF Go.Proofs.Tryz.prog [0, 2, 6, 7] default Trmn.tab 177 Go.Proofs.Tryz.f177 (bodyOf Go.Proofs.Tryz.f177) Trmn.a177 = true := by kernel_rfl
set_option maxRecDepth 1000000 in
theorem ok188 : chkF Go.Proofs.Tryz.prog [0, 2, 6, 7] default Trmn.tab 188 Go.Proofs.Tryz.f188 (bodyOf Go.Proofs.Tryz.f188) Trmn.a188 = true := by kernel_rfl
end Go.Proofs.Zmn
/- The check of the functions of a program, part 3. -/
namespace Go.Proofs.Zmn
open Go Go.Am
set_option maxRecDepth 1000000 in
theorem ok6 : chkF Go.Proofs.Tryz.prog [0, 2, 6, 7] default Trmn.tab 6 Go.Proofs.Tryz.f6 (bodyOf Go.Proofs.Tryz.f6) Trmn.a6 = true := by kernel_rfl
set_option maxRecDepth 1000000 in
theorem ok10 : chkF Go.Proofs.Tryz.prog [0, 2, 6, 7] default Trmn.tab 10 Go.Proofs.Tryz.f10 (bodyOf Go.Proofs.Tryz.f10) Trmn.a10 = true := by kernel_rfl
set_option maxRecDepth 1000000 in
theorem ok14 : chkF Go.Proofs.Tryz.prog [0, 2, 6, 7] default Trmn.tab 14 Go.Proofs.Tryz.f14 (bodyOf Go.Proofs.Tryz.f14) Trmn.a14 = true := by kernel_rfl
set_option maxRecDepth 1000000 in
theorem ok18 : chkF Go.Proofs.Tryz.prog [0, 2, 6, 7] default Trmn.tab 18 Go.Proofs.Tryz.f18 (bodyOf Go.Proofs.Tryz.f18) Trmn.a18 = true := by kernel_rfl
set_option maxRecDepth 1000000 in
theorem ok22 : chkF Go.Proofs.Tryz.prog [0, 2, 6, 7] default Trmn.tab 22 Go.Proofs.Tryz.f22 (bodyOf Go.Proofs.Tryz.f22) Trmn.a22 = true := by kernel_rfl
set_option maxRecDepth 1000000 in
theorem ok26 : chkF Go.Proofs.Tryz.prog [0, 2, 6, 7] default Trmn.tab 26 Go.Proofs.Tryz.f26 (bodyOf Go.Proofs.Tryz.f26) Trmn.a26 = true := by kernel_rfl
set_option maxRecDepth 1000000 in
theorem ok30 : chkF Go.Proofs.Tryz.prog [0, 2, 6, 7] default Trmn.tab 30 Go.Proofs.Tryz.f30 (bodyOf Go.Proofs.Tryz.f30) Trmn.a30 = true := by kernel_rfl
set_option maxRecDepth 1000000 in
theorem ok34 : chkF Go.Proofs.Tryz.prog [0, 2, 6, 7] default Trmn.tab 34 Go.Proofs.Tryz.f34 (bodyOf Go.Proofs.Tryz.f34) Trmn.a34 = true := by kernel_rfl
set_option maxRecDepth 1000000 in
theorem ok39 : chkF Go.Proofs.Tryz.prog [0, 2, 6, 7] default Trmn.tab 39 Go.Proofs.Tryz.f39 (bodyOf Go.Proofs.Tryz.f39) Trmn.a39 = true := by kernel_rfl
set_option maxRecDepth 1000000 in
theorem ok43 : chkF Go.Proofs.Tryz.prog [0, 2, 6, 7] default Trmn.tab 43 Go.Proofs.Tryz.f43 (bodyOf Go.Proofs.Tryz.f43) Trmn.a43 = true := by kernel_rfl
set_option maxRecDepth 1000000 in
theorem ok48 : chkF Go.Proofs.Tryz.prog [0, 2, 6, 7] default Trmn.tab 48 Go.Proofs.Tryz.f48 (bodyOf Go.Proofs.Tryz.f48) Trmn.a48 = true := by kernel_rfl
set_option maxRecDepth 1000000 in
theorem ok52 : chkF Go.Proofs.Tryz.prog [0, 2, 6, 7] default Trmn.tab 52 Go.Proofs.Tryz.f52 (bodyOf Go.Proofs.Tryz.f52) Trmn.a52 = true := by kernel_rfl
set_option maxRecDepth 1000000 in
theorem ok57 : chkF Go.Proofs.Tryz.prog [0, 2, 6, 7] default Trmn.tab 57 Go.Proofs.Tryz.f57 (bodyOf Go.Proofs.Tryz.f57) Trmn.a57 = true := by kernel_rfl
set_option maxRecDepth 1000000 in
theorem ok61 : chkF Go.Proofs.Tryz.prog [0, 2, 6, 7] default Trmn.tab 61 Go.Proofs.Tryz.f61 (bodyOf Go.Proofs.Tryz.f61) Trmn.a61 = true := by kernel_rfl
set_option maxRecDepth 1000000 in
theorem ok65 : chkF Go.Proofs.Tryz.prog [0, 2, 6, 7] default Trmn.tab 65 Go.Proofs.Tryz.f65 (bodyOf Go.Proofs.Tryz.f65) Trmn.a65 = true := by kernel_rfl
set_option maxRecDepth 1000000 in
theorem ok69 : chkF Go.Proofs.Tryz.prog [0, 2, 6, 7] default Trmn.tab 69 Go.Proofs.Tryz.f69 (bodyOf Go.Proofs.Tryz.f69) Trmn.a69 = true := by kernel_rfl
set_option maxRecDepth 1000000 in
theorem ok75 : chkF Go.Proofs.Tryz.prog [0, 2, 6, 7] default Trmn.tab 75 Go.Proofs.Tryz.f75 (bodyOf Go.Proofs.Tryz.f75) Trmn.a75 = true := by kernel_rfl
set_option maxRecDepth 1000000 in
theorem ok81 : chkF Go.Proofs.Tryz.prog [0, 2, 6, 7] default Trmn.tab 81 Go.Proofs.Tryz.f81 (bodyOf Go.Proofs.Tryz.f81) Trmn.a81 = true := by kernel_rfl
set_option maxRecDepth 1000000 in
theorem ok85 : chkF Go.Proofs.Tryz.prog [0, 2, 6, 7] default Trmn.tab 85 Go.Proofs.Tryz.f85 (bodyOf Go.Proofs.Tryz.f85) Trmn.a85 = true := by kernel_rfl
set_option maxRecDepth 1000000 in
theorem ok103 : chkF Go.Proofs.Tryz.prog [0, 2, 6, 7] default Trmn.tab 103 Go.Proofs.Tryz.f103 (bodyOf Go.Proofs.Tryz.f103) Trmn.a103 = true := by kernel_rfl
set_option maxRecDepth 1000000 in
theorem ok112 : chkF Go.Proofs.Tryz.prog [0, 2, 6, 7] default Trmn.tab 112 Go.Proofs.Tryz.f112 (bodyOf Go.Proofs.Tryz.f112) Trmn.a112 = true := by kernel_rfl
set_option maxRecDepth 1000000 in
theorem ok121 : chkF Go.Proofs.Tryz.prog [0, 2, 6, 7] default Trmn.tab 121 Go.Proofs.Tryz.f121 (bodyOf Go.Proofs.Tryz.f121) Trmn.a121 = true := by kernel_rfl
set_option maxRecDepth 1000000 in
theorem ok125 : chkF Go.Proofs.Tryz.prog [0, 2, 6, 7] default Trmn.tab 125 Go.Proofs.Tryz.f125 (bodyOf Go.Proofs.Tryz.f125) Trmn.a125 = true := by kernel_rfl
set_option maxRecDepth 1000000 in
theorem ok136 : chkF Go.Proofs.Tryz.prog [0, 2, 6, 7] default Trmn.tab 136 Go.Proofs.Tryz.f136 (bodyOf Go.Proofs.Tryz.f136) Trmn.a136 = true := by kernel_rfl
set_option maxRecDepth 1000000 in
theorem ok141 : chkF Go.Proofs.Tryz.prog [0, 2, 6, 7] default Trmn.tab 141 Go.Proofs.Tryz.f141 (bodyOf Go.Proofs.Tryz.f141) Trmn.a141 = true := by kernel_rfl
set_option maxRecDepth 1000000 in
theorem ok146 : chkF Go.Proofs.Tryz.prog [0, 2, 6, 7] default Trmn.tab 146 Go.Proofs.Tryz.f146 (bodyOf Go.Proofs.Tryz.f146) Trmn.a146 = true := by kernel_rfl
set_option maxRecDepth 1000000 in
theorem ok171 : chkF Go.Proofs.Tryz.prog [0, 2, 6, 7] default Trmn.tab 171 Go.Proofs.Tryz.f171 (bodyOf Go.Proofs.Tryz.f171) Trmn.a171 = true := by kernel_rfl
set_option maxRecDepth 1000000 in
theorem ok179 : chkF Go.Proofs.Tryz.prog [0, 2, 6, 7] default Trmn.tab 179 Go.Proofs.Tryz.f179 (bodyOf Go.Proofs.Tryz.f179) Trmn.a179 = true := by kernel_rfl
end Go.Proofs.Zmn
/- The program passes the check. -/
namespace Go.Proofs.Zmn
open Go Go.Am
theorem fn_ok {f : Nat} {fn : Func} {af : AFunc} (h0 : Go.Proofs.Tryz.prog.funcs[f]? = some fn) (h1 : fn.body.isSome = true) (h2 : chkF Go.Proofs.Tryz.prog [0, 2, 6, 7] default Trmn.tab f fn (bodyOf fn) af = true) (h3 : af.ins.isEmpty = true) :
    if af.ins.isEmpty then ∃ fn code, Go.Proofs.Tryz.prog.funcs[f]? = some fn ∧ fn.body = some code ∧ chkF Go.Proofs.Tryz.prog [0, 2, 6, 7] default Trmn.tab f fn code af = true else chkY Go.Proofs.Tryz.prog [0, 2, 6, 7] default Trmn.tab f af = true := by
  rw [if_pos h3]
  obtain ⟨c, hc⟩ := Option.isSome_iff_exists.1 h1
  refine ⟨fn, c, h0, hc, ?_⟩
  simpa [bodyOf, hc] using h2
theorem rnd_ok {f : Nat} {af : AFunc} (h2 : chkY Go.Proofs.Tryz.prog [0, 2, 6, 7] default Trmn.tab f af = true) (h3 : af.ins.isEmpty = false) :
    if af.ins.isEmpty then ∃ fn code, Go.Proofs.Tryz.prog.funcs[f]? = some fn ∧ fn.body = some code ∧ chkF Go.Proofs.Tryz.prog [0, 2, 6, 7] default Trmn.tab f fn code af = true else chkY Go.Proofs.Tryz.prog [0, 2, 6, 7] default Trmn.tab f af = true := by
  rw [if_neg (by simp [h3])]
  exact h2
set_option maxRecDepth 100000 in
theorem prog_ok : ProgOK Go.Proofs.Tryz.prog [0, 2, 6, 7] default Trmn.tab Trmn.aprog := by
  intro f af h
  unfold Trmn.aprog at h
  split at h
  · cases h; exact fn_ok Go.Proofs.Tryz.func3 (by kernel_rfl) ok3 rfl
  · cases h; exact fn_ok Go.Proofs.Tryz.func4 (by kernel_rfl) ok4 rfl
  · cases h; exact fn_ok Go.Proofs.Tryz.func5 (by kernel_rfl) ok5 rfl
  · cases h; exact fn_ok Go.Proofs.Tryz.func6 (by kernel_rfl) ok6 rfl
  · cases h; exact fn_ok Go.Proofs.Tryz.func7 (by kernel_rfl) ok7 rfl
  · cases h; exact fn_ok Go.Proofs.Tryz.func8 (by kernel_rfl) ok8 rfl
  · cases h; exact fn_ok Go.Proofs.Tryz.func9 (by kernel_rfl) ok9 rfl
  · cases h; exact fn_ok Go.Proofs.Tryz.func10 (by kernel_rfl) ok10 rfl
  · cases h; exact fn_ok Go.Proofs.Tryz.func11 (by kernel_rfl) ok11 rfl
  · cases h; exact fn_ok Go.Proofs.Tryz.func12 (by kernel_rfl) ok12 rfl
  · cases h; exact fn_ok Go.Proofs.Tryz.func13 (by kernel_rfl) ok13 rfl
  · cases h; exact fn_ok Go.Proofs.Tryz.func14 (by kernel_rfl) ok14 rfl
  · cases h; exact fn_ok Go.Proofs.Tryz.func15 (by kernel_rfl) ok15 rfl
  · cases h; exact fn_ok Go.Proofs.Tryz.func16 (by kernel_rfl) ok16 rfl
  · cases h; exact fn_ok Go.Proofs.Tryz.func17 (by kernel_rfl) ok17 rfl
  · cases h; exact fn_ok Go.Proofs.Tryz.func18 (by kernel_rfl) ok18 rfl
  · cases h; exact fn_ok Go.Proofs.Tryz.func19 (by kernel_rfl) ok19 rfl
  · cases h; exact fn_ok Go.Proofs.Tryz.func20 (by kernel_rfl) ok20 rfl
  · cases h; exact fn_ok Go.Proofs.Tryz.func21 (by kernel_rfl) ok21 rfl
  · cases h; exact fn_ok Go.Proofs.Tryz.func22 (by kernel_rfl) ok22 rfl
  · cases h; exact fn_ok Go.Proofs.Tryz.func23 (by kernel_rfl) ok23 rfl
  · cases h; exact fn_ok Go.Proofs.Tryz.func24 (by kernel_rfl) ok24 rfl
  · cases h; exact fn_ok Go.Proofs.Tryz.func25 (by kernel_rfl) ok25 rfl
  · cases h; exact fn_ok Go.Proofs.Tryz.func26 (by kernel_rfl) ok26 rfl
  · cases h; exact fn_ok Go.Proofs.Tryz.func27 (by kernel_rfl) ok27 rfl
  · cases h; exact fn_ok Go.Proofs.Tryz.func28 (by kernel_rfl) ok28 rfl
  · cases h; exact fn_ok Go.Proofs.Tryz.func29 (by kernel_rfl) ok29 rfl
  · cases h; exact fn_ok Go.Proofs.Tryz.func30 (by kernel_rfl) ok30 rfl
  · cases h; exact fn_ok Go.Proofs.Tryz.func31 (by kernel_rfl) ok31 rfl
  · cases h; exact fn_ok Go.Proofs.Tryz.func32 (by kernel_rfl) ok32 rfl
  · cases h; exact fn_ok Go.Proofs.Tryz.func33 (by kernel_rfl) ok33 rfl
  · cases h; exact fn_ok Go.Proofs.Tryz.func34 (by kernel_rfl) ok34 rfl
  · cases h; exact fn_ok Go.Proofs.Tryz.func36 (by kernel_rfl) ok36 rfl
  · cases h; exact fn_ok Go.Proofs.Tryz.func37 (by kernel_rfl) ok37 rfl
  · cases h; exact fn_ok Go.Proofs.Tryz.func38 (by kernel_rfl) ok38 rfl
  · cases h; exact fn_ok Go.Proofs.Tryz.func39 (by kernel_rfl) ok39 rfl
  · cases h; exact fn_ok Go.Proofs.Tryz.func40 (by kernel_rfl) ok40 rfl
  · cases h; exact fn_ok Go.Proofs.Tryz.func41 (by kernel_rfl) ok41 rfl
  · cases h; exact fn_ok Go.Proofs.Tryz.func42 (by kernel_rfl) ok42 rfl
  · cases h; exact fn_ok Go.Proofs.Tryz.func43 (by kernel_rfl) ok43 rfl
  · cases h; exact fn_ok Go.Proofs.Tryz.func44 (by kernel_rfl) ok44 rfl
  · cases h; exact fn_ok Go.Proofs.Tryz.func45 (by kernel_rfl) ok45 rfl
  · cases h; exact fn_ok Go.Proofs.Tryz.func46 (by kernel_rfl) ok46 rfl
  · cases h; exact fn_ok Go.Proofs.Tryz.func48 (by kernel_rfl) ok48 rfl
  · cases h; exact fn_ok Go.Proofs.Tryz.func49 (by kernel_rfl) ok49 rfl
  · cases h; exact fn_ok Go.Proofs.Tryz.func50 (by kernel_rfl) ok50 rfl
  · cases h; exact fn_ok Go.Proofs.Tryz.func51 (by kernel_rfl) ok51 rfl
  · cases h; exact fn_ok Go.Proofs.Tryz.func52 (by kernel_rfl) ok52 rfl
  · cases h; exact fn_ok Go.Proofs.Tryz.func53 (by kernel_rfl) ok53 rfl
  · cases h; exact fn_ok Go.Proofs.Tryz.func55 (by kernel_rfl) ok55 rfl
  · cases h; exact fn_ok Go.Proofs.Tryz.func56 (by kernel_rfl) ok56 rfl
  · cases h; exact fn_ok Go.Proofs.Tryz.func57 (by kernel_rfl) ok57 rfl
  · cases h; exact fn_ok Go.Proofs.Tryz.func58 (by kernel_rfl) ok58 rfl
  · cases h; exact fn_ok Go.Proofs.Tryz.func59 (by kernel_rfl) ok59 rfl
  · cases h; exact fn_ok Go.Proofs.Tryz.func60 (by kernel_rfl) ok60 rfl
  · cases h; exact fn_ok Go.Proofs.Tryz.func61 (by kernel_rfl) ok61 rfl
  · cases h; exact fn_ok Go.Proofs.Tryz.func62 (by kernel_rfl) ok62 rfl
  · cases h; exact fn_ok Go.Proofs.Tryz.func63 (by kernel_rfl) ok63 rfl
  · cases h; exact fn_ok Go.Proofs.Tryz.func64 (by kernel_rfl) ok64 rfl
  · cases h; exact fn_ok Go.Proofs.Tryz.func65 (by kernel_rfl) ok65 rfl
  · cases h; exact fn_ok Go.Proofs.Tryz.func66 (by kernel_rfl) ok66 rfl
  · cases h; exact fn_ok Go.Proofs.Tryz.func67 (by kernel_rfl) ok67 rfl
  · cases h; exact fn_ok Go.Proofs.Tryz.func68 (by kernel_rfl) ok68 rfl
  · cases h; exact fn_ok Go.Proofs.Tryz.func69 (by kernel_rfl) ok69 rfl
  · cases h; exact fn_ok Go.Proofs.Tryz.func70 (by kernel_rfl) ok70 rfl
  · cases h; exact fn_ok Go.Proofs.Tryz.func71 (by kernel_rfl) ok71 rfl
  · cases h; exact fn_ok Go.Proofs.Tryz.func74 (by kernel_rfl) ok74 rfl
  · cases h; exact fn_ok Go.Proofs.Tryz.func75 (by kernel_rfl) ok75 rfl
  · cases h; exact fn_ok Go.Proofs.Tryz.func76 (by kernel_rfl) ok76 rfl
  · cases h; exact fn_ok Go.Proofs.Tryz.func79 (by kernel_rfl) ok79 rfl
  · cases h; exact fn_ok Go.Proofs.Tryz.func80 (by kernel_rfl) ok80 rfl
  · cases h; exact fn_ok Go.Proofs.Tryz.func81 (by kernel_rfl) ok81 rfl
  · cases h; exact fn_ok Go.Proofs.Tryz.func82 (by kernel_rfl) ok82 rfl
  · cases h; exact fn_ok Go.Proofs.Tryz.func83 (by kernel_rfl) ok83 rfl
  · cases h; exact fn_ok Go.Proofs.Tryz.func84 (by kernel_rfl) ok84 rfl
  · cases h; exact fn_ok Go.Proofs.Tryz.func85 (by kernel_rfl) ok85 rfl
  · cases h; exact fn_ok Go.Proofs.Tryz.func92 (by kernel_rfl) ok92 rfl
  · cases h; exact fn_ok Go.Proofs.Tryz.func95 (by kernel_rfl) ok95 rfl
  · cases h; exact fn_ok Go.Proofs.Tryz.func98 (by kernel_rfl) ok98 rfl
  · cases h; exact fn_ok Go.Proofs.Tryz.func103 (by kernel_rfl) ok103 rfl
  · cases h; exact fn_ok Go.Proofs.Tryz.func104 (by kernel_rfl) ok104 rfl
  · cases h; exact fn_ok Go.Proofs.Tryz.func110 (by kernel_rfl) ok110 rfl
  · cases h; exact fn_ok Go.Proofs.Tryz.func111 (by kernel_rfl) ok111 rfl
  · cases h; exact fn_ok Go.Proofs.Tryz.func112 (by kernel_rfl) ok112 rfl
  · cases h; exact fn_ok Go.Proofs.Tryz.func113 (by kernel_rfl) ok113 rfl
  · cases h; exact fn_ok Go.Proofs.Tryz.func114 (by kernel_rfl) ok114 rfl
  · cases h; exact fn_ok Go.Proofs.Tryz.func116 (by kernel_rfl) ok116 rfl
  · cases h; exact fn_ok Go.Proofs.Tryz.func121 (by kernel_rfl) ok121 rfl
  · cases h; exact fn_ok Go.Proofs.Tryz.func122 (by kernel_rfl) ok122 rfl
  · cases h; exact fn_ok Go.Proofs.Tryz.func123 (by kernel_rfl) ok123 rfl
  · cases h; exact fn_ok Go.Proofs.Tryz.func124 (by kernel_rfl) ok124 rfl
  · cases h; exact fn_ok Go.Proofs.Tryz.func125 (by kernel_rfl) ok125 rfl
  · cases h; exact fn_ok Go.Proofs.Tryz.func133 (by kernel_rfl) ok133 rfl
  · cases h; exact fn_ok Go.Proofs.Tryz.func134 (by kernel_rfl) ok134 rfl
  · cases h; exact fn_ok Go.Proofs.Tryz.func135 (by kernel_rfl) ok135 rfl
  · cases h; exact fn_ok Go.Proofs.Tryz.func136 (by kernel_rfl) ok136 rfl
  · cases h; exact fn_ok Go.Proofs.Tryz.func138 (by kernel_rfl) ok138 rfl
  · cases h; exact fn_ok Go.Proofs.Tryz.func139 (by kernel_rfl) ok139 rfl
  · cases h; exact fn_ok Go.Proofs.Tryz.func140 (by kernel_rfl) ok140 rfl
  · cases h; exact fn_ok Go.Proofs.Tryz.func141 (by kernel_rfl) ok141 rfl
  · cases h; exact fn_ok Go.Proofs.Tryz.func142 (by kernel_rfl) ok142 rfl
  · cases h; exact fn_ok Go.Proofs.Tryz.func143 (by kernel_rfl) ok143 rfl
  · cases h; exact fn_ok Go.Proofs.Tryz.func145 (by kernel_rfl) ok145 rfl
  · cases h; exact fn_ok Go.Proofs.Tryz.func146 (by kernel_rfl) ok146 rfl
  · cases h; exact fn_ok Go.Proofs.Tryz.func162 (by kernel_rfl) ok162 rfl
  · cases h; exact fn_ok Go.Proofs.Tryz.func163 (by kernel_rfl) ok163 rfl
  · cases h; exact fn_ok Go.Proofs.Tryz.func166 (by kernel_rfl) ok166 rfl
  · cases h; exact fn_ok Go.Proofs.Tryz.func171 (by kernel_rfl) ok171 rfl
  · cases h; exact fn_ok Go.Proofs.Tryz.func175 (by kernel_rfl) ok175 rfl
  · cases h; exact fn_ok Go.Proofs.Tryz.func176 (by kernel_rfl) ok176 rfl
  · cases h; exact fn_ok Go.Proofs.Tryz.func177 (by kernel_rfl) ok177 rfl
  · cases h; exact fn_ok Go.Proofs.Tryz.func179 (by kernel_rfl) ok179 rfl
  · cases h; exact fn_ok Go.Proofs.Tryz.func186 (by kernel_rfl) ok186 rfl
  · cases h; exact fn_ok Go.Proofs.Tryz.func187 (by kernel_rfl) ok187 rfl
  · cases h; exact fn_ok Go.Proofs.Tryz.func188 (by kernel_rfl) ok188 rfl
  · cases h; exact rnd_ok ok10690 rfl
  · cases h; exact rnd_ok ok11250 rfl
  · cases h
end Go.Proofs.Zmn
