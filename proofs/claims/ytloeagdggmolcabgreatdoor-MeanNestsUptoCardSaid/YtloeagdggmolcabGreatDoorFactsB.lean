/- A part of the law's proof: FactsB. -/
import Derived.Test.YtloeagdggmolcabGreatDoorPartC
set_option linter.unusedVariables false
set_option linter.unusedSimpArgs false
set_option maxRecDepth 100000
namespace Go.Proofs.MmF2
open Go Go.Am Go.Proofs.Mm
def i (n:Int):V:=.int .i64 n
def e0:TE:=⟨88,[],[],(.ret (.map 0)),[(.map [((.str ⟨#[108,101,116]⟩),(.bool true)),((.str ⟨#[105,110]⟩),(.bool true)),((.str ⟨#[102,110]⟩),(.bool true)),((.str ⟨#[105,102]⟩),(.bool true)),((.str ⟨#[116,104,101,110]⟩),(.bool true)),((.str ⟨#[101,108,115,101]⟩),(.bool true)),((.str ⟨#[99,97,115,101]⟩),(.bool true)),((.str ⟨#[111,102]⟩),(.bool true)),((.str ⟨#[108,101,102,116]⟩),(.bool true)),((.str ⟨#[114,105,103,104,116]⟩),(.bool true)),((.str ⟨#[111,114]⟩),(.bool true)),((.str ⟨#[102,111,114]⟩),(.bool true)),((.str ⟨#[102,115,116]⟩),(.bool true)),((.str ⟨#[115,110,100]⟩),(.bool true)),((.str ⟨#[105,111,116,97]⟩),(.bool true)),((.str ⟨#[108,101,110]⟩),(.bool true)),((.str ⟨#[102,108,97,116]⟩),(.bool true)),((.str ⟨#[102,111,108,100]⟩),(.bool true)),((.str ⟨#[115,99,97,110]⟩),(.bool true)),((.str ⟨#[110,101,115,116]⟩),(.bool true)),((.str ⟨#[112,117,116]⟩),(.bool true)),((.str ⟨#[109,105,110]⟩),(.bool true)),((.str ⟨#[109,97,120]⟩),(.bool true)),((.str ⟨#[102,117,110]⟩),(.bool true)),((.str ⟨#[109,97,105,110]⟩),(.bool true))])]⟩
theorem k0:e0.ok gl Trmm.aprog:=tbl_run (tbl:=[]) (n:=500) tblNil (by kernel_rfl)
def e1:TE:=⟨19,[.agg [.sv ((oneFn nestA).map Fn.cs) true,(i 0)]],[],(.ret (i 0)),[(.cells 1 1 [(i 0)])]⟩
theorem k1:e1.ok gl Trmm.aprog:=tbl_run (tbl:=[e0]) (n:=500) (tblCons k0 tblNil) (by kernel_rfl)
def e2:TE:=⟨19,[.agg [.sv ((oneFn nestB).map Fn.cs) true,(i 0)]],[],(.ret (i 0)),[(.cells 1 1 [(i 0)])]⟩
theorem k2:e2.ok gl Trmm.aprog:=tbl_run (tbl:=[e0]) (n:=500) (tblCons k0 tblNil) (by kernel_rfl)
def e3:TE:=⟨19,[.agg [.sv ((oneFn nestC).map Fn.cs) true,(i 0)]],[],(.ret (i 0)),[(.cells 1 1 [(i 0)])]⟩
theorem k3:e3.ok gl Trmm.aprog:=tbl_run (tbl:=[e0]) (n:=500) (tblCons k0 tblNil) (by kernel_rfl)
end Go.Proofs.MmF2
