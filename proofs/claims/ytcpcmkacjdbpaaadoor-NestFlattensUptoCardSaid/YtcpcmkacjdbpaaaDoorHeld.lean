/- A part of the law's proof: Held. -/
import Derived.Test.YtcpcmkacjdbpaaaDoorTy
import Derived.Test.YtcpcmkacjdbpaaaDoorLay
/- Nest: the chapter's examples, by the kernel. -/
set_option maxRecDepth 100000
namespace Go.Proofs.Nst
open Go Go.Am
def i (n : Int) : V := .int .i64 n
def e0 : TE := ⟨69, [(.ref 1 0 1), (i 2), (.sv [[(.sv [[(i 0)], [(i 3)]] false)], [(.sv [[(i 3)], [(i 1)]] false)], [(.sv [[(i 0)], [(i 2)], [(i 2)], [(i 3)]] false)], [(.sv [[(i 2)], [(i 0)], [(i 1)], [(i 1)]] false)], [(.sv [[(i 5)], [(i 6)], [(i 7)], [(i 8)]] false)]] false)], [(.cells 1 1 [(i 0)]), (.cells 1 4 [(i 2), (i 3), (i 4), (.sl 5 0 1 1 1 false)]), (.cells 1 4 [(i 2), (i 1), (i 4), (.sl 4 0 1 1 1 false)]), (.cells 1 4 [(i 1), (i 0), (i 1), .nils]), (.cells 1 1 [(.ref 3 0 1)]), (.cells 1 1 [(.ref 2 0 1)])], (.ret (.sv [[(i 4), (i 0), (.sv [[(i 4), (i 0), (.sv [[(i 1), (i 5), .nils], [(i 1), (i 6), .nils]] false)], [(i 4), (i 0), .nils], [(i 4), (i 0), (.sv [[(i 1), (i 7), .nils]] false)]] false)], [(i 4), (i 0), (.sv [[(i 4), (i 0), (.sv [[(i 1), (i 8), .nils]] false)]] false)]] false)), [(.cells 1 1 [(i 0)]), (.cells 1 4 [(i 2), (i 3), (i 4), (.sl 5 0 1 1 1 false)]), (.cells 1 4 [(i 2), (i 1), (i 4), (.sl 4 0 1 1 1 false)]), (.cells 1 4 [(i 1), (i 0), (i 1), .nils]), (.cells 1 1 [(.ref 3 0 1)]), (.cells 1 1 [(.ref 2 0 1)]), (.cells 1 1 [(i 2)]), (.cells 1 1 [(.sv [[(.sv [[(i 0)], [(i 3)]] false)], [(.sv [[(i 3)], [(i 1)]] false)], [(.sv [[(i 0)], [(i 2)], [(i 2)], [(i 3)]] false)], [(.sv [[(i 2)], [(i 0)], [(i 1)], [(i 1)]] false)], [(.sv [[(i 5)], [(i 6)], [(i 7)], [(i 8)]] false)]] false)]), (.cells 1 3 [(.ref 1 0 1), (i 0), (i 2)]), (.loop 10690 [(.ref 7 0 1)] .exhausted none), (.cells 1 1 [(.yf 9)]), (.cells 1 1 [(.func (.func 110) [] [(.ref 10 0 1), (.ref 11 0 1)])]), (.map [((.agg [(.ref 3 0 1), (i 0)]), (i 1)), ((.agg [(.ref 3 0 1), (i 1)]), (i 1)), ((.agg [(.ref 2 0 1), (i 0)]), (i 3)), ((.agg [(.ref 2 0 1), (i 1)]), (i 1)), ((.agg [(.ref 3 0 1), (i 2)]), (i 1)), ((.agg [(.ref 2 0 1), (i 2)]), (i 2)), ((.agg [(.ref 1 0 1), (i 0)]), (i 7)), ((.agg [(.ref 3 0 1), (i 3)]), (i 1)), ((.agg [(.ref 2 0 1), (i 3)]), (i 2)), ((.agg [(.ref 1 0 1), (i 1)]), (i 3))]), (.cells 1 2 [(.sv [[(.sv [[(i 0)], [(i 3)]] false)], [(.sv [[(i 3)], [(i 1)]] false)], [(.sv [[(i 0)], [(i 2)], [(i 2)], [(i 3)]] false)], [(.sv [[(i 2)], [(i 0)], [(i 1)], [(i 1)]] false)], [(.sv [[(i 5)], [(i 6)], [(i 7)], [(i 8)]] false)]] false), (.map 12)]), (.cells 1 1 [(i 7)]), (.cells 1 1 [(i 3)]), (.cells 1 1 [(i 1)]), (.cells 1 1 [(i 1)]), (.cells 1 1 [(i 1)]), (.cells 1 1 [(i 2)]), (.cells 1 1 [(i 1)]), (.cells 1 1 [(i 3)]), (.cells 1 1 [(i 2)]), (.cells 1 1 [(i 1)]), .gone]⟩
theorem k0 : e0.ok gl Trnx.aprog := tbl_run (tbl := []) (n := 500) tblNil (by kernel_rfl)
def e1 : TE := ⟨31, [(.agg [(i 4), (i 0), (.sv [[(i 4), (i 0), (.sv [[(i 1), (i 0), .nils]] true)]] true)]), (i 2), (.sv [[(.sv [[(i 0)], [(i 3)]] false)], [(.sv [[(i 3)], [(i 1)]] false)], [(.sv [[(i 0)], [(i 2)], [(i 2)], [(i 3)]] false)], [(.sv [[(i 2)], [(i 0)], [(i 1)], [(i 1)]] false)], [(.sv [[(i 5)], [(i 6)], [(i 7)], [(i 8)]] false)]] false), (.sv [[(i 1)], [(i 0)], [(i 1)]] true)], [], (.ret (.tup [(.sv [[(.sv [[(i 3)], [(i 0)], [(i 3)]] false)], [(.sv [[(i 1)], [(i 3)], [(i 1)]] false)], [(.sv [[(i 0)], [(i 2)], [(i 2)], [(i 3)]] false)], [(.sv [[(i 2)], [(i 0)], [(i 1)], [(i 1)]] false)], [(.sv [[(i 5)], [(i 6)], [(i 7)], [(i 8)]] false)]] false), (i 0)])), [(.cells 1 1 [(i 2)]), (.cells 1 1 [(i 0)]), (.cells 1 4 [(i 2), (i 3), (i 4), (.sl 6 0 1 1 1 false)]), (.cells 1 4 [(i 2), (i 1), (i 4), (.sl 5 0 1 1 1 false)]), (.cells 1 4 [(i 1), (i 0), (i 1), .nils]), (.cells 1 1 [(.ref 4 0 1)]), (.cells 1 1 [(.ref 3 0 1)]), .gone, .gone, .gone]⟩
theorem k1 : e1.ok gl Trnx.aprog := tbl_run (tbl := []) (n := 500) tblNil (by kernel_rfl)
def e2 : TE := ⟨29, [(.agg [(i 4), (i 0), (.sv [[(i 4), (i 0), (.sv [[(i 1), (i 0), .nils]] true)]] true)]), (i 1), (.sv [[(.sv [[(i 0)]] false)], [(.sv [[(i 1)]] false)], [(.sv [[(i 0)]] false)], [(.sv [[(i 1)]] false)], [(.sv [[(i 8)]] false)]] false), (i 1), (.sv [[(.sv [[(i 0)]] false)], [(.sv [[(i 3)]] false)], [(.sv [[(i 0)], [(i 2)], [(i 2)]] false)], [(.sv [[(i 2)], [(i 0)], [(i 1)]] false)], [(.sv [[(i 5)], [(i 6)], [(i 7)]] false)]] false)], [], (.ret (.tup [(.sl 8 0 5 5 1 false), (i 0)])), [(.cells 1 1 [(.sv [[(.sv [[(i 0)]] false)], [(.sv [[(i 1)]] false)], [(.sv [[(i 0)]] false)], [(.sv [[(i 1)]] false)], [(.sv [[(i 8)]] false)]] false)]), (.cells 1 1 [(.sv [[(.sv [[(i 0)]] false)], [(.sv [[(i 3)]] false)], [(.sv [[(i 0)], [(i 2)], [(i 2)]] false)], [(.sv [[(i 2)], [(i 0)], [(i 1)]] false)], [(.sv [[(i 5)], [(i 6)], [(i 7)]] false)]] false)]), (.cells 1 1 [(i 0)]), (.cells 1 4 [(i 2), (i 3), (i 4), (.sl 7 0 1 1 1 false)]), (.cells 1 4 [(i 2), (i 1), (i 4), (.sl 6 0 1 1 1 false)]), (.cells 1 4 [(i 1), (i 0), (i 1), .nils]), (.cells 1 1 [(.ref 5 0 1)]), (.cells 1 1 [(.ref 4 0 1)]), (.cells 5 1 [(.sl 10 0 2 2 1 false), (.sl 11 0 2 2 1 false), (.sl 12 0 4 4 1 false), (.sl 13 0 4 4 1 false), (.sl 14 0 4 4 1 false)]), (.cells 1 1 [(.sl 8 0 5 5 1 false)]), (.cells 2 1 [(i 0), (i 1)]), (.cells 2 1 [(i 1), (i 3)]), (.cells 4 1 [(i 0), (i 1), (i 3), (i 3)]), (.cells 4 1 [(i 1), (i 2), (i 0), (i 1)]), (.cells 4 1 [(i 8), (i 5), (i 6), (i 7)]), (.cells 1 1 [(.func (.func 72) [] [(.ref 1 0 1), (.ref 9 0 1), (.ref 0 0 1), (.ref 15 0 1)])])]⟩
theorem k2 : e2.ok gl Trnx.aprog := tbl_run (tbl := []) (n := 500) tblNil (by kernel_rfl)
def e3 : TE := ⟨26, [(.agg [(i 4), (i 0), (.sv [[(i 1), (i 0), .nils]] true)]), (i 3), (.sv [[(.sv [[(i 1)], [(i 1)], [(i 0)]] true)], [(.sv [[(i 2)], [(i 1)], [(i 0)]] true)], [(.sv [[(i 7)], [(i 8)], [(i 9)]] true)]] true)], [], (.ret (.tup [(.sv [[(i 4), (i 0), (.sv [[(i 1), (i 8), .nils], [(i 1), (i 9), .nils]] false)], [(i 4), (i 0), (.sv [[(i 1), (i 8), .nils]] false)], [(i 4), (i 0), .nils]] false), (i 0)])), [(.cells 1 1 [(i 0)]), (.cells 1 4 [(i 2), (i 1), (i 4), (.sl 3 0 1 1 1 false)]), (.cells 1 4 [(i 1), (i 0), (i 1), .nils]), (.cells 1 1 [(.ref 2 0 1)])]⟩
theorem k3 : e3.ok gl Trnx.aprog := tbl_run (tbl := []) (n := 500) tblNil (by kernel_rfl)
def e4 : TE := ⟨18, [(.agg [(i 4), (i 0), (.sv [[(i 4), (i 0), (.sv [[(i 1), (i 5), .nils], [(i 1), (i 6), .nils]] true)], [(i 4), (i 0), .nils], [(i 4), (i 0), (.sv [[(i 1), (i 7), .nils]] true)]] true)]), (.agg [(i 4), (i 0), (.sv [[(i 4), (i 0), (.sv [[(i 1), (i 0), .nils]] true)]] true)])], [], (.ret (i 0)), [(.cells 1 1 [(i 0)]), (.cells 1 4 [(i 2), (i 3), (i 4), (.sl 5 0 1 1 1 false)]), (.cells 1 4 [(i 2), (i 1), (i 4), (.sl 4 0 1 1 1 false)]), (.cells 1 4 [(i 1), (i 0), (i 1), .nils]), (.cells 1 1 [(.ref 3 0 1)]), (.cells 1 1 [(.ref 2 0 1)])]⟩
theorem k4 : e4.ok gl Trnx.aprog := tbl_run (tbl := []) (n := 500) tblNil (by kernel_rfl)
def e5 : TE := ⟨22, [(.agg [(i 3), (i 0), (.sv [[(i 1), (i 0), .nils], [(i 4), (i 0), (.sv [[(i 1), (i 0), .nils]] true)]] true)]), (.sv [[(i 3), (i 0), (.sv [[(i 1), (i 4), .nils]] true)], [(i 3), (i 1), (.sv [[(i 4), (i 0), (.sv [[(i 1), (i 1), .nils], [(i 1), (i 2), .nils]] true)]] true)], [(i 3), (i 1), (.sv [[(i 4), (i 0), .nils]] true)]] true)], [], (.ret (.tup [(.sv [[(.sv [[(i 0)], [(i 1)], [(i 1)]] false)], [(.sv [[(i 4)], [(i 0)], [(i 0)]] false)], [(.sv [[(i 0)], [(i 0)], [(i 2)]] false)], [(.sv [[(i 0)], [(i 2)], [(i 0)]] false)], [(.sv [[(i 1)], [(i 2)]] false)]] false), (i 0)])), [(.cells 1 1 [(i 0)]), (.cells 1 4 [(i 4), (i 1), (i 3), (.sl 3 0 2 2 1 false)]), (.cells 1 4 [(i 1), (i 0), (i 1), .nils]), (.cells 2 1 [(.ref 2 0 1), (.ref 4 0 1)]), (.cells 1 4 [(i 2), (i 1), (i 4), (.sl 6 0 1 1 1 false)]), (.cells 1 4 [(i 1), (i 0), (i 1), .nils]), (.cells 1 1 [(.ref 5 0 1)]), (.cells 3 1 [(.pv [(i 3), (i 0), (.sv [[(i 1), (i 4), .nils]] true)]), (.pv [(i 3), (i 1), (.sv [[(i 4), (i 0), (.sv [[(i 1), (i 1), .nils], [(i 1), (i 2), .nils]] true)]] true)]), (.pv [(i 3), (i 1), (.sv [[(i 4), (i 0), .nils]] true)])]), (.cells 1 1 [(.ref 1 0 1)]), (.cells 1 1 [(.sl 7 0 3 3 1 false)]), .gone, (.cells 1 1 [(i 0)]), .gone, (.cells 1 1 [(.ref 2 0 1)]), (.cells 1 1 [(.sv [[(.pv [(i 1), (i 4), .nils])], [.nilp], [.nilp]] false)]), .gone, (.cells 1 1 [(i 1)]), .gone, (.cells 1 1 [(.ref 4 0 1)]), (.cells 1 1 [(.sv [[.nilp], [(.pv [(i 4), (i 0), (.sv [[(i 1), (i 1), .nils], [(i 1), (i 2), .nils]] true)])], [(.pv [(i 4), (i 0), .nils])]] false)]), (.cells 1 1 [(.sl 22 0 2 2 1 false)]), .gone, (.cells 2 1 [(.pv [(i 1), (i 1), .nils]), (.pv [(i 1), (i 2), .nils])]), .gone, (.cells 1 1 [(.ref 5 0 1)]), (.cells 1 1 [(.sl 22 0 2 2 1 false)]), .gone]⟩
theorem k5 : e5.ok gl Trnx.aprog := tbl_run (tbl := []) (n := 500) tblNil (by kernel_rfl)
def e6 : TE := ⟨20, [(.agg [(i 4), (i 0), (.sv [[(i 4), (i 0), (.sv [[(i 1), (i 5), .nils], [(i 1), (i 6), .nils]] true)], [(i 4), (i 0), .nils], [(i 4), (i 0), (.sv [[(i 1), (i 7), .nils]] true)]] true)])], [], (.ret (.bool true)), [(.cells 1 1 [(.func (.func 61) [] [(.ref 0 0 1)])]), (.cells 1 1 [(i 12)]), (.cells 1 1 [(i 11)]), (.cells 1 1 [(i 10)]), (.cells 1 1 [(i 10)]), (.cells 1 1 [(i 11)]), (.cells 1 1 [(i 11)]), (.cells 1 1 [(i 10)])]⟩
theorem k6 : e6.ok gl Trnx.aprog := tbl_run (tbl := []) (n := 500) tblNil (by kernel_rfl)
def e7 : TE := ⟨22, [(.agg [(i 4), (i 0), (.sv [[(i 4), (i 0), (.sv [[(i 1), (i 0), .nils]] true)]] true)]), (.sv [[(i 4), (i 0), (.sv [[(i 4), (i 0), (.sv [[(i 1), (i 5), .nils], [(i 1), (i 6), .nils]] true)], [(i 4), (i 0), .nils], [(i 4), (i 0), (.sv [[(i 1), (i 7), .nils]] true)]] true)], [(i 4), (i 0), (.sv [[(i 4), (i 0), (.sv [[(i 1), (i 8), .nils]] true)]] true)]] true)], [], (.ret (.tup [(.sv [[(.sv [[(i 0)], [(i 3)]] false)], [(.sv [[(i 3)], [(i 1)]] false)], [(.sv [[(i 0)], [(i 2)], [(i 2)], [(i 3)]] false)], [(.sv [[(i 2)], [(i 0)], [(i 1)], [(i 1)]] false)], [(.sv [[(i 5)], [(i 6)], [(i 7)], [(i 8)]] false)]] false), (i 0)])), [(.cells 1 1 [(i 0)]), (.cells 1 4 [(i 2), (i 3), (i 4), (.sl 5 0 1 1 1 false)]), (.cells 1 4 [(i 2), (i 1), (i 4), (.sl 4 0 1 1 1 false)]), (.cells 1 4 [(i 1), (i 0), (i 1), .nils]), (.cells 1 1 [(.ref 3 0 1)]), (.cells 1 1 [(.ref 2 0 1)]), (.cells 2 1 [(.pv [(i 4), (i 0), (.sv [[(i 4), (i 0), (.sv [[(i 1), (i 5), .nils], [(i 1), (i 6), .nils]] true)], [(i 4), (i 0), .nils], [(i 4), (i 0), (.sv [[(i 1), (i 7), .nils]] true)]] true)]), (.pv [(i 4), (i 0), (.sv [[(i 4), (i 0), (.sv [[(i 1), (i 8), .nils]] true)]] true)])]), (.cells 1 1 [(.ref 1 0 1)]), (.cells 1 1 [(.sl 6 0 2 2 1 false)]), (.cells 1 1 [(.sl 11 0 4 4 1 false)]), .gone, (.cells 4 1 [(.pv [(i 4), (i 0), (.sv [[(i 1), (i 5), .nils], [(i 1), (i 6), .nils]] true)]), (.pv [(i 4), (i 0), .nils]), (.pv [(i 4), (i 0), (.sv [[(i 1), (i 7), .nils]] true)]), (.pv [(i 4), (i 0), (.sv [[(i 1), (i 8), .nils]] true)])]), .gone, (.cells 1 1 [(.ref 2 0 1)]), (.cells 1 1 [(.sl 11 0 4 4 1 false)]), (.cells 1 1 [(.sl 17 0 4 4 1 false)]), .gone, (.cells 4 1 [(.pv [(i 1), (i 5), .nils]), (.pv [(i 1), (i 6), .nils]), (.pv [(i 1), (i 7), .nils]), (.pv [(i 1), (i 8), .nils])]), .gone, (.cells 1 1 [(.ref 3 0 1)]), (.cells 1 1 [(.sl 17 0 4 4 1 false)]), .gone]⟩
theorem k7 : e7.ok gl Trnx.aprog := tbl_run (tbl := []) (n := 500) tblNil (by kernel_rfl)
def e8 : TE := ⟨22, [(.agg [(i 4), (i 0), (.sv [[(i 4), (i 0), (.sv [[(i 1), (i 0), .nils]] true)]] true)]), (.sv [[(i 4), (i 0), (.sv [[(i 4), (i 0), (.sv [[(i 1), (i 5), .nils], [(i 1), (i 6), .nils]] true)], [(i 4), (i 0), .nils], [(i 4), (i 0), (.sv [[(i 1), (i 7), .nils]] true)]] true)]] true)], [], (.ret (.tup [(.sv [[(.sv [[(i 0)]] false)], [(.sv [[(i 3)]] false)], [(.sv [[(i 0)], [(i 2)], [(i 2)]] false)], [(.sv [[(i 2)], [(i 0)], [(i 1)]] false)], [(.sv [[(i 5)], [(i 6)], [(i 7)]] false)]] false), (i 0)])), [(.cells 1 1 [(i 0)]), (.cells 1 4 [(i 2), (i 3), (i 4), (.sl 5 0 1 1 1 false)]), (.cells 1 4 [(i 2), (i 1), (i 4), (.sl 4 0 1 1 1 false)]), (.cells 1 4 [(i 1), (i 0), (i 1), .nils]), (.cells 1 1 [(.ref 3 0 1)]), (.cells 1 1 [(.ref 2 0 1)]), (.cells 1 1 [(.pv [(i 4), (i 0), (.sv [[(i 4), (i 0), (.sv [[(i 1), (i 5), .nils], [(i 1), (i 6), .nils]] true)], [(i 4), (i 0), .nils], [(i 4), (i 0), (.sv [[(i 1), (i 7), .nils]] true)]] true)])]), (.cells 1 1 [(.ref 1 0 1)]), (.cells 1 1 [(.sl 6 0 1 1 1 false)]), (.cells 1 1 [(.sl 11 0 3 3 1 false)]), .gone, (.cells 3 1 [(.pv [(i 4), (i 0), (.sv [[(i 1), (i 5), .nils], [(i 1), (i 6), .nils]] true)]), (.pv [(i 4), (i 0), .nils]), (.pv [(i 4), (i 0), (.sv [[(i 1), (i 7), .nils]] true)])]), .gone, (.cells 1 1 [(.ref 2 0 1)]), (.cells 1 1 [(.sl 11 0 3 3 1 false)]), (.cells 1 1 [(.sl 17 0 3 3 1 false)]), .gone, (.cells 3 1 [(.pv [(i 1), (i 5), .nils]), (.pv [(i 1), (i 6), .nils]), (.pv [(i 1), (i 7), .nils])]), .gone, (.cells 1 1 [(.ref 3 0 1)]), (.cells 1 1 [(.sl 17 0 3 3 1 false)]), .gone]⟩
theorem k8 : e8.ok gl Trnx.aprog := tbl_run (tbl := []) (n := 500) tblNil (by kernel_rfl)
def e9 : TE := ⟨34, [(.agg [(i 4), (i 0), (.sv [[(i 4), (i 0), (.sv [[(i 1), (i 0), .nils]] true)]] true)]), (i 2), (.sv [[(.sv [[(i 0)], [(i 3)]] false)], [(.sv [[(i 3)], [(i 1)]] false)], [(.sv [[(i 0)], [(i 2)], [(i 2)], [(i 3)]] false)], [(.sv [[(i 2)], [(i 0)], [(i 1)], [(i 1)]] false)], [(.sv [[(i 5)], [(i 6)], [(i 7)], [(i 8)]] false)]] false), (.sv [[(.sv [[(i 0)], [(i 3)]] false)], [(.sv [[(i 3)], [(i 1)]] false)], [(.sv [[(i 0)], [(i 2)], [(i 2)], [(i 3)]] false)], [(.sv [[(i 2)], [(i 0)], [(i 1)], [(i 1)]] false)], [(.sv [[(i 5)], [(i 6)], [(i 7)], [(i 8)]] false)]] false)], [], (.ret (.tup [(.bool true), (i 0)])), [(.cells 1 1 [(i 0)]), (.cells 1 4 [(i 2), (i 3), (i 4), (.sl 5 0 1 1 1 false)]), (.cells 1 4 [(i 2), (i 1), (i 4), (.sl 4 0 1 1 1 false)]), (.cells 1 4 [(i 1), (i 0), (i 1), .nils]), (.cells 1 1 [(.ref 3 0 1)]), (.cells 1 1 [(.ref 2 0 1)])]⟩
theorem k9 : e9.ok gl Trnx.aprog := tbl_run (tbl := [e0]) (n := 500) (tblCons k0 tblNil) (by kernel_rfl)
def e10 : TE := ⟨22, [(.agg [(i 4), (i 0), (.sv [[(i 4), (i 0), (.sv [[(i 1), (i 0), .nils]] true)]] true)]), (.sv [[(i 4), (i 0), (.sv [[(i 4), (i 0), (.sv [[(i 1), (i 8), .nils]] true)]] true)]] true)], [], (.ret (.tup [(.sv [[(.sv [[(i 0)]] false)], [(.sv [[(i 1)]] false)], [(.sv [[(i 0)]] false)], [(.sv [[(i 1)]] false)], [(.sv [[(i 8)]] false)]] false), (i 0)])), [(.cells 1 1 [(i 0)]), (.cells 1 4 [(i 2), (i 3), (i 4), (.sl 5 0 1 1 1 false)]), (.cells 1 4 [(i 2), (i 1), (i 4), (.sl 4 0 1 1 1 false)]), (.cells 1 4 [(i 1), (i 0), (i 1), .nils]), (.cells 1 1 [(.ref 3 0 1)]), (.cells 1 1 [(.ref 2 0 1)]), (.cells 1 1 [(.pv [(i 4), (i 0), (.sv [[(i 4), (i 0), (.sv [[(i 1), (i 8), .nils]] true)]] true)])]), (.cells 1 1 [(.ref 1 0 1)]), (.cells 1 1 [(.sl 6 0 1 1 1 false)]), (.cells 1 1 [(.sl 11 0 1 1 1 false)]), .gone, (.cells 1 1 [(.pv [(i 4), (i 0), (.sv [[(i 1), (i 8), .nils]] true)])]), .gone, (.cells 1 1 [(.ref 2 0 1)]), (.cells 1 1 [(.sl 11 0 1 1 1 false)]), (.cells 1 1 [(.sl 17 0 1 1 1 false)]), .gone, (.cells 1 1 [(.pv [(i 1), (i 8), .nils])]), .gone, (.cells 1 1 [(.ref 3 0 1)]), (.cells 1 1 [(.sl 17 0 1 1 1 false)]), .gone]⟩
theorem k10 : e10.ok gl Trnx.aprog := tbl_run (tbl := []) (n := 500) tblNil (by kernel_rfl)
def e11 : TE := ⟨27, [(.agg [(i 4), (i 0), (.sv [[(i 4), (i 0), (.sv [[(i 1), (i 0), .nils]] true)]] true)]), (i 2), (.sv [[(.sv [[(i 0)], [(i 3)]] false)], [(.sv [[(i 3)], [(i 1)]] false)], [(.sv [[(i 0)], [(i 2)], [(i 2)], [(i 3)]] false)], [(.sv [[(i 2)], [(i 0)], [(i 1)], [(i 1)]] false)], [(.sv [[(i 5)], [(i 6)], [(i 7)], [(i 8)]] false)]] false)], [], (.ret (.tup [(.sv [[(.sv [[(i 0)], [(i 3)]] false)], [(.sv [[(i 3)], [(i 1)]] false)], [(.sv [[(i 0)], [(i 2)], [(i 2)], [(i 3)]] false)], [(.sv [[(i 2)], [(i 0)], [(i 1)], [(i 1)]] false)], [(.sv [[(i 5)], [(i 6)], [(i 7)], [(i 8)]] false)]] false), (i 0)])), [(.cells 1 1 [(i 0)]), (.cells 1 4 [(i 2), (i 3), (i 4), (.sl 5 0 1 1 1 false)]), (.cells 1 4 [(i 2), (i 1), (i 4), (.sl 4 0 1 1 1 false)]), (.cells 1 4 [(i 1), (i 0), (i 1), .nils]), (.cells 1 1 [(.ref 3 0 1)]), (.cells 1 1 [(.ref 2 0 1)]), (.cells 2 1 [(.pv [(i 4), (i 0), (.sv [[(i 4), (i 0), (.sv [[(i 1), (i 5), .nils], [(i 1), (i 6), .nils]] false)], [(i 4), (i 0), .nils], [(i 4), (i 0), (.sv [[(i 1), (i 7), .nils]] false)]] false)]), (.pv [(i 4), (i 0), (.sv [[(i 4), (i 0), (.sv [[(i 1), (i 8), .nils]] false)]] false)])]), (.cells 1 1 [(.ref 1 0 1)]), (.cells 1 1 [(.sl 6 0 2 2 1 false)]), (.cells 1 1 [(.sl 11 0 4 4 1 false)]), .gone, (.cells 4 1 [(.pv [(i 4), (i 0), (.sv [[(i 1), (i 5), .nils], [(i 1), (i 6), .nils]] false)]), (.pv [(i 4), (i 0), .nils]), (.pv [(i 4), (i 0), (.sv [[(i 1), (i 7), .nils]] false)]), (.pv [(i 4), (i 0), (.sv [[(i 1), (i 8), .nils]] false)])]), .gone, (.cells 1 1 [(.ref 2 0 1)]), (.cells 1 1 [(.sl 11 0 4 4 1 false)]), (.cells 1 1 [(.sl 17 0 4 4 1 false)]), .gone, (.cells 4 1 [(.pv [(i 1), (i 5), .nils]), (.pv [(i 1), (i 6), .nils]), (.pv [(i 1), (i 7), .nils]), (.pv [(i 1), (i 8), .nils])]), .gone, (.cells 1 1 [(.ref 3 0 1)]), (.cells 1 1 [(.sl 17 0 4 4 1 false)]), .gone]⟩
theorem k11 : e11.ok gl Trnx.aprog := tbl_run (tbl := [e0]) (n := 500) (tblCons k0 tblNil) (by kernel_rfl)
def e12 : TE := ⟨11, [], [], (.ret (.bool true)), []⟩
theorem k12 : e12.ok gl Trnx.aprog := tbl_run (tbl := [e1, e2, e3, e4, e5, e6, e7, e8, e9, e10, e11]) (n := 500) (tblCons k1 (tblCons k2 (tblCons k3 (tblCons k4 (tblCons k5 (tblCons k6 (tblCons k7 (tblCons k8 (tblCons k9 (tblCons k10 (tblCons k11 tblNil))))))))))) (by kernel_rfl)
end Go.Proofs.Nst
/- The law NestParts over the abstract machine. -/
set_option linter.unusedVariables false
set_option linter.unusedSimpArgs false
namespace Go.Proofs.Nst
open Go Go.Am

theorem held_q : PC 11 [] (.bool true) := by
  have h := k12
  simp only [TE.ok, e12] at h
  simp [PC, pcall, callee, h, viewW, view1, viewV]

theorem seqOf_q (t : Tr) (ho : t.Ok) : PC 42 [.agg t.cs] (.agg (Tr.mk 4 0 (.sv [t.cs] true) [t]).cs) := by
  have hp := pure_tr ho
  cases ho with
  | mk k n v l hk hn hv hl =>
  refine pc_of (by simp [pureL, pureV, hp]) (fun h => by simp [Tr.cs, viewW, view1, viewV, viewL]) ?_
  refine call_ofQ (af := Trnx.a42) rfl rfl fun Q hQ => ?_
  simp only [Trnx.a42]
  simp [Tr.cs, hv.cell, hv.pure, fill, chunks, slotOf]
  exact hQ _ _ rfl

theorem ok_two {t u : Tr} (k : Int) (hk : is64 k) (ht : t.Ok) (hu : u.Ok) : (Tr.mk k 0 (.sv [t.cs, u.cs] true) [t, u]).Ok :=
  .mk _ _ _ _ hk ⟨by omega, by omega⟩ (by simpa using SlV.sv true) (by simp [ht, hu])
theorem ok_one {t : Tr} (k : Int) (hk : is64 k) (ht : t.Ok) : (Tr.mk k 0 (.sv [t.cs] true) [t]).Ok :=
  .mk _ _ _ _ hk ⟨by omega, by omega⟩ (by simpa using SlV.sv true) (by simp [ht])

theorem law_parts (t u : Tr) (ht : t.Ok) (hu : u.Ok) (hn : t.nodes < 2 ^ 50) (hm : u.nodes < 2 ^ 50) : ∃ h', (lim gl Trnx.aprog).call 8 [.agg t.cs, .agg u.cs] [] = some (.ret (.bool true), h') := by
  have key : CallP gl Trnx.aprog 8 [.agg t.cs, .agg u.cs] [] (fun r h' => r = .ret (.bool true)) := by
    have hh := held_q
    have t1 := isType_q t ht (by omega)
    have u1 := isType_q u hu (by omega)
    have t2 := nodes_q t ht (by omega)
    have u2 := nodes_q u hu (by omega)
    have t3 := levels_q t ht (by omega)
    have u3 := levels_q u hu (by omega)
    have ct := cells_tr ht
    have cu := cells_tr hu
    rw [PC] at hh t1 u1 t2 u2 t3 u3
    refine call_ofQ (af := Trnx.a8) rfl rfl fun Q hQ => ?_
    rcases tyErr_cases t with ⟨e, he, hte⟩ | ⟨x, hx, hx1, hx2, hte⟩
    · have hne : (e != 0) = true := by rcases he with rfl | rfl <;> rfl
      rw [hte] at t1
      simp only [Trnx.a8]
      simp [ct, cu, t1, hne, hh, slotOf, -pcall, -List.all_eq_true]
      exact hQ _ _ rfl
    rw [hte] at t1
    rcases tyErr_cases u with ⟨e, he, hue⟩ | ⟨y, hy, hy1, hy2, hue⟩
    · have hne : (e != 0) = true := by rcases he with rfl | rfl <;> rfl
      rw [hue] at u1
      simp only [Trnx.a8]
      simp [ct, cu, t1, u1, hne, hh, slotOf, -pcall, -List.all_eq_true]
      exact hQ _ _ rfl
    rw [hue] at u1
    by_cases a1 : 29 < t.nodes
    · have a1' : (29 : Int) < t.nodes := by omega
      simp only [Trnx.a8]
      simp [ct, cu, t1, u1, t2, a1', hh, slotOf, -pcall, -List.all_eq_true]
      exact hQ _ _ rfl
    have a1' : ¬ (29 : Int) < t.nodes := by omega
    by_cases a2 : 29 < u.nodes
    · have a2' : (29 : Int) < u.nodes := by omega
      simp only [Trnx.a8]
      simp [ct, cu, t1, u1, t2, u2, a1', a2', hh, slotOf, -pcall, -List.all_eq_true]
      exact hQ _ _ rfl
    have a2' : ¬ (29 : Int) < u.nodes := by omega
    by_cases a3 : 11 < t.levels
    · have a3' : (11 : Int) < t.levels := by omega
      simp only [Trnx.a8]
      simp [ct, cu, t1, u1, t2, u2, t3, a1', a2', a3', hh, slotOf, -pcall, -List.all_eq_true]
      exact hQ _ _ rfl
    have a3' : ¬ (11 : Int) < t.levels := by omega
    by_cases a4 : 11 < u.levels
    · have a4' : (11 : Int) < u.levels := by omega
      simp only [Trnx.a8]
      simp [ct, cu, t1, u1, t2, u2, t3, u3, a1', a2', a3', a4', hh, slotOf, -pcall, -List.all_eq_true]
      exact hQ _ _ rfl
    have a4' : ¬ (11 : Int) < u.levels := by omega
    obtain ⟨o1, o2⟩ := own_ok hx ht hx1 hx2
    obtain ⟨o3, o4⟩ := own_ok hy hu hy1 hy2
    rw [hx.nodes] at a1
    rw [hy.nodes] at a2
    rw [hx.levels] at a3
    rw [hy.levels] at a4
    have b1 := x.both_size
    have b2 := y.both_size
    obtain ⟨p1, p2⟩ := own_ok (IsTy.pair (.sv [t.cs, u.cs] true) t u x y hx hy) (ok_two 2 ⟨by omega, by omega⟩ ht hu) (by simp only [Ty.size]; omega) (by simp only [Ty.deep]; omega)
    obtain ⟨p3, p4⟩ := own_ok (IsTy.sum (.sv [t.cs, u.cs] true) t u x y hx hy) (ok_two 3 ⟨by omega, by omega⟩ ht hu) (by simp only [Ty.size]; omega) (by simp only [Ty.deep]; omega)
    obtain ⟨p5, p6⟩ := own_ok (IsTy.seq (.sv [t.cs] true) t x hx) (ok_one 4 ⟨by omega, by omega⟩ ht) (by simp only [Ty.size]; omega) (by simp only [Ty.deep]; omega)
    have sq := seqOf_q t ht
    rw [PC] at o1 o2 o3 o4 p1 p2 p3 p4 p5 p6 sq
    have w1 : IntKind.i64.wrap ((x.own : Int) + y.own) = (x.own : Int) + y.own := wrap64 (by omega) (by omega)
    have w2 : IntKind.i64.wrap ((x.data : Int) + y.data) = (x.data : Int) + y.data := wrap64 (by omega) (by omega)
    have w3 : IntKind.i64.wrap (1 + (x.own : Int)) = 1 + (x.own : Int) := wrap64 (by omega) (by omega)
    have w4 : IntKind.i64.wrap (1 + (x.own : Int) + y.own) = 1 + (x.own : Int) + y.own := wrap64 (by omega) (by omega)
    have w5 : IntKind.i64.wrap ((x.own : Int) + x.data) = (x.own : Int) + x.data := wrap64 (by omega) (by omega)
    have hpt := pure_tr ht
    have hpu := pure_tr hu
    cases ht with
    | mk k n v l hk hn hv hl =>
    cases hu with
    | mk k' n' v' l' hk' hn' hv' hl' =>
    simp only [Tr.cs, Ty.own, Ty.data, Int.natCast_add, Int.natCast_one] at *
    simp only [Trnx.a8]
    simp [hv.cell, hv'.cell, hv.pure, hv'.pure, t1, u1, t2, u2, t3, u3, a1', a2', a3', a4', o1, o2, o3, o4, w1, w2, w3, w4, w5, fill, chunks, slotOf, -pcall]
    refine loop_nQ 3 (fun i c => ∃ s15 s16 s17 s18 s19 fl, c = ⟨[.agg [.int .i64 k, .int .i64 n, v], .agg [.int .i64 k', .int .i64 n', v'], .agg [.int .i64 k, .int .i64 n, v], .agg [.int .i64 k', .int .i64 n', v'], .bool false,
      .int .i64 x.own, .int .i64 0, .int .i64 y.own, .int .i64 0, .int .i64 x.data, .int .i64 0, .int .i64 y.data, .int .i64 0,
      .sv [[.int .i64 ((x.own : Int) + y.own), .int .i64 ((x.data : Int) + y.data)], [.int .i64 (1 + (x.own : Int) + y.own), .int .i64 ((x.data : Int) + y.data)], [.int .i64 2, .int .i64 ((x.own : Int) + x.data)]] true, .int .i64 i, s15, s16, s17, s18, s19], [], fl, none, []⟩) ?_ ⟨_, _, _, _, _, _, rfl⟩
    rintro I hI i c hi ⟨s15, s16, s17, s18, s19, fl, rfl⟩
    have hi4 : i = 0 ∨ i = 1 ∨ i = 2 ∨ i = 3 := by omega
    rcases hi4 with rfl | rfl | rfl | rfl
    · have hwr : IntKind.i64.wrap 1 = 1 := rfl
      simp [hv.cell, hv'.cell, hv.pure, hv'.pure, p1, p2, sq, idxV, fill, chunks, hwr, slotOf, -pcall]
      exact hI _ _ ⟨_, _, _, _, _, _, rfl⟩
    · have hwr : IntKind.i64.wrap (1 + 1) = 2 := rfl
      simp [hv.cell, hv'.cell, hv.pure, hv'.pure, p3, p4, sq, idxV, fill, chunks, hwr, slotOf, -pcall]
      exact hI _ _ ⟨_, _, _, _, _, _, rfl⟩
    · have hwr : IntKind.i64.wrap (2 + 1) = 3 := rfl
      simp [hv.cell, hv'.cell, hv.pure, hv'.pure, p5, p6, sq, idxV, fill, chunks, hwr, slotOf, -pcall]
      exact hI _ _ ⟨_, _, _, _, _, _, rfl⟩
    · simp [hh, slotOf, -pcall]
      exact hQ _ _ rfl
  obtain ⟨r, h', e, rfl⟩ := OptP.ex key
  exact ⟨h', e⟩
end Go.Proofs.Nst
