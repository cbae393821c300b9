/- The contracts of functions and loops: what is asked, what comes of it. -/
import Derived.Test.YtjmnjimlkljhjaaVA3
import Derived.Test.YtjmnjimlkljhjaaProg
import Derived.KernelRfl
set_option linter.unusedVariables false
set_option maxRecDepth 100000
namespace Go.Proofs.YtjmnjimlkljhjaaV
open Go Go.Proofs

abbrev tI : Ty := (Ty.int IntKind.i64)
abbrev tB : Ty := (Ty.int IntKind.u8)
abbrev tM : Ty := (Ty.prod (Ty.int IntKind.u8) (Ty.prod (Ty.int IntKind.u8) (Ty.int IntKind.i64)))
abbrev tMs : Ty := (Ty.slice 44 (Ty.prod (Ty.int IntKind.u8) (Ty.prod (Ty.int IntKind.u8) (Ty.int IntKind.i64))))
abbrev tMss : Ty := (Ty.slice 42 (Ty.slice 44 (Ty.prod (Ty.int IntKind.u8) (Ty.prod (Ty.int IntKind.u8) (Ty.int IntKind.i64)))))
abbrev tD : Ty := (Ty.prod (Ty.slice 42 (Ty.slice 44 (Ty.prod (Ty.int IntKind.u8) (Ty.prod (Ty.int IntKind.u8) (Ty.int IntKind.i64))))) (Ty.slice 3 (Ty.int IntKind.i64)))

def kt : KT
  | 2 => some tI
  | 3 => some tI
  | 4 => some Ty.bool
  | 5 => some tB
  | 6 => some tB
  | 7 => some (Ty.prod tI (Ty.prod tI (Ty.prod Ty.bool tB)))
  | 8 => some (Ty.prod tI (Ty.prod tI (Ty.prod Ty.bool tB)))
  | 9 => some Ty.str
  | 10 => some Ty.str
  | 11 => some Ty.str
  | 12 => some (Ty.int IntKind.u64)
  | 13 => some (Ty.prod Ty.str (Ty.int IntKind.u64))
  | 14 => some (Ty.prod Ty.str (Ty.int IntKind.u64))
  | 21 => some (Ty.int IntKind.i32)
  | 22 => some tMss
  | 23 => some (Ty.slice 3 tI)
  | 24 => some tD
  | 25 => some tD
  | 28 => some tI
  | 30 => some (Ty.slice 4 Ty.bool)
  | 42 => some tMs
  | 43 => some tM
  | 44 => some tM
  | 45 => some (Ty.slice 23 (Ty.slice 3 tI))
  | 47 => some (Ty.arr 256 tI)
  | 48 => some (Ty.prod tI (Ty.arr 256 tI))
  | 49 => some (Ty.prod tI (Ty.arr 256 tI))
  | 55 => some (Ty.prod tI tI)
  | 56 => some (Ty.slice 55 (Ty.prod tI tI))
  | 57 => some (Ty.prod tI tB)
  | 58 => some (Ty.prod tI tB)
  | 59 => some (Ty.slice 58 (Ty.prod tI tB))
  | 62 => some (Ty.slice 5 tB)
  | 63 => some (Ty.prod tI (Ty.prod tI Ty.str))
  | 64 => some (Ty.prod tI (Ty.prod tI Ty.str))
  | 65 => some (Ty.slice 64 (Ty.prod tI (Ty.prod tI Ty.str)))
  | 71 => some (Ty.int IntKind.u64)
  | 79 => some (Ty.int IntKind.u32)
  | 80 => some tB
  | 81 => some tB
  | 84 => some (Ty.int IntKind.i32)
  | 85 => some (Ty.int IntKind.i32)
  | _ => none

def kt13 : KT
  | 23 => none
  | n => kt n

noncomputable def code3 : Code := Try.f3.body.getD .skip
noncomputable def code4 : Code := Try.f4.body.getD .skip
noncomputable def code5 : Code := Try.f5.body.getD .skip
noncomputable def code6 : Code := Try.f6.body.getD .skip
noncomputable def code7 : Code := Try.f7.body.getD .skip
noncomputable def code8 : Code := Try.f8.body.getD .skip
noncomputable def code9 : Code := Try.f9.body.getD .skip
noncomputable def code10 : Code := Try.f10.body.getD .skip
noncomputable def code11 : Code := Try.f11.body.getD .skip
noncomputable def code12 : Code := Try.f12.body.getD .skip
noncomputable def code13 : Code := Try.f13.body.getD .skip
noncomputable def code14 : Code := Try.f14.body.getD .skip
noncomputable def code15 : Code := Try.f15.body.getD .skip
noncomputable def code16 : Code := Try.f16.body.getD .skip
noncomputable def code17 : Code := Try.f17.body.getD .skip
noncomputable def code18 : Code := Try.f18.body.getD .skip
noncomputable def code19 : Code := Try.f19.body.getD .skip
noncomputable def code20 : Code := Try.f20.body.getD .skip
noncomputable def code21 : Code := Try.f21.body.getD .skip
noncomputable def code22 : Code := Try.f22.body.getD .skip
noncomputable def code23 : Code := Try.f23.body.getD .skip
noncomputable def code24 : Code := Try.f24.body.getD .skip
noncomputable def code25 : Code := Try.f25.body.getD .skip
noncomputable def code26 : Code := Try.f26.body.getD .skip
noncomputable def code27 : Code := Try.f27.body.getD .skip
noncomputable def code28 : Code := Try.f28.body.getD .skip
noncomputable def code29 : Code := Try.f29.body.getD .skip
noncomputable def code30 : Code := Try.f30.body.getD .skip
noncomputable def code31 : Code := Try.f31.body.getD .skip
noncomputable def code32 : Code := Try.f32.body.getD .skip
noncomputable def code33 : Code := Try.f33.body.getD .skip
noncomputable def code34 : Code := Try.f34.body.getD .skip
noncomputable def code35 : Code := Try.f35.body.getD .skip
noncomputable def code36 : Code := Try.f36.body.getD .skip

noncomputable def sig300 : Sig := { what := What.fn 3, pre := { n := 1, slots := [(0, Tm.hole false tD)], objs := [] }, outs := [(Ex.ret, { n := 1, slots := [(0, Tm.hole false Ty.bool)], objs := [] })] }
noncomputable def sig301 : Sig := { what := What.loop (loopAt code3 0), pre := { n := 49, slots := [(1, Tm.ptr 0 0), (3, Tm.hole false Ty.bool), (4, Tm.hole true (Ty.slice 4 Ty.bool)), (5, Tm.hole true (Ty.slice 4 Ty.bool)), (27, Tm.hole false tI), (28, Tm.hole false tI)], objs := [OTm.box 25 [Tm.hole false tMss, Tm.hole false (Ty.slice 3 tI)]] }, outs := [(Ex.exit 0, { n := 49, slots := [(1, Tm.ptr 0 0), (3, Tm.hole false Ty.bool)], objs := [OTm.box 25 [Tm.hole false tMss, Tm.hole false (Ty.slice 3 tI)]] }), (Ex.ret, { n := 49, slots := [(2, Tm.hole false Ty.bool)], objs := [] })] }
noncomputable def sig400 : Sig := { what := What.fn 4, pre := { n := 1, slots := [(0, Tm.hole false tD)], objs := [] }, outs := [(Ex.ret, { n := 1, slots := [(0, Tm.hole false Ty.bool)], objs := [] })] }
noncomputable def sig500 : Sig := { what := What.fn 5, pre := { n := 2, slots := [(0, Tm.hole false tD), (1, Tm.hole false tD)], objs := [] }, outs := [(Ex.ret, { n := 1, slots := [(0, Tm.hole false Ty.bool)], objs := [] })] }
noncomputable def sig600 : Sig := { what := What.fn 6, pre := { n := 2, slots := [(0, Tm.hole false tD), (1, Tm.hole false Ty.str)], objs := [] }, outs := [(Ex.ret, { n := 1, slots := [(0, Tm.hole false Ty.bool)], objs := [] })] }
noncomputable def sig700 : Sig := { what := What.fn 7, pre := { n := 2, slots := [(0, Tm.hole false tD), (1, Tm.hole false tD)], objs := [] }, outs := [(Ex.ret, { n := 1, slots := [(0, Tm.hole false Ty.bool)], objs := [] })] }
noncomputable def sig800 : Sig := { what := What.fn 8, pre := { n := 1, slots := [(0, Tm.hole false tD)], objs := [] }, outs := [(Ex.ret, { n := 1, slots := [(0, Tm.hole false Ty.bool)], objs := [] })] }
noncomputable def sig801 : Sig := { what := What.loop (loopAt code8 0), pre := { n := 65, slots := [(3, Tm.hole false Ty.bool), (6, Tm.hole true (Ty.slice 4 Ty.bool)), (7, Tm.hole true (Ty.slice 3 tI)), (42, Tm.hole false tI), (43, Tm.hole false tI)], objs := [] }, outs := [(Ex.exit 0, { n := 65, slots := [(3, Tm.hole false Ty.bool)], objs := [] }), (Ex.ret, { n := 65, slots := [(2, Tm.hole false Ty.bool)], objs := [] })] }
noncomputable def sig900 : Sig := { what := What.fn 9, pre := { n := 2, slots := [(0, Tm.hole false tD), (1, Tm.hole false tD)], objs := [] }, outs := [(Ex.ret, { n := 1, slots := [(0, Tm.hole false Ty.bool)], objs := [] })] }
noncomputable def sig1000 : Sig := { what := What.fn 10, pre := { n := 0, slots := [], objs := [] }, outs := [(Ex.ret, { n := 1, slots := [(0, Tm.hole false Ty.bool)], objs := [] })] }
noncomputable def sig1100 : Sig := { what := What.fn 11, pre := { n := 1, slots := [(0, Tm.hole false tD)], objs := [] }, outs := [(Ex.ret, { n := 1, slots := [(0, Tm.hole false Ty.bool)], objs := [] })] }
noncomputable def sig1101 : Sig := { what := What.loop (loopAt code11 0), pre := { n := 26, slots := [(16, Tm.hole false tMss), (17, Tm.hole false tI), (18, Tm.hole false tI)], objs := [] }, outs := [(Ex.exit 0, { n := 26, slots := [], objs := [] }), (Ex.ret, { n := 26, slots := [(2, Tm.hole false Ty.bool)], objs := [] })] }
noncomputable def sig1200 : Sig := { what := What.fn 12, pre := { n := 1, slots := [(0, Tm.hole false tD)], objs := [] }, outs := [(Ex.ret, { n := 1, slots := [(0, Tm.hole false tI)], objs := [] })] }
noncomputable def sig1201 : Sig := { what := What.loop (loopAt code12 0), pre := { n := 96, slots := [(1, Tm.ptr 0 0), (3, Tm.hole false tI), (24, Tm.hole false tI), (25, Tm.hole false tI)], objs := [OTm.box 25 [Tm.hole false tMss, Tm.hole false (Ty.slice 3 tI)]] }, outs := [(Ex.exit 0, { n := 96, slots := [], objs := [] }), (Ex.ret, { n := 96, slots := [(2, Tm.hole false tI)], objs := [] })] }
noncomputable def sig1202 : Sig := { what := What.loop (loopAt (loopAt code12 0) 0), pre := { n := 96, slots := [(1, Tm.ptr 0 0), (3, Tm.hole false tI), (4, Tm.hole false tI), (24, Tm.hole false tI), (25, Tm.hole false tI), (38, Tm.hole false tMs), (39, Tm.hole false tI), (40, Tm.hole false tI)], objs := [OTm.box 25 [Tm.hole false tMss, Tm.hole false (Ty.slice 3 tI)]] }, outs := [(Ex.exit 2, { n := 96, slots := [(1, Tm.ptr 0 0), (3, Tm.hole false tI), (24, Tm.hole false tI), (25, Tm.hole false tI)], objs := [OTm.box 25 [Tm.hole false tMss, Tm.hole false (Ty.slice 3 tI)]] }), (Ex.ret, { n := 96, slots := [(2, Tm.hole false tI)], objs := [] })] }
noncomputable def sig1300 : Sig := { what := What.fn 13, pre := { n := 1, slots := [(0, Tm.hole false tD)], objs := [] }, outs := [(Ex.ret, { n := 1, slots := [(0, Tm.hole true (Ty.slice 4 Ty.bool))], objs := [] })] }
noncomputable def sig1301 : Sig := { what := What.loop (loopAt code13 0), pre := { n := 118, slots := [(1, Tm.ptr 0 0), (3, Tm.mp 1), (4, Tm.ref 2), (5, Tm.ref 3), (22, Tm.hole false tMss), (23, Tm.hole false tI), (24, Tm.hole false tI)], objs := [OTm.box 25 [Tm.hole false tMss, Tm.hole false (Ty.slice 3 tI)], OTm.rows 23 3 tI, OTm.row 4 true Ty.bool, OTm.row 3 true tI] }, outs := [(Ex.exit 0, { n := 118, slots := [(3, Tm.mp 0), (4, Tm.ref 1), (5, Tm.ref 2)], objs := [OTm.rows 23 3 tI, OTm.row 4 true Ty.bool, OTm.row 3 true tI] })] }
noncomputable def sig1302 : Sig := { what := What.loop (loopAt (loopAt code13 0) 0), pre := { n := 118, slots := [(1, Tm.ptr 0 0), (3, Tm.mp 1), (4, Tm.ref 2), (5, Tm.ref 3), (6, Tm.hole false tI), (22, Tm.hole false tMss), (23, Tm.hole false tI), (24, Tm.hole false tI), (52, Tm.hole false tMs), (53, Tm.hole false tI), (54, Tm.hole false tI)], objs := [OTm.box 25 [Tm.hole false tMss, Tm.hole false (Ty.slice 3 tI)], OTm.rows 23 3 tI, OTm.row 4 true Ty.bool, OTm.row 3 true tI] }, outs := [(Ex.exit 2, { n := 118, slots := [(1, Tm.ptr 0 0), (3, Tm.mp 1), (4, Tm.ref 2), (5, Tm.ref 3), (22, Tm.hole false tMss), (23, Tm.hole false tI), (24, Tm.hole false tI)], objs := [OTm.box 25 [Tm.hole false tMss, Tm.hole false (Ty.slice 3 tI)], OTm.rows 23 3 tI, OTm.row 4 true Ty.bool, OTm.row 3 true tI] })] }
noncomputable def sig1303 : Sig := { what := What.loop (loopAt code13 1), pre := { n := 118, slots := [(3, Tm.ref 0), (4, Tm.ref 1), (5, Tm.ref 2)], objs := [OTm.row 23 true (Ty.slice 3 tI), OTm.row 4 true Ty.bool, OTm.row 3 true tI] }, outs := [(Ex.exit 4, { n := 118, slots := [(4, Tm.ref 0)], objs := [OTm.row 4 true Ty.bool] })] }
noncomputable def sig1304 : Sig := { what := What.loop (loopAt (loopAt code13 1) 0), pre := { n := 118, slots := [(3, Tm.ref 0), (4, Tm.ref 1), (5, Tm.ref 2), (99, Tm.hole true (Ty.slice 3 tI)), (100, Tm.hole false tI), (101, Tm.hole false tI)], objs := [OTm.row 23 true (Ty.slice 3 tI), OTm.row 4 true Ty.bool, OTm.row 3 true tI] }, outs := [(Ex.exit 6, { n := 118, slots := [(3, Tm.ref 0), (4, Tm.ref 1), (5, Tm.ref 2)], objs := [OTm.row 23 true (Ty.slice 3 tI), OTm.row 4 true Ty.bool, OTm.row 3 true tI] })] }
noncomputable def sig1400 : Sig := { what := What.fn 14, pre := { n := 1, slots := [(0, Tm.hole false tD)], objs := [] }, outs := [(Ex.ret, { n := 1, slots := [(0, Tm.hole true (Ty.slice 4 Ty.bool))], objs := [] })] }
noncomputable def sig1401 : Sig := { what := What.loop (loopAt code14 0), pre := { n := 78, slots := [(1, Tm.ptr 0 0), (3, Tm.ref 1), (13, Tm.hole false tI), (14, Tm.hole false tI)], objs := [OTm.box 25 [Tm.hole false tMss, Tm.hole false (Ty.slice 3 tI)], OTm.row 4 true Ty.bool] }, outs := [(Ex.exit 0, { n := 78, slots := [(1, Tm.ptr 0 0), (3, Tm.ref 1)], objs := [OTm.box 25 [Tm.hole false tMss, Tm.hole false (Ty.slice 3 tI)], OTm.row 4 true Ty.bool] })] }
noncomputable def sig1402 : Sig := { what := What.loop (loopAt code14 1), pre := { n := 78, slots := [(1, Tm.ptr 0 0), (3, Tm.ref 1), (35, Tm.hole false tI), (36, Tm.hole false tI)], objs := [OTm.box 25 [Tm.hole false tMss, Tm.hole false (Ty.slice 3 tI)], OTm.row 4 true Ty.bool] }, outs := [(Ex.exit 2, { n := 78, slots := [(3, Tm.ref 0)], objs := [OTm.row 4 true Ty.bool] })] }
noncomputable def sig1403 : Sig := { what := What.loop (loopAt (loopAt code14 1) 0), pre := { n := 78, slots := [(1, Tm.ptr 0 0), (3, Tm.ref 1), (35, Tm.hole false tI), (36, Tm.hole false tI), (39, Tm.hole false tI), (40, Tm.hole false tI)], objs := [OTm.box 25 [Tm.hole false tMss, Tm.hole false (Ty.slice 3 tI)], OTm.row 4 true Ty.bool] }, outs := [(Ex.exit 4, { n := 78, slots := [(1, Tm.ptr 0 0), (3, Tm.ref 1), (35, Tm.hole false tI), (36, Tm.hole false tI)], objs := [OTm.box 25 [Tm.hole false tMss, Tm.hole false (Ty.slice 3 tI)], OTm.row 4 true Ty.bool] })] }
noncomputable def sig1404 : Sig := { what := What.loop (loopAt (loopAt (loopAt code14 1) 0) 0), pre := { n := 78, slots := [(1, Tm.ptr 0 0), (3, Tm.ref 1), (5, Tm.hole false tI), (35, Tm.hole false tI), (36, Tm.hole false tI), (39, Tm.hole false tI), (40, Tm.hole false tI), (47, Tm.hole false tMs), (48, Tm.hole false tI), (49, Tm.hole false tI)], objs := [OTm.box 25 [Tm.hole false tMss, Tm.hole false (Ty.slice 3 tI)], OTm.row 4 true Ty.bool] }, outs := [(Ex.exit 6, { n := 78, slots := [(1, Tm.ptr 0 0), (3, Tm.ref 1), (35, Tm.hole false tI), (36, Tm.hole false tI), (39, Tm.hole false tI), (40, Tm.hole false tI)], objs := [OTm.box 25 [Tm.hole false tMss, Tm.hole false (Ty.slice 3 tI)], OTm.row 4 true Ty.bool] })] }
noncomputable def sig1500 : Sig := { what := What.fn 15, pre := { n := 2, slots := [(0, Tm.hole false (Ty.slice 3 tI)), (1, Tm.hole false (Ty.slice 3 tI))], objs := [] }, outs := [(Ex.ret, { n := 1, slots := [(0, Tm.hole false Ty.bool)], objs := [] })] }
noncomputable def sig1501 : Sig := { what := What.loop (loopAt code15 0), pre := { n := 26, slots := [(0, Tm.hole false (Ty.slice 3 tI)), (1, Tm.hole false (Ty.slice 3 tI)), (12, Tm.hole false tI), (13, Tm.hole false tI)], objs := [] }, outs := [(Ex.exit 0, { n := 26, slots := [], objs := [] }), (Ex.ret, { n := 26, slots := [(4, Tm.hole false Ty.bool)], objs := [] })] }
noncomputable def sig1600 : Sig := { what := What.fn 16, pre := { n := 1, slots := [(0, Tm.hole false tD)], objs := [] }, outs := [(Ex.ret, { n := 1, slots := [(0, Tm.hole true (Ty.slice 3 tI))], objs := [] })] }
noncomputable def sig1601 : Sig := { what := What.loop (loopAt code16 0), pre := { n := 161, slots := [(1, Tm.ptr 0 0), (3, Tm.hole true (Ty.slice 4 Ty.bool)), (4, Tm.ref 1), (25, Tm.hole false tI), (26, Tm.hole false tI)], objs := [OTm.box 25 [Tm.hole false tMss, Tm.hole false (Ty.slice 3 tI)], OTm.row 3 true tI] }, outs := [(Ex.exit 0, { n := 161, slots := [(1, Tm.ptr 0 0), (3, Tm.hole true (Ty.slice 4 Ty.bool)), (4, Tm.ref 1)], objs := [OTm.box 25 [Tm.hole false tMss, Tm.hole false (Ty.slice 3 tI)], OTm.row 3 true tI] })] }
noncomputable def sig1602 : Sig := { what := What.loop (loopAt code16 1), pre := { n := 161, slots := [(1, Tm.ptr 0 0), (3, Tm.hole true (Ty.slice 4 Ty.bool)), (4, Tm.ref 1), (6, Tm.hole false tI)], objs := [OTm.box 25 [Tm.hole false tMss, Tm.hole false (Ty.slice 3 tI)], OTm.row 3 true tI] }, outs := [(Ex.ret, { n := 161, slots := [(2, Tm.ref 0)], objs := [OTm.row 3 true tI] })] }
noncomputable def sig1603 : Sig := { what := What.loop (loopAt (loopAt code16 1) 0), pre := { n := 161, slots := [(1, Tm.ptr 0 0), (3, Tm.hole true (Ty.slice 4 Ty.bool)), (4, Tm.ref 1), (6, Tm.hole false tI), (7, Tm.ref 2), (8, Tm.mp 3), (59, Tm.hole false tMss), (60, Tm.hole false tI), (61, Tm.hole false tI)], objs := [OTm.box 25 [Tm.hole false tMss, Tm.hole false (Ty.slice 3 tI)], OTm.row 3 true tI, OTm.row 3 true tI, OTm.map 46 (Ty.prod tI (Ty.arr 256 tI)) tI] }, outs := [(Ex.exit 4, { n := 161, slots := [(1, Tm.ptr 0 0), (3, Tm.hole true (Ty.slice 4 Ty.bool)), (4, Tm.ref 1), (6, Tm.hole false tI), (7, Tm.ref 2), (8, Tm.mp 3)], objs := [OTm.box 25 [Tm.hole false tMss, Tm.hole false (Ty.slice 3 tI)], OTm.row 3 true tI, OTm.row 3 true tI, OTm.map 46 (Ty.prod tI (Ty.arr 256 tI)) tI] })] }
noncomputable def sig1604 : Sig := { what := What.loop (loopAt (loopAt (loopAt code16 1) 0) 0), pre := { n := 161, slots := [(1, Tm.ptr 0 0), (3, Tm.hole true (Ty.slice 4 Ty.bool)), (4, Tm.ref 1), (6, Tm.hole false tI), (7, Tm.ref 2), (8, Tm.mp 3), (9, Tm.hole false tI), (11, Tm.ptr 4 0), (59, Tm.hole false tMss), (60, Tm.hole false tI), (61, Tm.hole false tI), (71, Tm.hole false tMs), (72, Tm.hole false tI), (73, Tm.hole false tI)], objs := [OTm.box 25 [Tm.hole false tMss, Tm.hole false (Ty.slice 3 tI)], OTm.row 3 true tI, OTm.row 3 true tI, OTm.map 46 (Ty.prod tI (Ty.arr 256 tI)) tI, OTm.box 49 [Tm.hole false tI, Tm.hole false (Ty.arr 256 tI)]] }, outs := [(Ex.exit 6, { n := 161, slots := [(1, Tm.ptr 0 0), (3, Tm.hole true (Ty.slice 4 Ty.bool)), (4, Tm.ref 1), (6, Tm.hole false tI), (7, Tm.ref 2), (8, Tm.mp 3), (9, Tm.hole false tI), (11, Tm.ptr 4 0), (59, Tm.hole false tMss), (60, Tm.hole false tI), (61, Tm.hole false tI)], objs := [OTm.box 25 [Tm.hole false tMss, Tm.hole false (Ty.slice 3 tI)], OTm.row 3 true tI, OTm.row 3 true tI, OTm.map 46 (Ty.prod tI (Ty.arr 256 tI)) tI, OTm.box 49 [Tm.hole false tI, Tm.hole false (Ty.arr 256 tI)]] })] }
noncomputable def sig1605 : Sig := { what := What.loop (loopAt (loopAt (loopAt (loopAt code16 1) 0) 0) 0), pre := { n := 161, slots := [(1, Tm.ptr 0 0), (3, Tm.hole true (Ty.slice 4 Ty.bool)), (4, Tm.ref 1), (6, Tm.hole false tI), (7, Tm.ref 2), (8, Tm.mp 3), (9, Tm.hole false tI), (11, Tm.ptr 4 0), (13, Tm.ptr 5 0), (14, Tm.hole false tI), (59, Tm.hole false tMss), (60, Tm.hole false tI), (61, Tm.hole false tI), (71, Tm.hole false tMs), (72, Tm.hole false tI), (73, Tm.hole false tI)], objs := [OTm.box 25 [Tm.hole false tMss, Tm.hole false (Ty.slice 3 tI)], OTm.row 3 true tI, OTm.row 3 true tI, OTm.map 46 (Ty.prod tI (Ty.arr 256 tI)) tI, OTm.box 49 [Tm.hole false tI, Tm.hole false (Ty.arr 256 tI)], OTm.box 44 [Tm.hole false tB, Tm.hole false tB, Tm.hole false tI]] }, outs := [(Ex.exit 8, { n := 161, slots := [(1, Tm.ptr 0 0), (3, Tm.hole true (Ty.slice 4 Ty.bool)), (4, Tm.ref 1), (6, Tm.hole false tI), (7, Tm.ref 2), (8, Tm.mp 3), (9, Tm.hole false tI), (11, Tm.ptr 4 0), (59, Tm.hole false tMss), (60, Tm.hole false tI), (61, Tm.hole false tI), (71, Tm.hole false tMs), (72, Tm.hole false tI), (73, Tm.hole false tI)], objs := [OTm.box 25 [Tm.hole false tMss, Tm.hole false (Ty.slice 3 tI)], OTm.row 3 true tI, OTm.row 3 true tI, OTm.map 46 (Ty.prod tI (Ty.arr 256 tI)) tI, OTm.box 49 [Tm.hole false tI, Tm.hole false (Ty.arr 256 tI)]] })] }
noncomputable def sig1606 : Sig := { what := What.loop (loopAt (loopAt code16 1) 1), pre := { n := 161, slots := [(1, Tm.ptr 0 0), (3, Tm.hole true (Ty.slice 4 Ty.bool)), (4, Tm.ref 1), (6, Tm.hole false tI), (7, Tm.ref 2), (142, Tm.hole false tI), (143, Tm.hole false tI)], objs := [OTm.box 25 [Tm.hole false tMss, Tm.hole false (Ty.slice 3 tI)], OTm.row 3 true tI, OTm.row 3 true tI] }, outs := [(Ex.exit 10, { n := 161, slots := [(1, Tm.ptr 0 0), (3, Tm.hole true (Ty.slice 4 Ty.bool)), (4, Tm.ref 1), (6, Tm.hole false tI)], objs := [OTm.box 25 [Tm.hole false tMss, Tm.hole false (Ty.slice 3 tI)], OTm.row 3 true tI] })] }
noncomputable def sig1700 : Sig := { what := What.fn 17, pre := { n := 1, slots := [(0, Tm.hole false tD)], objs := [] }, outs := [(Ex.ret, { n := 1, slots := [(0, Tm.hole true (Ty.slice 3 tI))], objs := [] })] }
noncomputable def sig1701 : Sig := { what := What.loop (loopAt code17 0), pre := { n := 41, slots := [(1, Tm.ptr 0 0), (3, Tm.hole true (Ty.slice 4 Ty.bool)), (4, Tm.ref 1), (13, Tm.hole false tI), (14, Tm.hole false tI)], objs := [OTm.box 25 [Tm.hole false tMss, Tm.hole false (Ty.slice 3 tI)], OTm.row 3 true tI] }, outs := [(Ex.exit 0, { n := 41, slots := [(1, Tm.ptr 0 0), (3, Tm.hole true (Ty.slice 4 Ty.bool)), (4, Tm.ref 1)], objs := [OTm.box 25 [Tm.hole false tMss, Tm.hole false (Ty.slice 3 tI)], OTm.row 3 true tI] })] }
noncomputable def sig1702 : Sig := { what := What.loop (loopAt code17 1), pre := { n := 41, slots := [(1, Tm.ptr 0 0), (3, Tm.hole true (Ty.slice 4 Ty.bool)), (4, Tm.hole true (Ty.slice 3 tI)), (32, Tm.hole false tI), (33, Tm.hole false tI)], objs := [OTm.box 25 [Tm.hole false tMss, Tm.hole false (Ty.slice 3 tI)]] }, outs := [(Ex.exit 2, { n := 41, slots := [(4, Tm.hole true (Ty.slice 3 tI))], objs := [] })] }
noncomputable def sig1800 : Sig := { what := What.fn 18, pre := { n := 1, slots := [(0, Tm.hole false tD)], objs := [] }, outs := [(Ex.ret, { n := 2, slots := [(0, Tm.hole true tD), (1, Tm.hole false tI)], objs := [] })] }
noncomputable def sig1801 : Sig := { what := What.loop (loopAt code18 0), pre := { n := 145, slots := [(1, Tm.ptr 0 0), (2, Tm.ptr 1 0), (5, Tm.hole true (Ty.slice 4 Ty.bool)), (6, Tm.hole true (Ty.slice 3 tI)), (7, Tm.mp 4), (8, Tm.ref 5), (9, Tm.ptr 6 0), (10, Tm.hole false tI)], objs := [OTm.box 25 [Tm.hole false tMss, Tm.hole false (Ty.slice 3 tI)], OTm.box 25 [Tm.ref 2, Tm.ref 3], OTm.row 42 true tMs, OTm.row 3 true tI, OTm.map 52 tI tI, OTm.row 3 true tI, OTm.box 25 [Tm.ref 7, Tm.ref 8], OTm.row 42 true tMs, OTm.row 3 true tI] }, outs := [(Ex.exit 0, { n := 145, slots := [(2, Tm.ptr 0 0), (9, Tm.ptr 3 0)], objs := [OTm.box 25 [Tm.ref 1, Tm.ref 2], OTm.row 42 true tMs, OTm.row 3 true tI, OTm.box 25 [Tm.ref 4, Tm.ref 5], OTm.row 42 true tMs, OTm.row 3 true tI] })] }
noncomputable def sig1802 : Sig := { what := What.loop (loopAt (loopAt code18 0) 0), pre := { n := 145, slots := [(1, Tm.ptr 0 0), (2, Tm.ptr 1 0), (5, Tm.hole true (Ty.slice 4 Ty.bool)), (6, Tm.hole true (Ty.slice 3 tI)), (7, Tm.mp 4), (8, Tm.ref 5), (9, Tm.ptr 6 0), (10, Tm.hole false tI), (11, Tm.hole false tI), (12, Tm.ref 9), (48, Tm.hole false tMs), (49, Tm.hole false tI), (50, Tm.hole false tI)], objs := [OTm.box 25 [Tm.hole false tMss, Tm.hole false (Ty.slice 3 tI)], OTm.box 25 [Tm.ref 2, Tm.ref 3], OTm.row 42 true tMs, OTm.row 3 true tI, OTm.map 52 tI tI, OTm.row 3 true tI, OTm.box 25 [Tm.ref 7, Tm.ref 8], OTm.row 42 true tMs, OTm.row 3 true tI, OTm.row 44 true tM] }, outs := [(Ex.exit 2, { n := 145, slots := [(1, Tm.ptr 0 0), (2, Tm.ptr 1 0), (5, Tm.hole true (Ty.slice 4 Ty.bool)), (6, Tm.hole true (Ty.slice 3 tI)), (7, Tm.mp 4), (8, Tm.ref 5), (9, Tm.ptr 6 0), (10, Tm.hole false tI), (11, Tm.hole false tI), (12, Tm.ref 9)], objs := [OTm.box 25 [Tm.hole false tMss, Tm.hole false (Ty.slice 3 tI)], OTm.box 25 [Tm.ref 2, Tm.ref 3], OTm.row 42 true tMs, OTm.row 3 true tI, OTm.map 52 tI tI, OTm.row 3 true tI, OTm.box 25 [Tm.ref 7, Tm.ref 8], OTm.row 42 true tMs, OTm.row 3 true tI, OTm.row 44 true tM] })] }
noncomputable def sig1900 : Sig := { what := What.fn 19, pre := { n := 1, slots := [(0, Tm.hole false tD)], objs := [] }, outs := [(Ex.ret, { n := 2, slots := [(0, Tm.hole true tD), (1, Tm.hole false tI)], objs := [] })] }
noncomputable def sig1901 : Sig := { what := What.loop (loopAt code19 0), pre := { n := 104, slots := [(1, Tm.ptr 0 0), (2, Tm.ptr 1 0), (5, Tm.hole true (Ty.slice 4 Ty.bool)), (6, Tm.hole true (Ty.slice 3 tI)), (7, Tm.ref 4), (8, Tm.ptr 5 0), (9, Tm.hole false tI)], objs := [OTm.box 25 [Tm.hole false tMss, Tm.hole false (Ty.slice 3 tI)], OTm.box 25 [Tm.ref 2, Tm.ref 3], OTm.row 42 true tMs, OTm.row 3 true tI, OTm.row 3 true tI, OTm.box 25 [Tm.ref 6, Tm.ref 7], OTm.row 42 true tMs, OTm.row 3 true tI] }, outs := [(Ex.exit 0, { n := 104, slots := [(2, Tm.ptr 0 0), (8, Tm.ptr 3 0)], objs := [OTm.box 25 [Tm.ref 1, Tm.ref 2], OTm.row 42 true tMs, OTm.row 3 true tI, OTm.box 25 [Tm.ref 4, Tm.ref 5], OTm.row 42 true tMs, OTm.row 3 true tI] })] }
noncomputable def sig1902 : Sig := { what := What.loop (loopAt (loopAt code19 0) 0), pre := { n := 104, slots := [(1, Tm.ptr 0 0), (2, Tm.ptr 1 0), (5, Tm.hole true (Ty.slice 4 Ty.bool)), (6, Tm.hole true (Ty.slice 3 tI)), (7, Tm.ref 4), (8, Tm.ptr 5 0), (9, Tm.hole false tI), (10, Tm.ref 8), (11, Tm.hole false tI)], objs := [OTm.box 25 [Tm.hole false tMss, Tm.hole false (Ty.slice 3 tI)], OTm.box 25 [Tm.ref 2, Tm.ref 3], OTm.row 42 true tMs, OTm.row 3 true tI, OTm.row 3 true tI, OTm.box 25 [Tm.ref 6, Tm.ref 7], OTm.row 42 true tMs, OTm.row 3 true tI, OTm.row 44 true tM] }, outs := [(Ex.exit 2, { n := 104, slots := [(1, Tm.ptr 0 0), (2, Tm.ptr 1 0), (5, Tm.hole true (Ty.slice 4 Ty.bool)), (6, Tm.hole true (Ty.slice 3 tI)), (7, Tm.ref 4), (8, Tm.ptr 5 0), (9, Tm.hole false tI), (10, Tm.ref 8)], objs := [OTm.box 25 [Tm.hole false tMss, Tm.hole false (Ty.slice 3 tI)], OTm.box 25 [Tm.ref 2, Tm.ref 3], OTm.row 42 true tMs, OTm.row 3 true tI, OTm.row 3 true tI, OTm.box 25 [Tm.ref 6, Tm.ref 7], OTm.row 42 true tMs, OTm.row 3 true tI, OTm.row 44 true tM] })] }
noncomputable def sig1903 : Sig := { what := What.loop (loopAt (loopAt (loopAt code19 0) 0) 0), pre := { n := 104, slots := [(1, Tm.ptr 0 0), (2, Tm.ptr 1 0), (5, Tm.hole true (Ty.slice 4 Ty.bool)), (6, Tm.hole true (Ty.slice 3 tI)), (7, Tm.ref 4), (8, Tm.ptr 5 0), (9, Tm.hole false tI), (10, Tm.ref 8), (11, Tm.hole false tI), (12, Tm.hole false tI), (13, Tm.hole false tI), (53, Tm.ref 4), (54, Tm.hole false tI), (55, Tm.hole false tI)], objs := [OTm.box 25 [Tm.hole false tMss, Tm.hole false (Ty.slice 3 tI)], OTm.box 25 [Tm.ref 2, Tm.ref 3], OTm.row 42 true tMs, OTm.row 3 true tI, OTm.row 3 true tI, OTm.box 25 [Tm.ref 6, Tm.ref 7], OTm.row 42 true tMs, OTm.row 3 true tI, OTm.row 44 true tM] }, outs := [(Ex.exit 4, { n := 104, slots := [(1, Tm.ptr 0 0), (2, Tm.ptr 1 0), (5, Tm.hole true (Ty.slice 4 Ty.bool)), (6, Tm.hole true (Ty.slice 3 tI)), (7, Tm.ref 4), (8, Tm.ptr 5 0), (9, Tm.hole false tI), (10, Tm.ref 8), (11, Tm.hole false tI), (12, Tm.hole false tI), (13, Tm.hole false tI)], objs := [OTm.box 25 [Tm.hole false tMss, Tm.hole false (Ty.slice 3 tI)], OTm.box 25 [Tm.ref 2, Tm.ref 3], OTm.row 42 true tMs, OTm.row 3 true tI, OTm.row 3 true tI, OTm.box 25 [Tm.ref 6, Tm.ref 7], OTm.row 42 true tMs, OTm.row 3 true tI, OTm.row 44 true tM] })] }
noncomputable def sig2000 : Sig := { what := What.fn 20, pre := { n := 2, slots := [(0, Tm.hole false tD), (1, Tm.hole false tD)], objs := [] }, outs := [(Ex.ret, { n := 1, slots := [(0, Tm.hole false Ty.bool)], objs := [] })] }
noncomputable def sig2001 : Sig := { what := What.loop (loopAt code20 0), pre := { n := 69, slots := [(2, Tm.ptr 0 0), (3, Tm.ptr 1 0), (24, Tm.hole false tI), (25, Tm.hole false tI)], objs := [OTm.box 25 [Tm.hole false tMss, Tm.hole false (Ty.slice 3 tI)], OTm.box 25 [Tm.hole false tMss, Tm.hole false (Ty.slice 3 tI)]] }, outs := [(Ex.exit 0, { n := 69, slots := [], objs := [] }), (Ex.ret, { n := 69, slots := [(4, Tm.hole false Ty.bool)], objs := [] })] }
noncomputable def sig2002 : Sig := { what := What.loop (loopAt (loopAt code20 0) 0), pre := { n := 69, slots := [(2, Tm.ptr 0 0), (3, Tm.ptr 1 0), (5, Tm.hole false tI), (24, Tm.hole false tI), (25, Tm.hole false tI), (46, Tm.hole false tI), (47, Tm.hole false tI)], objs := [OTm.box 25 [Tm.hole false tMss, Tm.hole false (Ty.slice 3 tI)], OTm.box 25 [Tm.hole false tMss, Tm.hole false (Ty.slice 3 tI)]] }, outs := [(Ex.exit 2, { n := 69, slots := [(2, Tm.ptr 0 0), (3, Tm.ptr 1 0), (24, Tm.hole false tI), (25, Tm.hole false tI)], objs := [OTm.box 25 [Tm.hole false tMss, Tm.hole false (Ty.slice 3 tI)], OTm.box 25 [Tm.hole false tMss, Tm.hole false (Ty.slice 3 tI)]] }), (Ex.ret, { n := 69, slots := [(4, Tm.hole false Ty.bool)], objs := [] })] }
noncomputable def sig2100 : Sig := { what := What.fn 21, pre := { n := 2, slots := [(0, Tm.hole false tD), (1, Tm.hole false tD)], objs := [] }, outs := [(Ex.ret, { n := 3, slots := [(0, Tm.hole false Ty.str), (1, Tm.hole false Ty.bool), (2, Tm.hole false tI)], objs := [] })] }
noncomputable def sig2101 : Sig := { what := What.loop (loopAt code21 0), pre := { n := 106, slots := [(2, Tm.ptr 0 0), (3, Tm.ptr 1 0), (7, Tm.ref 2), (8, Tm.ref 3), (9, Tm.mp 4), (10, Tm.hole false tI)], objs := [OTm.box 25 [Tm.hole false tMss, Tm.hole false (Ty.slice 3 tI)], OTm.box 25 [Tm.hole false tMss, Tm.hole false (Ty.slice 3 tI)], OTm.row 55 true (Ty.prod tI tI), OTm.row 58 true (Ty.prod tI tB), OTm.map 60 (Ty.prod tI tI) Ty.bool] }, outs := [(Ex.exit 0, { n := 106, slots := [], objs := [] }), (Ex.ret, { n := 106, slots := [(4, Tm.hole false Ty.str), (5, Tm.hole false Ty.bool), (6, Tm.hole false tI)], objs := [] })] }
noncomputable def sig2102 : Sig := { what := What.loop (loopAt (loopAt code21 0) 0), pre := { n := 106, slots := [(8, Tm.ref 0), (12, Tm.ref 1), (13, Tm.hole false tI)], objs := [OTm.row 58 true (Ty.prod tI tB), OTm.row 5 true tB] }, outs := [(Ex.exit 2, { n := 106, slots := [(12, Tm.ref 0)], objs := [OTm.row 5 true tB] })] }
noncomputable def sig2103 : Sig := { what := What.loop (loopAt (loopAt code21 0) 1), pre := { n := 106, slots := [(2, Tm.ptr 0 0), (3, Tm.ptr 1 0), (7, Tm.ref 2), (8, Tm.ref 3), (9, Tm.mp 4), (10, Tm.hole false tI), (11, Tm.ptr 5 0), (72, Tm.hole false tI)], objs := [OTm.box 25 [Tm.hole false tMss, Tm.hole false (Ty.slice 3 tI)], OTm.box 25 [Tm.hole false tMss, Tm.hole false (Ty.slice 3 tI)], OTm.row 55 true (Ty.prod tI tI), OTm.row 58 true (Ty.prod tI tB), OTm.map 60 (Ty.prod tI tI) Ty.bool, OTm.box 55 [Tm.hole false tI, Tm.hole false tI]] }, outs := [(Ex.exit 4, { n := 106, slots := [(2, Tm.ptr 0 0), (3, Tm.ptr 1 0), (7, Tm.ref 2), (8, Tm.ref 3), (9, Tm.mp 4), (10, Tm.hole false tI)], objs := [OTm.box 25 [Tm.hole false tMss, Tm.hole false (Ty.slice 3 tI)], OTm.box 25 [Tm.hole false tMss, Tm.hole false (Ty.slice 3 tI)], OTm.row 55 true (Ty.prod tI tI), OTm.row 58 true (Ty.prod tI tB), OTm.map 60 (Ty.prod tI tI) Ty.bool] })] }
noncomputable def sig2200 : Sig := { what := What.fn 22, pre := { n := 2, slots := [(0, Tm.hole false tD), (1, Tm.hole false tD)], objs := [] }, outs := [(Ex.ret, { n := 3, slots := [(0, Tm.hole false Ty.str), (1, Tm.hole false Ty.bool), (2, Tm.hole false tI)], objs := [] })] }
noncomputable def sig2201 : Sig := { what := What.loop (loopAt code22 0), pre := { n := 98, slots := [(2, Tm.ptr 0 0), (3, Tm.ptr 1 0), (7, Tm.ref 2), (8, Tm.hole false tI)], objs := [OTm.box 25 [Tm.hole false tMss, Tm.hole false (Ty.slice 3 tI)], OTm.box 25 [Tm.hole false tMss, Tm.hole false (Ty.slice 3 tI)], OTm.row 64 true (Ty.prod tI (Ty.prod tI Ty.str))] }, outs := [(Ex.exit 0, { n := 98, slots := [], objs := [] }), (Ex.ret, { n := 98, slots := [(4, Tm.hole false Ty.str), (5, Tm.hole false Ty.bool), (6, Tm.hole false tI)], objs := [] })] }
noncomputable def sig2202 : Sig := { what := What.loop (loopAt (loopAt code22 0) 0), pre := { n := 98, slots := [(2, Tm.ptr 0 0), (3, Tm.ptr 1 0), (7, Tm.ref 2), (8, Tm.hole false tI), (9, Tm.ptr 3 0), (10, Tm.hole false tI)], objs := [OTm.box 25 [Tm.hole false tMss, Tm.hole false (Ty.slice 3 tI)], OTm.box 25 [Tm.hole false tMss, Tm.hole false (Ty.slice 3 tI)], OTm.row 64 true (Ty.prod tI (Ty.prod tI Ty.str)), OTm.box 64 [Tm.hole false tI, Tm.hole false tI, Tm.hole false Ty.str]] }, outs := [(Ex.exit 2, { n := 98, slots := [(2, Tm.ptr 0 0), (3, Tm.ptr 1 0), (7, Tm.ref 2), (8, Tm.hole false tI)], objs := [OTm.box 25 [Tm.hole false tMss, Tm.hole false (Ty.slice 3 tI)], OTm.box 25 [Tm.hole false tMss, Tm.hole false (Ty.slice 3 tI)], OTm.row 64 true (Ty.prod tI (Ty.prod tI Ty.str))] })] }
noncomputable def sig2203 : Sig := { what := What.loop (loopAt (loopAt (loopAt code22 0) 0) 0), pre := { n := 98, slots := [(2, Tm.ptr 0 0), (3, Tm.ptr 1 0), (7, Tm.ref 2), (8, Tm.hole false tI), (9, Tm.ptr 3 0), (10, Tm.hole false tI), (11, Tm.ptr 4 0), (12, Tm.hole false Ty.bool), (70, Tm.ref 2), (71, Tm.hole false tI), (72, Tm.hole false tI)], objs := [OTm.box 25 [Tm.hole false tMss, Tm.hole false (Ty.slice 3 tI)], OTm.box 25 [Tm.hole false tMss, Tm.hole false (Ty.slice 3 tI)], OTm.row 64 true (Ty.prod tI (Ty.prod tI Ty.str)), OTm.box 64 [Tm.hole false tI, Tm.hole false tI, Tm.hole false Ty.str], OTm.box 64 [Tm.hole false tI, Tm.hole false tI, Tm.hole false Ty.str]] }, outs := [(Ex.exit 4, { n := 98, slots := [(2, Tm.ptr 0 0), (3, Tm.ptr 1 0), (7, Tm.ref 2), (8, Tm.hole false tI), (9, Tm.ptr 3 0), (10, Tm.hole false tI), (11, Tm.ptr 4 0), (12, Tm.hole false Ty.bool)], objs := [OTm.box 25 [Tm.hole false tMss, Tm.hole false (Ty.slice 3 tI)], OTm.box 25 [Tm.hole false tMss, Tm.hole false (Ty.slice 3 tI)], OTm.row 64 true (Ty.prod tI (Ty.prod tI Ty.str)), OTm.box 64 [Tm.hole false tI, Tm.hole false tI, Tm.hole false Ty.str], OTm.box 64 [Tm.hole false tI, Tm.hole false tI, Tm.hole false Ty.str]] })] }
noncomputable def sig2300 : Sig := { what := What.fn 23, pre := { n := 2, slots := [(0, Tm.hole false tD), (1, Tm.hole false Ty.str)], objs := [] }, outs := [(Ex.ret, { n := 1, slots := [(0, Tm.hole false tI)], objs := [] })] }
noncomputable def sig2301 : Sig := { what := What.loop (loopAt code23 0), pre := { n := 33, slots := [(1, Tm.hole false Ty.str), (2, Tm.ptr 0 0), (5, Tm.hole false tI), (6, Tm.hole false tI)], objs := [OTm.box 25 [Tm.hole false tMss, Tm.hole false (Ty.slice 3 tI)]] }, outs := [(Ex.exit 0, { n := 33, slots := [(2, Tm.ptr 0 0), (5, Tm.hole false tI)], objs := [OTm.box 25 [Tm.hole false tMss, Tm.hole false (Ty.slice 3 tI)]] })] }
noncomputable def sig2400 : Sig := { what := What.fn 24, pre := { n := 2, slots := [(0, Tm.hole false tI), (1, Tm.hole false (Ty.slice 3 tI))], objs := [] }, outs := [(Ex.ret, { n := 1, slots := [(0, Tm.hole false tD)], objs := [] })] }
noncomputable def sig2500 : Sig := { what := What.fn 25, pre := { n := 3, slots := [(0, Tm.hole false tD), (1, Tm.hole false (Ty.slice 3 tI)), (2, Tm.hole false (Ty.slice 4 Ty.bool))], objs := [] }, outs := [(Ex.ret, { n := 1, slots := [(0, Tm.hole true (Ty.slice 3 tI))], objs := [] })] }
noncomputable def sig2501 : Sig := { what := What.loop (loopAt code25 0), pre := { n := 60, slots := [(1, Tm.hole false (Ty.slice 3 tI)), (2, Tm.hole false (Ty.slice 4 Ty.bool)), (3, Tm.ptr 0 0), (7, Tm.ref 1), (8, Tm.hole false tI), (15, Tm.hole false tI), (16, Tm.hole false tI)], objs := [OTm.box 25 [Tm.hole false tMss, Tm.hole false (Ty.slice 3 tI)], OTm.row 3 true tI] }, outs := [(Ex.exit 0, { n := 60, slots := [(7, Tm.ref 0)], objs := [OTm.row 3 true tI] })] }
noncomputable def sig2502 : Sig := { what := What.loop (loopAt (loopAt code25 0) 0), pre := { n := 60, slots := [(1, Tm.hole false (Ty.slice 3 tI)), (2, Tm.hole false (Ty.slice 4 Ty.bool)), (3, Tm.ptr 0 0), (7, Tm.ref 1), (8, Tm.hole false tI), (9, Tm.hole false tI), (10, Tm.hole false tI), (15, Tm.hole false tI), (16, Tm.hole false tI)], objs := [OTm.box 25 [Tm.hole false tMss, Tm.hole false (Ty.slice 3 tI)], OTm.row 3 true tI] }, outs := [(Ex.exit 2, { n := 60, slots := [(1, Tm.hole false (Ty.slice 3 tI)), (2, Tm.hole false (Ty.slice 4 Ty.bool)), (3, Tm.ptr 0 0), (7, Tm.ref 1), (8, Tm.hole false tI), (9, Tm.hole false tI), (15, Tm.hole false tI), (16, Tm.hole false tI)], objs := [OTm.box 25 [Tm.hole false tMss, Tm.hole false (Ty.slice 3 tI)], OTm.row 3 true tI] })] }
noncomputable def sig2600 : Sig := { what := What.fn 26, pre := { n := 1, slots := [(0, Tm.hole false tD)], objs := [] }, outs := [(Ex.ret, { n := 1, slots := [(0, Tm.hole false tI)], objs := [] })] }
noncomputable def sig2601 : Sig := { what := What.loop (loopAt code26 0), pre := { n := 94, slots := [(1, Tm.ptr 0 0), (36, Tm.hole false tMss), (37, Tm.hole false tI), (38, Tm.hole false tI)], objs := [OTm.box 25 [Tm.hole false tMss, Tm.hole false (Ty.slice 3 tI)]] }, outs := [(Ex.exit 0, { n := 94, slots := [], objs := [] }), (Ex.ret, { n := 94, slots := [(2, Tm.hole false tI)], objs := [] })] }
noncomputable def sig2602 : Sig := { what := What.loop (loopAt (loopAt code26 0) 0), pre := { n := 94, slots := [(1, Tm.ptr 0 0), (5, Tm.ptr 1 0), (6, Tm.hole false tI), (36, Tm.hole false tMss), (37, Tm.hole false tI), (38, Tm.hole false tI), (43, Tm.hole false tMs), (44, Tm.hole false tI), (45, Tm.hole false tI)], objs := [OTm.box 25 [Tm.hole false tMss, Tm.hole false (Ty.slice 3 tI)], OTm.box 44 [Tm.hole false tB, Tm.hole false tB, Tm.hole false tI]] }, outs := [(Ex.exit 2, { n := 94, slots := [(1, Tm.ptr 0 0), (36, Tm.hole false tMss), (37, Tm.hole false tI), (38, Tm.hole false tI)], objs := [OTm.box 25 [Tm.hole false tMss, Tm.hole false (Ty.slice 3 tI)]] }), (Ex.ret, { n := 94, slots := [(2, Tm.hole false tI)], objs := [] })] }
noncomputable def sig2700 : Sig := { what := What.fn 27, pre := { n := 3, slots := [(0, Tm.hole false tD), (1, Tm.hole false tI), (2, Tm.hole false tB)], objs := [] }, outs := [(Ex.ret, { n := 1, slots := [(0, Tm.hole false tI)], objs := [] })] }
noncomputable def sig2701 : Sig := { what := What.loop (loopAt code27 0), pre := { n := 41, slots := [(2, Tm.hole false tB), (22, Tm.hole false tMs), (23, Tm.hole false tI), (24, Tm.hole false tI)], objs := [] }, outs := [(Ex.exit 0, { n := 41, slots := [], objs := [] }), (Ex.ret, { n := 41, slots := [(6, Tm.hole false tI)], objs := [] })] }
noncomputable def sig2800 : Sig := { what := What.fn 28, pre := { n := 3, slots := [(0, Tm.ref 0), (1, Tm.hole false tB), (2, Tm.hole false tI)], objs := [OTm.row 44 false tM] }, outs := [(Ex.ret, { n := 1, slots := [(0, Tm.ref 0)], objs := [OTm.row 44 true tM] })] }
noncomputable def sig2900 : Sig := { what := What.fn 29, pre := { n := 2, slots := [(0, Tm.hole false tD), (1, Tm.hole false tI)], objs := [] }, outs := [(Ex.ret, { n := 1, slots := [(0, Tm.hole false tI)], objs := [] })] }
noncomputable def sig3000 : Sig := { what := What.fn 30, pre := { n := 3, slots := [(0, Tm.hole false tD), (1, Tm.hole false tI), (2, Tm.hole false tB)], objs := [] }, outs := [(Ex.ret, { n := 1, slots := [(0, Tm.hole false tI)], objs := [] })] }
noncomputable def sig3100 : Sig := { what := What.fn 31, pre := { n := 2, slots := [(0, Tm.hole false tD), (1, Tm.hole false tI)], objs := [] }, outs := [(Ex.ret, { n := 1, slots := [(0, Tm.hole false tI)], objs := [] })] }
noncomputable def sig3200 : Sig := { what := What.fn 32, pre := { n := 5, slots := [(0, Tm.hole false tD), (1, Tm.hole false (Ty.slice 3 tI)), (2, Tm.hole false (Ty.slice 4 Ty.bool)), (3, Tm.hole false tI), (4, Tm.hole false tI)], objs := [] }, outs := [(Ex.ret, { n := 1, slots := [(0, Tm.hole false Ty.bool)], objs := [] })] }
noncomputable def sig3201 : Sig := { what := What.loop (loopAt code32 0), pre := { n := 62, slots := [(1, Tm.hole false (Ty.slice 3 tI)), (2, Tm.hole false (Ty.slice 4 Ty.bool)), (3, Tm.hole false tI), (4, Tm.hole false tI), (5, Tm.ptr 0 0), (11, Tm.hole false tI)], objs := [OTm.box 25 [Tm.hole false tMss, Tm.hole false (Ty.slice 3 tI)]] }, outs := [(Ex.exit 0, { n := 62, slots := [], objs := [] }), (Ex.ret, { n := 62, slots := [(10, Tm.hole false Ty.bool)], objs := [] })] }
noncomputable def sig3300 : Sig := { what := What.fn 33, pre := { n := 1, slots := [(0, Tm.hole false (Ty.slice 3 tI))], objs := [] }, outs := [(Ex.ret, { n := 1, slots := [(0, Tm.hole false tI)], objs := [] })] }
noncomputable def sig3301 : Sig := { what := What.loop (loopAt code33 0), pre := { n := 25, slots := [(0, Tm.hole false (Ty.slice 3 tI)), (3, Tm.hole false tI), (4, Tm.hole false tI)], objs := [] }, outs := [(Ex.exit 0, { n := 25, slots := [(3, Tm.hole false tI)], objs := [] })] }
noncomputable def sig3400 : Sig := { what := What.fn 34, pre := { n := 2, slots := [(0, Tm.hole false tI), (1, Tm.fn 35 [(0, 0), (1, 0)])], objs := [OTm.box 42 [Tm.hole false tMs], OTm.box 5 [Tm.hole false tB]] }, outs := [(Ex.ret, { n := 1, slots := [(0, Tm.hole false tI)], objs := [OTm.box 42 [Tm.hole false tMs], OTm.box 5 [Tm.hole false tB]] })], keep := 2 }
noncomputable def sig3401 : Sig := { what := What.loop (loopAt code34 0), pre := { n := 26, slots := [(1, Tm.fn 35 [(0, 0), (1, 0)]), (5, Tm.hole false tI), (6, Tm.hole false tI)], objs := [OTm.box 42 [Tm.hole false tMs], OTm.box 5 [Tm.hole false tB]] }, outs := [(Ex.exit 0, { n := 26, slots := [(5, Tm.hole false tI)], objs := [OTm.box 42 [Tm.hole false tMs], OTm.box 5 [Tm.hole false tB]] })], keep := 2 }
noncomputable def sig3500 : Sig := { what := What.fn 35, pre := { n := 3, slots := [(0, Tm.hole false tI), (1, Tm.ptr 0 0), (2, Tm.ptr 1 0)], objs := [OTm.box 42 [Tm.hole false tMs], OTm.box 5 [Tm.hole false tB]] }, outs := [(Ex.ret, { n := 1, slots := [(0, Tm.hole false Ty.bool)], objs := [OTm.box 42 [Tm.hole false tMs], OTm.box 5 [Tm.hole false tB]] })], keep := 2 }
noncomputable def sig3600 : Sig := { what := What.fn 36, pre := { n := 3, slots := [(0, Tm.hole false (Ty.slice 3 tI)), (1, Tm.hole false (Ty.slice 4 Ty.bool)), (2, Tm.hole false tI)], objs := [] }, outs := [(Ex.ret, { n := 1, slots := [(0, Tm.hole false tI)], objs := [] })] }
noncomputable def sig0 : Sig := ⟨.fn 0, ⟨0, [], []⟩, [], 0⟩

noncomputable def Γ : Nat → Sig := fun i => (bif Nat.blt i 1802 then (bif Nat.blt i 1304 then (bif Nat.blt i 1000 then (bif Nat.blt i 600 then (bif Nat.blt i 400 then (bif Nat.blt i 301 then (bif Nat.beq i 300 then sig300 else sig0) else (bif Nat.beq i 301 then sig301 else sig0)) else (bif Nat.blt i 500 then (bif Nat.beq i 400 then sig400 else sig0) else (bif Nat.beq i 500 then sig500 else sig0))) else (bif Nat.blt i 800 then (bif Nat.blt i 700 then (bif Nat.beq i 600 then sig600 else sig0) else (bif Nat.beq i 700 then sig700 else sig0)) else (bif Nat.blt i 801 then (bif Nat.beq i 800 then sig800 else sig0) else (bif Nat.blt i 900 then (bif Nat.beq i 801 then sig801 else sig0) else (bif Nat.beq i 900 then sig900 else sig0))))) else (bif Nat.blt i 1202 then (bif Nat.blt i 1101 then (bif Nat.blt i 1100 then (bif Nat.beq i 1000 then sig1000 else sig0) else (bif Nat.beq i 1100 then sig1100 else sig0)) else (bif Nat.blt i 1200 then (bif Nat.beq i 1101 then sig1101 else sig0) else (bif Nat.blt i 1201 then (bif Nat.beq i 1200 then sig1200 else sig0) else (bif Nat.beq i 1201 then sig1201 else sig0)))) else (bif Nat.blt i 1301 then (bif Nat.blt i 1300 then (bif Nat.beq i 1202 then sig1202 else sig0) else (bif Nat.beq i 1300 then sig1300 else sig0)) else (bif Nat.blt i 1302 then (bif Nat.beq i 1301 then sig1301 else sig0) else (bif Nat.blt i 1303 then (bif Nat.beq i 1302 then sig1302 else sig0) else (bif Nat.beq i 1303 then sig1303 else sig0)))))) else (bif Nat.blt i 1602 then (bif Nat.blt i 1404 then (bif Nat.blt i 1401 then (bif Nat.blt i 1400 then (bif Nat.beq i 1304 then sig1304 else sig0) else (bif Nat.beq i 1400 then sig1400 else sig0)) else (bif Nat.blt i 1402 then (bif Nat.beq i 1401 then sig1401 else sig0) else (bif Nat.blt i 1403 then (bif Nat.beq i 1402 then sig1402 else sig0) else (bif Nat.beq i 1403 then sig1403 else sig0)))) else (bif Nat.blt i 1501 then (bif Nat.blt i 1500 then (bif Nat.beq i 1404 then sig1404 else sig0) else (bif Nat.beq i 1500 then sig1500 else sig0)) else (bif Nat.blt i 1600 then (bif Nat.beq i 1501 then sig1501 else sig0) else (bif Nat.blt i 1601 then (bif Nat.beq i 1600 then sig1600 else sig0) else (bif Nat.beq i 1601 then sig1601 else sig0))))) else (bif Nat.blt i 1700 then (bif Nat.blt i 1604 then (bif Nat.blt i 1603 then (bif Nat.beq i 1602 then sig1602 else sig0) else (bif Nat.beq i 1603 then sig1603 else sig0)) else (bif Nat.blt i 1605 then (bif Nat.beq i 1604 then sig1604 else sig0) else (bif Nat.blt i 1606 then (bif Nat.beq i 1605 then sig1605 else sig0) else (bif Nat.beq i 1606 then sig1606 else sig0)))) else (bif Nat.blt i 1702 then (bif Nat.blt i 1701 then (bif Nat.beq i 1700 then sig1700 else sig0) else (bif Nat.beq i 1701 then sig1701 else sig0)) else (bif Nat.blt i 1800 then (bif Nat.beq i 1702 then sig1702 else sig0) else (bif Nat.blt i 1801 then (bif Nat.beq i 1800 then sig1800 else sig0) else (bif Nat.beq i 1801 then sig1801 else sig0))))))) else (bif Nat.blt i 2500 then (bif Nat.blt i 2101 then (bif Nat.blt i 1903 then (bif Nat.blt i 1901 then (bif Nat.blt i 1900 then (bif Nat.beq i 1802 then sig1802 else sig0) else (bif Nat.beq i 1900 then sig1900 else sig0)) else (bif Nat.blt i 1902 then (bif Nat.beq i 1901 then sig1901 else sig0) else (bif Nat.beq i 1902 then sig1902 else sig0))) else (bif Nat.blt i 2001 then (bif Nat.blt i 2000 then (bif Nat.beq i 1903 then sig1903 else sig0) else (bif Nat.beq i 2000 then sig2000 else sig0)) else (bif Nat.blt i 2002 then (bif Nat.beq i 2001 then sig2001 else sig0) else (bif Nat.blt i 2100 then (bif Nat.beq i 2002 then sig2002 else sig0) else (bif Nat.beq i 2100 then sig2100 else sig0))))) else (bif Nat.blt i 2202 then (bif Nat.blt i 2103 then (bif Nat.blt i 2102 then (bif Nat.beq i 2101 then sig2101 else sig0) else (bif Nat.beq i 2102 then sig2102 else sig0)) else (bif Nat.blt i 2200 then (bif Nat.beq i 2103 then sig2103 else sig0) else (bif Nat.blt i 2201 then (bif Nat.beq i 2200 then sig2200 else sig0) else (bif Nat.beq i 2201 then sig2201 else sig0)))) else (bif Nat.blt i 2300 then (bif Nat.blt i 2203 then (bif Nat.beq i 2202 then sig2202 else sig0) else (bif Nat.beq i 2203 then sig2203 else sig0)) else (bif Nat.blt i 2301 then (bif Nat.beq i 2300 then sig2300 else sig0) else (bif Nat.blt i 2400 then (bif Nat.beq i 2301 then sig2301 else sig0) else (bif Nat.beq i 2400 then sig2400 else sig0)))))) else (bif Nat.blt i 3000 then (bif Nat.blt i 2602 then (bif Nat.blt i 2502 then (bif Nat.blt i 2501 then (bif Nat.beq i 2500 then sig2500 else sig0) else (bif Nat.beq i 2501 then sig2501 else sig0)) else (bif Nat.blt i 2600 then (bif Nat.beq i 2502 then sig2502 else sig0) else (bif Nat.blt i 2601 then (bif Nat.beq i 2600 then sig2600 else sig0) else (bif Nat.beq i 2601 then sig2601 else sig0)))) else (bif Nat.blt i 2701 then (bif Nat.blt i 2700 then (bif Nat.beq i 2602 then sig2602 else sig0) else (bif Nat.beq i 2700 then sig2700 else sig0)) else (bif Nat.blt i 2800 then (bif Nat.beq i 2701 then sig2701 else sig0) else (bif Nat.blt i 2900 then (bif Nat.beq i 2800 then sig2800 else sig0) else (bif Nat.beq i 2900 then sig2900 else sig0))))) else (bif Nat.blt i 3301 then (bif Nat.blt i 3200 then (bif Nat.blt i 3100 then (bif Nat.beq i 3000 then sig3000 else sig0) else (bif Nat.beq i 3100 then sig3100 else sig0)) else (bif Nat.blt i 3201 then (bif Nat.beq i 3200 then sig3200 else sig0) else (bif Nat.blt i 3300 then (bif Nat.beq i 3201 then sig3201 else sig0) else (bif Nat.beq i 3300 then sig3300 else sig0)))) else (bif Nat.blt i 3401 then (bif Nat.blt i 3400 then (bif Nat.beq i 3301 then sig3301 else sig0) else (bif Nat.beq i 3400 then sig3400 else sig0)) else (bif Nat.blt i 3500 then (bif Nat.beq i 3401 then sig3401 else sig0) else (bif Nat.blt i 3600 then (bif Nat.beq i 3500 then sig3500 else sig0) else (bif Nat.beq i 3600 then sig3600 else sig0))))))))

def fc : Nat → List Nat := fun i => [i * 100]

noncomputable def cf (k : KT) (n : Nat) : Cfg Γ := ⟨Try.prog, k, fc, n⟩

theorem mixed : Try.prog.follows .mixedOrders = true := by kernel_rfl

end Go.Proofs.YtjmnjimlkljhjaaV

/- The trees of functions and loops: what they do, step by step. -/
set_option linter.unusedVariables false
set_option maxRecDepth 100000
namespace Go.Proofs.YtjmnjimlkljhjaaV
open Go Go.Proofs

/-! quincunx/quincunxlaw05.few -/
noncomputable def t11 (x0 : List (List (Int × Int × Int))) (x1 : List Int) : Tree Γ ((Bool × PUnit) × PUnit) :=
 .ite (decide ((↑(List.length x0) : Int) > 12) || decide ((↑(List.length x1) : Int) > 20)) (
  .ret (((false, ()), ()))) (
  .act 1101 (((x0, (↑(List.length x0) : Int), 0, ()), ())) (fun y => match y with
   | (.inl ((), ())) =>
    .ret (((true, ()), ()))
   | (.inr ((y0, ()), ())) =>
    .ret (((y0, ()), ()))))

theorem t11_eq (x0 : List (List (Int × Int × Int))) (x1 : List Int) : funT (cf kt 0) 1100 Try.f11 code11 (plan code11 [1101]) (((x0, x1), ()), ()) = t11 x0 x1 := by kernel_rfl

theorem r1100 (x0 : List (List (Int × Int × Int))) (x1 : List Int) {y : ((Bool × PUnit) × PUnit)} (h : (t11 x0 x1).wp (SemR Try.prog Γ) (fun z => y = z)) : SemR Try.prog Γ 1100 (((x0, x1), ()), ()) y :=
  fn_rule (P := Try.prog) (c := (cf kt 0)) (code := code11) (l := [1101]) rfl mixed (by kernel_rfl) Try.func11 (by kernel_rfl) (by kernel_rfl) ⟨by kernel_rfl, trivial⟩ (by kernel_rfl) (t11_eq x0 x1) h

noncomputable def l11_0 (x0 : List (List (Int × Int × Int))) (x1 : Int) (x2 : Int) : Tree Γ ((List (List (Int × Int × Int)) × Int × Int × PUnit) × PUnit ⊕ PUnit × PUnit ⊕ (Bool × PUnit) × PUnit) :=
 .ite (decide (x2 < x1)) (
  .chk (decide (0 ≤ x2)) (
  .chk (decide (x2 < (↑(List.length x0) : Int))) (
  .ite (decide ((↑(List.length (List.getD x0 (Int.toNat x2) [])) : Int) > 60)) (
   .ret (Sum.inr (Sum.inr ((false, ()), ())))) (
   .ret (Sum.inl ((x0, x1, IntKind.wrap IntKind.i64 (x2 + 1), ()), ())))))) (
  .ret (Sum.inr (Sum.inl ((), ()))))

theorem l11_0_eq (x0 : List (List (Int × Int × Int))) (x1 : Int) (x2 : Int) : roundT (cf kt 0) 1101 (loopAt code11 0) (plan (loopAt code11 0) []) ((x0, x1, x2, ()), ()) = l11_0 x0 x1 x2 := by kernel_rfl

theorem r1101 (x0 : List (List (Int × Int × Int))) (x1 : Int) (x2 : Int) {y : PUnit × PUnit ⊕ (Bool × PUnit) × PUnit} (h : (l11_0 x0 x1 x2).wp (SemR Try.prog Γ) (LoopP (fun (x : (List (List (Int × Int × Int)) × Int × Int × PUnit) × PUnit) (y : PUnit × PUnit ⊕ (Bool × PUnit) × PUnit) => SemR Try.prog Γ 1101 x y) y)) : SemR Try.prog Γ 1101 ((x0, x1, x2, ()), ()) y :=
  loop_rule (P := Try.prog) (c := (cf kt 0)) (body := (loopAt code11 0)) (l := []) rfl mixed (by kernel_rfl) (by kernel_rfl) trivial (l11_0_eq x0 x1 x2) h

/-! quincunx/quincunxref04.Check -/
noncomputable def t12 (x0 : List (List (Int × Int × Int))) (x1 : List Int) : Tree Γ ((Int × PUnit) × PUnit) :=
 .ite (decide ((↑(List.length x0) : Int) < 1) || decide ((↑(List.length x0) : Int) > 2000) || (↑(List.length x1) : Int) != (↑(List.length x0) : Int)) (
  .ret (((30, ()), ()))) (
  .act 1201 ((((↑(List.length x0) : Int), (↑(List.length x0) : Int), 0, ()), (x0, x1, ()), ())) (fun y => match y with
   | (.inl ((), ())) =>
    .ret (((0, ()), ()))
   | (.inr ((y0, ()), ())) =>
    .ret (((y0, ()), ()))))

theorem t12_eq (x0 : List (List (Int × Int × Int))) (x1 : List Int) : funT (cf kt 0) 1200 Try.f12 code12 (plan code12 [1201]) (((x0, x1), ()), ()) = t12 x0 x1 := by kernel_rfl

theorem r1200 (x0 : List (List (Int × Int × Int))) (x1 : List Int) {y : ((Int × PUnit) × PUnit)} (h : (t12 x0 x1).wp (SemR Try.prog Γ) (fun z => y = z)) : SemR Try.prog Γ 1200 (((x0, x1), ()), ()) y :=
  fn_rule (P := Try.prog) (c := (cf kt 0)) (code := code12) (l := [1201]) rfl mixed (by kernel_rfl) Try.func12 (by kernel_rfl) (by kernel_rfl) ⟨by kernel_rfl, trivial⟩ (by kernel_rfl) (t12_eq x0 x1) h

noncomputable def l12_0 (x0 : Int) (x1 : Int) (x2 : Int) (x3 : List (List (Int × Int × Int))) (x4 : List Int) : Tree Γ ((Int × Int × Int × PUnit) × (List (List (Int × Int × Int)) × List Int × PUnit) × PUnit ⊕ PUnit × PUnit ⊕ (Int × PUnit) × PUnit) :=
 .ite (decide (x2 < x1)) (
  .chk (decide (0 ≤ x2)) (
  .chk (decide (x2 < (↑(List.length x4) : Int))) (
  .ite (decide (List.getD x4 (Int.toNat x2) 0 < -1)) (
   .ret (Sum.inr (Sum.inr ((30, ()), ())))) (
   .chk (decide (0 ≤ x2)) (
   .chk (decide (x2 < (↑(List.length x3) : Int))) (
   .act 1202 (((x0, x2, x1, x2, List.getD x3 (Int.toNat x2) [], (↑(List.length (List.getD x3 (Int.toNat x2) [])) : Int), 0, ()), (x3, x4, ()), ())) (fun y => match y with
    | (.inl ((y0, y1, y2, ()), (y3, y4, ()), ())) =>
     .ret (Sum.inl ((y0, y1, IntKind.wrap IntKind.i64 (y2 + 1), ()), (y3, y4, ()), ()))
    | (.inr ((y0, ()), ())) =>
     .ret (Sum.inr (Sum.inr ((y0, ()), ())))))))))) (
  .ret (Sum.inr (Sum.inl ((), ()))))

theorem l12_0_eq (x0 : Int) (x1 : Int) (x2 : Int) (x3 : List (List (Int × Int × Int))) (x4 : List Int) : roundT (cf kt 0) 1201 (loopAt code12 0) (plan (loopAt code12 0) [1202]) ((x0, x1, x2, ()), (x3, x4, ()), ()) = l12_0 x0 x1 x2 x3 x4 := by kernel_rfl

theorem r1201 (x0 : Int) (x1 : Int) (x2 : Int) (x3 : List (List (Int × Int × Int))) (x4 : List Int) {y : PUnit × PUnit ⊕ (Int × PUnit) × PUnit} (h : (l12_0 x0 x1 x2 x3 x4).wp (SemR Try.prog Γ) (LoopP (fun (x : (Int × Int × Int × PUnit) × (List (List (Int × Int × Int)) × List Int × PUnit) × PUnit) (y : PUnit × PUnit ⊕ (Int × PUnit) × PUnit) => SemR Try.prog Γ 1201 x y) y)) : SemR Try.prog Γ 1201 ((x0, x1, x2, ()), (x3, x4, ()), ()) y :=
  loop_rule (P := Try.prog) (c := (cf kt 0)) (body := (loopAt code12 0)) (l := [1202]) rfl mixed (by kernel_rfl) (by kernel_rfl) ⟨by kernel_rfl, trivial⟩ (l12_0_eq x0 x1 x2 x3 x4) h

noncomputable def l12_1 (x0 : Int) (x1 : Int) (x2 : Int) (x3 : Int) (x4 : List (Int × Int × Int)) (x5 : Int) (x6 : Int) (x7 : List (List (Int × Int × Int))) (x8 : List Int) : Tree Γ ((Int × Int × Int × Int × List (Int × Int × Int) × Int × Int × PUnit) × (List (List (Int × Int × Int)) × List Int × PUnit) × PUnit ⊕ (Int × Int × Int × PUnit) × (List (List (Int × Int × Int)) × List Int × PUnit) × PUnit ⊕ (Int × PUnit) × PUnit) :=
 .ite (decide (x6 < x5)) (
  .chk (decide (0 ≤ x6)) (
  .chk (decide (x6 < (↑(List.length x4) : Int))) (
  .ite (decide ((List.getD x4 (Int.toNat x6) (0, 0, 0)).fst > (List.getD x4 (Int.toNat x6) (0, 0, 0)).snd.fst) || decide ((List.getD x4 (Int.toNat x6) (0, 0, 0)).snd.snd < 0) || decide ((List.getD x4 (Int.toNat x6) (0, 0, 0)).snd.snd ≥ x0)) (
   .ret (Sum.inr (Sum.inr ((30, ()), ())))) (
   .ite (x6 == 0) (
    .ret (Sum.inl ((x0, x1, x2, x3, x4, x5, IntKind.wrap IntKind.i64 (x6 + 1), ()), (x7, x8, ()), ()))) (
    .chk (decide (0 ≤ x1)) (
    .chk (decide (x1 < (↑(List.length x7) : Int))) (
    .chk (decide (0 ≤ IntKind.wrap IntKind.i64 (x6 - 1))) (
    .chk (decide (IntKind.wrap IntKind.i64 (x6 - 1) < (↑(List.length (List.getD x7 (Int.toNat x1) [])) : Int))) (
    .ite (decide ((List.getD x4 (Int.toNat x6) (0, 0, 0)).fst ≤ (List.getD (List.getD x7 (Int.toNat x1) []) (Int.toNat (IntKind.wrap IntKind.i64 (x6 - 1))) (0, 0, 0)).snd.fst)) (
     .ret (Sum.inr (Sum.inr ((30, ()), ())))) (
     .ite (IntKind.wrap IntKind.i64 (List.getD x4 (Int.toNat x6) (0, 0, 0)).fst == IntKind.wrap IntKind.i64 (IntKind.wrap IntKind.i64 (List.getD (List.getD x7 (Int.toNat x1) []) (Int.toNat (IntKind.wrap IntKind.i64 (x6 - 1))) (0, 0, 0)).snd.fst + 1) && (List.getD x4 (Int.toNat x6) (0, 0, 0)).snd.snd == (List.getD (List.getD x7 (Int.toNat x1) []) (Int.toNat (IntKind.wrap IntKind.i64 (x6 - 1))) (0, 0, 0)).snd.snd) (
      .ret (Sum.inr (Sum.inr ((30, ()), ())))) (
      .ret (Sum.inl ((x0, x1, x2, x3, x4, x5, IntKind.wrap IntKind.i64 (x6 + 1), ()), (x7, x8, ()), ()))))))))))))) (
  .ret (Sum.inr (Sum.inl ((x0, x2, x3, ()), (x7, x8, ()), ()))))

theorem l12_1_eq (x0 : Int) (x1 : Int) (x2 : Int) (x3 : Int) (x4 : List (Int × Int × Int)) (x5 : Int) (x6 : Int) (x7 : List (List (Int × Int × Int))) (x8 : List Int) : roundT (cf kt 0) 1202 (loopAt (loopAt code12 0) 0) (plan (loopAt (loopAt code12 0) 0) []) ((x0, x1, x2, x3, x4, x5, x6, ()), (x7, x8, ()), ()) = l12_1 x0 x1 x2 x3 x4 x5 x6 x7 x8 := by kernel_rfl

theorem r1202 (x0 : Int) (x1 : Int) (x2 : Int) (x3 : Int) (x4 : List (Int × Int × Int)) (x5 : Int) (x6 : Int) (x7 : List (List (Int × Int × Int))) (x8 : List Int) {y : (Int × Int × Int × PUnit) × (List (List (Int × Int × Int)) × List Int × PUnit) × PUnit ⊕ (Int × PUnit) × PUnit} (h : (l12_1 x0 x1 x2 x3 x4 x5 x6 x7 x8).wp (SemR Try.prog Γ) (LoopP (fun (x : (Int × Int × Int × Int × List (Int × Int × Int) × Int × Int × PUnit) × (List (List (Int × Int × Int)) × List Int × PUnit) × PUnit) (y : (Int × Int × Int × PUnit) × (List (List (Int × Int × Int)) × List Int × PUnit) × PUnit ⊕ (Int × PUnit) × PUnit) => SemR Try.prog Γ 1202 x y) y)) : SemR Try.prog Γ 1202 ((x0, x1, x2, x3, x4, x5, x6, ()), (x7, x8, ()), ()) y :=
  loop_rule (P := Try.prog) (c := (cf kt 0)) (body := (loopAt (loopAt code12 0) 0)) (l := []) rfl mixed (by kernel_rfl) (by kernel_rfl) trivial (l12_1_eq x0 x1 x2 x3 x4 x5 x6 x7 x8) h

/-! quincunx/quincunxref03.SameInts -/
noncomputable def t15 (x0 : List Int) (x1 : List Int) : Tree Γ ((Bool × PUnit) × PUnit) :=
 .ite ((↑(List.length x0) : Int) != (↑(List.length x1) : Int)) (
  .ret (((false, ()), ()))) (
  .act 1501 (((x0, x1, (↑(List.length x0) : Int), 0, ()), ())) (fun y => match y with
   | (.inl ((), ())) =>
    .ret (((true, ()), ()))
   | (.inr ((y0, ()), ())) =>
    .ret (((y0, ()), ()))))

theorem t15_eq (x0 : List Int) (x1 : List Int) : funT (cf kt 0) 1500 Try.f15 code15 (plan code15 [1501]) ((x0, x1, ()), ()) = t15 x0 x1 := by kernel_rfl

theorem r1500 (x0 : List Int) (x1 : List Int) {y : ((Bool × PUnit) × PUnit)} (h : (t15 x0 x1).wp (SemR Try.prog Γ) (fun z => y = z)) : SemR Try.prog Γ 1500 ((x0, x1, ()), ()) y :=
  fn_rule (P := Try.prog) (c := (cf kt 0)) (code := code15) (l := [1501]) rfl mixed (by kernel_rfl) Try.func15 (by kernel_rfl) (by kernel_rfl) ⟨by kernel_rfl, trivial⟩ (by kernel_rfl) (t15_eq x0 x1) h

noncomputable def l15_0 (x0 : List Int) (x1 : List Int) (x2 : Int) (x3 : Int) : Tree Γ ((List Int × List Int × Int × Int × PUnit) × PUnit ⊕ PUnit × PUnit ⊕ (Bool × PUnit) × PUnit) :=
 .ite (decide (x3 < x2)) (
  .chk (decide (0 ≤ x3)) (
  .chk (decide (x3 < (↑(List.length x0) : Int))) (
  .chk (decide (0 ≤ x3)) (
  .chk (decide (x3 < (↑(List.length x1) : Int))) (
  .ite (List.getD x0 (Int.toNat x3) 0 != List.getD x1 (Int.toNat x3) 0) (
   .ret (Sum.inr (Sum.inr ((false, ()), ())))) (
   .ret (Sum.inl ((x0, x1, x2, IntKind.wrap IntKind.i64 (x3 + 1), ()), ())))))))) (
  .ret (Sum.inr (Sum.inl ((), ()))))

theorem l15_0_eq (x0 : List Int) (x1 : List Int) (x2 : Int) (x3 : Int) : roundT (cf kt 0) 1501 (loopAt code15 0) (plan (loopAt code15 0) []) ((x0, x1, x2, x3, ()), ()) = l15_0 x0 x1 x2 x3 := by kernel_rfl

theorem r1501 (x0 : List Int) (x1 : List Int) (x2 : Int) (x3 : Int) {y : PUnit × PUnit ⊕ (Bool × PUnit) × PUnit} (h : (l15_0 x0 x1 x2 x3).wp (SemR Try.prog Γ) (LoopP (fun (x : (List Int × List Int × Int × Int × PUnit) × PUnit) (y : PUnit × PUnit ⊕ (Bool × PUnit) × PUnit) => SemR Try.prog Γ 1501 x y) y)) : SemR Try.prog Γ 1501 ((x0, x1, x2, x3, ()), ()) y :=
  loop_rule (P := Try.prog) (c := (cf kt 0)) (body := (loopAt code15 0)) (l := []) rfl mixed (by kernel_rfl) (by kernel_rfl) trivial (l15_0_eq x0 x1 x2 x3) h

/-! quincunx/quincunxref04.Same -/
noncomputable def t20 (x0 : List (List (Int × Int × Int))) (x1 : List Int) (x2 : List (List (Int × Int × Int))) (x3 : List Int) : Tree Γ ((Bool × PUnit) × PUnit) :=
 .act 1500 (((x1, x3, ()), ())) (fun y => match y with
  | ((y0, ()), ()) =>
   .ite (!y0 || (↑(List.length x0) : Int) != (↑(List.length x2) : Int)) (
    .ret (((false, ()), ()))) (
    .act 2001 ((((↑(List.length x0) : Int), 0, ()), (x0, x1, ()), (x2, x3, ()), ())) (fun y => match y with
     | (.inl ((), ())) =>
      .ret (((true, ()), ()))
     | (.inr ((y1, ()), ())) =>
      .ret (((y1, ()), ())))))

theorem t20_eq (x0 : List (List (Int × Int × Int))) (x1 : List Int) (x2 : List (List (Int × Int × Int))) (x3 : List Int) : funT (cf kt 0) 2000 Try.f20 code20 (plan code20 [2001]) (((x0, x1), (x2, x3), ()), ()) = t20 x0 x1 x2 x3 := by kernel_rfl

theorem r2000 (x0 : List (List (Int × Int × Int))) (x1 : List Int) (x2 : List (List (Int × Int × Int))) (x3 : List Int) {y : ((Bool × PUnit) × PUnit)} (h : (t20 x0 x1 x2 x3).wp (SemR Try.prog Γ) (fun z => y = z)) : SemR Try.prog Γ 2000 (((x0, x1), (x2, x3), ()), ()) y :=
  fn_rule (P := Try.prog) (c := (cf kt 0)) (code := code20) (l := [2001]) rfl mixed (by kernel_rfl) Try.func20 (by kernel_rfl) (by kernel_rfl) ⟨by kernel_rfl, trivial⟩ (by kernel_rfl) (t20_eq x0 x1 x2 x3) h

noncomputable def l20_0 (x0 : Int) (x1 : Int) (x2 : List (List (Int × Int × Int))) (x3 : List Int) (x4 : List (List (Int × Int × Int))) (x5 : List Int) : Tree Γ ((Int × Int × PUnit) × (List (List (Int × Int × Int)) × List Int × PUnit) × (List (List (Int × Int × Int)) × List Int × PUnit) × PUnit ⊕ PUnit × PUnit ⊕ (Bool × PUnit) × PUnit) :=
 .ite (decide (x1 < x0)) (
  .chk (decide (0 ≤ x1)) (
  .chk (decide (x1 < (↑(List.length x2) : Int))) (
  .chk (decide (0 ≤ x1)) (
  .chk (decide (x1 < (↑(List.length x4) : Int))) (
  .ite ((↑(List.length (List.getD x2 (Int.toNat x1) [])) : Int) != (↑(List.length (List.getD x4 (Int.toNat x1) [])) : Int)) (
   .ret (Sum.inr (Sum.inr ((false, ()), ())))) (
   .chk (decide (0 ≤ x1)) (
   .chk (decide (x1 < (↑(List.length x2) : Int))) (
   .act 2002 (((x1, x0, x1, (↑(List.length (List.getD x2 (Int.toNat x1) [])) : Int), 0, ()), (x2, x3, ()), (x4, x5, ()), ())) (fun y => match y with
    | (.inl ((y0, y1, ()), (y2, y3, ()), (y4, y5, ()), ())) =>
     .ret (Sum.inl ((y0, IntKind.wrap IntKind.i64 (y1 + 1), ()), (y2, y3, ()), (y4, y5, ()), ()))
    | (.inr ((y0, ()), ())) =>
     .ret (Sum.inr (Sum.inr ((y0, ()), ())))))))))))) (
  .ret (Sum.inr (Sum.inl ((), ()))))

theorem l20_0_eq (x0 : Int) (x1 : Int) (x2 : List (List (Int × Int × Int))) (x3 : List Int) (x4 : List (List (Int × Int × Int))) (x5 : List Int) : roundT (cf kt 0) 2001 (loopAt code20 0) (plan (loopAt code20 0) [2002]) ((x0, x1, ()), (x2, x3, ()), (x4, x5, ()), ()) = l20_0 x0 x1 x2 x3 x4 x5 := by kernel_rfl

theorem r2001 (x0 : Int) (x1 : Int) (x2 : List (List (Int × Int × Int))) (x3 : List Int) (x4 : List (List (Int × Int × Int))) (x5 : List Int) {y : PUnit × PUnit ⊕ (Bool × PUnit) × PUnit} (h : (l20_0 x0 x1 x2 x3 x4 x5).wp (SemR Try.prog Γ) (LoopP (fun (x : (Int × Int × PUnit) × (List (List (Int × Int × Int)) × List Int × PUnit) × (List (List (Int × Int × Int)) × List Int × PUnit) × PUnit) (y : PUnit × PUnit ⊕ (Bool × PUnit) × PUnit) => SemR Try.prog Γ 2001 x y) y)) : SemR Try.prog Γ 2001 ((x0, x1, ()), (x2, x3, ()), (x4, x5, ()), ()) y :=
  loop_rule (P := Try.prog) (c := (cf kt 0)) (body := (loopAt code20 0)) (l := [2002]) rfl mixed (by kernel_rfl) (by kernel_rfl) ⟨by kernel_rfl, trivial⟩ (l20_0_eq x0 x1 x2 x3 x4 x5) h

noncomputable def l20_1 (x0 : Int) (x1 : Int) (x2 : Int) (x3 : Int) (x4 : Int) (x5 : List (List (Int × Int × Int))) (x6 : List Int) (x7 : List (List (Int × Int × Int))) (x8 : List Int) : Tree Γ ((Int × Int × Int × Int × Int × PUnit) × (List (List (Int × Int × Int)) × List Int × PUnit) × (List (List (Int × Int × Int)) × List Int × PUnit) × PUnit ⊕ (Int × Int × PUnit) × (List (List (Int × Int × Int)) × List Int × PUnit) × (List (List (Int × Int × Int)) × List Int × PUnit) × PUnit ⊕ (Bool × PUnit) × PUnit) :=
 .ite (decide (x4 < x3)) (
  .chk (decide (0 ≤ x0)) (
  .chk (decide (x0 < (↑(List.length x5) : Int))) (
  .chk (decide (0 ≤ x4)) (
  .chk (decide (x4 < (↑(List.length (List.getD x5 (Int.toNat x0) [])) : Int))) (
  .chk (decide (0 ≤ x0)) (
  .chk (decide (x0 < (↑(List.length x7) : Int))) (
  .chk (decide (0 ≤ x4)) (
  .chk (decide (x4 < (↑(List.length (List.getD x7 (Int.toNat x0) [])) : Int))) (
  .ite (!eqEl tM ((List.getD (List.getD x5 (Int.toNat x0) []) (Int.toNat x4) (0, 0, 0)).fst, (List.getD (List.getD x5 (Int.toNat x0) []) (Int.toNat x4) (0, 0, 0)).snd.fst, (List.getD (List.getD x5 (Int.toNat x0) []) (Int.toNat x4) (0, 0, 0)).snd.snd) ((List.getD (List.getD x7 (Int.toNat x0) []) (Int.toNat x4) (0, 0, 0)).fst, (List.getD (List.getD x7 (Int.toNat x0) []) (Int.toNat x4) (0, 0, 0)).snd.fst, (List.getD (List.getD x7 (Int.toNat x0) []) (Int.toNat x4) (0, 0, 0)).snd.snd)) (
   .ret (Sum.inr (Sum.inr ((false, ()), ())))) (
   .ret (Sum.inl ((x0, x1, x2, x3, IntKind.wrap IntKind.i64 (x4 + 1), ()), (x5, x6, ()), (x7, x8, ()), ())))))))))))) (
  .ret (Sum.inr (Sum.inl ((x1, x2, ()), (x5, x6, ()), (x7, x8, ()), ()))))

theorem l20_1_eq (x0 : Int) (x1 : Int) (x2 : Int) (x3 : Int) (x4 : Int) (x5 : List (List (Int × Int × Int))) (x6 : List Int) (x7 : List (List (Int × Int × Int))) (x8 : List Int) : roundT (cf kt 0) 2002 (loopAt (loopAt code20 0) 0) (plan (loopAt (loopAt code20 0) 0) []) ((x0, x1, x2, x3, x4, ()), (x5, x6, ()), (x7, x8, ()), ()) = l20_1 x0 x1 x2 x3 x4 x5 x6 x7 x8 := by kernel_rfl

theorem r2002 (x0 : Int) (x1 : Int) (x2 : Int) (x3 : Int) (x4 : Int) (x5 : List (List (Int × Int × Int))) (x6 : List Int) (x7 : List (List (Int × Int × Int))) (x8 : List Int) {y : (Int × Int × PUnit) × (List (List (Int × Int × Int)) × List Int × PUnit) × (List (List (Int × Int × Int)) × List Int × PUnit) × PUnit ⊕ (Bool × PUnit) × PUnit} (h : (l20_1 x0 x1 x2 x3 x4 x5 x6 x7 x8).wp (SemR Try.prog Γ) (LoopP (fun (x : (Int × Int × Int × Int × Int × PUnit) × (List (List (Int × Int × Int)) × List Int × PUnit) × (List (List (Int × Int × Int)) × List Int × PUnit) × PUnit) (y : (Int × Int × PUnit) × (List (List (Int × Int × Int)) × List Int × PUnit) × (List (List (Int × Int × Int)) × List Int × PUnit) × PUnit ⊕ (Bool × PUnit) × PUnit) => SemR Try.prog Γ 2002 x y) y)) : SemR Try.prog Γ 2002 ((x0, x1, x2, x3, x4, ()), (x5, x6, ()), (x7, x8, ()), ()) y :=
  loop_rule (P := Try.prog) (c := (cf kt 0)) (body := (loopAt (loopAt code20 0) 0)) (l := []) rfl mixed (by kernel_rfl) (by kernel_rfl) trivial (l20_1_eq x0 x1 x2 x3 x4 x5 x6 x7 x8) h

/-! quincunx/quincunxref04.Run -/
noncomputable def t23 (x0 : List (List (Int × Int × Int))) (x1 : List Int) (x2 : ByteArray) : Tree Γ ((Int × PUnit) × PUnit) :=
 .act 2301 (((x2, 0, 0, ()), (x0, x1, ()), ())) (fun y => match y with
  | ((y0, ()), (y1, y2, ()), ()) =>
   .ite (decide (y0 < 0) || decide (y0 ≥ (↑(List.length y2) : Int))) (
    .ret (((-1, ()), ()))) (
    .chk (decide (0 ≤ y0)) (
    .chk (decide (y0 < (↑(List.length y2) : Int))) (
    .ret (((List.getD y2 (Int.toNat y0) 0, ()), ()))))))

theorem t23_eq (x0 : List (List (Int × Int × Int))) (x1 : List Int) (x2 : ByteArray) : funT (cf kt 0) 2300 Try.f23 code23 (plan code23 [2301]) (((x0, x1), x2, ()), ()) = t23 x0 x1 x2 := by kernel_rfl

theorem r2300 (x0 : List (List (Int × Int × Int))) (x1 : List Int) (x2 : ByteArray) {y : ((Int × PUnit) × PUnit)} (h : (t23 x0 x1 x2).wp (SemR Try.prog Γ) (fun z => y = z)) : SemR Try.prog Γ 2300 (((x0, x1), x2, ()), ()) y :=
  fn_rule (P := Try.prog) (c := (cf kt 0)) (code := code23) (l := [2301]) rfl mixed (by kernel_rfl) Try.func23 (by kernel_rfl) (by kernel_rfl) ⟨by kernel_rfl, trivial⟩ (by kernel_rfl) (t23_eq x0 x1 x2) h

noncomputable def l23_0 (x0 : ByteArray) (x1 : Int) (x2 : Int) (x3 : List (List (Int × Int × Int))) (x4 : List Int) : Tree Γ ((ByteArray × Int × Int × PUnit) × (List (List (Int × Int × Int)) × List Int × PUnit) × PUnit ⊕ (Int × PUnit) × (List (List (Int × Int × Int)) × List Int × PUnit) × PUnit) :=
 .ite (decide (x2 < (↑(ByteArray.size x0) : Int))) (
  .chk (decide (0 ≤ x2)) (
  .chk (decide (x2 < (↑(ByteArray.size x0) : Int))) (
  .act 2700 ((((x3, x4), x1, bt x0 x2, ()), ())) (fun y => match y with
   | ((y0, ()), ()) =>
    .ret (Sum.inl ((x0, y0, IntKind.wrap IntKind.i64 (x2 + 1), ()), (x3, x4, ()), ())))))) (
  .ret (Sum.inr ((x1, ()), (x3, x4, ()), ())))

theorem l23_0_eq (x0 : ByteArray) (x1 : Int) (x2 : Int) (x3 : List (List (Int × Int × Int))) (x4 : List Int) : roundT (cf kt 0) 2301 (loopAt code23 0) (plan (loopAt code23 0) []) ((x0, x1, x2, ()), (x3, x4, ()), ()) = l23_0 x0 x1 x2 x3 x4 := by kernel_rfl

theorem r2301 (x0 : ByteArray) (x1 : Int) (x2 : Int) (x3 : List (List (Int × Int × Int))) (x4 : List Int) {y : (Int × PUnit) × (List (List (Int × Int × Int)) × List Int × PUnit) × PUnit} (h : (l23_0 x0 x1 x2 x3 x4).wp (SemR Try.prog Γ) (LoopP (fun (x : (ByteArray × Int × Int × PUnit) × (List (List (Int × Int × Int)) × List Int × PUnit) × PUnit) (y : (Int × PUnit) × (List (List (Int × Int × Int)) × List Int × PUnit) × PUnit) => SemR Try.prog Γ 2301 x y) y)) : SemR Try.prog Γ 2301 ((x0, x1, x2, ()), (x3, x4, ()), ()) y :=
  loop_rule (P := Try.prog) (c := (cf kt 0)) (body := (loopAt code23 0)) (l := []) rfl mixed (by kernel_rfl) (by kernel_rfl) trivial (l23_0_eq x0 x1 x2 x3 x4) h

/-! quincunx/dfa.Check -/
noncomputable def t26 (x0 : List (List (Int × Int × Int))) (x1 : List Int) : Tree Γ ((Int × PUnit) × PUnit) :=
 .ite ((↑(List.length x0) : Int) == 0 || decide ((↑(List.length x0) : Int) > 2000) || (↑(List.length x1) : Int) != (↑(List.length x0) : Int)) (
  .ret (((30, ()), ()))) (
  .act 3300 (((x1, ()), ())) (fun y => match y with
   | ((y0, ()), ()) =>
    .ite (decide (y0 < -1)) (
     .ret (((30, ()), ()))) (
     .act 2601 (((x0, (↑(List.length x0) : Int), 0, ()), (x0, x1, ()), ())) (fun y => match y with
      | (.inl ((), ())) =>
       .ret (((0, ()), ()))
      | (.inr ((y1, ()), ())) =>
       .ret (((y1, ()), ()))))))

theorem t26_eq (x0 : List (List (Int × Int × Int))) (x1 : List Int) : funT (cf kt 0) 2600 Try.f26 code26 (plan code26 [2601]) (((x0, x1), ()), ()) = t26 x0 x1 := by kernel_rfl

theorem r2600 (x0 : List (List (Int × Int × Int))) (x1 : List Int) {y : ((Int × PUnit) × PUnit)} (h : (t26 x0 x1).wp (SemR Try.prog Γ) (fun z => y = z)) : SemR Try.prog Γ 2600 (((x0, x1), ()), ()) y :=
  fn_rule (P := Try.prog) (c := (cf kt 0)) (code := code26) (l := [2601]) rfl mixed (by kernel_rfl) Try.func26 (by kernel_rfl) (by kernel_rfl) ⟨by kernel_rfl, trivial⟩ (by kernel_rfl) (t26_eq x0 x1) h

noncomputable def l26_0 (x0 : List (List (Int × Int × Int))) (x1 : Int) (x2 : Int) (x3 : List (List (Int × Int × Int))) (x4 : List Int) : Tree Γ ((List (List (Int × Int × Int)) × Int × Int × PUnit) × (List (List (Int × Int × Int)) × List Int × PUnit) × PUnit ⊕ PUnit × PUnit ⊕ (Int × PUnit) × PUnit) :=
 .ite (decide (x2 < x1)) (
  .chk (decide (0 ≤ x2)) (
  .chk (decide (x2 < (↑(List.length x0) : Int))) (
  .act 2602 (((-1, x0, x1, x2, List.getD x0 (Int.toNat x2) [], (↑(List.length (List.getD x0 (Int.toNat x2) [])) : Int), 0, ()), (x3, x4, ()), (0, 0, -1, ()), ())) (fun y => match y with
   | (.inl ((y0, y1, y2, ()), (y3, y4, ()), ())) =>
    .ret (Sum.inl ((y0, y1, IntKind.wrap IntKind.i64 (y2 + 1), ()), (y3, y4, ()), ()))
   | (.inr ((y0, ()), ())) =>
    .ret (Sum.inr (Sum.inr ((y0, ()), ()))))))) (
  .ret (Sum.inr (Sum.inl ((), ()))))

theorem l26_0_eq (x0 : List (List (Int × Int × Int))) (x1 : Int) (x2 : Int) (x3 : List (List (Int × Int × Int))) (x4 : List Int) : roundT (cf kt 0) 2601 (loopAt code26 0) (plan (loopAt code26 0) [2602]) ((x0, x1, x2, ()), (x3, x4, ()), ()) = l26_0 x0 x1 x2 x3 x4 := by kernel_rfl

theorem r2601 (x0 : List (List (Int × Int × Int))) (x1 : Int) (x2 : Int) (x3 : List (List (Int × Int × Int))) (x4 : List Int) {y : PUnit × PUnit ⊕ (Int × PUnit) × PUnit} (h : (l26_0 x0 x1 x2 x3 x4).wp (SemR Try.prog Γ) (LoopP (fun (x : (List (List (Int × Int × Int)) × Int × Int × PUnit) × (List (List (Int × Int × Int)) × List Int × PUnit) × PUnit) (y : PUnit × PUnit ⊕ (Int × PUnit) × PUnit) => SemR Try.prog Γ 2601 x y) y)) : SemR Try.prog Γ 2601 ((x0, x1, x2, ()), (x3, x4, ()), ()) y :=
  loop_rule (P := Try.prog) (c := (cf kt 0)) (body := (loopAt code26 0)) (l := [2602]) rfl mixed (by kernel_rfl) (by kernel_rfl) ⟨by kernel_rfl, trivial⟩ (l26_0_eq x0 x1 x2 x3 x4) h

noncomputable def l26_1 (x0 : Int) (x1 : List (List (Int × Int × Int))) (x2 : Int) (x3 : Int) (x4 : List (Int × Int × Int)) (x5 : Int) (x6 : Int) (x7 : List (List (Int × Int × Int))) (x8 : List Int) (x9 : Int) (x10 : Int) (x11 : Int) : Tree Γ ((Int × List (List (Int × Int × Int)) × Int × Int × List (Int × Int × Int) × Int × Int × PUnit) × (List (List (Int × Int × Int)) × List Int × PUnit) × (Int × Int × Int × PUnit) × PUnit ⊕ (List (List (Int × Int × Int)) × Int × Int × PUnit) × (List (List (Int × Int × Int)) × List Int × PUnit) × PUnit ⊕ (Int × PUnit) × PUnit) :=
 .ite (decide (x6 < x5)) (
  .chk (decide (0 ≤ x6)) (
  .chk (decide (x6 < (↑(List.length x4) : Int))) (
  .ite (decide ((List.getD x4 (Int.toNat x6) (0, 0, 0)).fst > (List.getD x4 (Int.toNat x6) (0, 0, 0)).snd.fst) || decide ((List.getD x4 (Int.toNat x6) (0, 0, 0)).snd.snd < 0) || decide ((List.getD x4 (Int.toNat x6) (0, 0, 0)).snd.snd ≥ (↑(List.length x7) : Int)) || decide (IntKind.wrap IntKind.i64 (List.getD x4 (Int.toNat x6) (0, 0, 0)).fst ≤ x0)) (
   .ret (Sum.inr (Sum.inr ((30, ()), ())))) (
   .ite (IntKind.wrap IntKind.i64 (List.getD x4 (Int.toNat x6) (0, 0, 0)).fst == IntKind.wrap IntKind.i64 (x0 + 1) && (List.getD x4 (Int.toNat x6) (0, 0, 0)).snd.snd == x11) (
    .ret (Sum.inr (Sum.inr ((30, ()), ())))) (
    .ret (Sum.inl ((IntKind.wrap IntKind.i64 (List.getD x4 (Int.toNat x6) (0, 0, 0)).snd.fst, x1, x2, x3, x4, x5, IntKind.wrap IntKind.i64 (x6 + 1), ()), (x7, x8, ()), ((List.getD x4 (Int.toNat x6) (0, 0, 0)).fst, (List.getD x4 (Int.toNat x6) (0, 0, 0)).snd.fst, (List.getD x4 (Int.toNat x6) (0, 0, 0)).snd.snd, ()), ()))))))) (
  .ret (Sum.inr (Sum.inl ((x1, x2, x3, ()), (x7, x8, ()), ()))))

theorem l26_1_eq (x0 : Int) (x1 : List (List (Int × Int × Int))) (x2 : Int) (x3 : Int) (x4 : List (Int × Int × Int)) (x5 : Int) (x6 : Int) (x7 : List (List (Int × Int × Int))) (x8 : List Int) (x9 : Int) (x10 : Int) (x11 : Int) : roundT (cf kt 0) 2602 (loopAt (loopAt code26 0) 0) (plan (loopAt (loopAt code26 0) 0) []) ((x0, x1, x2, x3, x4, x5, x6, ()), (x7, x8, ()), (x9, x10, x11, ()), ()) = l26_1 x0 x1 x2 x3 x4 x5 x6 x7 x8 x9 x10 x11 := by kernel_rfl

theorem r2602 (x0 : Int) (x1 : List (List (Int × Int × Int))) (x2 : Int) (x3 : Int) (x4 : List (Int × Int × Int)) (x5 : Int) (x6 : Int) (x7 : List (List (Int × Int × Int))) (x8 : List Int) (x9 : Int) (x10 : Int) (x11 : Int) {y : (List (List (Int × Int × Int)) × Int × Int × PUnit) × (List (List (Int × Int × Int)) × List Int × PUnit) × PUnit ⊕ (Int × PUnit) × PUnit} (h : (l26_1 x0 x1 x2 x3 x4 x5 x6 x7 x8 x9 x10 x11).wp (SemR Try.prog Γ) (LoopP (fun (x : (Int × List (List (Int × Int × Int)) × Int × Int × List (Int × Int × Int) × Int × Int × PUnit) × (List (List (Int × Int × Int)) × List Int × PUnit) × (Int × Int × Int × PUnit) × PUnit) (y : (List (List (Int × Int × Int)) × Int × Int × PUnit) × (List (List (Int × Int × Int)) × List Int × PUnit) × PUnit ⊕ (Int × PUnit) × PUnit) => SemR Try.prog Γ 2602 x y) y)) : SemR Try.prog Γ 2602 ((x0, x1, x2, x3, x4, x5, x6, ()), (x7, x8, ()), (x9, x10, x11, ()), ()) y :=
  loop_rule (P := Try.prog) (c := (cf kt 0)) (body := (loopAt (loopAt code26 0) 0)) (l := []) rfl mixed (by kernel_rfl) (by kernel_rfl) trivial (l26_1_eq x0 x1 x2 x3 x4 x5 x6 x7 x8 x9 x10 x11) h

/-! quincunx/quincunxref04.Next -/
noncomputable def t27 (x0 : List (List (Int × Int × Int))) (x1 : List Int) (x2 : Int) (x3 : Int) : Tree Γ ((Int × PUnit) × PUnit) :=
 .ite (decide (x2 < 0) || decide (x2 ≥ (↑(List.length x0) : Int))) (
  .ret (((-1, ()), ()))) (
  .chk (decide (0 ≤ x2)) (
  .chk (decide (x2 < (↑(List.length x0) : Int))) (
  .act 2701 (((x3, List.getD x0 (Int.toNat x2) [], (↑(List.length (List.getD x0 (Int.toNat x2) [])) : Int), 0, ()), ())) (fun y => match y with
   | (.inl ((), ())) =>
    .ret (((-1, ()), ()))
   | (.inr ((y0, ()), ())) =>
    .ret (((y0, ()), ()))))))

theorem t27_eq (x0 : List (List (Int × Int × Int))) (x1 : List Int) (x2 : Int) (x3 : Int) : funT (cf kt 0) 2700 Try.f27 code27 (plan code27 [2701]) (((x0, x1), x2, x3, ()), ()) = t27 x0 x1 x2 x3 := by kernel_rfl

theorem r2700 (x0 : List (List (Int × Int × Int))) (x1 : List Int) (x2 : Int) (x3 : Int) {y : ((Int × PUnit) × PUnit)} (h : (t27 x0 x1 x2 x3).wp (SemR Try.prog Γ) (fun z => y = z)) : SemR Try.prog Γ 2700 (((x0, x1), x2, x3, ()), ()) y :=
  fn_rule (P := Try.prog) (c := (cf kt 0)) (code := code27) (l := [2701]) rfl mixed (by kernel_rfl) Try.func27 (by kernel_rfl) (by kernel_rfl) ⟨by kernel_rfl, trivial⟩ (by kernel_rfl) (t27_eq x0 x1 x2 x3) h

noncomputable def l27_0 (x0 : Int) (x1 : List (Int × Int × Int)) (x2 : Int) (x3 : Int) : Tree Γ ((Int × List (Int × Int × Int) × Int × Int × PUnit) × PUnit ⊕ PUnit × PUnit ⊕ (Int × PUnit) × PUnit) :=
 .ite (decide (x3 < x2)) (
  .chk (decide (0 ≤ x3)) (
  .chk (decide (x3 < (↑(List.length x1) : Int))) (
  .ite (decide (x0 ≥ (List.getD x1 (Int.toNat x3) (0, 0, 0)).fst) && decide (x0 ≤ (List.getD x1 (Int.toNat x3) (0, 0, 0)).snd.fst)) (
   .ret (Sum.inr (Sum.inr (((List.getD x1 (Int.toNat x3) (0, 0, 0)).snd.snd, ()), ())))) (
   .ret (Sum.inl ((x0, x1, x2, IntKind.wrap IntKind.i64 (x3 + 1), ()), ())))))) (
  .ret (Sum.inr (Sum.inl ((), ()))))

theorem l27_0_eq (x0 : Int) (x1 : List (Int × Int × Int)) (x2 : Int) (x3 : Int) : roundT (cf kt 0) 2701 (loopAt code27 0) (plan (loopAt code27 0) []) ((x0, x1, x2, x3, ()), ()) = l27_0 x0 x1 x2 x3 := by kernel_rfl

theorem r2701 (x0 : Int) (x1 : List (Int × Int × Int)) (x2 : Int) (x3 : Int) {y : PUnit × PUnit ⊕ (Int × PUnit) × PUnit} (h : (l27_0 x0 x1 x2 x3).wp (SemR Try.prog Γ) (LoopP (fun (x : (Int × List (Int × Int × Int) × Int × Int × PUnit) × PUnit) (y : PUnit × PUnit ⊕ (Int × PUnit) × PUnit) => SemR Try.prog Γ 2701 x y) y)) : SemR Try.prog Γ 2701 ((x0, x1, x2, x3, ()), ()) y :=
  loop_rule (P := Try.prog) (c := (cf kt 0)) (body := (loopAt code27 0)) (l := []) rfl mixed (by kernel_rfl) (by kernel_rfl) trivial (l27_0_eq x0 x1 x2 x3) h

/-! quincunx/least.accepts -/
noncomputable def t29 (x0 : List (List (Int × Int × Int))) (x1 : List Int) (x2 : Int) : Tree Γ ((Int × PUnit) × PUnit) :=
 .ite (decide (x2 < 0)) (
  .ret (((-1, ()), ()))) (
  .chk (decide (0 ≤ x2)) (
  .chk (decide (x2 < (↑(List.length x1) : Int))) (
  .ret (((List.getD x1 (Int.toNat x2) 0, ()), ())))))

theorem t29_eq (x0 : List (List (Int × Int × Int))) (x1 : List Int) (x2 : Int) : funT (cf kt 0) 2900 Try.f29 code29 (plan code29 []) (((x0, x1), x2, ()), ()) = t29 x0 x1 x2 := by kernel_rfl

theorem r2900 (x0 : List (List (Int × Int × Int))) (x1 : List Int) (x2 : Int) {y : ((Int × PUnit) × PUnit)} (h : (t29 x0 x1 x2).wp (SemR Try.prog Γ) (fun z => y = z)) : SemR Try.prog Γ 2900 (((x0, x1), x2, ()), ()) y :=
  fn_rule (P := Try.prog) (c := (cf kt 0)) (code := code29) (l := []) rfl mixed (by kernel_rfl) Try.func29 (by kernel_rfl) (by kernel_rfl) trivial (by kernel_rfl) (t29_eq x0 x1 x2) h

/-! quincunx/quincunxref05.told -/
noncomputable def t31 (x0 : List (List (Int × Int × Int))) (x1 : List Int) (x2 : Int) : Tree Γ ((Int × PUnit) × PUnit) :=
 .ite (decide (x2 < 0) || decide (x2 ≥ (↑(List.length x1) : Int))) (
  .ret (((-1, ()), ()))) (
  .chk (decide (0 ≤ x2)) (
  .chk (decide (x2 < (↑(List.length x1) : Int))) (
  .ret (((List.getD x1 (Int.toNat x2) 0, ()), ())))))

theorem t31_eq (x0 : List (List (Int × Int × Int))) (x1 : List Int) (x2 : Int) : funT (cf kt 0) 3100 Try.f31 code31 (plan code31 []) (((x0, x1), x2, ()), ()) = t31 x0 x1 x2 := by kernel_rfl

theorem r3100 (x0 : List (List (Int × Int × Int))) (x1 : List Int) (x2 : Int) {y : ((Int × PUnit) × PUnit)} (h : (t31 x0 x1 x2).wp (SemR Try.prog Γ) (fun z => y = z)) : SemR Try.prog Γ 3100 (((x0, x1), x2, ()), ()) y :=
  fn_rule (P := Try.prog) (c := (cf kt 0)) (code := code31) (l := []) rfl mixed (by kernel_rfl) Try.func31 (by kernel_rfl) (by kernel_rfl) trivial (by kernel_rfl) (t31_eq x0 x1 x2) h

/-! quincunx/quincunxref05.alike -/
noncomputable def t32 (x0 : List (List (Int × Int × Int))) (x1 : List Int) (x2 : List Int) (x3 : List Bool) (x4 : Int) (x5 : Int) : Tree Γ ((Bool × PUnit) × PUnit) :=
 .chk (decide (0 ≤ x4)) (
 .chk (decide (x4 < (↑(List.length x3) : Int))) (
 .chk (List.getD x3 (Int.toNat x4) false || decide (0 ≤ x5)) (
 .chk (List.getD x3 (Int.toNat x4) false || decide (x5 < (↑(List.length x3) : Int))) (
 .ite (List.getD x3 (Int.toNat x4) false || List.getD x3 (Int.toNat x5) false) (
  .chk (decide (0 ≤ x4)) (
  .chk (decide (x4 < (↑(List.length x3) : Int))) (
  .chk (!List.getD x3 (Int.toNat x4) false || decide (0 ≤ x5)) (
  .chk (!List.getD x3 (Int.toNat x4) false || decide (x5 < (↑(List.length x3) : Int))) (
  .ret (((List.getD x3 (Int.toNat x4) false && List.getD x3 (Int.toNat x5) false, ()), ()))))))) (
  .chk (decide (0 ≤ x4)) (
  .chk (decide (x4 < (↑(List.length x2) : Int))) (
  .chk (decide (0 ≤ x5)) (
  .chk (decide (x5 < (↑(List.length x2) : Int))) (
  .ite (List.getD x2 (Int.toNat x4) 0 != List.getD x2 (Int.toNat x5) 0) (
   .ret (((false, ()), ()))) (
   .act 3201 (((x2, x3, x4, x5, 0, ()), (x0, x1, ()), ())) (fun y => match y with
    | (.inl ((), ())) =>
     .ret (((true, ()), ()))
    | (.inr ((y0, ()), ())) =>
     .ret (((y0, ()), ())))))))))))))

theorem t32_eq (x0 : List (List (Int × Int × Int))) (x1 : List Int) (x2 : List Int) (x3 : List Bool) (x4 : Int) (x5 : Int) : funT (cf kt 0) 3200 Try.f32 code32 (plan code32 [3201]) (((x0, x1), x2, x3, x4, x5, ()), ()) = t32 x0 x1 x2 x3 x4 x5 := by kernel_rfl

theorem r3200 (x0 : List (List (Int × Int × Int))) (x1 : List Int) (x2 : List Int) (x3 : List Bool) (x4 : Int) (x5 : Int) {y : ((Bool × PUnit) × PUnit)} (h : (t32 x0 x1 x2 x3 x4 x5).wp (SemR Try.prog Γ) (fun z => y = z)) : SemR Try.prog Γ 3200 (((x0, x1), x2, x3, x4, x5, ()), ()) y :=
  fn_rule (P := Try.prog) (c := (cf kt 0)) (code := code32) (l := [3201]) rfl mixed (by kernel_rfl) Try.func32 (by kernel_rfl) (by kernel_rfl) ⟨by kernel_rfl, trivial⟩ (by kernel_rfl) (t32_eq x0 x1 x2 x3 x4 x5) h

noncomputable def l32_0 (x0 : List Int) (x1 : List Bool) (x2 : Int) (x3 : Int) (x4 : Int) (x5 : List (List (Int × Int × Int))) (x6 : List Int) : Tree Γ ((List Int × List Bool × Int × Int × Int × PUnit) × (List (List (Int × Int × Int)) × List Int × PUnit) × PUnit ⊕ PUnit × PUnit ⊕ (Bool × PUnit) × PUnit) :=
 .ite (decide (x4 < 256)) (
  .act 2700 ((((x5, x6), x2, IntKind.wrap IntKind.u8 x4, ()), ())) (fun y => match y with
   | ((y0, ()), ()) =>
    .act 3600 (((x0, x1, y0, ()), ())) (fun y => match y with
     | ((y1, ()), ()) =>
      .act 2700 ((((x5, x6), x3, IntKind.wrap IntKind.u8 x4, ()), ())) (fun y => match y with
       | ((y2, ()), ()) =>
        .act 3600 (((x0, x1, y2, ()), ())) (fun y => match y with
         | ((y3, ()), ()) =>
          .ite (y1 != y3) (
           .ret (Sum.inr (Sum.inr ((false, ()), ())))) (
           .ret (Sum.inl ((x0, x1, x2, x3, IntKind.wrap IntKind.i64 (x4 + 1), ()), (x5, x6, ()), ())))))))) (
  .ret (Sum.inr (Sum.inl ((), ()))))

theorem l32_0_eq (x0 : List Int) (x1 : List Bool) (x2 : Int) (x3 : Int) (x4 : Int) (x5 : List (List (Int × Int × Int))) (x6 : List Int) : roundT (cf kt 0) 3201 (loopAt code32 0) (plan (loopAt code32 0) []) ((x0, x1, x2, x3, x4, ()), (x5, x6, ()), ()) = l32_0 x0 x1 x2 x3 x4 x5 x6 := by kernel_rfl

theorem r3201 (x0 : List Int) (x1 : List Bool) (x2 : Int) (x3 : Int) (x4 : Int) (x5 : List (List (Int × Int × Int))) (x6 : List Int) {y : PUnit × PUnit ⊕ (Bool × PUnit) × PUnit} (h : (l32_0 x0 x1 x2 x3 x4 x5 x6).wp (SemR Try.prog Γ) (LoopP (fun (x : (List Int × List Bool × Int × Int × Int × PUnit) × (List (List (Int × Int × Int)) × List Int × PUnit) × PUnit) (y : PUnit × PUnit ⊕ (Bool × PUnit) × PUnit) => SemR Try.prog Γ 3201 x y) y)) : SemR Try.prog Γ 3201 ((x0, x1, x2, x3, x4, ()), (x5, x6, ()), ()) y :=
  loop_rule (P := Try.prog) (c := (cf kt 0)) (body := (loopAt code32 0)) (l := []) rfl mixed (by kernel_rfl) (by kernel_rfl) trivial (l32_0_eq x0 x1 x2 x3 x4 x5 x6) h

/-! slices.Min[[]int,int] -/
noncomputable def t33 (x0 : List Int) : Tree Γ ((Int × PUnit) × PUnit) :=
 .ite (decide ((↑(List.length x0) : Int) < 1)) (
  .stuck "sort.go:67") (
  .chk true (
  .chk (decide (0 < (↑(List.length x0) : Int))) (
  .act 3301 (((x0, List.getD x0 0 0, 1, ()), ())) (fun y => match y with
   | ((y0, ()), ()) =>
    .ret (((y0, ()), ()))))))

theorem t33_eq (x0 : List Int) : funT (cf kt 0) 3300 Try.f33 code33 (plan code33 [3301]) ((x0, ()), ()) = t33 x0 := by kernel_rfl

theorem r3300 (x0 : List Int) {y : ((Int × PUnit) × PUnit)} (h : (t33 x0).wp (SemR Try.prog Γ) (fun z => y = z)) : SemR Try.prog Γ 3300 ((x0, ()), ()) y :=
  fn_rule (P := Try.prog) (c := (cf kt 0)) (code := code33) (l := [3301]) rfl mixed (by kernel_rfl) Try.func33 (by kernel_rfl) (by kernel_rfl) ⟨by kernel_rfl, trivial⟩ (by kernel_rfl) (t33_eq x0) h

noncomputable def l33_0 (x0 : List Int) (x1 : Int) (x2 : Int) : Tree Γ ((List Int × Int × Int × PUnit) × PUnit ⊕ (Int × PUnit) × PUnit) :=
 .ite (decide (x2 < (↑(List.length x0) : Int))) (
  .chk (decide (0 ≤ x2)) (
  .chk (decide (x2 < (↑(List.length x0) : Int))) (
  .ret (Sum.inl ((x0, imin x1 (List.getD x0 (Int.toNat x2) 0), IntKind.wrap IntKind.i64 (x2 + 1), ()), ()))))) (
  .ret (Sum.inr ((x1, ()), ())))

theorem l33_0_eq (x0 : List Int) (x1 : Int) (x2 : Int) : roundT (cf kt 0) 3301 (loopAt code33 0) (plan (loopAt code33 0) []) ((x0, x1, x2, ()), ()) = l33_0 x0 x1 x2 := by kernel_rfl

theorem r3301 (x0 : List Int) (x1 : Int) (x2 : Int) {y : (Int × PUnit) × PUnit} (h : (l33_0 x0 x1 x2).wp (SemR Try.prog Γ) (LoopP (fun (x : (List Int × Int × Int × PUnit) × PUnit) (y : (Int × PUnit) × PUnit) => SemR Try.prog Γ 3301 x y) y)) : SemR Try.prog Γ 3301 ((x0, x1, x2, ()), ()) y :=
  loop_rule (P := Try.prog) (c := (cf kt 0)) (body := (loopAt code33 0)) (l := []) rfl mixed (by kernel_rfl) (by kernel_rfl) trivial (l33_0_eq x0 x1 x2) h

/-! quincunx/quincunxref05.class -/
noncomputable def t36 (x0 : List Int) (x1 : List Bool) (x2 : Int) : Tree Γ ((Int × PUnit) × PUnit) :=
 .chk (decide (x2 < 0) || decide (x2 ≥ (↑(List.length x0) : Int)) || decide (0 ≤ x2)) (
 .chk (decide (x2 < 0) || decide (x2 ≥ (↑(List.length x0) : Int)) || decide (x2 < (↑(List.length x1) : Int))) (
 .ite (decide (x2 < 0) || decide (x2 ≥ (↑(List.length x0) : Int)) || List.getD x1 (Int.toNat x2) false) (
  .ret (((-1, ()), ()))) (
  .chk (decide (0 ≤ x2)) (
  .chk (decide (x2 < (↑(List.length x0) : Int))) (
  .ret (((List.getD x0 (Int.toNat x2) 0, ()), ())))))))

theorem t36_eq (x0 : List Int) (x1 : List Bool) (x2 : Int) : funT (cf kt 0) 3600 Try.f36 code36 (plan code36 []) ((x0, x1, x2, ()), ()) = t36 x0 x1 x2 := by kernel_rfl

theorem r3600 (x0 : List Int) (x1 : List Bool) (x2 : Int) {y : ((Int × PUnit) × PUnit)} (h : (t36 x0 x1 x2).wp (SemR Try.prog Γ) (fun z => y = z)) : SemR Try.prog Γ 3600 ((x0, x1, x2, ()), ()) y :=
  fn_rule (P := Try.prog) (c := (cf kt 0)) (code := code36) (l := []) rfl mixed (by kernel_rfl) Try.func36 (by kernel_rfl) (by kernel_rfl) trivial (by kernel_rfl) (t36_eq x0 x1 x2) h

/-! quincunx/dfa.Next$1 -/
noncomputable def t35 (x0 : Int) (x1 : List (Int × Int × Int)) (x2 : Int) : Tree Γ ((Bool × PUnit) × (List (Int × Int × Int) × PUnit) × (Int × PUnit) × PUnit) :=
 .chk (decide (0 ≤ x0)) (
 .chk (decide (x0 < (↑(List.length x1) : Int))) (
 .ret (((decide ((List.getD x1 (Int.toNat x0) (0, 0, 0)).snd.fst ≥ x2), ()), (x1, ()), (x2, ()), ()))))

theorem t35_eq (x0 : Int) (x1 : List (Int × Int × Int)) (x2 : Int) : funT (cf kt 2) 3500 Try.f35 code35 (plan code35 []) ((x0, ()), (x1, ()), (x2, ()), ()) = t35 x0 x1 x2 := by kernel_rfl

theorem r3500 (x0 : Int) (x1 : List (Int × Int × Int)) (x2 : Int) {y : ((Bool × PUnit) × (List (Int × Int × Int) × PUnit) × (Int × PUnit) × PUnit)} (h : (t35 x0 x1 x2).wp (SemR Try.prog Γ) (fun z => y = z)) : SemR Try.prog Γ 3500 ((x0, ()), (x1, ()), (x2, ()), ()) y :=
  fn_rule (P := Try.prog) (c := (cf kt 2)) (code := code35) (l := []) rfl mixed (by kernel_rfl) Try.func35 (by kernel_rfl) (by kernel_rfl) trivial (by kernel_rfl) (t35_eq x0 x1 x2) h

/-! sort.Search -/
noncomputable def t34 (x0 : Int) (x1 : List (Int × Int × Int)) (x2 : Int) : Tree Γ ((Int × PUnit) × (List (Int × Int × Int) × PUnit) × (Int × PUnit) × PUnit) :=
 .act 3401 (((0, x0, ()), (x1, ()), (x2, ()), ())) (fun y => match y with
  | ((y0, ()), (y1, ()), (y2, ()), ()) =>
   .ret (((y0, ()), (y1, ()), (y2, ()), ())))

theorem t34_eq (x0 : Int) (x1 : List (Int × Int × Int)) (x2 : Int) : funT (cf kt 2) 3400 Try.f34 code34 (plan code34 [3401]) ((x0, ()), (x1, ()), (x2, ()), ()) = t34 x0 x1 x2 := by kernel_rfl

theorem r3400 (x0 : Int) (x1 : List (Int × Int × Int)) (x2 : Int) {y : ((Int × PUnit) × (List (Int × Int × Int) × PUnit) × (Int × PUnit) × PUnit)} (h : (t34 x0 x1 x2).wp (SemR Try.prog Γ) (fun z => y = z)) : SemR Try.prog Γ 3400 ((x0, ()), (x1, ()), (x2, ()), ()) y :=
  fn_rule (P := Try.prog) (c := (cf kt 2)) (code := code34) (l := [3401]) rfl mixed (by kernel_rfl) Try.func34 (by kernel_rfl) (by kernel_rfl) ⟨by kernel_rfl, trivial⟩ (by kernel_rfl) (t34_eq x0 x1 x2) h

noncomputable def l34_0 (x0 : Int) (x1 : Int) (x2 : List (Int × Int × Int)) (x3 : Int) : Tree Γ ((Int × Int × PUnit) × (List (Int × Int × Int) × PUnit) × (Int × PUnit) × PUnit ⊕ (Int × PUnit) × (List (Int × Int × Int) × PUnit) × (Int × PUnit) × PUnit) :=
 .ite (decide (x0 < x1)) (
  .chk true (
  .act 3500 (((IntKind.wrap IntKind.i64 (Int.fdiv (IntKind.wrap IntKind.u64 (IntKind.wrap IntKind.i64 (x0 + x1))) 2), ()), (x2, ()), (x3, ()), ())) (fun y => match y with
   | ((y0, ()), (y1, ()), (y2, ()), ()) =>
    .ite (!y0) (
     .ret (Sum.inl ((IntKind.wrap IntKind.i64 (IntKind.wrap IntKind.i64 (Int.fdiv (IntKind.wrap IntKind.u64 (IntKind.wrap IntKind.i64 (x0 + x1))) 2) + 1), x1, ()), (y1, ()), (y2, ()), ()))) (
     .ret (Sum.inl ((x0, IntKind.wrap IntKind.i64 (Int.fdiv (IntKind.wrap IntKind.u64 (IntKind.wrap IntKind.i64 (x0 + x1))) 2), ()), (y1, ()), (y2, ()), ())))))) (
  .ret (Sum.inr ((x0, ()), (x2, ()), (x3, ()), ())))

theorem l34_0_eq (x0 : Int) (x1 : Int) (x2 : List (Int × Int × Int)) (x3 : Int) : roundT (cf kt 2) 3401 (loopAt code34 0) (plan (loopAt code34 0) []) ((x0, x1, ()), (x2, ()), (x3, ()), ()) = l34_0 x0 x1 x2 x3 := by kernel_rfl

theorem r3401 (x0 : Int) (x1 : Int) (x2 : List (Int × Int × Int)) (x3 : Int) {y : (Int × PUnit) × (List (Int × Int × Int) × PUnit) × (Int × PUnit) × PUnit} (h : (l34_0 x0 x1 x2 x3).wp (SemR Try.prog Γ) (LoopP (fun (x : (Int × Int × PUnit) × (List (Int × Int × Int) × PUnit) × (Int × PUnit) × PUnit) (y : (Int × PUnit) × (List (Int × Int × Int) × PUnit) × (Int × PUnit) × PUnit) => SemR Try.prog Γ 3401 x y) y)) : SemR Try.prog Γ 3401 ((x0, x1, ()), (x2, ()), (x3, ()), ()) y :=
  loop_rule (P := Try.prog) (c := (cf kt 2)) (body := (loopAt code34 0)) (l := []) rfl mixed (by kernel_rfl) (by kernel_rfl) trivial (l34_0_eq x0 x1 x2 x3) h

/-! quincunx/dfa.Next -/
noncomputable def t30 (x0 : List (List (Int × Int × Int))) (x1 : List Int) (x2 : Int) (x3 : Int) : Tree Γ ((Int × PUnit) × PUnit) :=
 .ite (decide (x2 < 0) || decide (x2 ≥ (↑(List.length x0) : Int))) (
  .ret (((-1, ()), ()))) (
  .chk (decide (0 ≤ x2)) (
  .chk (decide (x2 < (↑(List.length x0) : Int))) (
  .act 3400 ((((↑(List.length (List.getD x0 (Int.toNat x2) [])) : Int), ()), (List.getD x0 (Int.toNat x2) [], ()), (x3, ()), ())) (fun y => match y with
   | ((y0, ()), (y1, ()), (y2, ()), ()) =>
    .ite (y0 == (↑(List.length y1) : Int)) (
     .ret (((-1, ()), ()))) (
     .chk (decide (0 ≤ y0)) (
     .chk (decide (y0 < (↑(List.length y1) : Int))) (
     .ite (decide ((List.getD y1 (Int.toNat y0) (0, 0, 0)).fst > y2)) (
      .ret (((-1, ()), ()))) (
      .chk (decide (0 ≤ y0)) (
      .chk (decide (y0 < (↑(List.length y1) : Int))) (
      .ret ((((List.getD y1 (Int.toNat y0) (0, 0, 0)).snd.snd, ()), ()))))))))))))

theorem t30_eq (x0 : List (List (Int × Int × Int))) (x1 : List Int) (x2 : Int) (x3 : Int) : funT (cf kt 0) 3000 Try.f30 code30 (plan code30 []) (((x0, x1), x2, x3, ()), ()) = t30 x0 x1 x2 x3 := by kernel_rfl

theorem r3000 (x0 : List (List (Int × Int × Int))) (x1 : List Int) (x2 : Int) (x3 : Int) {y : ((Int × PUnit) × PUnit)} (h : (t30 x0 x1 x2 x3).wp (SemR Try.prog Γ) (fun z => y = z)) : SemR Try.prog Γ 3000 (((x0, x1), x2, x3, ()), ()) y :=
  fn_rule (P := Try.prog) (c := (cf kt 0)) (code := code30) (l := []) rfl mixed (by kernel_rfl) Try.func30 (by kernel_rfl) (by kernel_rfl) trivial (by kernel_rfl) (t30_eq x0 x1 x2 x3) h

/-! quincunx/quincunxlaw05.a -/
noncomputable def t24 (x0 : Int) (x1 : List Int) : Tree Γ (((List (List (Int × Int × Int)) × List Int) × PUnit) × PUnit) :=
 .ret (((([[(97, 97, 1)], [(97, 97, x0)]], x1), ()), ()))

theorem t24_eq (x0 : Int) (x1 : List Int) : funT (cf kt 0) 2400 Try.f24 code24 (plan code24 []) ((x0, x1, ()), ()) = t24 x0 x1 := by kernel_rfl

theorem r2400 (x0 : Int) (x1 : List Int) {y : (((List (List (Int × Int × Int)) × List Int) × PUnit) × PUnit)} (h : (t24 x0 x1).wp (SemR Try.prog Γ) (fun z => y = z)) : SemR Try.prog Γ 2400 ((x0, x1, ()), ()) y :=
  fn_rule (P := Try.prog) (c := (cf kt 0)) (code := code24) (l := []) rfl mixed (by kernel_rfl) Try.func24 (by kernel_rfl) (by kernel_rfl) trivial (by kernel_rfl) (t24_eq x0 x1) h

/-! quincunx/quincunxref04.Lay -/
noncomputable def t28 (x0 : Int) (x1 : Int) (x2 : List (Int × Int × Int)) : Tree Γ (PUnit × List (Int × Int × Int) × PUnit) :=
 .chk (!decide ((↑(List.length x2) : Int) > 0) || decide (0 ≤ IntKind.wrap IntKind.i64 ((↑(List.length x2) : Int) - 1))) (
 .chk (!decide ((↑(List.length x2) : Int) > 0) || decide (IntKind.wrap IntKind.i64 ((↑(List.length x2) : Int) - 1) < (↑(List.length x2) : Int))) (
 .chk (!(decide ((↑(List.length x2) : Int) > 0) && (List.getD x2 (Int.toNat (IntKind.wrap IntKind.i64 ((↑(List.length x2) : Int) - 1))) (0, 0, 0)).snd.snd == x1) || decide (0 ≤ IntKind.wrap IntKind.i64 ((↑(List.length x2) : Int) - 1))) (
 .chk (!(decide ((↑(List.length x2) : Int) > 0) && (List.getD x2 (Int.toNat (IntKind.wrap IntKind.i64 ((↑(List.length x2) : Int) - 1))) (0, 0, 0)).snd.snd == x1) || decide (IntKind.wrap IntKind.i64 ((↑(List.length x2) : Int) - 1) < (↑(List.length x2) : Int))) (
 .ite (decide ((↑(List.length x2) : Int) > 0) && (List.getD x2 (Int.toNat (IntKind.wrap IntKind.i64 ((↑(List.length x2) : Int) - 1))) (0, 0, 0)).snd.snd == x1 && IntKind.wrap IntKind.i64 (List.getD x2 (Int.toNat (IntKind.wrap IntKind.i64 ((↑(List.length x2) : Int) - 1))) (0, 0, 0)).snd.fst == IntKind.wrap IntKind.i64 (IntKind.wrap IntKind.i64 x0 - 1)) (
  .chk (decide ((0 + List.length x2) * 16 ≤ 140737488355328)) (
  .chk (decide (0 ≤ IntKind.wrap IntKind.i64 ((↑(List.length x2) : Int) - 1))) (
  .chk (decide (IntKind.wrap IntKind.i64 ((↑(List.length x2) : Int) - 1) < (↑(List.length ([] ++ x2)) : Int))) (
  .ret (((), List.set ([] ++ x2) (Int.toNat (IntKind.wrap IntKind.i64 ((↑(List.length x2) : Int) - 1))) ((List.getD ([] ++ x2) (Int.toNat (IntKind.wrap IntKind.i64 ((↑(List.length x2) : Int) - 1))) (0, 0, 0)).fst, x0, (List.getD ([] ++ x2) (Int.toNat (IntKind.wrap IntKind.i64 ((↑(List.length x2) : Int) - 1))) (0, 0, 0)).snd.snd), ())))))) (
  .chk (decide ((List.length x2 + List.length [(x0, x0, x1)]) * 16 ≤ 140737488355328)) (
  .ret (((), x2 ++ [(x0, x0, x1)], ()))))))))

theorem t28_eq (x0 : Int) (x1 : Int) (x2 : List (Int × Int × Int)) : funT (cf kt 0) 2800 Try.f28 code28 (plan code28 []) ((x0, x1, ()), x2, ()) = t28 x0 x1 x2 := by kernel_rfl

theorem r2800 (x0 : Int) (x1 : Int) (x2 : List (Int × Int × Int)) {y : (PUnit × List (Int × Int × Int) × PUnit)} (h : (t28 x0 x1 x2).wp (SemR Try.prog Γ) (fun z => y = z)) : SemR Try.prog Γ 2800 ((x0, x1, ()), x2, ()) y :=
  fn_rule (P := Try.prog) (c := (cf kt 0)) (code := code28) (l := []) rfl mixed (by kernel_rfl) Try.func28 (by kernel_rfl) (by kernel_rfl) trivial (by kernel_rfl) (t28_eq x0 x1 x2) h

end Go.Proofs.YtjmnjimlkljhjaaV

/- The trees of functions and loops: what they do, step by step. -/
set_option linter.unusedVariables false
set_option maxRecDepth 100000
namespace Go.Proofs.YtjmnjimlkljhjaaV
open Go Go.Proofs

/-! quincunx/least.Dead -/
noncomputable def t13 (x0 : List (List (Int × Int × Int))) (x1 : List Int) : Tree Γ ((List Bool × PUnit) × PUnit) :=
 .chk (decide (0 ≤ (↑(List.length x0) : Int))) (
 .chk ((↑(List.length x0) : Int) == (↑(List.length x0) : Int)) (
 .chk (decide (Int.toNat (↑(List.length x0) : Int) * 1 ≤ 16777216)) (
 .chk (decide (24 * Int.toNat (↑(List.length x0) : Int) ≤ 281474976710656)) (
 .chk (decide (0 ≤ (↑(List.length x0) : Int))) (
 .chk ((↑(List.length x0) : Int) == (↑(List.length x0) : Int)) (
 .chk (decide (Int.toNat (↑(List.length x0) : Int) * 1 ≤ 16777216)) (
 .chk (decide (1 * Int.toNat (↑(List.length x0) : Int) ≤ 281474976710656)) (
 .act 1301 (((x0, (↑(List.length x0) : Int), 0, ()), (x0, x1, ()), List.replicate (Int.toNat (↑(List.length x0) : Int)) [], List.replicate (Int.toNat (↑(List.length x0) : Int)) false, [], ())) (fun y => match y with
  | ((), y0, y1, y2, ()) =>
   .act 1303 (((), y0, y1, y2, ())) (fun y => match y with
    | ((), y3, ()) =>
     .ret (((y3, ()), ()))))))))))))

theorem t13_eq (x0 : List (List (Int × Int × Int))) (x1 : List Int) : funT (cf kt13 0) 1300 Try.f13 code13 (plan code13 [1301, 1303]) (((x0, x1), ()), ()) = t13 x0 x1 := by kernel_rfl

theorem r1300 (x0 : List (List (Int × Int × Int))) (x1 : List Int) {y : ((List Bool × PUnit) × PUnit)} (h : (t13 x0 x1).wp (SemR Try.prog Γ) (fun z => y = z)) : SemR Try.prog Γ 1300 (((x0, x1), ()), ()) y :=
  fn_rule (P := Try.prog) (c := (cf kt13 0)) (code := code13) (l := [1301, 1303]) rfl mixed (by kernel_rfl) Try.func13 (by kernel_rfl) (by kernel_rfl) ⟨by kernel_rfl, by kernel_rfl, trivial⟩ (by kernel_rfl) (t13_eq x0 x1) h

noncomputable def l13_0 (x0 : List (List (Int × Int × Int))) (x1 : Int) (x2 : Int) (x3 : List (List (Int × Int × Int))) (x4 : List Int) (x5 : List (List Int)) (x6 : List Bool) (x7 : List Int) : Tree Γ ((List (List (Int × Int × Int)) × Int × Int × PUnit) × (List (List (Int × Int × Int)) × List Int × PUnit) × List (List Int) × List Bool × List Int × PUnit ⊕ PUnit × List (List Int) × List Bool × List Int × PUnit) :=
 .ite (decide (x2 < x1)) (
  .chk (decide (0 ≤ x2)) (
  .chk (decide (x2 < (↑(List.length x0) : Int))) (
  .chk (decide (0 ≤ x2)) (
  .chk (decide (x2 < (↑(List.length x6) : Int))) (
  .chk (!decide (x2 < (↑(List.length x4) : Int)) || decide (0 ≤ x2)) (
  .chk (!decide (x2 < (↑(List.length x4) : Int)) || decide (x2 < (↑(List.length x4) : Int))) (
  .ite (decide (x2 < (↑(List.length x4) : Int)) && decide (List.getD x4 (Int.toNat x2) 0 ≥ 0)) (
   .chk (decide (0 ≤ x2)) (
   .chk (decide (x2 < (↑(List.length (List.set x6 (Int.toNat x2) true)) : Int))) (
   .chk (decide ((List.length x7 + List.length [x2]) * 8 ≤ 140737488355328)) (
   .act 1302 (((x2, x0, x1, x2, List.getD x0 (Int.toNat x2) [], (↑(List.length (List.getD x0 (Int.toNat x2) [])) : Int), 0, ()), (x3, x4, ()), x5, List.set (List.set x6 (Int.toNat x2) true) (Int.toNat x2) false, x7 ++ [x2], ())) (fun y => match y with
    | ((y0, y1, y2, ()), (y3, y4, ()), y5, y6, y7, ()) =>
     .ret (Sum.inl ((y0, y1, IntKind.wrap IntKind.i64 (y2 + 1), ()), (y3, y4, ()), y5, y6, y7, ()))))))) (
   .act 1302 (((x2, x0, x1, x2, List.getD x0 (Int.toNat x2) [], (↑(List.length (List.getD x0 (Int.toNat x2) [])) : Int), 0, ()), (x3, x4, ()), x5, List.set x6 (Int.toNat x2) true, x7, ())) (fun y => match y with
    | ((y0, y1, y2, ()), (y3, y4, ()), y5, y6, y7, ()) =>
     .ret (Sum.inl ((y0, y1, IntKind.wrap IntKind.i64 (y2 + 1), ()), (y3, y4, ()), y5, y6, y7, ()))))))))))) (
  .ret (Sum.inr ((), x5, x6, x7, ())))

theorem l13_0_eq (x0 : List (List (Int × Int × Int))) (x1 : Int) (x2 : Int) (x3 : List (List (Int × Int × Int))) (x4 : List Int) (x5 : List (List Int)) (x6 : List Bool) (x7 : List Int) : roundT (cf kt13 0) 1301 (loopAt code13 0) (plan (loopAt code13 0) [1302]) ((x0, x1, x2, ()), (x3, x4, ()), x5, x6, x7, ()) = l13_0 x0 x1 x2 x3 x4 x5 x6 x7 := by kernel_rfl

theorem r1301 (x0 : List (List (Int × Int × Int))) (x1 : Int) (x2 : Int) (x3 : List (List (Int × Int × Int))) (x4 : List Int) (x5 : List (List Int)) (x6 : List Bool) (x7 : List Int) {y : PUnit × List (List Int) × List Bool × List Int × PUnit} (h : (l13_0 x0 x1 x2 x3 x4 x5 x6 x7).wp (SemR Try.prog Γ) (LoopP (fun (x : (List (List (Int × Int × Int)) × Int × Int × PUnit) × (List (List (Int × Int × Int)) × List Int × PUnit) × List (List Int) × List Bool × List Int × PUnit) (y : PUnit × List (List Int) × List Bool × List Int × PUnit) => SemR Try.prog Γ 1301 x y) y)) : SemR Try.prog Γ 1301 ((x0, x1, x2, ()), (x3, x4, ()), x5, x6, x7, ()) y :=
  loop_rule (P := Try.prog) (c := (cf kt13 0)) (body := (loopAt code13 0)) (l := [1302]) rfl mixed (by kernel_rfl) (by kernel_rfl) ⟨by kernel_rfl, trivial⟩ (l13_0_eq x0 x1 x2 x3 x4 x5 x6 x7) h

noncomputable def l13_1 (x0 : Int) (x1 : List (List (Int × Int × Int))) (x2 : Int) (x3 : Int) (x4 : List (Int × Int × Int)) (x5 : Int) (x6 : Int) (x7 : List (List (Int × Int × Int))) (x8 : List Int) (x9 : List (List Int)) (x10 : List Bool) (x11 : List Int) : Tree Γ ((Int × List (List (Int × Int × Int)) × Int × Int × List (Int × Int × Int) × Int × Int × PUnit) × (List (List (Int × Int × Int)) × List Int × PUnit) × List (List Int) × List Bool × List Int × PUnit ⊕ (List (List (Int × Int × Int)) × Int × Int × PUnit) × (List (List (Int × Int × Int)) × List Int × PUnit) × List (List Int) × List Bool × List Int × PUnit) :=
 .ite (decide (x6 < x5)) (
  .chk (decide (0 ≤ x6)) (
  .chk (decide (x6 < (↑(List.length x4) : Int))) (
  .ite (decide ((List.getD x4 (Int.toNat x6) (0, 0, 0)).snd.snd ≥ 0) && decide ((List.getD x4 (Int.toNat x6) (0, 0, 0)).snd.snd < (↑(List.length x9) : Int))) (
   .chk (decide (0 ≤ (List.getD x4 (Int.toNat x6) (0, 0, 0)).snd.snd)) (
   .chk (decide ((List.getD x4 (Int.toNat x6) (0, 0, 0)).snd.snd < (↑(List.length x9) : Int))) (
   .chk (decide ((List.length (List.getD x9 (Int.toNat (List.getD x4 (Int.toNat x6) (0, 0, 0)).snd.snd) []) + List.length [x0]) * 8 ≤ 140737488355328)) (
   .chk (decide (0 ≤ (List.getD x4 (Int.toNat x6) (0, 0, 0)).snd.snd)) (
   .chk (decide ((List.getD x4 (Int.toNat x6) (0, 0, 0)).snd.snd < (↑(List.length x9) : Int))) (
   .chk (Int.toNat (List.getD x4 (Int.toNat x6) (0, 0, 0)).snd.snd == Int.toNat (List.getD x4 (Int.toNat x6) (0, 0, 0)).snd.snd) (
   .ret (Sum.inl ((x0, x1, x2, x3, x4, x5, IntKind.wrap IntKind.i64 (x6 + 1), ()), (x7, x8, ()), List.set x9 (Int.toNat (List.getD x4 (Int.toNat x6) (0, 0, 0)).snd.snd) (List.getD x9 (Int.toNat (List.getD x4 (Int.toNat x6) (0, 0, 0)).snd.snd) [] ++ [x0]), x10, x11, ()))))))))) (
   .ret (Sum.inl ((x0, x1, x2, x3, x4, x5, IntKind.wrap IntKind.i64 (x6 + 1), ()), (x7, x8, ()), x9, x10, x11, ())))))) (
  .ret (Sum.inr ((x1, x2, x3, ()), (x7, x8, ()), x9, x10, x11, ())))

theorem l13_1_eq (x0 : Int) (x1 : List (List (Int × Int × Int))) (x2 : Int) (x3 : Int) (x4 : List (Int × Int × Int)) (x5 : Int) (x6 : Int) (x7 : List (List (Int × Int × Int))) (x8 : List Int) (x9 : List (List Int)) (x10 : List Bool) (x11 : List Int) : roundT (cf kt13 0) 1302 (loopAt (loopAt code13 0) 0) (plan (loopAt (loopAt code13 0) 0) []) ((x0, x1, x2, x3, x4, x5, x6, ()), (x7, x8, ()), x9, x10, x11, ()) = l13_1 x0 x1 x2 x3 x4 x5 x6 x7 x8 x9 x10 x11 := by kernel_rfl

theorem r1302 (x0 : Int) (x1 : List (List (Int × Int × Int))) (x2 : Int) (x3 : Int) (x4 : List (Int × Int × Int)) (x5 : Int) (x6 : Int) (x7 : List (List (Int × Int × Int))) (x8 : List Int) (x9 : List (List Int)) (x10 : List Bool) (x11 : List Int) {y : (List (List (Int × Int × Int)) × Int × Int × PUnit) × (List (List (Int × Int × Int)) × List Int × PUnit) × List (List Int) × List Bool × List Int × PUnit} (h : (l13_1 x0 x1 x2 x3 x4 x5 x6 x7 x8 x9 x10 x11).wp (SemR Try.prog Γ) (LoopP (fun (x : (Int × List (List (Int × Int × Int)) × Int × Int × List (Int × Int × Int) × Int × Int × PUnit) × (List (List (Int × Int × Int)) × List Int × PUnit) × List (List Int) × List Bool × List Int × PUnit) (y : (List (List (Int × Int × Int)) × Int × Int × PUnit) × (List (List (Int × Int × Int)) × List Int × PUnit) × List (List Int) × List Bool × List Int × PUnit) => SemR Try.prog Γ 1302 x y) y)) : SemR Try.prog Γ 1302 ((x0, x1, x2, x3, x4, x5, x6, ()), (x7, x8, ()), x9, x10, x11, ()) y :=
  loop_rule (P := Try.prog) (c := (cf kt13 0)) (body := (loopAt (loopAt code13 0) 0)) (l := []) rfl mixed (by kernel_rfl) (by kernel_rfl) trivial (l13_1_eq x0 x1 x2 x3 x4 x5 x6 x7 x8 x9 x10 x11) h

noncomputable def l13_2 (x0 : List (List Int)) (x1 : List Bool) (x2 : List Int) : Tree Γ (PUnit × List (List Int) × List Bool × List Int × PUnit ⊕ PUnit × List Bool × PUnit) :=
 .ite (decide ((↑(List.length x2) : Int) > 0)) (
  .chk (decide (0 ≤ IntKind.wrap IntKind.i64 ((↑(List.length x2) : Int) - 1))) (
  .chk (decide (IntKind.wrap IntKind.i64 ((↑(List.length x2) : Int) - 1) < (↑(List.length x2) : Int))) (
  .chk (decide (0 ≤ IntKind.wrap IntKind.i64 ((↑(List.length x2) : Int) - 1))) (
  .chk (decide (IntKind.wrap IntKind.i64 ((↑(List.length x2) : Int) - 1) ≤ (↑(List.length x2) : Int))) (
  .chk (decide (0 ≤ List.getD x2 (Int.toNat (IntKind.wrap IntKind.i64 ((↑(List.length x2) : Int) - 1))) 0)) (
  .chk (decide (List.getD x2 (Int.toNat (IntKind.wrap IntKind.i64 ((↑(List.length x2) : Int) - 1))) 0 < (↑(List.length x0) : Int))) (
  .act 1304 (((List.getD x0 (Int.toNat (List.getD x2 (Int.toNat (IntKind.wrap IntKind.i64 ((↑(List.length x2) : Int) - 1))) 0)) [], (↑(List.length (List.getD x0 (Int.toNat (List.getD x2 (Int.toNat (IntKind.wrap IntKind.i64 ((↑(List.length x2) : Int) - 1))) 0)) [])) : Int), 0, ()), x0, x1, List.take (Int.toNat (IntKind.wrap IntKind.i64 ((↑(List.length x2) : Int) - 1))) x2, ())) (fun y => match y with
   | ((), y0, y1, y2, ()) =>
    .ret (Sum.inl ((), y0, y1, y2, ())))))))))) (
  .ret (Sum.inr ((), x1, ())))

theorem l13_2_eq (x0 : List (List Int)) (x1 : List Bool) (x2 : List Int) : roundT (cf kt 0) 1303 (loopAt code13 1) (plan (loopAt code13 1) [1304]) ((), x0, x1, x2, ()) = l13_2 x0 x1 x2 := by kernel_rfl

theorem r1303 (x0 : List (List Int)) (x1 : List Bool) (x2 : List Int) {y : PUnit × List Bool × PUnit} (h : (l13_2 x0 x1 x2).wp (SemR Try.prog Γ) (LoopP (fun (x : PUnit × List (List Int) × List Bool × List Int × PUnit) (y : PUnit × List Bool × PUnit) => SemR Try.prog Γ 1303 x y) y)) : SemR Try.prog Γ 1303 ((), x0, x1, x2, ()) y :=
  loop_rule (P := Try.prog) (c := (cf kt 0)) (body := (loopAt code13 1)) (l := [1304]) rfl mixed (by kernel_rfl) (by kernel_rfl) ⟨by kernel_rfl, trivial⟩ (l13_2_eq x0 x1 x2) h

noncomputable def l13_3 (x0 : List Int) (x1 : Int) (x2 : Int) (x3 : List (List Int)) (x4 : List Bool) (x5 : List Int) : Tree Γ ((List Int × Int × Int × PUnit) × List (List Int) × List Bool × List Int × PUnit ⊕ PUnit × List (List Int) × List Bool × List Int × PUnit) :=
 .ite (decide (x2 < x1)) (
  .chk (decide (0 ≤ x2)) (
  .chk (decide (x2 < (↑(List.length x0) : Int))) (
  .chk (decide (0 ≤ List.getD x0 (Int.toNat x2) 0)) (
  .chk (decide (List.getD x0 (Int.toNat x2) 0 < (↑(List.length x4) : Int))) (
  .ite (List.getD x4 (Int.toNat (List.getD x0 (Int.toNat x2) 0)) false) (
   .chk (decide (0 ≤ List.getD x0 (Int.toNat x2) 0)) (
   .chk (decide (List.getD x0 (Int.toNat x2) 0 < (↑(List.length x4) : Int))) (
   .chk (decide ((List.length x5 + List.length [List.getD x0 (Int.toNat x2) 0]) * 8 ≤ 140737488355328)) (
   .ret (Sum.inl ((x0, x1, IntKind.wrap IntKind.i64 (x2 + 1), ()), x3, List.set x4 (Int.toNat (List.getD x0 (Int.toNat x2) 0)) false, x5 ++ [List.getD x0 (Int.toNat x2) 0], ())))))) (
   .ret (Sum.inl ((x0, x1, IntKind.wrap IntKind.i64 (x2 + 1), ()), x3, x4, x5, ())))))))) (
  .ret (Sum.inr ((), x3, x4, x5, ())))

theorem l13_3_eq (x0 : List Int) (x1 : Int) (x2 : Int) (x3 : List (List Int)) (x4 : List Bool) (x5 : List Int) : roundT (cf kt 0) 1304 (loopAt (loopAt code13 1) 0) (plan (loopAt (loopAt code13 1) 0) []) ((x0, x1, x2, ()), x3, x4, x5, ()) = l13_3 x0 x1 x2 x3 x4 x5 := by kernel_rfl

theorem r1304 (x0 : List Int) (x1 : Int) (x2 : Int) (x3 : List (List Int)) (x4 : List Bool) (x5 : List Int) {y : PUnit × List (List Int) × List Bool × List Int × PUnit} (h : (l13_3 x0 x1 x2 x3 x4 x5).wp (SemR Try.prog Γ) (LoopP (fun (x : (List Int × Int × Int × PUnit) × List (List Int) × List Bool × List Int × PUnit) (y : PUnit × List (List Int) × List Bool × List Int × PUnit) => SemR Try.prog Γ 1304 x y) y)) : SemR Try.prog Γ 1304 ((x0, x1, x2, ()), x3, x4, x5, ()) y :=
  loop_rule (P := Try.prog) (c := (cf kt 0)) (body := (loopAt (loopAt code13 1) 0)) (l := []) rfl mixed (by kernel_rfl) (by kernel_rfl) trivial (l13_3_eq x0 x1 x2 x3 x4 x5) h

/-! quincunx/quincunxref05.Dead -/
noncomputable def t14 (x0 : List (List (Int × Int × Int))) (x1 : List Int) : Tree Γ ((List Bool × PUnit) × PUnit) :=
 .chk (decide (0 ≤ (↑(List.length x0) : Int))) (
 .chk ((↑(List.length x0) : Int) == (↑(List.length x0) : Int)) (
 .chk (decide (Int.toNat (↑(List.length x0) : Int) * 1 ≤ 16777216)) (
 .chk (decide (1 * Int.toNat (↑(List.length x0) : Int) ≤ 281474976710656)) (
 .act 1401 ((((↑(List.length (List.replicate (Int.toNat (↑(List.length x0) : Int)) false)) : Int), 0, ()), (x0, x1, ()), List.replicate (Int.toNat (↑(List.length x0) : Int)) false, ())) (fun y => match y with
  | ((), (y0, y1, ()), y2, ()) =>
   .act 1402 ((((↑(List.length y2) : Int), 0, ()), (y0, y1, ()), y2, ())) (fun y => match y with
    | ((), y3, ()) =>
     .ret (((y3, ()), ()))))))))

theorem t14_eq (x0 : List (List (Int × Int × Int))) (x1 : List Int) : funT (cf kt 0) 1400 Try.f14 code14 (plan code14 [1401, 1402]) (((x0, x1), ()), ()) = t14 x0 x1 := by kernel_rfl

theorem r1400 (x0 : List (List (Int × Int × Int))) (x1 : List Int) {y : ((List Bool × PUnit) × PUnit)} (h : (t14 x0 x1).wp (SemR Try.prog Γ) (fun z => y = z)) : SemR Try.prog Γ 1400 (((x0, x1), ()), ()) y :=
  fn_rule (P := Try.prog) (c := (cf kt 0)) (code := code14) (l := [1401, 1402]) rfl mixed (by kernel_rfl) Try.func14 (by kernel_rfl) (by kernel_rfl) ⟨by kernel_rfl, by kernel_rfl, trivial⟩ (by kernel_rfl) (t14_eq x0 x1) h

noncomputable def l14_0 (x0 : Int) (x1 : Int) (x2 : List (List (Int × Int × Int))) (x3 : List Int) (x4 : List Bool) : Tree Γ ((Int × Int × PUnit) × (List (List (Int × Int × Int)) × List Int × PUnit) × List Bool × PUnit ⊕ PUnit × (List (List (Int × Int × Int)) × List Int × PUnit) × List Bool × PUnit) :=
 .ite (decide (x1 < x0)) (
  .chk (decide (x1 ≥ (↑(List.length x3) : Int)) || decide (0 ≤ x1)) (
  .chk (decide (x1 ≥ (↑(List.length x3) : Int)) || decide (x1 < (↑(List.length x3) : Int))) (
  .chk (decide (0 ≤ x1)) (
  .chk (decide (x1 < (↑(List.length x4) : Int))) (
  .ret (Sum.inl ((x0, IntKind.wrap IntKind.i64 (x1 + 1), ()), (x2, x3, ()), List.set x4 (Int.toNat x1) (decide (x1 ≥ (↑(List.length x3) : Int)) || decide (List.getD x3 (Int.toNat x1) 0 < 0)), ()))))))) (
  .ret (Sum.inr ((), (x2, x3, ()), x4, ())))

theorem l14_0_eq (x0 : Int) (x1 : Int) (x2 : List (List (Int × Int × Int))) (x3 : List Int) (x4 : List Bool) : roundT (cf kt 0) 1401 (loopAt code14 0) (plan (loopAt code14 0) []) ((x0, x1, ()), (x2, x3, ()), x4, ()) = l14_0 x0 x1 x2 x3 x4 := by kernel_rfl

theorem r1401 (x0 : Int) (x1 : Int) (x2 : List (List (Int × Int × Int))) (x3 : List Int) (x4 : List Bool) {y : PUnit × (List (List (Int × Int × Int)) × List Int × PUnit) × List Bool × PUnit} (h : (l14_0 x0 x1 x2 x3 x4).wp (SemR Try.prog Γ) (LoopP (fun (x : (Int × Int × PUnit) × (List (List (Int × Int × Int)) × List Int × PUnit) × List Bool × PUnit) (y : PUnit × (List (List (Int × Int × Int)) × List Int × PUnit) × List Bool × PUnit) => SemR Try.prog Γ 1401 x y) y)) : SemR Try.prog Γ 1401 ((x0, x1, ()), (x2, x3, ()), x4, ()) y :=
  loop_rule (P := Try.prog) (c := (cf kt 0)) (body := (loopAt code14 0)) (l := []) rfl mixed (by kernel_rfl) (by kernel_rfl) trivial (l14_0_eq x0 x1 x2 x3 x4) h

noncomputable def l14_1 (x0 : Int) (x1 : Int) (x2 : List (List (Int × Int × Int))) (x3 : List Int) (x4 : List Bool) : Tree Γ ((Int × Int × PUnit) × (List (List (Int × Int × Int)) × List Int × PUnit) × List Bool × PUnit ⊕ PUnit × List Bool × PUnit) :=
 .ite (decide (x1 < x0)) (
  .act 1403 (((x0, x1, (↑(List.length x4) : Int), 0, ()), (x2, x3, ()), x4, ())) (fun y => match y with
   | ((y0, y1, ()), (y2, y3, ()), y4, ()) =>
    .ret (Sum.inl ((y0, IntKind.wrap IntKind.i64 (y1 + 1), ()), (y2, y3, ()), y4, ())))) (
  .ret (Sum.inr ((), x4, ())))

theorem l14_1_eq (x0 : Int) (x1 : Int) (x2 : List (List (Int × Int × Int))) (x3 : List Int) (x4 : List Bool) : roundT (cf kt 0) 1402 (loopAt code14 1) (plan (loopAt code14 1) [1403]) ((x0, x1, ()), (x2, x3, ()), x4, ()) = l14_1 x0 x1 x2 x3 x4 := by kernel_rfl

theorem r1402 (x0 : Int) (x1 : Int) (x2 : List (List (Int × Int × Int))) (x3 : List Int) (x4 : List Bool) {y : PUnit × List Bool × PUnit} (h : (l14_1 x0 x1 x2 x3 x4).wp (SemR Try.prog Γ) (LoopP (fun (x : (Int × Int × PUnit) × (List (List (Int × Int × Int)) × List Int × PUnit) × List Bool × PUnit) (y : PUnit × List Bool × PUnit) => SemR Try.prog Γ 1402 x y) y)) : SemR Try.prog Γ 1402 ((x0, x1, ()), (x2, x3, ()), x4, ()) y :=
  loop_rule (P := Try.prog) (c := (cf kt 0)) (body := (loopAt code14 1)) (l := [1403]) rfl mixed (by kernel_rfl) (by kernel_rfl) ⟨by kernel_rfl, trivial⟩ (l14_1_eq x0 x1 x2 x3 x4) h

noncomputable def l14_2 (x0 : Int) (x1 : Int) (x2 : Int) (x3 : Int) (x4 : List (List (Int × Int × Int))) (x5 : List Int) (x6 : List Bool) : Tree Γ ((Int × Int × Int × Int × PUnit) × (List (List (Int × Int × Int)) × List Int × PUnit) × List Bool × PUnit ⊕ (Int × Int × PUnit) × (List (List (Int × Int × Int)) × List Int × PUnit) × List Bool × PUnit) :=
 .ite (decide (x3 < x2)) (
  .chk (decide (0 ≤ x3)) (
  .chk (decide (x3 < (↑(List.length x4) : Int))) (
  .act 1404 (((x3, x0, x1, x2, x3, List.getD x4 (Int.toNat x3) [], (↑(List.length (List.getD x4 (Int.toNat x3) [])) : Int), 0, ()), (x4, x5, ()), x6, ())) (fun y => match y with
   | ((y0, y1, y2, y3, ()), (y4, y5, ()), y6, ()) =>
    .ret (Sum.inl ((y0, y1, y2, IntKind.wrap IntKind.i64 (y3 + 1), ()), (y4, y5, ()), y6, ())))))) (
  .ret (Sum.inr ((x0, x1, ()), (x4, x5, ()), x6, ())))

theorem l14_2_eq (x0 : Int) (x1 : Int) (x2 : Int) (x3 : Int) (x4 : List (List (Int × Int × Int))) (x5 : List Int) (x6 : List Bool) : roundT (cf kt 0) 1403 (loopAt (loopAt code14 1) 0) (plan (loopAt (loopAt code14 1) 0) [1404]) ((x0, x1, x2, x3, ()), (x4, x5, ()), x6, ()) = l14_2 x0 x1 x2 x3 x4 x5 x6 := by kernel_rfl

theorem r1403 (x0 : Int) (x1 : Int) (x2 : Int) (x3 : Int) (x4 : List (List (Int × Int × Int))) (x5 : List Int) (x6 : List Bool) {y : (Int × Int × PUnit) × (List (List (Int × Int × Int)) × List Int × PUnit) × List Bool × PUnit} (h : (l14_2 x0 x1 x2 x3 x4 x5 x6).wp (SemR Try.prog Γ) (LoopP (fun (x : (Int × Int × Int × Int × PUnit) × (List (List (Int × Int × Int)) × List Int × PUnit) × List Bool × PUnit) (y : (Int × Int × PUnit) × (List (List (Int × Int × Int)) × List Int × PUnit) × List Bool × PUnit) => SemR Try.prog Γ 1403 x y) y)) : SemR Try.prog Γ 1403 ((x0, x1, x2, x3, ()), (x4, x5, ()), x6, ()) y :=
  loop_rule (P := Try.prog) (c := (cf kt 0)) (body := (loopAt (loopAt code14 1) 0)) (l := [1404]) rfl mixed (by kernel_rfl) (by kernel_rfl) ⟨by kernel_rfl, trivial⟩ (l14_2_eq x0 x1 x2 x3 x4 x5 x6) h

noncomputable def l14_3 (x0 : Int) (x1 : Int) (x2 : Int) (x3 : Int) (x4 : Int) (x5 : List (Int × Int × Int)) (x6 : Int) (x7 : Int) (x8 : List (List (Int × Int × Int))) (x9 : List Int) (x10 : List Bool) : Tree Γ ((Int × Int × Int × Int × Int × List (Int × Int × Int) × Int × Int × PUnit) × (List (List (Int × Int × Int)) × List Int × PUnit) × List Bool × PUnit ⊕ (Int × Int × Int × Int × PUnit) × (List (List (Int × Int × Int)) × List Int × PUnit) × List Bool × PUnit) :=
 .ite (decide (x7 < x6)) (
  .chk (decide (0 ≤ x7)) (
  .chk (decide (x7 < (↑(List.length x5) : Int))) (
  .chk (!(decide ((List.getD x5 (Int.toNat x7) (0, 0, 0)).snd.snd ≥ 0) && decide ((List.getD x5 (Int.toNat x7) (0, 0, 0)).snd.snd < (↑(List.length x10) : Int))) || decide (0 ≤ (List.getD x5 (Int.toNat x7) (0, 0, 0)).snd.snd)) (
  .chk (!(decide ((List.getD x5 (Int.toNat x7) (0, 0, 0)).snd.snd ≥ 0) && decide ((List.getD x5 (Int.toNat x7) (0, 0, 0)).snd.snd < (↑(List.length x10) : Int))) || decide ((List.getD x5 (Int.toNat x7) (0, 0, 0)).snd.snd < (↑(List.length x10) : Int))) (
  .ite (decide ((List.getD x5 (Int.toNat x7) (0, 0, 0)).snd.snd ≥ 0) && decide ((List.getD x5 (Int.toNat x7) (0, 0, 0)).snd.snd < (↑(List.length x10) : Int)) && !List.getD x10 (Int.toNat (List.getD x5 (Int.toNat x7) (0, 0, 0)).snd.snd) false) (
   .chk (decide (0 ≤ x0)) (
   .chk (decide (x0 < (↑(List.length x10) : Int))) (
   .ret (Sum.inl ((x0, x1, x2, x3, x4, x5, x6, IntKind.wrap IntKind.i64 (x7 + 1), ()), (x8, x9, ()), List.set x10 (Int.toNat x0) false, ()))))) (
   .ret (Sum.inl ((x0, x1, x2, x3, x4, x5, x6, IntKind.wrap IntKind.i64 (x7 + 1), ()), (x8, x9, ()), x10, ())))))))) (
  .ret (Sum.inr ((x1, x2, x3, x4, ()), (x8, x9, ()), x10, ())))

theorem l14_3_eq (x0 : Int) (x1 : Int) (x2 : Int) (x3 : Int) (x4 : Int) (x5 : List (Int × Int × Int)) (x6 : Int) (x7 : Int) (x8 : List (List (Int × Int × Int))) (x9 : List Int) (x10 : List Bool) : roundT (cf kt 0) 1404 (loopAt (loopAt (loopAt code14 1) 0) 0) (plan (loopAt (loopAt (loopAt code14 1) 0) 0) []) ((x0, x1, x2, x3, x4, x5, x6, x7, ()), (x8, x9, ()), x10, ()) = l14_3 x0 x1 x2 x3 x4 x5 x6 x7 x8 x9 x10 := by kernel_rfl

theorem r1404 (x0 : Int) (x1 : Int) (x2 : Int) (x3 : Int) (x4 : Int) (x5 : List (Int × Int × Int)) (x6 : Int) (x7 : Int) (x8 : List (List (Int × Int × Int))) (x9 : List Int) (x10 : List Bool) {y : (Int × Int × Int × Int × PUnit) × (List (List (Int × Int × Int)) × List Int × PUnit) × List Bool × PUnit} (h : (l14_3 x0 x1 x2 x3 x4 x5 x6 x7 x8 x9 x10).wp (SemR Try.prog Γ) (LoopP (fun (x : (Int × Int × Int × Int × Int × List (Int × Int × Int) × Int × Int × PUnit) × (List (List (Int × Int × Int)) × List Int × PUnit) × List Bool × PUnit) (y : (Int × Int × Int × Int × PUnit) × (List (List (Int × Int × Int)) × List Int × PUnit) × List Bool × PUnit) => SemR Try.prog Γ 1404 x y) y)) : SemR Try.prog Γ 1404 ((x0, x1, x2, x3, x4, x5, x6, x7, ()), (x8, x9, ()), x10, ()) y :=
  loop_rule (P := Try.prog) (c := (cf kt 0)) (body := (loopAt (loopAt (loopAt code14 1) 0) 0)) (l := []) rfl mixed (by kernel_rfl) (by kernel_rfl) trivial (l14_3_eq x0 x1 x2 x3 x4 x5 x6 x7 x8 x9 x10) h

/-! quincunx/least.Classes -/
noncomputable def t16 (x0 : List (List (Int × Int × Int))) (x1 : List Int) : Tree Γ ((List Int × PUnit) × PUnit) :=
 .act 1300 ((((x0, x1), ()), ())) (fun y => match y with
  | ((y0, ()), ()) =>
   .chk (decide (0 ≤ (↑(List.length x0) : Int))) (
   .chk ((↑(List.length x0) : Int) == (↑(List.length x0) : Int)) (
   .chk (decide (Int.toNat (↑(List.length x0) : Int) * 1 ≤ 16777216)) (
   .chk (decide (8 * Int.toNat (↑(List.length x0) : Int) ≤ 281474976710656)) (
   .act 1601 (((y0, (↑(List.length (List.replicate (Int.toNat (↑(List.length x0) : Int)) (0 : Int))) : Int), 0, ()), (x0, x1, ()), List.replicate (Int.toNat (↑(List.length x0) : Int)) (0 : Int), ())) (fun y => match y with
    | ((y1, ()), (y2, y3, ()), y4, ()) =>
     .act 1602 (((y1, -1, ()), (y2, y3, ()), y4, ())) (fun y => match y with
      | ((), y5, ()) =>
       .ret (((y5, ()), ())))))))))

theorem t16_eq (x0 : List (List (Int × Int × Int))) (x1 : List Int) : funT (cf kt 0) 1600 Try.f16 code16 (plan code16 [1601, 1602]) (((x0, x1), ()), ()) = t16 x0 x1 := by kernel_rfl

theorem r1600 (x0 : List (List (Int × Int × Int))) (x1 : List Int) {y : ((List Int × PUnit) × PUnit)} (h : (t16 x0 x1).wp (SemR Try.prog Γ) (fun z => y = z)) : SemR Try.prog Γ 1600 (((x0, x1), ()), ()) y :=
  fn_rule (P := Try.prog) (c := (cf kt 0)) (code := code16) (l := [1601, 1602]) rfl mixed (by kernel_rfl) Try.func16 (by kernel_rfl) (by kernel_rfl) ⟨by kernel_rfl, by kernel_rfl, trivial⟩ (by kernel_rfl) (t16_eq x0 x1) h

noncomputable def l16_0 (x0 : List Bool) (x1 : Int) (x2 : Int) (x3 : List (List (Int × Int × Int))) (x4 : List Int) (x5 : List Int) : Tree Γ ((List Bool × Int × Int × PUnit) × (List (List (Int × Int × Int)) × List Int × PUnit) × List Int × PUnit ⊕ (List Bool × PUnit) × (List (List (Int × Int × Int)) × List Int × PUnit) × List Int × PUnit) :=
 .ite (decide (x2 < x1)) (
  .chk (decide (0 ≤ x2)) (
  .chk (decide (x2 < (↑(List.length x5) : Int))) (
  .chk (decide (0 ≤ x2)) (
  .chk (decide (x2 < (↑(List.length x0) : Int))) (
  .ite (!List.getD x0 (Int.toNat x2) false && decide (x2 < (↑(List.length x4) : Int))) (
   .chk (decide (0 ≤ x2)) (
   .chk (decide (x2 < (↑(List.length x4) : Int))) (
   .chk (decide (0 ≤ x2)) (
   .chk (decide (x2 < (↑(List.length (List.set x5 (Int.toNat x2) (-1))) : Int))) (
   .ret (Sum.inl ((x0, x1, IntKind.wrap IntKind.i64 (x2 + 1), ()), (x3, x4, ()), List.set (List.set x5 (Int.toNat x2) (-1)) (Int.toNat x2) (IntKind.wrap IntKind.i64 (1 + List.getD x4 (Int.toNat x2) 0)), ()))))))) (
   .ret (Sum.inl ((x0, x1, IntKind.wrap IntKind.i64 (x2 + 1), ()), (x3, x4, ()), List.set x5 (Int.toNat x2) (-1), ())))))))) (
  .ret (Sum.inr ((x0, ()), (x3, x4, ()), x5, ())))

theorem l16_0_eq (x0 : List Bool) (x1 : Int) (x2 : Int) (x3 : List (List (Int × Int × Int))) (x4 : List Int) (x5 : List Int) : roundT (cf kt 0) 1601 (loopAt code16 0) (plan (loopAt code16 0) []) ((x0, x1, x2, ()), (x3, x4, ()), x5, ()) = l16_0 x0 x1 x2 x3 x4 x5 := by kernel_rfl

theorem r1601 (x0 : List Bool) (x1 : Int) (x2 : Int) (x3 : List (List (Int × Int × Int))) (x4 : List Int) (x5 : List Int) {y : (List Bool × PUnit) × (List (List (Int × Int × Int)) × List Int × PUnit) × List Int × PUnit} (h : (l16_0 x0 x1 x2 x3 x4 x5).wp (SemR Try.prog Γ) (LoopP (fun (x : (List Bool × Int × Int × PUnit) × (List (List (Int × Int × Int)) × List Int × PUnit) × List Int × PUnit) (y : (List Bool × PUnit) × (List (List (Int × Int × Int)) × List Int × PUnit) × List Int × PUnit) => SemR Try.prog Γ 1601 x y) y)) : SemR Try.prog Γ 1601 ((x0, x1, x2, ()), (x3, x4, ()), x5, ()) y :=
  loop_rule (P := Try.prog) (c := (cf kt 0)) (body := (loopAt code16 0)) (l := []) rfl mixed (by kernel_rfl) (by kernel_rfl) trivial (l16_0_eq x0 x1 x2 x3 x4 x5) h

noncomputable def l16_1 (x0 : List Bool) (x1 : Int) (x2 : List (List (Int × Int × Int))) (x3 : List Int) (x4 : List Int) : Tree Γ ((List Bool × Int × PUnit) × (List (List (Int × Int × Int)) × List Int × PUnit) × List Int × PUnit ⊕ PUnit × List Int × PUnit) :=
 .chk (decide (0 ≤ (↑(List.length x4) : Int))) (
 .chk ((↑(List.length x4) : Int) == (↑(List.length x4) : Int)) (
 .chk (decide (Int.toNat (↑(List.length x4) : Int) * 1 ≤ 16777216)) (
 .chk (decide (8 * Int.toNat (↑(List.length x4) : Int) ≤ 281474976710656)) (
 .act 1603 (((x0, x1, x2, (↑(List.length x2) : Int), 0, ()), (x2, x3, ()), x4, List.replicate (Int.toNat (↑(List.length x4) : Int)) (0 : Int), [], ())) (fun y => match y with
  | ((y0, y1, ()), (y2, y3, ()), y4, y5, y6, ()) =>
   .ite ((↑(List.length y6) : Int) == y1) (
    .ret (Sum.inr ((), y5, ()))) (
    .act 1606 (((y0, (↑(List.length y6) : Int), (↑(List.length y5) : Int), 0, ()), (y2, y3, ()), y4, y5, ())) (fun y => match y with
     | ((y7, y8, ()), (y9, y10, ()), y11, ()) =>
      .ret (Sum.inl ((y7, y8, ()), (y9, y10, ()), y11, ())))))))))

theorem l16_1_eq (x0 : List Bool) (x1 : Int) (x2 : List (List (Int × Int × Int))) (x3 : List Int) (x4 : List Int) : roundT (cf kt 0) 1602 (loopAt code16 1) (plan (loopAt code16 1) [1603, 1606]) ((x0, x1, ()), (x2, x3, ()), x4, ()) = l16_1 x0 x1 x2 x3 x4 := by kernel_rfl

theorem r1602 (x0 : List Bool) (x1 : Int) (x2 : List (List (Int × Int × Int))) (x3 : List Int) (x4 : List Int) {y : PUnit × List Int × PUnit} (h : (l16_1 x0 x1 x2 x3 x4).wp (SemR Try.prog Γ) (LoopP (fun (x : (List Bool × Int × PUnit) × (List (List (Int × Int × Int)) × List Int × PUnit) × List Int × PUnit) (y : PUnit × List Int × PUnit) => SemR Try.prog Γ 1602 x y) y)) : SemR Try.prog Γ 1602 ((x0, x1, ()), (x2, x3, ()), x4, ()) y :=
  loop_rule (P := Try.prog) (c := (cf kt 0)) (body := (loopAt code16 1)) (l := [1603, 1606]) rfl mixed (by kernel_rfl) (by kernel_rfl) ⟨by kernel_rfl, by kernel_rfl, trivial⟩ (l16_1_eq x0 x1 x2 x3 x4) h

noncomputable def l16_2 (x0 : List Bool) (x1 : Int) (x2 : List (List (Int × Int × Int))) (x3 : Int) (x4 : Int) (x5 : List (List (Int × Int × Int))) (x6 : List Int) (x7 : List Int) (x8 : List Int) (x9 : List ((Int × List Int) × Int)) : Tree Γ ((List Bool × Int × List (List (Int × Int × Int)) × Int × Int × PUnit) × (List (List (Int × Int × Int)) × List Int × PUnit) × List Int × List Int × List ((Int × List Int) × Int) × PUnit ⊕ (List Bool × Int × PUnit) × (List (List (Int × Int × Int)) × List Int × PUnit) × List Int × List Int × List ((Int × List Int) × Int) × PUnit) :=
 .ite (decide (x4 < x3)) (
  .chk (decide (0 ≤ x4)) (
  .chk (decide (x4 < (↑(List.length x2) : Int))) (
  .chk (decide (0 ≤ x4)) (
  .chk (decide (x4 < (↑(List.length x7) : Int))) (
  .act 1604 (((x0, x1, x4, x2, x3, x4, List.getD x2 (Int.toNat x4) [], (↑(List.length (List.getD x2 (Int.toNat x4) [])) : Int), 0, ()), (x5, x6, ()), x7, x8, x9, (List.getD x7 (Int.toNat x4) 0, List.replicate 256 0, ()), ())) (fun y => match y with
   | ((y0, y1, y2, y3, y4, y5, ()), (y6, y7, ()), y8, y9, y10, (y11, y12, ()), ()) =>
    .ite (!Option.isSome (lkp (eqEl (Ty.prod tI (Ty.arr 256 tI))) (y11, y12) y10)) (
     .chk (decide (0 ≤ y2)) (
     .chk (decide (y2 < (↑(List.length y9) : Int))) (
     .ret (Sum.inl ((y0, y1, y3, y4, IntKind.wrap IntKind.i64 (y5 + 1), ()), (y6, y7, ()), y8, List.set y9 (Int.toNat y2) (↑(List.length y10) : Int), putKV (eqEl (Ty.prod tI (Ty.arr 256 tI))) (y11, y12) (↑(List.length y10) : Int) y10, ()))))) (
     .chk (decide (0 ≤ y2)) (
     .chk (decide (y2 < (↑(List.length y9) : Int))) (
     .ret (Sum.inl ((y0, y1, y3, y4, IntKind.wrap IntKind.i64 (y5 + 1), ()), (y6, y7, ()), y8, List.set y9 (Int.toNat y2) (Option.getD (lkp (eqEl (Ty.prod tI (Ty.arr 256 tI))) (y11, y12) y10) 0), y10, ()))))))))))) (
  .ret (Sum.inr ((x0, x1, ()), (x5, x6, ()), x7, x8, x9, ())))

theorem l16_2_eq (x0 : List Bool) (x1 : Int) (x2 : List (List (Int × Int × Int))) (x3 : Int) (x4 : Int) (x5 : List (List (Int × Int × Int))) (x6 : List Int) (x7 : List Int) (x8 : List Int) (x9 : List ((Int × List Int) × Int)) : roundT (cf kt 0) 1603 (loopAt (loopAt code16 1) 0) (plan (loopAt (loopAt code16 1) 0) [1604]) ((x0, x1, x2, x3, x4, ()), (x5, x6, ()), x7, x8, x9, ()) = l16_2 x0 x1 x2 x3 x4 x5 x6 x7 x8 x9 := by kernel_rfl

theorem r1603 (x0 : List Bool) (x1 : Int) (x2 : List (List (Int × Int × Int))) (x3 : Int) (x4 : Int) (x5 : List (List (Int × Int × Int))) (x6 : List Int) (x7 : List Int) (x8 : List Int) (x9 : List ((Int × List Int) × Int)) {y : (List Bool × Int × PUnit) × (List (List (Int × Int × Int)) × List Int × PUnit) × List Int × List Int × List ((Int × List Int) × Int) × PUnit} (h : (l16_2 x0 x1 x2 x3 x4 x5 x6 x7 x8 x9).wp (SemR Try.prog Γ) (LoopP (fun (x : (List Bool × Int × List (List (Int × Int × Int)) × Int × Int × PUnit) × (List (List (Int × Int × Int)) × List Int × PUnit) × List Int × List Int × List ((Int × List Int) × Int) × PUnit) (y : (List Bool × Int × PUnit) × (List (List (Int × Int × Int)) × List Int × PUnit) × List Int × List Int × List ((Int × List Int) × Int) × PUnit) => SemR Try.prog Γ 1603 x y) y)) : SemR Try.prog Γ 1603 ((x0, x1, x2, x3, x4, ()), (x5, x6, ()), x7, x8, x9, ()) y :=
  loop_rule (P := Try.prog) (c := (cf kt 0)) (body := (loopAt (loopAt code16 1) 0)) (l := [1604]) rfl mixed (by kernel_rfl) (by kernel_rfl) ⟨by kernel_rfl, trivial⟩ (l16_2_eq x0 x1 x2 x3 x4 x5 x6 x7 x8 x9) h

noncomputable def l16_3 (x0 : List Bool) (x1 : Int) (x2 : Int) (x3 : List (List (Int × Int × Int))) (x4 : Int) (x5 : Int) (x6 : List (Int × Int × Int)) (x7 : Int) (x8 : Int) (x9 : List (List (Int × Int × Int))) (x10 : List Int) (x11 : List Int) (x12 : List Int) (x13 : List ((Int × List Int) × Int)) (x14 : Int) (x15 : List Int) : Tree Γ ((List Bool × Int × Int × List (List (Int × Int × Int)) × Int × Int × List (Int × Int × Int) × Int × Int × PUnit) × (List (List (Int × Int × Int)) × List Int × PUnit) × List Int × List Int × List ((Int × List Int) × Int) × (Int × List Int × PUnit) × PUnit ⊕ (List Bool × Int × Int × List (List (Int × Int × Int)) × Int × Int × PUnit) × (List (List (Int × Int × Int)) × List Int × PUnit) × List Int × List Int × List ((Int × List Int) × Int) × (Int × List Int × PUnit) × PUnit) :=
 .ite (decide (x8 < x7)) (
  .chk (decide (0 ≤ x8)) (
  .chk (decide (x8 < (↑(List.length x6) : Int))) (
  .act 1605 (((x0, x1, x2, IntKind.wrap IntKind.i64 (List.getD x6 (Int.toNat x8) (0, 0, 0)).fst, x3, x4, x5, x6, x7, x8, ()), (x9, x10, ()), x11, x12, x13, (x14, x15, ()), ((List.getD x6 (Int.toNat x8) (0, 0, 0)).fst, (List.getD x6 (Int.toNat x8) (0, 0, 0)).snd.fst, (List.getD x6 (Int.toNat x8) (0, 0, 0)).snd.snd, ()), ())) (fun y => match y with
   | ((y0, y1, y2, y3, y4, y5, y6, y7, y8, ()), (y9, y10, ()), y11, y12, y13, (y14, y15, ()), ()) =>
    .ret (Sum.inl ((y0, y1, y2, y3, y4, y5, y6, y7, IntKind.wrap IntKind.i64 (y8 + 1), ()), (y9, y10, ()), y11, y12, y13, (y14, y15, ()), ())))))) (
  .ret (Sum.inr ((x0, x1, x2, x3, x4, x5, ()), (x9, x10, ()), x11, x12, x13, (x14, x15, ()), ())))

theorem l16_3_eq (x0 : List Bool) (x1 : Int) (x2 : Int) (x3 : List (List (Int × Int × Int))) (x4 : Int) (x5 : Int) (x6 : List (Int × Int × Int)) (x7 : Int) (x8 : Int) (x9 : List (List (Int × Int × Int))) (x10 : List Int) (x11 : List Int) (x12 : List Int) (x13 : List ((Int × List Int) × Int)) (x14 : Int) (x15 : List Int) : roundT (cf kt 0) 1604 (loopAt (loopAt (loopAt code16 1) 0) 0) (plan (loopAt (loopAt (loopAt code16 1) 0) 0) [1605]) ((x0, x1, x2, x3, x4, x5, x6, x7, x8, ()), (x9, x10, ()), x11, x12, x13, (x14, x15, ()), ()) = l16_3 x0 x1 x2 x3 x4 x5 x6 x7 x8 x9 x10 x11 x12 x13 x14 x15 := by kernel_rfl

theorem r1604 (x0 : List Bool) (x1 : Int) (x2 : Int) (x3 : List (List (Int × Int × Int))) (x4 : Int) (x5 : Int) (x6 : List (Int × Int × Int)) (x7 : Int) (x8 : Int) (x9 : List (List (Int × Int × Int))) (x10 : List Int) (x11 : List Int) (x12 : List Int) (x13 : List ((Int × List Int) × Int)) (x14 : Int) (x15 : List Int) {y : (List Bool × Int × Int × List (List (Int × Int × Int)) × Int × Int × PUnit) × (List (List (Int × Int × Int)) × List Int × PUnit) × List Int × List Int × List ((Int × List Int) × Int) × (Int × List Int × PUnit) × PUnit} (h : (l16_3 x0 x1 x2 x3 x4 x5 x6 x7 x8 x9 x10 x11 x12 x13 x14 x15).wp (SemR Try.prog Γ) (LoopP (fun (x : (List Bool × Int × Int × List (List (Int × Int × Int)) × Int × Int × List (Int × Int × Int) × Int × Int × PUnit) × (List (List (Int × Int × Int)) × List Int × PUnit) × List Int × List Int × List ((Int × List Int) × Int) × (Int × List Int × PUnit) × PUnit) (y : (List Bool × Int × Int × List (List (Int × Int × Int)) × Int × Int × PUnit) × (List (List (Int × Int × Int)) × List Int × PUnit) × List Int × List Int × List ((Int × List Int) × Int) × (Int × List Int × PUnit) × PUnit) => SemR Try.prog Γ 1604 x y) y)) : SemR Try.prog Γ 1604 ((x0, x1, x2, x3, x4, x5, x6, x7, x8, ()), (x9, x10, ()), x11, x12, x13, (x14, x15, ()), ()) y :=
  loop_rule (P := Try.prog) (c := (cf kt 0)) (body := (loopAt (loopAt (loopAt code16 1) 0) 0)) (l := [1605]) rfl mixed (by kernel_rfl) (by kernel_rfl) ⟨by kernel_rfl, trivial⟩ (l16_3_eq x0 x1 x2 x3 x4 x5 x6 x7 x8 x9 x10 x11 x12 x13 x14 x15) h

noncomputable def l16_4 (x0 : List Bool) (x1 : Int) (x2 : Int) (x3 : Int) (x4 : List (List (Int × Int × Int))) (x5 : Int) (x6 : Int) (x7 : List (Int × Int × Int)) (x8 : Int) (x9 : Int) (x10 : List (List (Int × Int × Int))) (x11 : List Int) (x12 : List Int) (x13 : List Int) (x14 : List ((Int × List Int) × Int)) (x15 : Int) (x16 : List Int) (x17 : Int) (x18 : Int) (x19 : Int) : Tree Γ ((List Bool × Int × Int × Int × List (List (Int × Int × Int)) × Int × Int × List (Int × Int × Int) × Int × Int × PUnit) × (List (List (Int × Int × Int)) × List Int × PUnit) × List Int × List Int × List ((Int × List Int) × Int) × (Int × List Int × PUnit) × (Int × Int × Int × PUnit) × PUnit ⊕ (List Bool × Int × Int × List (List (Int × Int × Int)) × Int × Int × List (Int × Int × Int) × Int × Int × PUnit) × (List (List (Int × Int × Int)) × List Int × PUnit) × List Int × List Int × List ((Int × List Int) × Int) × (Int × List Int × PUnit) × PUnit) :=
 .chk (!(decide (x3 ≤ IntKind.wrap IntKind.i64 x18) && decide (x19 ≥ 0) && decide (x19 < (↑(List.length x12) : Int))) || decide (0 ≤ x2)) (
 .chk (!(decide (x3 ≤ IntKind.wrap IntKind.i64 x18) && decide (x19 ≥ 0) && decide (x19 < (↑(List.length x12) : Int))) || decide (x2 < (↑(List.length x0) : Int))) (
 .ite (decide (x3 ≤ IntKind.wrap IntKind.i64 x18) && decide (x19 ≥ 0) && decide (x19 < (↑(List.length x12) : Int)) && !List.getD x0 (Int.toNat x2) false) (
  .chk (decide (0 ≤ x19)) (
  .chk (decide (x19 < (↑(List.length x12) : Int))) (
  .chk (decide (0 ≤ x3)) (
  .chk (decide (x3 < 256)) (
  .ret (Sum.inl ((x0, x1, x2, IntKind.wrap IntKind.i64 (x3 + 1), x4, x5, x6, x7, x8, x9, ()), (x10, x11, ()), x12, x13, x14, (x15, List.set x16 (Int.toNat x3) (IntKind.wrap IntKind.i64 (1 + List.getD x12 (Int.toNat x19) 0)), ()), (x17, x18, x19, ()), ()))))))) (
  .ret (Sum.inr ((x0, x1, x2, x4, x5, x6, x7, x8, x9, ()), (x10, x11, ()), x12, x13, x14, (x15, x16, ()), ())))))

theorem l16_4_eq (x0 : List Bool) (x1 : Int) (x2 : Int) (x3 : Int) (x4 : List (List (Int × Int × Int))) (x5 : Int) (x6 : Int) (x7 : List (Int × Int × Int)) (x8 : Int) (x9 : Int) (x10 : List (List (Int × Int × Int))) (x11 : List Int) (x12 : List Int) (x13 : List Int) (x14 : List ((Int × List Int) × Int)) (x15 : Int) (x16 : List Int) (x17 : Int) (x18 : Int) (x19 : Int) : roundT (cf kt 0) 1605 (loopAt (loopAt (loopAt (loopAt code16 1) 0) 0) 0) (plan (loopAt (loopAt (loopAt (loopAt code16 1) 0) 0) 0) []) ((x0, x1, x2, x3, x4, x5, x6, x7, x8, x9, ()), (x10, x11, ()), x12, x13, x14, (x15, x16, ()), (x17, x18, x19, ()), ()) = l16_4 x0 x1 x2 x3 x4 x5 x6 x7 x8 x9 x10 x11 x12 x13 x14 x15 x16 x17 x18 x19 := by kernel_rfl

theorem r1605 (x0 : List Bool) (x1 : Int) (x2 : Int) (x3 : Int) (x4 : List (List (Int × Int × Int))) (x5 : Int) (x6 : Int) (x7 : List (Int × Int × Int)) (x8 : Int) (x9 : Int) (x10 : List (List (Int × Int × Int))) (x11 : List Int) (x12 : List Int) (x13 : List Int) (x14 : List ((Int × List Int) × Int)) (x15 : Int) (x16 : List Int) (x17 : Int) (x18 : Int) (x19 : Int) {y : (List Bool × Int × Int × List (List (Int × Int × Int)) × Int × Int × List (Int × Int × Int) × Int × Int × PUnit) × (List (List (Int × Int × Int)) × List Int × PUnit) × List Int × List Int × List ((Int × List Int) × Int) × (Int × List Int × PUnit) × PUnit} (h : (l16_4 x0 x1 x2 x3 x4 x5 x6 x7 x8 x9 x10 x11 x12 x13 x14 x15 x16 x17 x18 x19).wp (SemR Try.prog Γ) (LoopP (fun (x : (List Bool × Int × Int × Int × List (List (Int × Int × Int)) × Int × Int × List (Int × Int × Int) × Int × Int × PUnit) × (List (List (Int × Int × Int)) × List Int × PUnit) × List Int × List Int × List ((Int × List Int) × Int) × (Int × List Int × PUnit) × (Int × Int × Int × PUnit) × PUnit) (y : (List Bool × Int × Int × List (List (Int × Int × Int)) × Int × Int × List (Int × Int × Int) × Int × Int × PUnit) × (List (List (Int × Int × Int)) × List Int × PUnit) × List Int × List Int × List ((Int × List Int) × Int) × (Int × List Int × PUnit) × PUnit) => SemR Try.prog Γ 1605 x y) y)) : SemR Try.prog Γ 1605 ((x0, x1, x2, x3, x4, x5, x6, x7, x8, x9, ()), (x10, x11, ()), x12, x13, x14, (x15, x16, ()), (x17, x18, x19, ()), ()) y :=
  loop_rule (P := Try.prog) (c := (cf kt 0)) (body := (loopAt (loopAt (loopAt (loopAt code16 1) 0) 0) 0)) (l := []) rfl mixed (by kernel_rfl) (by kernel_rfl) trivial (l16_4_eq x0 x1 x2 x3 x4 x5 x6 x7 x8 x9 x10 x11 x12 x13 x14 x15 x16 x17 x18 x19) h

noncomputable def l16_5 (x0 : List Bool) (x1 : Int) (x2 : Int) (x3 : Int) (x4 : List (List (Int × Int × Int))) (x5 : List Int) (x6 : List Int) (x7 : List Int) : Tree Γ ((List Bool × Int × Int × Int × PUnit) × (List (List (Int × Int × Int)) × List Int × PUnit) × List Int × List Int × PUnit ⊕ (List Bool × Int × PUnit) × (List (List (Int × Int × Int)) × List Int × PUnit) × List Int × PUnit) :=
 .ite (decide (x3 < x2)) (
  .chk (decide (0 ≤ x3)) (
  .chk (decide (x3 < (↑(List.length x7) : Int))) (
  .chk (decide (0 ≤ x3)) (
  .chk (decide (x3 < (↑(List.length x6) : Int))) (
  .chk (decide (0 ≤ x3)) (
  .chk (decide (x3 < (↑(List.length x0) : Int))) (
  .ite (List.getD x0 (Int.toNat x3) false) (
   .chk (decide (0 ≤ x3)) (
   .chk (decide (x3 < (↑(List.length (List.set x6 (Int.toNat x3) (List.getD x7 (Int.toNat x3) 0))) : Int))) (
   .ret (Sum.inl ((x0, x1, x2, IntKind.wrap IntKind.i64 (x3 + 1), ()), (x4, x5, ()), List.set (List.set x6 (Int.toNat x3) (List.getD x7 (Int.toNat x3) 0)) (Int.toNat x3) (-1), x7, ()))))) (
   .ret (Sum.inl ((x0, x1, x2, IntKind.wrap IntKind.i64 (x3 + 1), ()), (x4, x5, ()), List.set x6 (Int.toNat x3) (List.getD x7 (Int.toNat x3) 0), x7, ())))))))))) (
  .ret (Sum.inr ((x0, x1, ()), (x4, x5, ()), x6, ())))

theorem l16_5_eq (x0 : List Bool) (x1 : Int) (x2 : Int) (x3 : Int) (x4 : List (List (Int × Int × Int))) (x5 : List Int) (x6 : List Int) (x7 : List Int) : roundT (cf kt 0) 1606 (loopAt (loopAt code16 1) 1) (plan (loopAt (loopAt code16 1) 1) []) ((x0, x1, x2, x3, ()), (x4, x5, ()), x6, x7, ()) = l16_5 x0 x1 x2 x3 x4 x5 x6 x7 := by kernel_rfl

theorem r1606 (x0 : List Bool) (x1 : Int) (x2 : Int) (x3 : Int) (x4 : List (List (Int × Int × Int))) (x5 : List Int) (x6 : List Int) (x7 : List Int) {y : (List Bool × Int × PUnit) × (List (List (Int × Int × Int)) × List Int × PUnit) × List Int × PUnit} (h : (l16_5 x0 x1 x2 x3 x4 x5 x6 x7).wp (SemR Try.prog Γ) (LoopP (fun (x : (List Bool × Int × Int × Int × PUnit) × (List (List (Int × Int × Int)) × List Int × PUnit) × List Int × List Int × PUnit) (y : (List Bool × Int × PUnit) × (List (List (Int × Int × Int)) × List Int × PUnit) × List Int × PUnit) => SemR Try.prog Γ 1606 x y) y)) : SemR Try.prog Γ 1606 ((x0, x1, x2, x3, ()), (x4, x5, ()), x6, x7, ()) y :=
  loop_rule (P := Try.prog) (c := (cf kt 0)) (body := (loopAt (loopAt code16 1) 1)) (l := []) rfl mixed (by kernel_rfl) (by kernel_rfl) trivial (l16_5_eq x0 x1 x2 x3 x4 x5 x6 x7) h

/-! quincunx/quincunxref05.Classes -/
noncomputable def t17 (x0 : List (List (Int × Int × Int))) (x1 : List Int) : Tree Γ ((List Int × PUnit) × PUnit) :=
 .act 1400 ((((x0, x1), ()), ())) (fun y => match y with
  | ((y0, ()), ()) =>
   .chk (decide (0 ≤ (↑(List.length x0) : Int))) (
   .chk ((↑(List.length x0) : Int) == (↑(List.length x0) : Int)) (
   .chk (decide (Int.toNat (↑(List.length x0) : Int) * 1 ≤ 16777216)) (
   .chk (decide (8 * Int.toNat (↑(List.length x0) : Int) ≤ 281474976710656)) (
   .act 1701 (((y0, (↑(List.length (List.replicate (Int.toNat (↑(List.length x0) : Int)) (0 : Int))) : Int), 0, ()), (x0, x1, ()), List.replicate (Int.toNat (↑(List.length x0) : Int)) (0 : Int), ())) (fun y => match y with
    | ((y1, ()), (y2, y3, ()), y4, ()) =>
     .act 1702 (((y1, y4, (↑(List.length y4) : Int), 0, ()), (y2, y3, ()), ())) (fun y => match y with
      | ((y5, ()), ()) =>
       .ret (((y5, ()), ())))))))))

theorem t17_eq (x0 : List (List (Int × Int × Int))) (x1 : List Int) : funT (cf kt 0) 1700 Try.f17 code17 (plan code17 [1701, 1702]) (((x0, x1), ()), ()) = t17 x0 x1 := by kernel_rfl

theorem r1700 (x0 : List (List (Int × Int × Int))) (x1 : List Int) {y : ((List Int × PUnit) × PUnit)} (h : (t17 x0 x1).wp (SemR Try.prog Γ) (fun z => y = z)) : SemR Try.prog Γ 1700 (((x0, x1), ()), ()) y :=
  fn_rule (P := Try.prog) (c := (cf kt 0)) (code := code17) (l := [1701, 1702]) rfl mixed (by kernel_rfl) Try.func17 (by kernel_rfl) (by kernel_rfl) ⟨by kernel_rfl, by kernel_rfl, trivial⟩ (by kernel_rfl) (t17_eq x0 x1) h

noncomputable def l17_0 (x0 : List Bool) (x1 : Int) (x2 : Int) (x3 : List (List (Int × Int × Int))) (x4 : List Int) (x5 : List Int) : Tree Γ ((List Bool × Int × Int × PUnit) × (List (List (Int × Int × Int)) × List Int × PUnit) × List Int × PUnit ⊕ (List Bool × PUnit) × (List (List (Int × Int × Int)) × List Int × PUnit) × List Int × PUnit) :=
 .ite (decide (x2 < x1)) (
  .ite (decide (x2 < (↑(List.length x4) : Int))) (
   .chk (decide (0 ≤ x2)) (
   .chk (decide (x2 < (↑(List.length x4) : Int))) (
   .chk (decide (0 ≤ x2)) (
   .chk (decide (x2 < (↑(List.length x5) : Int))) (
   .ret (Sum.inl ((x0, x1, IntKind.wrap IntKind.i64 (x2 + 1), ()), (x3, x4, ()), List.set x5 (Int.toNat x2) (List.getD x4 (Int.toNat x2) 0), ()))))))) (
   .ret (Sum.inl ((x0, x1, IntKind.wrap IntKind.i64 (x2 + 1), ()), (x3, x4, ()), x5, ())))) (
  .ret (Sum.inr ((x0, ()), (x3, x4, ()), x5, ())))

theorem l17_0_eq (x0 : List Bool) (x1 : Int) (x2 : Int) (x3 : List (List (Int × Int × Int))) (x4 : List Int) (x5 : List Int) : roundT (cf kt 0) 1701 (loopAt code17 0) (plan (loopAt code17 0) []) ((x0, x1, x2, ()), (x3, x4, ()), x5, ()) = l17_0 x0 x1 x2 x3 x4 x5 := by kernel_rfl

theorem r1701 (x0 : List Bool) (x1 : Int) (x2 : Int) (x3 : List (List (Int × Int × Int))) (x4 : List Int) (x5 : List Int) {y : (List Bool × PUnit) × (List (List (Int × Int × Int)) × List Int × PUnit) × List Int × PUnit} (h : (l17_0 x0 x1 x2 x3 x4 x5).wp (SemR Try.prog Γ) (LoopP (fun (x : (List Bool × Int × Int × PUnit) × (List (List (Int × Int × Int)) × List Int × PUnit) × List Int × PUnit) (y : (List Bool × PUnit) × (List (List (Int × Int × Int)) × List Int × PUnit) × List Int × PUnit) => SemR Try.prog Γ 1701 x y) y)) : SemR Try.prog Γ 1701 ((x0, x1, x2, ()), (x3, x4, ()), x5, ()) y :=
  loop_rule (P := Try.prog) (c := (cf kt 0)) (body := (loopAt code17 0)) (l := []) rfl mixed (by kernel_rfl) (by kernel_rfl) trivial (l17_0_eq x0 x1 x2 x3 x4 x5) h

noncomputable def l17_1 (x0 : List Bool) (x1 : List Int) (x2 : Int) (x3 : Int) (x4 : List (List (Int × Int × Int))) (x5 : List Int) : Tree Γ ((List Bool × List Int × Int × Int × PUnit) × (List (List (Int × Int × Int)) × List Int × PUnit) × PUnit ⊕ (List Int × PUnit) × PUnit) :=
 .ite (decide (x3 < x2)) (
  .act 2500 ((((x4, x5), x1, x0, ()), ())) (fun y => match y with
   | ((y0, ()), ()) =>
    .ret (Sum.inl ((x0, y0, x2, IntKind.wrap IntKind.i64 (x3 + 1), ()), (x4, x5, ()), ())))) (
  .ret (Sum.inr ((x1, ()), ())))

theorem l17_1_eq (x0 : List Bool) (x1 : List Int) (x2 : Int) (x3 : Int) (x4 : List (List (Int × Int × Int))) (x5 : List Int) : roundT (cf kt 0) 1702 (loopAt code17 1) (plan (loopAt code17 1) []) ((x0, x1, x2, x3, ()), (x4, x5, ()), ()) = l17_1 x0 x1 x2 x3 x4 x5 := by kernel_rfl

theorem r1702 (x0 : List Bool) (x1 : List Int) (x2 : Int) (x3 : Int) (x4 : List (List (Int × Int × Int))) (x5 : List Int) {y : (List Int × PUnit) × PUnit} (h : (l17_1 x0 x1 x2 x3 x4 x5).wp (SemR Try.prog Γ) (LoopP (fun (x : (List Bool × List Int × Int × Int × PUnit) × (List (List (Int × Int × Int)) × List Int × PUnit) × PUnit) (y : (List Int × PUnit) × PUnit) => SemR Try.prog Γ 1702 x y) y)) : SemR Try.prog Γ 1702 ((x0, x1, x2, x3, ()), (x4, x5, ()), ()) y :=
  loop_rule (P := Try.prog) (c := (cf kt 0)) (body := (loopAt code17 1)) (l := []) rfl mixed (by kernel_rfl) (by kernel_rfl) trivial (l17_1_eq x0 x1 x2 x3 x4 x5) h

/-! quincunx/quincunxref05.numbered -/
noncomputable def t25 (x0 : List (List (Int × Int × Int))) (x1 : List Int) (x2 : List Int) (x3 : List Bool) : Tree Γ ((List Int × PUnit) × PUnit) :=
 .chk (decide (0 ≤ (↑(List.length x2) : Int))) (
 .chk ((↑(List.length x2) : Int) == (↑(List.length x2) : Int)) (
 .chk (decide (Int.toNat (↑(List.length x2) : Int) * 1 ≤ 16777216)) (
 .chk (decide (8 * Int.toNat (↑(List.length x2) : Int) ≤ 281474976710656)) (
 .act 2501 (((x2, x3, 0, (↑(List.length x2) : Int), 0, ()), (x0, x1, ()), List.replicate (Int.toNat (↑(List.length x2) : Int)) (0 : Int), ())) (fun y => match y with
  | ((), y0, ()) =>
   .ret (((y0, ()), ())))))))

theorem t25_eq (x0 : List (List (Int × Int × Int))) (x1 : List Int) (x2 : List Int) (x3 : List Bool) : funT (cf kt 0) 2500 Try.f25 code25 (plan code25 [2501]) (((x0, x1), x2, x3, ()), ()) = t25 x0 x1 x2 x3 := by kernel_rfl

theorem r2500 (x0 : List (List (Int × Int × Int))) (x1 : List Int) (x2 : List Int) (x3 : List Bool) {y : ((List Int × PUnit) × PUnit)} (h : (t25 x0 x1 x2 x3).wp (SemR Try.prog Γ) (fun z => y = z)) : SemR Try.prog Γ 2500 (((x0, x1), x2, x3, ()), ()) y :=
  fn_rule (P := Try.prog) (c := (cf kt 0)) (code := code25) (l := [2501]) rfl mixed (by kernel_rfl) Try.func25 (by kernel_rfl) (by kernel_rfl) ⟨by kernel_rfl, trivial⟩ (by kernel_rfl) (t25_eq x0 x1 x2 x3) h

noncomputable def l25_0 (x0 : List Int) (x1 : List Bool) (x2 : Int) (x3 : Int) (x4 : Int) (x5 : List (List (Int × Int × Int))) (x6 : List Int) (x7 : List Int) : Tree Γ ((List Int × List Bool × Int × Int × Int × PUnit) × (List (List (Int × Int × Int)) × List Int × PUnit) × List Int × PUnit ⊕ PUnit × List Int × PUnit) :=
 .ite (decide (x4 < x3)) (
  .chk (decide (0 ≤ x4)) (
  .chk (decide (x4 < (↑(List.length x7) : Int))) (
  .act 2502 (((x0, x1, x2, x4, 0, x3, x4, ()), (x5, x6, ()), List.set x7 (Int.toNat x4) (-1), ())) (fun y => match y with
   | ((y0, y1, y2, y3, y4, y5, ()), (y6, y7, ()), y8, ()) =>
    .chk (decide (0 ≤ y3)) (
    .chk (decide (y3 < (↑(List.length y8) : Int))) (
    .ite (decide (List.getD y8 (Int.toNat y3) 0 < 0)) (
     .chk (decide (0 ≤ y3)) (
     .chk (decide (y3 < (↑(List.length y8) : Int))) (
     .ret (Sum.inl ((y0, y1, IntKind.wrap IntKind.i64 (y2 + 1), y4, IntKind.wrap IntKind.i64 (y5 + 1), ()), (y6, y7, ()), List.set y8 (Int.toNat y3) y2, ()))))) (
     .ret (Sum.inl ((y0, y1, y2, y4, IntKind.wrap IntKind.i64 (y5 + 1), ()), (y6, y7, ()), y8, ()))))))))) (
  .ret (Sum.inr ((), x7, ())))

theorem l25_0_eq (x0 : List Int) (x1 : List Bool) (x2 : Int) (x3 : Int) (x4 : Int) (x5 : List (List (Int × Int × Int))) (x6 : List Int) (x7 : List Int) : roundT (cf kt 0) 2501 (loopAt code25 0) (plan (loopAt code25 0) [2502]) ((x0, x1, x2, x3, x4, ()), (x5, x6, ()), x7, ()) = l25_0 x0 x1 x2 x3 x4 x5 x6 x7 := by kernel_rfl

theorem r2501 (x0 : List Int) (x1 : List Bool) (x2 : Int) (x3 : Int) (x4 : Int) (x5 : List (List (Int × Int × Int))) (x6 : List Int) (x7 : List Int) {y : PUnit × List Int × PUnit} (h : (l25_0 x0 x1 x2 x3 x4 x5 x6 x7).wp (SemR Try.prog Γ) (LoopP (fun (x : (List Int × List Bool × Int × Int × Int × PUnit) × (List (List (Int × Int × Int)) × List Int × PUnit) × List Int × PUnit) (y : PUnit × List Int × PUnit) => SemR Try.prog Γ 2501 x y) y)) : SemR Try.prog Γ 2501 ((x0, x1, x2, x3, x4, ()), (x5, x6, ()), x7, ()) y :=
  loop_rule (P := Try.prog) (c := (cf kt 0)) (body := (loopAt code25 0)) (l := [2502]) rfl mixed (by kernel_rfl) (by kernel_rfl) ⟨by kernel_rfl, trivial⟩ (l25_0_eq x0 x1 x2 x3 x4 x5 x6 x7) h

noncomputable def l25_1 (x0 : List Int) (x1 : List Bool) (x2 : Int) (x3 : Int) (x4 : Int) (x5 : Int) (x6 : Int) (x7 : List (List (Int × Int × Int))) (x8 : List Int) (x9 : List Int) : Tree Γ ((List Int × List Bool × Int × Int × Int × Int × Int × PUnit) × (List (List (Int × Int × Int)) × List Int × PUnit) × List Int × PUnit ⊕ (List Int × List Bool × Int × Int × Int × Int × PUnit) × (List (List (Int × Int × Int)) × List Int × PUnit) × List Int × PUnit) :=
 .chk (!decide (x4 < x3) || decide (0 ≤ x3)) (
 .chk (!decide (x4 < x3) || decide (x3 < (↑(List.length x9) : Int))) (
 .ite (decide (x4 < x3) && decide (List.getD x9 (Int.toNat x3) 0 < 0)) (
  .act 3200 ((((x7, x8), x0, x1, x3, x4, ()), ())) (fun y => match y with
   | ((y0, ()), ()) =>
    .ite y0 (
     .chk (decide (0 ≤ x4)) (
     .chk (decide (x4 < (↑(List.length x9) : Int))) (
     .chk (decide (0 ≤ x3)) (
     .chk (decide (x3 < (↑(List.length x9) : Int))) (
     .ret (Sum.inl ((x0, x1, x2, x3, IntKind.wrap IntKind.i64 (x4 + 1), x5, x6, ()), (x7, x8, ()), List.set x9 (Int.toNat x3) (List.getD x9 (Int.toNat x4) 0), ()))))))) (
     .ret (Sum.inl ((x0, x1, x2, x3, IntKind.wrap IntKind.i64 (x4 + 1), x5, x6, ()), (x7, x8, ()), x9, ()))))) (
  .ret (Sum.inr ((x0, x1, x2, x3, x5, x6, ()), (x7, x8, ()), x9, ())))))

theorem l25_1_eq (x0 : List Int) (x1 : List Bool) (x2 : Int) (x3 : Int) (x4 : Int) (x5 : Int) (x6 : Int) (x7 : List (List (Int × Int × Int))) (x8 : List Int) (x9 : List Int) : roundT (cf kt 0) 2502 (loopAt (loopAt code25 0) 0) (plan (loopAt (loopAt code25 0) 0) []) ((x0, x1, x2, x3, x4, x5, x6, ()), (x7, x8, ()), x9, ()) = l25_1 x0 x1 x2 x3 x4 x5 x6 x7 x8 x9 := by kernel_rfl

theorem r2502 (x0 : List Int) (x1 : List Bool) (x2 : Int) (x3 : Int) (x4 : Int) (x5 : Int) (x6 : Int) (x7 : List (List (Int × Int × Int))) (x8 : List Int) (x9 : List Int) {y : (List Int × List Bool × Int × Int × Int × Int × PUnit) × (List (List (Int × Int × Int)) × List Int × PUnit) × List Int × PUnit} (h : (l25_1 x0 x1 x2 x3 x4 x5 x6 x7 x8 x9).wp (SemR Try.prog Γ) (LoopP (fun (x : (List Int × List Bool × Int × Int × Int × Int × Int × PUnit) × (List (List (Int × Int × Int)) × List Int × PUnit) × List Int × PUnit) (y : (List Int × List Bool × Int × Int × Int × Int × PUnit) × (List (List (Int × Int × Int)) × List Int × PUnit) × List Int × PUnit) => SemR Try.prog Γ 2502 x y) y)) : SemR Try.prog Γ 2502 ((x0, x1, x2, x3, x4, x5, x6, ()), (x7, x8, ()), x9, ()) y :=
  loop_rule (P := Try.prog) (c := (cf kt 0)) (body := (loopAt (loopAt code25 0) 0)) (l := []) rfl mixed (by kernel_rfl) (by kernel_rfl) trivial (l25_1_eq x0 x1 x2 x3 x4 x5 x6 x7 x8 x9) h

end Go.Proofs.YtjmnjimlkljhjaaV

/- The trees of functions and loops: what they do, step by step. -/
set_option linter.unusedVariables false
set_option maxRecDepth 100000
namespace Go.Proofs.YtjmnjimlkljhjaaV
open Go Go.Proofs

/-! quincunx/least.Build -/
noncomputable def t18 (x0 : List (List (Int × Int × Int))) (x1 : List Int) : Tree Γ (((List (List (Int × Int × Int)) × List Int) × Int × PUnit) × PUnit) :=
 .act 2600 ((((x0, x1), ()), ())) (fun y => match y with
  | ((y0, ()), ()) =>
   .ite (y0 != 0) (
    .ret (((([], []), y0, ()), ()))) (
    .act 1300 ((((x0, x1), ()), ())) (fun y => match y with
     | ((y1, ()), ()) =>
      .act 1600 ((((x0, x1), ()), ())) (fun y => match y with
       | ((y2, ()), ()) =>
        .chk true (
        .chk (decide (0 < (↑(List.length y2) : Int))) (
        .act 1801 (((y1, y2, 0, ()), (x0, x1, ()), (), [], [], putKV (eqEl tI) (List.getD y2 0 0) 0 [], [0], (), [], [], ())) (fun y => match y with
         | ((), (), y3, y4, (), y5, y6, ()) =>
          .ret ((((y5, y6), 0, ()), ())))))))))

theorem t18_eq (x0 : List (List (Int × Int × Int))) (x1 : List Int) : funT (cf kt 0) 1800 Try.f18 code18 (plan code18 [1801]) (((x0, x1), ()), ()) = t18 x0 x1 := by kernel_rfl

theorem r1800 (x0 : List (List (Int × Int × Int))) (x1 : List Int) {y : (((List (List (Int × Int × Int)) × List Int) × Int × PUnit) × PUnit)} (h : (t18 x0 x1).wp (SemR Try.prog Γ) (fun z => y = z)) : SemR Try.prog Γ 1800 (((x0, x1), ()), ()) y :=
  fn_rule (P := Try.prog) (c := (cf kt 0)) (code := code18) (l := [1801]) rfl mixed (by kernel_rfl) Try.func18 (by kernel_rfl) (by kernel_rfl) ⟨by kernel_rfl, trivial⟩ (by kernel_rfl) (t18_eq x0 x1) h

noncomputable def l18_0 (x0 : List Bool) (x1 : List Int) (x2 : Int) (x3 : List (List (Int × Int × Int))) (x4 : List Int) (x5 : List (List (Int × Int × Int))) (x6 : List Int) (x7 : List (Int × Int)) (x8 : List Int) (x9 : List (List (Int × Int × Int))) (x10 : List Int) : Tree Γ ((List Bool × List Int × Int × PUnit) × (List (List (Int × Int × Int)) × List Int × PUnit) × PUnit × List (List (Int × Int × Int)) × List Int × List (Int × Int) × List Int × PUnit × List (List (Int × Int × Int)) × List Int × PUnit ⊕ PUnit × PUnit × List (List (Int × Int × Int)) × List Int × PUnit × List (List (Int × Int × Int)) × List Int × PUnit) :=
 .ite (decide (x2 < (↑(List.length x8) : Int))) (
  .chk (decide (0 ≤ x2)) (
  .chk (decide (x2 < (↑(List.length x8) : Int))) (
  .chk (decide (0 ≤ List.getD x8 (Int.toNat x2) 0)) (
  .chk (decide (List.getD x8 (Int.toNat x2) 0 < (↑(List.length x3) : Int))) (
  .act 1802 (((x0, x1, x2, List.getD x8 (Int.toNat x2) 0, List.getD x3 (Int.toNat (List.getD x8 (Int.toNat x2) 0)) [], (↑(List.length (List.getD x3 (Int.toNat (List.getD x8 (Int.toNat x2) 0)) [])) : Int), 0, ()), (x3, x4, ()), (), x5, x6, x7, x8, (), x9, x10, [], ())) (fun y => match y with
   | ((y0, y1, y2, y3, ()), (y4, y5, ()), (), y6, y7, y8, y9, (), y10, y11, y12, ()) =>
    .chk (decide ((List.length y10 + List.length [y12]) * 24 ≤ 140737488355328)) (
    .chk (decide (0 ≤ y3)) (
    .chk (decide (y3 < (↑(List.length y5) : Int))) (
    .chk (decide ((List.length y11 + List.length [List.getD y5 (Int.toNat y3) 0]) * 8 ≤ 140737488355328)) (
    .ret (Sum.inl ((y0, y1, IntKind.wrap IntKind.i64 (y2 + 1), ()), (y4, y5, ()), (), y6, y7, y8, y9, (), y10 ++ [y12], y11 ++ [List.getD y5 (Int.toNat y3) 0], ())))))))))))) (
  .ret (Sum.inr ((), (), x5, x6, (), x9, x10, ())))

theorem l18_0_eq (x0 : List Bool) (x1 : List Int) (x2 : Int) (x3 : List (List (Int × Int × Int))) (x4 : List Int) (x5 : List (List (Int × Int × Int))) (x6 : List Int) (x7 : List (Int × Int)) (x8 : List Int) (x9 : List (List (Int × Int × Int))) (x10 : List Int) : roundT (cf kt 0) 1801 (loopAt code18 0) (plan (loopAt code18 0) [1802]) ((x0, x1, x2, ()), (x3, x4, ()), (), x5, x6, x7, x8, (), x9, x10, ()) = l18_0 x0 x1 x2 x3 x4 x5 x6 x7 x8 x9 x10 := by kernel_rfl

theorem r1801 (x0 : List Bool) (x1 : List Int) (x2 : Int) (x3 : List (List (Int × Int × Int))) (x4 : List Int) (x5 : List (List (Int × Int × Int))) (x6 : List Int) (x7 : List (Int × Int)) (x8 : List Int) (x9 : List (List (Int × Int × Int))) (x10 : List Int) {y : PUnit × PUnit × List (List (Int × Int × Int)) × List Int × PUnit × List (List (Int × Int × Int)) × List Int × PUnit} (h : (l18_0 x0 x1 x2 x3 x4 x5 x6 x7 x8 x9 x10).wp (SemR Try.prog Γ) (LoopP (fun (x : (List Bool × List Int × Int × PUnit) × (List (List (Int × Int × Int)) × List Int × PUnit) × PUnit × List (List (Int × Int × Int)) × List Int × List (Int × Int) × List Int × PUnit × List (List (Int × Int × Int)) × List Int × PUnit) (y : PUnit × PUnit × List (List (Int × Int × Int)) × List Int × PUnit × List (List (Int × Int × Int)) × List Int × PUnit) => SemR Try.prog Γ 1801 x y) y)) : SemR Try.prog Γ 1801 ((x0, x1, x2, ()), (x3, x4, ()), (), x5, x6, x7, x8, (), x9, x10, ()) y :=
  loop_rule (P := Try.prog) (c := (cf kt 0)) (body := (loopAt code18 0)) (l := [1802]) rfl mixed (by kernel_rfl) (by kernel_rfl) ⟨by kernel_rfl, trivial⟩ (l18_0_eq x0 x1 x2 x3 x4 x5 x6 x7 x8 x9 x10) h

noncomputable def l18_1 (x0 : List Bool) (x1 : List Int) (x2 : Int) (x3 : Int) (x4 : List (Int × Int × Int)) (x5 : Int) (x6 : Int) (x7 : List (List (Int × Int × Int))) (x8 : List Int) (x9 : List (List (Int × Int × Int))) (x10 : List Int) (x11 : List (Int × Int)) (x12 : List Int) (x13 : List (List (Int × Int × Int))) (x14 : List Int) (x15 : List (Int × Int × Int)) : Tree Γ ((List Bool × List Int × Int × Int × List (Int × Int × Int) × Int × Int × PUnit) × (List (List (Int × Int × Int)) × List Int × PUnit) × PUnit × List (List (Int × Int × Int)) × List Int × List (Int × Int) × List Int × PUnit × List (List (Int × Int × Int)) × List Int × List (Int × Int × Int) × PUnit ⊕ (List Bool × List Int × Int × Int × PUnit) × (List (List (Int × Int × Int)) × List Int × PUnit) × PUnit × List (List (Int × Int × Int)) × List Int × List (Int × Int) × List Int × PUnit × List (List (Int × Int × Int)) × List Int × List (Int × Int × Int) × PUnit) :=
 .ite (decide (x6 < x5)) (
  .chk (decide (0 ≤ x6)) (
  .chk (decide (x6 < (↑(List.length x4) : Int))) (
  .chk (decide (0 ≤ (List.getD x4 (Int.toNat x6) (0, 0, 0)).snd.snd)) (
  .chk (decide ((List.getD x4 (Int.toNat x6) (0, 0, 0)).snd.snd < (↑(List.length x0) : Int))) (
  .ite (List.getD x0 (Int.toNat (List.getD x4 (Int.toNat x6) (0, 0, 0)).snd.snd) false) (
   .ret (Sum.inl ((x0, x1, x2, x3, x4, x5, IntKind.wrap IntKind.i64 (x6 + 1), ()), (x7, x8, ()), (), x9, x10, x11, x12, (), x13, x14, x15, ()))) (
   .chk (decide (0 ≤ (List.getD x4 (Int.toNat x6) (0, 0, 0)).snd.snd)) (
   .chk (decide ((List.getD x4 (Int.toNat x6) (0, 0, 0)).snd.snd < (↑(List.length x1) : Int))) (
   .ite (!Option.isSome (lkp (eqEl tI) (List.getD x1 (Int.toNat (List.getD x4 (Int.toNat x6) (0, 0, 0)).snd.snd) 0) x11)) (
    .chk (decide (0 ≤ (List.getD x4 (Int.toNat x6) (0, 0, 0)).snd.snd)) (
    .chk (decide ((List.getD x4 (Int.toNat x6) (0, 0, 0)).snd.snd < (↑(List.length x1) : Int))) (
    .chk (decide ((List.length x12 + List.length [(List.getD x4 (Int.toNat x6) (0, 0, 0)).snd.snd]) * 8 ≤ 140737488355328)) (
    .ite (decide (IntKind.wrap IntKind.i64 ((↑(List.length x15) : Int) - 1) ≥ 0)) (
     .chk (decide (0 ≤ IntKind.wrap IntKind.i64 ((↑(List.length x15) : Int) - 1))) (
     .chk (decide (IntKind.wrap IntKind.i64 ((↑(List.length x15) : Int) - 1) < (↑(List.length x15) : Int))) (
     .ite ((List.getD x15 (Int.toNat (IntKind.wrap IntKind.i64 ((↑(List.length x15) : Int) - 1))) (0, 0, 0)).snd.snd == (↑(List.length x12) : Int)) (
      .chk (decide (0 ≤ IntKind.wrap IntKind.i64 ((↑(List.length x15) : Int) - 1))) (
      .chk (decide (IntKind.wrap IntKind.i64 ((↑(List.length x15) : Int) - 1) < (↑(List.length x15) : Int))) (
      .ite (IntKind.wrap IntKind.i64 (IntKind.wrap IntKind.i64 (List.getD x15 (Int.toNat (IntKind.wrap IntKind.i64 ((↑(List.length x15) : Int) - 1))) (0, 0, 0)).snd.fst + 1) == IntKind.wrap IntKind.i64 (List.getD x4 (Int.toNat x6) (0, 0, 0)).fst) (
       .chk (decide (0 ≤ IntKind.wrap IntKind.i64 ((↑(List.length x15) : Int) - 1))) (
       .chk (decide (IntKind.wrap IntKind.i64 ((↑(List.length x15) : Int) - 1) < (↑(List.length x15) : Int))) (
       .ret (Sum.inl ((x0, x1, x2, x3, x4, x5, IntKind.wrap IntKind.i64 (x6 + 1), ()), (x7, x8, ()), (), x9, x10, putKV (eqEl tI) (List.getD x1 (Int.toNat (List.getD x4 (Int.toNat x6) (0, 0, 0)).snd.snd) 0) (↑(List.length x12) : Int) x11, x12 ++ [(List.getD x4 (Int.toNat x6) (0, 0, 0)).snd.snd], (), x13, x14, List.set x15 (Int.toNat (IntKind.wrap IntKind.i64 ((↑(List.length x15) : Int) - 1))) ((List.getD x15 (Int.toNat (IntKind.wrap IntKind.i64 ((↑(List.length x15) : Int) - 1))) (0, 0, 0)).fst, (List.getD x4 (Int.toNat x6) (0, 0, 0)).snd.fst, (List.getD x15 (Int.toNat (IntKind.wrap IntKind.i64 ((↑(List.length x15) : Int) - 1))) (0, 0, 0)).snd.snd), ()))))) (
       .chk (decide ((List.length x15 + List.length [((List.getD x4 (Int.toNat x6) (0, 0, 0)).fst, (List.getD x4 (Int.toNat x6) (0, 0, 0)).snd.fst, (↑(List.length x12) : Int))]) * 16 ≤ 140737488355328)) (
       .ret (Sum.inl ((x0, x1, x2, x3, x4, x5, IntKind.wrap IntKind.i64 (x6 + 1), ()), (x7, x8, ()), (), x9, x10, putKV (eqEl tI) (List.getD x1 (Int.toNat (List.getD x4 (Int.toNat x6) (0, 0, 0)).snd.snd) 0) (↑(List.length x12) : Int) x11, x12 ++ [(List.getD x4 (Int.toNat x6) (0, 0, 0)).snd.snd], (), x13, x14, x15 ++ [((List.getD x4 (Int.toNat x6) (0, 0, 0)).fst, (List.getD x4 (Int.toNat x6) (0, 0, 0)).snd.fst, (↑(List.length x12) : Int))], ()))))))) (
      .chk (decide ((List.length x15 + List.length [((List.getD x4 (Int.toNat x6) (0, 0, 0)).fst, (List.getD x4 (Int.toNat x6) (0, 0, 0)).snd.fst, (↑(List.length x12) : Int))]) * 16 ≤ 140737488355328)) (
      .ret (Sum.inl ((x0, x1, x2, x3, x4, x5, IntKind.wrap IntKind.i64 (x6 + 1), ()), (x7, x8, ()), (), x9, x10, putKV (eqEl tI) (List.getD x1 (Int.toNat (List.getD x4 (Int.toNat x6) (0, 0, 0)).snd.snd) 0) (↑(List.length x12) : Int) x11, x12 ++ [(List.getD x4 (Int.toNat x6) (0, 0, 0)).snd.snd], (), x13, x14, x15 ++ [((List.getD x4 (Int.toNat x6) (0, 0, 0)).fst, (List.getD x4 (Int.toNat x6) (0, 0, 0)).snd.fst, (↑(List.length x12) : Int))], ()))))))) (
     .chk (decide ((List.length x15 + List.length [((List.getD x4 (Int.toNat x6) (0, 0, 0)).fst, (List.getD x4 (Int.toNat x6) (0, 0, 0)).snd.fst, (↑(List.length x12) : Int))]) * 16 ≤ 140737488355328)) (
     .ret (Sum.inl ((x0, x1, x2, x3, x4, x5, IntKind.wrap IntKind.i64 (x6 + 1), ()), (x7, x8, ()), (), x9, x10, putKV (eqEl tI) (List.getD x1 (Int.toNat (List.getD x4 (Int.toNat x6) (0, 0, 0)).snd.snd) 0) (↑(List.length x12) : Int) x11, x12 ++ [(List.getD x4 (Int.toNat x6) (0, 0, 0)).snd.snd], (), x13, x14, x15 ++ [((List.getD x4 (Int.toNat x6) (0, 0, 0)).fst, (List.getD x4 (Int.toNat x6) (0, 0, 0)).snd.fst, (↑(List.length x12) : Int))], ())))))))) (
    .ite (decide (IntKind.wrap IntKind.i64 ((↑(List.length x15) : Int) - 1) ≥ 0)) (
     .chk (decide (0 ≤ IntKind.wrap IntKind.i64 ((↑(List.length x15) : Int) - 1))) (
     .chk (decide (IntKind.wrap IntKind.i64 ((↑(List.length x15) : Int) - 1) < (↑(List.length x15) : Int))) (
     .ite ((List.getD x15 (Int.toNat (IntKind.wrap IntKind.i64 ((↑(List.length x15) : Int) - 1))) (0, 0, 0)).snd.snd == Option.getD (lkp (eqEl tI) (List.getD x1 (Int.toNat (List.getD x4 (Int.toNat x6) (0, 0, 0)).snd.snd) 0) x11) 0) (
      .chk (decide (0 ≤ IntKind.wrap IntKind.i64 ((↑(List.length x15) : Int) - 1))) (
      .chk (decide (IntKind.wrap IntKind.i64 ((↑(List.length x15) : Int) - 1) < (↑(List.length x15) : Int))) (
      .ite (IntKind.wrap IntKind.i64 (IntKind.wrap IntKind.i64 (List.getD x15 (Int.toNat (IntKind.wrap IntKind.i64 ((↑(List.length x15) : Int) - 1))) (0, 0, 0)).snd.fst + 1) == IntKind.wrap IntKind.i64 (List.getD x4 (Int.toNat x6) (0, 0, 0)).fst) (
       .chk (decide (0 ≤ IntKind.wrap IntKind.i64 ((↑(List.length x15) : Int) - 1))) (
       .chk (decide (IntKind.wrap IntKind.i64 ((↑(List.length x15) : Int) - 1) < (↑(List.length x15) : Int))) (
       .ret (Sum.inl ((x0, x1, x2, x3, x4, x5, IntKind.wrap IntKind.i64 (x6 + 1), ()), (x7, x8, ()), (), x9, x10, x11, x12, (), x13, x14, List.set x15 (Int.toNat (IntKind.wrap IntKind.i64 ((↑(List.length x15) : Int) - 1))) ((List.getD x15 (Int.toNat (IntKind.wrap IntKind.i64 ((↑(List.length x15) : Int) - 1))) (0, 0, 0)).fst, (List.getD x4 (Int.toNat x6) (0, 0, 0)).snd.fst, (List.getD x15 (Int.toNat (IntKind.wrap IntKind.i64 ((↑(List.length x15) : Int) - 1))) (0, 0, 0)).snd.snd), ()))))) (
       .chk (decide ((List.length x15 + List.length [((List.getD x4 (Int.toNat x6) (0, 0, 0)).fst, (List.getD x4 (Int.toNat x6) (0, 0, 0)).snd.fst, Option.getD (lkp (eqEl tI) (List.getD x1 (Int.toNat (List.getD x4 (Int.toNat x6) (0, 0, 0)).snd.snd) 0) x11) 0)]) * 16 ≤ 140737488355328)) (
       .ret (Sum.inl ((x0, x1, x2, x3, x4, x5, IntKind.wrap IntKind.i64 (x6 + 1), ()), (x7, x8, ()), (), x9, x10, x11, x12, (), x13, x14, x15 ++ [((List.getD x4 (Int.toNat x6) (0, 0, 0)).fst, (List.getD x4 (Int.toNat x6) (0, 0, 0)).snd.fst, Option.getD (lkp (eqEl tI) (List.getD x1 (Int.toNat (List.getD x4 (Int.toNat x6) (0, 0, 0)).snd.snd) 0) x11) 0)], ()))))))) (
      .chk (decide ((List.length x15 + List.length [((List.getD x4 (Int.toNat x6) (0, 0, 0)).fst, (List.getD x4 (Int.toNat x6) (0, 0, 0)).snd.fst, Option.getD (lkp (eqEl tI) (List.getD x1 (Int.toNat (List.getD x4 (Int.toNat x6) (0, 0, 0)).snd.snd) 0) x11) 0)]) * 16 ≤ 140737488355328)) (
      .ret (Sum.inl ((x0, x1, x2, x3, x4, x5, IntKind.wrap IntKind.i64 (x6 + 1), ()), (x7, x8, ()), (), x9, x10, x11, x12, (), x13, x14, x15 ++ [((List.getD x4 (Int.toNat x6) (0, 0, 0)).fst, (List.getD x4 (Int.toNat x6) (0, 0, 0)).snd.fst, Option.getD (lkp (eqEl tI) (List.getD x1 (Int.toNat (List.getD x4 (Int.toNat x6) (0, 0, 0)).snd.snd) 0) x11) 0)], ()))))))) (
     .chk (decide ((List.length x15 + List.length [((List.getD x4 (Int.toNat x6) (0, 0, 0)).fst, (List.getD x4 (Int.toNat x6) (0, 0, 0)).snd.fst, Option.getD (lkp (eqEl tI) (List.getD x1 (Int.toNat (List.getD x4 (Int.toNat x6) (0, 0, 0)).snd.snd) 0) x11) 0)]) * 16 ≤ 140737488355328)) (
     .ret (Sum.inl ((x0, x1, x2, x3, x4, x5, IntKind.wrap IntKind.i64 (x6 + 1), ()), (x7, x8, ()), (), x9, x10, x11, x12, (), x13, x14, x15 ++ [((List.getD x4 (Int.toNat x6) (0, 0, 0)).fst, (List.getD x4 (Int.toNat x6) (0, 0, 0)).snd.fst, Option.getD (lkp (eqEl tI) (List.getD x1 (Int.toNat (List.getD x4 (Int.toNat x6) (0, 0, 0)).snd.snd) 0) x11) 0)], ()))))))))))))) (
  .ret (Sum.inr ((x0, x1, x2, x3, ()), (x7, x8, ()), (), x9, x10, x11, x12, (), x13, x14, x15, ())))

theorem l18_1_eq (x0 : List Bool) (x1 : List Int) (x2 : Int) (x3 : Int) (x4 : List (Int × Int × Int)) (x5 : Int) (x6 : Int) (x7 : List (List (Int × Int × Int))) (x8 : List Int) (x9 : List (List (Int × Int × Int))) (x10 : List Int) (x11 : List (Int × Int)) (x12 : List Int) (x13 : List (List (Int × Int × Int))) (x14 : List Int) (x15 : List (Int × Int × Int)) : roundT (cf kt 0) 1802 (loopAt (loopAt code18 0) 0) (plan (loopAt (loopAt code18 0) 0) []) ((x0, x1, x2, x3, x4, x5, x6, ()), (x7, x8, ()), (), x9, x10, x11, x12, (), x13, x14, x15, ()) = l18_1 x0 x1 x2 x3 x4 x5 x6 x7 x8 x9 x10 x11 x12 x13 x14 x15 := by kernel_rfl

theorem r1802 (x0 : List Bool) (x1 : List Int) (x2 : Int) (x3 : Int) (x4 : List (Int × Int × Int)) (x5 : Int) (x6 : Int) (x7 : List (List (Int × Int × Int))) (x8 : List Int) (x9 : List (List (Int × Int × Int))) (x10 : List Int) (x11 : List (Int × Int)) (x12 : List Int) (x13 : List (List (Int × Int × Int))) (x14 : List Int) (x15 : List (Int × Int × Int)) {y : (List Bool × List Int × Int × Int × PUnit) × (List (List (Int × Int × Int)) × List Int × PUnit) × PUnit × List (List (Int × Int × Int)) × List Int × List (Int × Int) × List Int × PUnit × List (List (Int × Int × Int)) × List Int × List (Int × Int × Int) × PUnit} (h : (l18_1 x0 x1 x2 x3 x4 x5 x6 x7 x8 x9 x10 x11 x12 x13 x14 x15).wp (SemR Try.prog Γ) (LoopP (fun (x : (List Bool × List Int × Int × Int × List (Int × Int × Int) × Int × Int × PUnit) × (List (List (Int × Int × Int)) × List Int × PUnit) × PUnit × List (List (Int × Int × Int)) × List Int × List (Int × Int) × List Int × PUnit × List (List (Int × Int × Int)) × List Int × List (Int × Int × Int) × PUnit) (y : (List Bool × List Int × Int × Int × PUnit) × (List (List (Int × Int × Int)) × List Int × PUnit) × PUnit × List (List (Int × Int × Int)) × List Int × List (Int × Int) × List Int × PUnit × List (List (Int × Int × Int)) × List Int × List (Int × Int × Int) × PUnit) => SemR Try.prog Γ 1802 x y) y)) : SemR Try.prog Γ 1802 ((x0, x1, x2, x3, x4, x5, x6, ()), (x7, x8, ()), (), x9, x10, x11, x12, (), x13, x14, x15, ()) y :=
  loop_rule (P := Try.prog) (c := (cf kt 0)) (body := (loopAt (loopAt code18 0) 0)) (l := []) rfl mixed (by kernel_rfl) (by kernel_rfl) trivial (l18_1_eq x0 x1 x2 x3 x4 x5 x6 x7 x8 x9 x10 x11 x12 x13 x14 x15) h

/-! quincunx/quincunxref05.Build -/
noncomputable def t19 (x0 : List (List (Int × Int × Int))) (x1 : List Int) : Tree Γ (((List (List (Int × Int × Int)) × List Int) × Int × PUnit) × PUnit) :=
 .act 1200 ((((x0, x1), ()), ())) (fun y => match y with
  | ((y0, ()), ()) =>
   .ite (y0 != 0) (
    .ret (((([], []), y0, ()), ()))) (
    .act 1400 ((((x0, x1), ()), ())) (fun y => match y with
     | ((y1, ()), ()) =>
      .act 1700 ((((x0, x1), ()), ())) (fun y => match y with
       | ((y2, ()), ()) =>
        .act 1901 (((y1, y2, 0, ()), (x0, x1, ()), (), [], [], [0], (), [], [], ())) (fun y => match y with
         | ((), (), y3, y4, (), y5, y6, ()) =>
          .ret ((((y5, y6), 0, ()), ())))))))

theorem t19_eq (x0 : List (List (Int × Int × Int))) (x1 : List Int) : funT (cf kt 0) 1900 Try.f19 code19 (plan code19 [1901]) (((x0, x1), ()), ()) = t19 x0 x1 := by kernel_rfl

theorem r1900 (x0 : List (List (Int × Int × Int))) (x1 : List Int) {y : (((List (List (Int × Int × Int)) × List Int) × Int × PUnit) × PUnit)} (h : (t19 x0 x1).wp (SemR Try.prog Γ) (fun z => y = z)) : SemR Try.prog Γ 1900 (((x0, x1), ()), ()) y :=
  fn_rule (P := Try.prog) (c := (cf kt 0)) (code := code19) (l := [1901]) rfl mixed (by kernel_rfl) Try.func19 (by kernel_rfl) (by kernel_rfl) ⟨by kernel_rfl, trivial⟩ (by kernel_rfl) (t19_eq x0 x1) h

noncomputable def l19_0 (x0 : List Bool) (x1 : List Int) (x2 : Int) (x3 : List (List (Int × Int × Int))) (x4 : List Int) (x5 : List (List (Int × Int × Int))) (x6 : List Int) (x7 : List Int) (x8 : List (List (Int × Int × Int))) (x9 : List Int) : Tree Γ ((List Bool × List Int × Int × PUnit) × (List (List (Int × Int × Int)) × List Int × PUnit) × PUnit × List (List (Int × Int × Int)) × List Int × List Int × PUnit × List (List (Int × Int × Int)) × List Int × PUnit ⊕ PUnit × PUnit × List (List (Int × Int × Int)) × List Int × PUnit × List (List (Int × Int × Int)) × List Int × PUnit) :=
 .ite (decide (x2 < (↑(List.length x7) : Int))) (
  .act 1902 (((x0, x1, x2, 0, ()), (x3, x4, ()), (), x5, x6, x7, (), x8, x9, [], ())) (fun y => match y with
   | ((y0, y1, y2, ()), (y3, y4, ()), (), y5, y6, y7, (), y8, y9, y10, ()) =>
    .chk (decide ((List.length y8 + List.length [y10]) * 24 ≤ 140737488355328)) (
    .chk (decide (0 ≤ y2)) (
    .chk (decide (y2 < (↑(List.length y7) : Int))) (
    .chk (decide (0 ≤ List.getD y7 (Int.toNat y2) 0)) (
    .chk (decide (List.getD y7 (Int.toNat y2) 0 < (↑(List.length y4) : Int))) (
    .chk (decide ((List.length y9 + List.length [List.getD y4 (Int.toNat (List.getD y7 (Int.toNat y2) 0)) 0]) * 8 ≤ 140737488355328)) (
    .ret (Sum.inl ((y0, y1, IntKind.wrap IntKind.i64 (y2 + 1), ()), (y3, y4, ()), (), y5, y6, y7, (), y8 ++ [y10], y9 ++ [List.getD y4 (Int.toNat (List.getD y7 (Int.toNat y2) 0)) 0], ())))))))))) (
  .ret (Sum.inr ((), (), x5, x6, (), x8, x9, ())))

theorem l19_0_eq (x0 : List Bool) (x1 : List Int) (x2 : Int) (x3 : List (List (Int × Int × Int))) (x4 : List Int) (x5 : List (List (Int × Int × Int))) (x6 : List Int) (x7 : List Int) (x8 : List (List (Int × Int × Int))) (x9 : List Int) : roundT (cf kt 0) 1901 (loopAt code19 0) (plan (loopAt code19 0) [1902]) ((x0, x1, x2, ()), (x3, x4, ()), (), x5, x6, x7, (), x8, x9, ()) = l19_0 x0 x1 x2 x3 x4 x5 x6 x7 x8 x9 := by kernel_rfl

theorem r1901 (x0 : List Bool) (x1 : List Int) (x2 : Int) (x3 : List (List (Int × Int × Int))) (x4 : List Int) (x5 : List (List (Int × Int × Int))) (x6 : List Int) (x7 : List Int) (x8 : List (List (Int × Int × Int))) (x9 : List Int) {y : PUnit × PUnit × List (List (Int × Int × Int)) × List Int × PUnit × List (List (Int × Int × Int)) × List Int × PUnit} (h : (l19_0 x0 x1 x2 x3 x4 x5 x6 x7 x8 x9).wp (SemR Try.prog Γ) (LoopP (fun (x : (List Bool × List Int × Int × PUnit) × (List (List (Int × Int × Int)) × List Int × PUnit) × PUnit × List (List (Int × Int × Int)) × List Int × List Int × PUnit × List (List (Int × Int × Int)) × List Int × PUnit) (y : PUnit × PUnit × List (List (Int × Int × Int)) × List Int × PUnit × List (List (Int × Int × Int)) × List Int × PUnit) => SemR Try.prog Γ 1901 x y) y)) : SemR Try.prog Γ 1901 ((x0, x1, x2, ()), (x3, x4, ()), (), x5, x6, x7, (), x8, x9, ()) y :=
  loop_rule (P := Try.prog) (c := (cf kt 0)) (body := (loopAt code19 0)) (l := [1902]) rfl mixed (by kernel_rfl) (by kernel_rfl) ⟨by kernel_rfl, trivial⟩ (l19_0_eq x0 x1 x2 x3 x4 x5 x6 x7 x8 x9) h

noncomputable def l19_1 (x0 : List Bool) (x1 : List Int) (x2 : Int) (x3 : Int) (x4 : List (List (Int × Int × Int))) (x5 : List Int) (x6 : List (List (Int × Int × Int))) (x7 : List Int) (x8 : List Int) (x9 : List (List (Int × Int × Int))) (x10 : List Int) (x11 : List (Int × Int × Int)) : Tree Γ ((List Bool × List Int × Int × Int × PUnit) × (List (List (Int × Int × Int)) × List Int × PUnit) × PUnit × List (List (Int × Int × Int)) × List Int × List Int × PUnit × List (List (Int × Int × Int)) × List Int × List (Int × Int × Int) × PUnit ⊕ (List Bool × List Int × Int × PUnit) × (List (List (Int × Int × Int)) × List Int × PUnit) × PUnit × List (List (Int × Int × Int)) × List Int × List Int × PUnit × List (List (Int × Int × Int)) × List Int × List (Int × Int × Int) × PUnit) :=
 .ite (decide (x3 < 256)) (
  .chk (decide (0 ≤ x2)) (
  .chk (decide (x2 < (↑(List.length x8) : Int))) (
  .act 2700 ((((x4, x5), List.getD x8 (Int.toNat x2) 0, IntKind.wrap IntKind.u8 x3, ()), ())) (fun y => match y with
   | ((y0, ()), ()) =>
    .chk (decide (y0 < 0) || decide (0 ≤ y0)) (
    .chk (decide (y0 < 0) || decide (y0 < (↑(List.length x0) : Int))) (
    .ite (decide (y0 < 0) || List.getD x0 (Int.toNat y0) false) (
     .ret (Sum.inl ((x0, x1, x2, IntKind.wrap IntKind.i64 (x3 + 1), ()), (x4, x5, ()), (), x6, x7, x8, (), x9, x10, x11, ()))) (
     .act 1903 (((x0, x1, x2, x3, y0, -1, (↑(List.length x8) : Int), 0, ()), (x4, x5, ()), (), x6, x7, x8, (), x9, x10, x11, ())) (fun y => match y with
      | ((y1, y2, y3, y4, y5, y6, ()), (y7, y8, ()), (), y9, y10, y11, (), y12, y13, y14, ()) =>
       .ite (decide (y6 < 0)) (
        .chk (decide ((List.length y11 + List.length [y5]) * 8 ≤ 140737488355328)) (
        .act 2800 (((IntKind.wrap IntKind.u8 y4, (↑(List.length y11) : Int), ()), y14, ())) (fun y => match y with
         | ((), y15, ()) =>
          .ret (Sum.inl ((y1, y2, y3, IntKind.wrap IntKind.i64 (y4 + 1), ()), (y7, y8, ()), (), y9, y10, y11 ++ [y5], (), y12, y13, y15, ()))))) (
        .act 2800 (((IntKind.wrap IntKind.u8 y4, y6, ()), y14, ())) (fun y => match y with
         | ((), y15, ()) =>
          .ret (Sum.inl ((y1, y2, y3, IntKind.wrap IntKind.i64 (y4 + 1), ()), (y7, y8, ()), (), y9, y10, y11, (), y12, y13, y15, ())))))))))))) (
  .ret (Sum.inr ((x0, x1, x2, ()), (x4, x5, ()), (), x6, x7, x8, (), x9, x10, x11, ())))

theorem l19_1_eq (x0 : List Bool) (x1 : List Int) (x2 : Int) (x3 : Int) (x4 : List (List (Int × Int × Int))) (x5 : List Int) (x6 : List (List (Int × Int × Int))) (x7 : List Int) (x8 : List Int) (x9 : List (List (Int × Int × Int))) (x10 : List Int) (x11 : List (Int × Int × Int)) : roundT (cf kt 0) 1902 (loopAt (loopAt code19 0) 0) (plan (loopAt (loopAt code19 0) 0) [1903]) ((x0, x1, x2, x3, ()), (x4, x5, ()), (), x6, x7, x8, (), x9, x10, x11, ()) = l19_1 x0 x1 x2 x3 x4 x5 x6 x7 x8 x9 x10 x11 := by kernel_rfl

theorem r1902 (x0 : List Bool) (x1 : List Int) (x2 : Int) (x3 : Int) (x4 : List (List (Int × Int × Int))) (x5 : List Int) (x6 : List (List (Int × Int × Int))) (x7 : List Int) (x8 : List Int) (x9 : List (List (Int × Int × Int))) (x10 : List Int) (x11 : List (Int × Int × Int)) {y : (List Bool × List Int × Int × PUnit) × (List (List (Int × Int × Int)) × List Int × PUnit) × PUnit × List (List (Int × Int × Int)) × List Int × List Int × PUnit × List (List (Int × Int × Int)) × List Int × List (Int × Int × Int) × PUnit} (h : (l19_1 x0 x1 x2 x3 x4 x5 x6 x7 x8 x9 x10 x11).wp (SemR Try.prog Γ) (LoopP (fun (x : (List Bool × List Int × Int × Int × PUnit) × (List (List (Int × Int × Int)) × List Int × PUnit) × PUnit × List (List (Int × Int × Int)) × List Int × List Int × PUnit × List (List (Int × Int × Int)) × List Int × List (Int × Int × Int) × PUnit) (y : (List Bool × List Int × Int × PUnit) × (List (List (Int × Int × Int)) × List Int × PUnit) × PUnit × List (List (Int × Int × Int)) × List Int × List Int × PUnit × List (List (Int × Int × Int)) × List Int × List (Int × Int × Int) × PUnit) => SemR Try.prog Γ 1902 x y) y)) : SemR Try.prog Γ 1902 ((x0, x1, x2, x3, ()), (x4, x5, ()), (), x6, x7, x8, (), x9, x10, x11, ()) y :=
  loop_rule (P := Try.prog) (c := (cf kt 0)) (body := (loopAt (loopAt code19 0) 0)) (l := [1903]) rfl mixed (by kernel_rfl) (by kernel_rfl) ⟨by kernel_rfl, trivial⟩ (l19_1_eq x0 x1 x2 x3 x4 x5 x6 x7 x8 x9 x10 x11) h

noncomputable def l19_2 (x0 : List Bool) (x1 : List Int) (x2 : Int) (x3 : Int) (x4 : Int) (x5 : Int) (x6 : Int) (x7 : Int) (x8 : List (List (Int × Int × Int))) (x9 : List Int) (x10 : List (List (Int × Int × Int))) (x11 : List Int) (x12 : List Int) (x13 : List (List (Int × Int × Int))) (x14 : List Int) (x15 : List (Int × Int × Int)) : Tree Γ ((List Bool × List Int × Int × Int × Int × Int × Int × Int × PUnit) × (List (List (Int × Int × Int)) × List Int × PUnit) × PUnit × List (List (Int × Int × Int)) × List Int × List Int × PUnit × List (List (Int × Int × Int)) × List Int × List (Int × Int × Int) × PUnit ⊕ (List Bool × List Int × Int × Int × Int × Int × PUnit) × (List (List (Int × Int × Int)) × List Int × PUnit) × PUnit × List (List (Int × Int × Int)) × List Int × List Int × PUnit × List (List (Int × Int × Int)) × List Int × List (Int × Int × Int) × PUnit) :=
 .ite (decide (x7 < x6)) (
  .chk (decide (0 ≤ x7)) (
  .chk (decide (x7 < (↑(List.length x12) : Int))) (
  .chk (decide (0 ≤ List.getD x12 (Int.toNat x7) 0)) (
  .chk (decide (List.getD x12 (Int.toNat x7) 0 < (↑(List.length x1) : Int))) (
  .chk (decide (0 ≤ x4)) (
  .chk (decide (x4 < (↑(List.length x1) : Int))) (
  .ite (List.getD x1 (Int.toNat (List.getD x12 (Int.toNat x7) 0)) 0 == List.getD x1 (Int.toNat x4) 0) (
   .ret (Sum.inl ((x0, x1, x2, x3, x4, x7, x6, IntKind.wrap IntKind.i64 (x7 + 1), ()), (x8, x9, ()), (), x10, x11, x12, (), x13, x14, x15, ()))) (
   .ret (Sum.inl ((x0, x1, x2, x3, x4, x5, x6, IntKind.wrap IntKind.i64 (x7 + 1), ()), (x8, x9, ()), (), x10, x11, x12, (), x13, x14, x15, ())))))))))) (
  .ret (Sum.inr ((x0, x1, x2, x3, x4, x5, ()), (x8, x9, ()), (), x10, x11, x12, (), x13, x14, x15, ())))

theorem l19_2_eq (x0 : List Bool) (x1 : List Int) (x2 : Int) (x3 : Int) (x4 : Int) (x5 : Int) (x6 : Int) (x7 : Int) (x8 : List (List (Int × Int × Int))) (x9 : List Int) (x10 : List (List (Int × Int × Int))) (x11 : List Int) (x12 : List Int) (x13 : List (List (Int × Int × Int))) (x14 : List Int) (x15 : List (Int × Int × Int)) : roundT (cf kt 0) 1903 (loopAt (loopAt (loopAt code19 0) 0) 0) (plan (loopAt (loopAt (loopAt code19 0) 0) 0) []) ((x0, x1, x2, x3, x4, x5, x6, x7, ()), (x8, x9, ()), (), x10, x11, x12, (), x13, x14, x15, ()) = l19_2 x0 x1 x2 x3 x4 x5 x6 x7 x8 x9 x10 x11 x12 x13 x14 x15 := by kernel_rfl

theorem r1903 (x0 : List Bool) (x1 : List Int) (x2 : Int) (x3 : Int) (x4 : Int) (x5 : Int) (x6 : Int) (x7 : Int) (x8 : List (List (Int × Int × Int))) (x9 : List Int) (x10 : List (List (Int × Int × Int))) (x11 : List Int) (x12 : List Int) (x13 : List (List (Int × Int × Int))) (x14 : List Int) (x15 : List (Int × Int × Int)) {y : (List Bool × List Int × Int × Int × Int × Int × PUnit) × (List (List (Int × Int × Int)) × List Int × PUnit) × PUnit × List (List (Int × Int × Int)) × List Int × List Int × PUnit × List (List (Int × Int × Int)) × List Int × List (Int × Int × Int) × PUnit} (h : (l19_2 x0 x1 x2 x3 x4 x5 x6 x7 x8 x9 x10 x11 x12 x13 x14 x15).wp (SemR Try.prog Γ) (LoopP (fun (x : (List Bool × List Int × Int × Int × Int × Int × Int × Int × PUnit) × (List (List (Int × Int × Int)) × List Int × PUnit) × PUnit × List (List (Int × Int × Int)) × List Int × List Int × PUnit × List (List (Int × Int × Int)) × List Int × List (Int × Int × Int) × PUnit) (y : (List Bool × List Int × Int × Int × Int × Int × PUnit) × (List (List (Int × Int × Int)) × List Int × PUnit) × PUnit × List (List (Int × Int × Int)) × List Int × List Int × PUnit × List (List (Int × Int × Int)) × List Int × List (Int × Int × Int) × PUnit) => SemR Try.prog Γ 1903 x y) y)) : SemR Try.prog Γ 1903 ((x0, x1, x2, x3, x4, x5, x6, x7, ()), (x8, x9, ()), (), x10, x11, x12, (), x13, x14, x15, ()) y :=
  loop_rule (P := Try.prog) (c := (cf kt 0)) (body := (loopAt (loopAt (loopAt code19 0) 0) 0)) (l := []) rfl mixed (by kernel_rfl) (by kernel_rfl) trivial (l19_2_eq x0 x1 x2 x3 x4 x5 x6 x7 x8 x9 x10 x11 x12 x13 x14 x15) h

/-! quincunx/least.Apart -/
noncomputable def t21 (x0 : List (List (Int × Int × Int))) (x1 : List Int) (x2 : List (List (Int × Int × Int))) (x3 : List Int) : Tree Γ ((ByteArray × Bool × Int × PUnit) × PUnit) :=
 .act 2600 ((((x0, x1), ()), ())) (fun y => match y with
  | ((y0, ()), ()) =>
   .ite (y0 != 0) (
    .ret ((({ data := #[] }, false, 30, ()), ()))) (
    .act 2600 ((((x2, x3), ()), ())) (fun y => match y with
     | ((y1, ()), ()) =>
      .ite (y1 != 0) (
       .ret ((({ data := #[] }, false, 30, ()), ()))) (
       .act 2101 (((0, ()), (x0, x1, ()), (x2, x3, ()), [(0, 0)], [(-1, 0)], putKV (eqEl (Ty.prod tI tI)) (0, 0) true [], ())) (fun y => match y with
        | (.inl ((), ())) =>
         .ret ((({ data := #[] }, false, 0, ()), ()))
        | (.inr ((y2, y3, y4, ()), ())) =>
         .ret (((y2, y3, y4, ()), ())))))))

theorem t21_eq (x0 : List (List (Int × Int × Int))) (x1 : List Int) (x2 : List (List (Int × Int × Int))) (x3 : List Int) : funT (cf kt 0) 2100 Try.f21 code21 (plan code21 [2101]) (((x0, x1), (x2, x3), ()), ()) = t21 x0 x1 x2 x3 := by kernel_rfl

theorem r2100 (x0 : List (List (Int × Int × Int))) (x1 : List Int) (x2 : List (List (Int × Int × Int))) (x3 : List Int) {y : ((ByteArray × Bool × Int × PUnit) × PUnit)} (h : (t21 x0 x1 x2 x3).wp (SemR Try.prog Γ) (fun z => y = z)) : SemR Try.prog Γ 2100 (((x0, x1), (x2, x3), ()), ()) y :=
  fn_rule (P := Try.prog) (c := (cf kt 0)) (code := code21) (l := [2101]) rfl mixed (by kernel_rfl) Try.func21 (by kernel_rfl) (by kernel_rfl) ⟨by kernel_rfl, trivial⟩ (by kernel_rfl) (t21_eq x0 x1 x2 x3) h

noncomputable def l21_0 (x0 : Int) (x1 : List (List (Int × Int × Int))) (x2 : List Int) (x3 : List (List (Int × Int × Int))) (x4 : List Int) (x5 : List (Int × Int)) (x6 : List (Int × Int)) (x7 : List ((Int × Int) × Bool)) : Tree Γ ((Int × PUnit) × (List (List (Int × Int × Int)) × List Int × PUnit) × (List (List (Int × Int × Int)) × List Int × PUnit) × List (Int × Int) × List (Int × Int) × List ((Int × Int) × Bool) × PUnit ⊕ PUnit × PUnit ⊕ (ByteArray × Bool × Int × PUnit) × PUnit) :=
 .ite (decide (x0 < (↑(List.length x5) : Int))) (
  .chk (decide (0 ≤ x0)) (
  .chk (decide (x0 < (↑(List.length x5) : Int))) (
  .act 2900 ((((x1, x2), (List.getD x5 (Int.toNat x0) (0, 0)).fst, ()), ())) (fun y => match y with
   | ((y0, ()), ()) =>
    .act 2900 ((((x3, x4), (List.getD x5 (Int.toNat x0) (0, 0)).snd, ()), ())) (fun y => match y with
     | ((y1, ()), ()) =>
      .ite (y0 != y1) (
       .act 2102 (((x0, ()), x6, [], ())) (fun y => match y with
        | ((), y2, ()) =>
         .ret (Sum.inr (Sum.inr ((ofBytes y2, true, 0, ()), ()))))) (
       .act 2103 (((x0, 0, ()), (x1, x2, ()), (x3, x4, ()), x5, x6, x7, ((List.getD x5 (Int.toNat x0) (0, 0)).fst, (List.getD x5 (Int.toNat x0) (0, 0)).snd, ()), ())) (fun y => match y with
        | ((y2, ()), (y3, y4, ()), (y5, y6, ()), y7, y8, y9, ()) =>
         .ret (Sum.inl ((IntKind.wrap IntKind.i64 (y2 + 1), ()), (y3, y4, ()), (y5, y6, ()), y7, y8, y9, ()))))))))) (
  .ret (Sum.inr (Sum.inl ((), ()))))

theorem l21_0_eq (x0 : Int) (x1 : List (List (Int × Int × Int))) (x2 : List Int) (x3 : List (List (Int × Int × Int))) (x4 : List Int) (x5 : List (Int × Int)) (x6 : List (Int × Int)) (x7 : List ((Int × Int) × Bool)) : roundT (cf kt 0) 2101 (loopAt code21 0) (plan (loopAt code21 0) [2102, 2103]) ((x0, ()), (x1, x2, ()), (x3, x4, ()), x5, x6, x7, ()) = l21_0 x0 x1 x2 x3 x4 x5 x6 x7 := by kernel_rfl

theorem r2101 (x0 : Int) (x1 : List (List (Int × Int × Int))) (x2 : List Int) (x3 : List (List (Int × Int × Int))) (x4 : List Int) (x5 : List (Int × Int)) (x6 : List (Int × Int)) (x7 : List ((Int × Int) × Bool)) {y : PUnit × PUnit ⊕ (ByteArray × Bool × Int × PUnit) × PUnit} (h : (l21_0 x0 x1 x2 x3 x4 x5 x6 x7).wp (SemR Try.prog Γ) (LoopP (fun (x : (Int × PUnit) × (List (List (Int × Int × Int)) × List Int × PUnit) × (List (List (Int × Int × Int)) × List Int × PUnit) × List (Int × Int) × List (Int × Int) × List ((Int × Int) × Bool) × PUnit) (y : PUnit × PUnit ⊕ (ByteArray × Bool × Int × PUnit) × PUnit) => SemR Try.prog Γ 2101 x y) y)) : SemR Try.prog Γ 2101 ((x0, ()), (x1, x2, ()), (x3, x4, ()), x5, x6, x7, ()) y :=
  loop_rule (P := Try.prog) (c := (cf kt 0)) (body := (loopAt code21 0)) (l := [2102, 2103]) rfl mixed (by kernel_rfl) (by kernel_rfl) ⟨by kernel_rfl, by kernel_rfl, trivial⟩ (l21_0_eq x0 x1 x2 x3 x4 x5 x6 x7) h

noncomputable def l21_1 (x0 : Int) (x1 : List (Int × Int)) (x2 : List Int) : Tree Γ ((Int × PUnit) × List (Int × Int) × List Int × PUnit ⊕ PUnit × List Int × PUnit) :=
 .chk (decide (0 ≤ x0)) (
 .chk (decide (x0 < (↑(List.length x1) : Int))) (
 .ite (decide ((List.getD x1 (Int.toNat x0) (0, 0)).fst ≥ 0)) (
  .chk (decide (0 ≤ x0)) (
  .chk (decide (x0 < (↑(List.length x1) : Int))) (
  .chk (decide ((List.length [(List.getD x1 (Int.toNat x0) (0, 0)).snd] + List.length x2) * 1 ≤ 140737488355328)) (
  .chk (decide (0 ≤ x0)) (
  .chk (decide (x0 < (↑(List.length x1) : Int))) (
  .ret (Sum.inl (((List.getD x1 (Int.toNat x0) (0, 0)).fst, ()), x1, [(List.getD x1 (Int.toNat x0) (0, 0)).snd] ++ x2, ())))))))) (
  .ret (Sum.inr ((), x2, ())))))

theorem l21_1_eq (x0 : Int) (x1 : List (Int × Int)) (x2 : List Int) : roundT (cf kt 0) 2102 (loopAt (loopAt code21 0) 0) (plan (loopAt (loopAt code21 0) 0) []) ((x0, ()), x1, x2, ()) = l21_1 x0 x1 x2 := by kernel_rfl

theorem r2102 (x0 : Int) (x1 : List (Int × Int)) (x2 : List Int) {y : PUnit × List Int × PUnit} (h : (l21_1 x0 x1 x2).wp (SemR Try.prog Γ) (LoopP (fun (x : (Int × PUnit) × List (Int × Int) × List Int × PUnit) (y : PUnit × List Int × PUnit) => SemR Try.prog Γ 2102 x y) y)) : SemR Try.prog Γ 2102 ((x0, ()), x1, x2, ()) y :=
  loop_rule (P := Try.prog) (c := (cf kt 0)) (body := (loopAt (loopAt code21 0) 0)) (l := []) rfl mixed (by kernel_rfl) (by kernel_rfl) trivial (l21_1_eq x0 x1 x2) h

noncomputable def l21_2 (x0 : Int) (x1 : Int) (x2 : List (List (Int × Int × Int))) (x3 : List Int) (x4 : List (List (Int × Int × Int))) (x5 : List Int) (x6 : List (Int × Int)) (x7 : List (Int × Int)) (x8 : List ((Int × Int) × Bool)) (x9 : Int) (x10 : Int) : Tree Γ ((Int × Int × PUnit) × (List (List (Int × Int × Int)) × List Int × PUnit) × (List (List (Int × Int × Int)) × List Int × PUnit) × List (Int × Int) × List (Int × Int) × List ((Int × Int) × Bool) × (Int × Int × PUnit) × PUnit ⊕ (Int × PUnit) × (List (List (Int × Int × Int)) × List Int × PUnit) × (List (List (Int × Int × Int)) × List Int × PUnit) × List (Int × Int) × List (Int × Int) × List ((Int × Int) × Bool) × PUnit) :=
 .ite (decide (x1 < 256)) (
  .act 3000 ((((x2, x3), x9, IntKind.wrap IntKind.u8 x1, ()), ())) (fun y => match y with
   | ((y0, ()), ()) =>
    .act 3000 ((((x4, x5), x10, IntKind.wrap IntKind.u8 x1, ()), ())) (fun y => match y with
     | ((y1, ()), ()) =>
      .ite (!Option.getD (lkp (eqEl (Ty.prod tI tI)) (y0, y1) x8) false) (
       .chk (decide ((List.length x6 + List.length [(y0, y1)]) * 16 ≤ 140737488355328)) (
       .chk (decide ((List.length x7 + List.length [(x0, IntKind.wrap IntKind.u8 x1)]) * 16 ≤ 140737488355328)) (
       .ret (Sum.inl ((x0, IntKind.wrap IntKind.i64 (x1 + 1), ()), (x2, x3, ()), (x4, x5, ()), x6 ++ [(y0, y1)], x7 ++ [(x0, IntKind.wrap IntKind.u8 x1)], putKV (eqEl (Ty.prod tI tI)) (y0, y1) true x8, (x9, x10, ()), ()))))) (
       .ret (Sum.inl ((x0, IntKind.wrap IntKind.i64 (x1 + 1), ()), (x2, x3, ()), (x4, x5, ()), x6, x7, x8, (x9, x10, ()), ())))))) (
  .ret (Sum.inr ((x0, ()), (x2, x3, ()), (x4, x5, ()), x6, x7, x8, ())))

theorem l21_2_eq (x0 : Int) (x1 : Int) (x2 : List (List (Int × Int × Int))) (x3 : List Int) (x4 : List (List (Int × Int × Int))) (x5 : List Int) (x6 : List (Int × Int)) (x7 : List (Int × Int)) (x8 : List ((Int × Int) × Bool)) (x9 : Int) (x10 : Int) : roundT (cf kt 0) 2103 (loopAt (loopAt code21 0) 1) (plan (loopAt (loopAt code21 0) 1) []) ((x0, x1, ()), (x2, x3, ()), (x4, x5, ()), x6, x7, x8, (x9, x10, ()), ()) = l21_2 x0 x1 x2 x3 x4 x5 x6 x7 x8 x9 x10 := by kernel_rfl

theorem r2103 (x0 : Int) (x1 : Int) (x2 : List (List (Int × Int × Int))) (x3 : List Int) (x4 : List (List (Int × Int × Int))) (x5 : List Int) (x6 : List (Int × Int)) (x7 : List (Int × Int)) (x8 : List ((Int × Int) × Bool)) (x9 : Int) (x10 : Int) {y : (Int × PUnit) × (List (List (Int × Int × Int)) × List Int × PUnit) × (List (List (Int × Int × Int)) × List Int × PUnit) × List (Int × Int) × List (Int × Int) × List ((Int × Int) × Bool) × PUnit} (h : (l21_2 x0 x1 x2 x3 x4 x5 x6 x7 x8 x9 x10).wp (SemR Try.prog Γ) (LoopP (fun (x : (Int × Int × PUnit) × (List (List (Int × Int × Int)) × List Int × PUnit) × (List (List (Int × Int × Int)) × List Int × PUnit) × List (Int × Int) × List (Int × Int) × List ((Int × Int) × Bool) × (Int × Int × PUnit) × PUnit) (y : (Int × PUnit) × (List (List (Int × Int × Int)) × List Int × PUnit) × (List (List (Int × Int × Int)) × List Int × PUnit) × List (Int × Int) × List (Int × Int) × List ((Int × Int) × Bool) × PUnit) => SemR Try.prog Γ 2103 x y) y)) : SemR Try.prog Γ 2103 ((x0, x1, ()), (x2, x3, ()), (x4, x5, ()), x6, x7, x8, (x9, x10, ()), ()) y :=
  loop_rule (P := Try.prog) (c := (cf kt 0)) (body := (loopAt (loopAt code21 0) 1)) (l := []) rfl mixed (by kernel_rfl) (by kernel_rfl) trivial (l21_2_eq x0 x1 x2 x3 x4 x5 x6 x7 x8 x9 x10) h

/-! quincunx/quincunxref05.Apart -/
noncomputable def t22 (x0 : List (List (Int × Int × Int))) (x1 : List Int) (x2 : List (List (Int × Int × Int))) (x3 : List Int) : Tree Γ ((ByteArray × Bool × Int × PUnit) × PUnit) :=
 .act 1200 ((((x0, x1), ()), ())) (fun y => match y with
  | ((y0, ()), ()) =>
   .ite (y0 != 0) (
    .ret ((({ data := #[] }, false, 30, ()), ()))) (
    .act 1200 ((((x2, x3), ()), ())) (fun y => match y with
     | ((y1, ()), ()) =>
      .ite (y1 != 0) (
       .ret ((({ data := #[] }, false, 30, ()), ()))) (
       .act 2201 (((0, ()), (x0, x1, ()), (x2, x3, ()), [(0, 0, { data := #[] })], ())) (fun y => match y with
        | (.inl ((), ())) =>
         .ret ((({ data := #[] }, false, 0, ()), ()))
        | (.inr ((y2, y3, y4, ()), ())) =>
         .ret (((y2, y3, y4, ()), ())))))))

theorem t22_eq (x0 : List (List (Int × Int × Int))) (x1 : List Int) (x2 : List (List (Int × Int × Int))) (x3 : List Int) : funT (cf kt 0) 2200 Try.f22 code22 (plan code22 [2201]) (((x0, x1), (x2, x3), ()), ()) = t22 x0 x1 x2 x3 := by kernel_rfl

theorem r2200 (x0 : List (List (Int × Int × Int))) (x1 : List Int) (x2 : List (List (Int × Int × Int))) (x3 : List Int) {y : ((ByteArray × Bool × Int × PUnit) × PUnit)} (h : (t22 x0 x1 x2 x3).wp (SemR Try.prog Γ) (fun z => y = z)) : SemR Try.prog Γ 2200 (((x0, x1), (x2, x3), ()), ()) y :=
  fn_rule (P := Try.prog) (c := (cf kt 0)) (code := code22) (l := [2201]) rfl mixed (by kernel_rfl) Try.func22 (by kernel_rfl) (by kernel_rfl) ⟨by kernel_rfl, trivial⟩ (by kernel_rfl) (t22_eq x0 x1 x2 x3) h

noncomputable def l22_0 (x0 : Int) (x1 : List (List (Int × Int × Int))) (x2 : List Int) (x3 : List (List (Int × Int × Int))) (x4 : List Int) (x5 : List (Int × Int × ByteArray)) : Tree Γ ((Int × PUnit) × (List (List (Int × Int × Int)) × List Int × PUnit) × (List (List (Int × Int × Int)) × List Int × PUnit) × List (Int × Int × ByteArray) × PUnit ⊕ PUnit × PUnit ⊕ (ByteArray × Bool × Int × PUnit) × PUnit) :=
 .ite (decide (x0 < (↑(List.length x5) : Int))) (
  .chk (decide (0 ≤ x0)) (
  .chk (decide (x0 < (↑(List.length x5) : Int))) (
  .act 3100 ((((x1, x2), (List.getD x5 (Int.toNat x0) (0, dflt._f (Ty.prod tI Ty.str) ⟨⟨0, PUnit.unit⟩, dflt._f Ty.str PUnit.unit, PUnit.unit⟩)).fst, ()), ())) (fun y => match y with
   | ((y0, ()), ()) =>
    .act 3100 ((((x3, x4), (List.getD x5 (Int.toNat x0) (0, dflt._f (Ty.prod tI Ty.str) ⟨⟨0, PUnit.unit⟩, dflt._f Ty.str PUnit.unit, PUnit.unit⟩)).snd.fst, ()), ())) (fun y => match y with
     | ((y1, ()), ()) =>
      .ite (y0 != y1) (
       .ret (Sum.inr (Sum.inr (((List.getD x5 (Int.toNat x0) (0, dflt._f (Ty.prod tI Ty.str) ⟨⟨0, PUnit.unit⟩, dflt._f Ty.str PUnit.unit, PUnit.unit⟩)).snd.snd, true, 0, ()), ())))) (
       .act 2202 (((x0, 0, ()), (x1, x2, ()), (x3, x4, ()), x5, ((List.getD x5 (Int.toNat x0) (0, dflt._f (Ty.prod tI Ty.str) ⟨⟨0, PUnit.unit⟩, dflt._f Ty.str PUnit.unit, PUnit.unit⟩)).fst, (List.getD x5 (Int.toNat x0) (0, dflt._f (Ty.prod tI Ty.str) ⟨⟨0, PUnit.unit⟩, dflt._f Ty.str PUnit.unit, PUnit.unit⟩)).snd.fst, (List.getD x5 (Int.toNat x0) (0, dflt._f (Ty.prod tI Ty.str) ⟨⟨0, PUnit.unit⟩, dflt._f Ty.str PUnit.unit, PUnit.unit⟩)).snd.snd, ()), ())) (fun y => match y with
        | ((y2, ()), (y3, y4, ()), (y5, y6, ()), y7, ()) =>
         .ret (Sum.inl ((IntKind.wrap IntKind.i64 (y2 + 1), ()), (y3, y4, ()), (y5, y6, ()), y7, ()))))))))) (
  .ret (Sum.inr (Sum.inl ((), ()))))

theorem l22_0_eq (x0 : Int) (x1 : List (List (Int × Int × Int))) (x2 : List Int) (x3 : List (List (Int × Int × Int))) (x4 : List Int) (x5 : List (Int × Int × ByteArray)) : roundT (cf kt 0) 2201 (loopAt code22 0) (plan (loopAt code22 0) [2202]) ((x0, ()), (x1, x2, ()), (x3, x4, ()), x5, ()) = l22_0 x0 x1 x2 x3 x4 x5 := by kernel_rfl

theorem r2201 (x0 : Int) (x1 : List (List (Int × Int × Int))) (x2 : List Int) (x3 : List (List (Int × Int × Int))) (x4 : List Int) (x5 : List (Int × Int × ByteArray)) {y : PUnit × PUnit ⊕ (ByteArray × Bool × Int × PUnit) × PUnit} (h : (l22_0 x0 x1 x2 x3 x4 x5).wp (SemR Try.prog Γ) (LoopP (fun (x : (Int × PUnit) × (List (List (Int × Int × Int)) × List Int × PUnit) × (List (List (Int × Int × Int)) × List Int × PUnit) × List (Int × Int × ByteArray) × PUnit) (y : PUnit × PUnit ⊕ (ByteArray × Bool × Int × PUnit) × PUnit) => SemR Try.prog Γ 2201 x y) y)) : SemR Try.prog Γ 2201 ((x0, ()), (x1, x2, ()), (x3, x4, ()), x5, ()) y :=
  loop_rule (P := Try.prog) (c := (cf kt 0)) (body := (loopAt code22 0)) (l := [2202]) rfl mixed (by kernel_rfl) (by kernel_rfl) ⟨by kernel_rfl, trivial⟩ (l22_0_eq x0 x1 x2 x3 x4 x5) h

noncomputable def l22_1 (x0 : Int) (x1 : Int) (x2 : List (List (Int × Int × Int))) (x3 : List Int) (x4 : List (List (Int × Int × Int))) (x5 : List Int) (x6 : List (Int × Int × ByteArray)) (x7 : Int) (x8 : Int) (x9 : ByteArray) : Tree Γ ((Int × Int × PUnit) × (List (List (Int × Int × Int)) × List Int × PUnit) × (List (List (Int × Int × Int)) × List Int × PUnit) × List (Int × Int × ByteArray) × (Int × Int × ByteArray × PUnit) × PUnit ⊕ (Int × PUnit) × (List (List (Int × Int × Int)) × List Int × PUnit) × (List (List (Int × Int × Int)) × List Int × PUnit) × List (Int × Int × ByteArray) × PUnit) :=
 .ite (decide (x1 < 256)) (
  .act 2700 ((((x2, x3), x7, IntKind.wrap IntKind.u8 x1, ()), ())) (fun y => match y with
   | ((y0, ()), ()) =>
    .act 2700 ((((x4, x5), x8, IntKind.wrap IntKind.u8 x1, ()), ())) (fun y => match y with
     | ((y1, ()), ()) =>
      .chk (decide (ByteArray.size x9 + ByteArray.size (ofBytes [IntKind.wrap IntKind.u8 x1]) ≤ 9223372036854775807)) (
      .act 2203 (((x0, x1, false, (↑(List.length x6) : Int), 0, ()), (x2, x3, ()), (x4, x5, ()), x6, (x7, x8, x9, ()), (y0, y1, x9 ++ ofBytes [IntKind.wrap IntKind.u8 x1], ()), ())) (fun y => match y with
       | ((y2, y3, y4, ()), (y5, y6, ()), (y7, y8, ()), y9, (y10, y11, y12, ()), (y13, y14, y15, ()), ()) =>
        .ite (!y4) (
         .chk (decide ((List.length y9 + List.length [(y13, y14, y15)]) * 32 ≤ 140737488355328)) (
         .ret (Sum.inl ((y2, IntKind.wrap IntKind.i64 (y3 + 1), ()), (y5, y6, ()), (y7, y8, ()), y9 ++ [(y13, y14, y15)], (y10, y11, y12, ()), ())))) (
         .ret (Sum.inl ((y2, IntKind.wrap IntKind.i64 (y3 + 1), ()), (y5, y6, ()), (y7, y8, ()), y9, (y10, y11, y12, ()), ())))))))) (
  .ret (Sum.inr ((x0, ()), (x2, x3, ()), (x4, x5, ()), x6, ())))

theorem l22_1_eq (x0 : Int) (x1 : Int) (x2 : List (List (Int × Int × Int))) (x3 : List Int) (x4 : List (List (Int × Int × Int))) (x5 : List Int) (x6 : List (Int × Int × ByteArray)) (x7 : Int) (x8 : Int) (x9 : ByteArray) : roundT (cf kt 0) 2202 (loopAt (loopAt code22 0) 0) (plan (loopAt (loopAt code22 0) 0) [2203]) ((x0, x1, ()), (x2, x3, ()), (x4, x5, ()), x6, (x7, x8, x9, ()), ()) = l22_1 x0 x1 x2 x3 x4 x5 x6 x7 x8 x9 := by kernel_rfl

theorem r2202 (x0 : Int) (x1 : Int) (x2 : List (List (Int × Int × Int))) (x3 : List Int) (x4 : List (List (Int × Int × Int))) (x5 : List Int) (x6 : List (Int × Int × ByteArray)) (x7 : Int) (x8 : Int) (x9 : ByteArray) {y : (Int × PUnit) × (List (List (Int × Int × Int)) × List Int × PUnit) × (List (List (Int × Int × Int)) × List Int × PUnit) × List (Int × Int × ByteArray) × PUnit} (h : (l22_1 x0 x1 x2 x3 x4 x5 x6 x7 x8 x9).wp (SemR Try.prog Γ) (LoopP (fun (x : (Int × Int × PUnit) × (List (List (Int × Int × Int)) × List Int × PUnit) × (List (List (Int × Int × Int)) × List Int × PUnit) × List (Int × Int × ByteArray) × (Int × Int × ByteArray × PUnit) × PUnit) (y : (Int × PUnit) × (List (List (Int × Int × Int)) × List Int × PUnit) × (List (List (Int × Int × Int)) × List Int × PUnit) × List (Int × Int × ByteArray) × PUnit) => SemR Try.prog Γ 2202 x y) y)) : SemR Try.prog Γ 2202 ((x0, x1, ()), (x2, x3, ()), (x4, x5, ()), x6, (x7, x8, x9, ()), ()) y :=
  loop_rule (P := Try.prog) (c := (cf kt 0)) (body := (loopAt (loopAt code22 0) 0)) (l := [2203]) rfl mixed (by kernel_rfl) (by kernel_rfl) ⟨by kernel_rfl, trivial⟩ (l22_1_eq x0 x1 x2 x3 x4 x5 x6 x7 x8 x9) h

noncomputable def l22_2 (x0 : Int) (x1 : Int) (x2 : Bool) (x3 : Int) (x4 : Int) (x5 : List (List (Int × Int × Int))) (x6 : List Int) (x7 : List (List (Int × Int × Int))) (x8 : List Int) (x9 : List (Int × Int × ByteArray)) (x10 : Int) (x11 : Int) (x12 : ByteArray) (x13 : Int) (x14 : Int) (x15 : ByteArray) : Tree Γ ((Int × Int × Bool × Int × Int × PUnit) × (List (List (Int × Int × Int)) × List Int × PUnit) × (List (List (Int × Int × Int)) × List Int × PUnit) × List (Int × Int × ByteArray) × (Int × Int × ByteArray × PUnit) × (Int × Int × ByteArray × PUnit) × PUnit ⊕ (Int × Int × Bool × PUnit) × (List (List (Int × Int × Int)) × List Int × PUnit) × (List (List (Int × Int × Int)) × List Int × PUnit) × List (Int × Int × ByteArray) × (Int × Int × ByteArray × PUnit) × (Int × Int × ByteArray × PUnit) × PUnit) :=
 .ite (decide (x4 < x3)) (
  .chk (decide (0 ≤ x4)) (
  .chk (decide (x4 < (↑(List.length x9) : Int))) (
  .ite x2 (
   .ret (Sum.inl ((x0, x1, true, x3, IntKind.wrap IntKind.i64 (x4 + 1), ()), (x5, x6, ()), (x7, x8, ()), x9, (x10, x11, x12, ()), (x13, x14, x15, ()), ()))) (
   .ret (Sum.inl ((x0, x1, (List.getD x9 (Int.toNat x4) (0, dflt._f (Ty.prod tI Ty.str) ⟨⟨0, PUnit.unit⟩, dflt._f Ty.str PUnit.unit, PUnit.unit⟩)).fst == x13 && (List.getD x9 (Int.toNat x4) (0, dflt._f (Ty.prod tI Ty.str) ⟨⟨0, PUnit.unit⟩, dflt._f Ty.str PUnit.unit, PUnit.unit⟩)).snd.fst == x14, x3, IntKind.wrap IntKind.i64 (x4 + 1), ()), (x5, x6, ()), (x7, x8, ()), x9, (x10, x11, x12, ()), (x13, x14, x15, ()), ())))))) (
  .ret (Sum.inr ((x0, x1, x2, ()), (x5, x6, ()), (x7, x8, ()), x9, (x10, x11, x12, ()), (x13, x14, x15, ()), ())))

theorem l22_2_eq (x0 : Int) (x1 : Int) (x2 : Bool) (x3 : Int) (x4 : Int) (x5 : List (List (Int × Int × Int))) (x6 : List Int) (x7 : List (List (Int × Int × Int))) (x8 : List Int) (x9 : List (Int × Int × ByteArray)) (x10 : Int) (x11 : Int) (x12 : ByteArray) (x13 : Int) (x14 : Int) (x15 : ByteArray) : roundT (cf kt 0) 2203 (loopAt (loopAt (loopAt code22 0) 0) 0) (plan (loopAt (loopAt (loopAt code22 0) 0) 0) []) ((x0, x1, x2, x3, x4, ()), (x5, x6, ()), (x7, x8, ()), x9, (x10, x11, x12, ()), (x13, x14, x15, ()), ()) = l22_2 x0 x1 x2 x3 x4 x5 x6 x7 x8 x9 x10 x11 x12 x13 x14 x15 := by kernel_rfl

theorem r2203 (x0 : Int) (x1 : Int) (x2 : Bool) (x3 : Int) (x4 : Int) (x5 : List (List (Int × Int × Int))) (x6 : List Int) (x7 : List (List (Int × Int × Int))) (x8 : List Int) (x9 : List (Int × Int × ByteArray)) (x10 : Int) (x11 : Int) (x12 : ByteArray) (x13 : Int) (x14 : Int) (x15 : ByteArray) {y : (Int × Int × Bool × PUnit) × (List (List (Int × Int × Int)) × List Int × PUnit) × (List (List (Int × Int × Int)) × List Int × PUnit) × List (Int × Int × ByteArray) × (Int × Int × ByteArray × PUnit) × (Int × Int × ByteArray × PUnit) × PUnit} (h : (l22_2 x0 x1 x2 x3 x4 x5 x6 x7 x8 x9 x10 x11 x12 x13 x14 x15).wp (SemR Try.prog Γ) (LoopP (fun (x : (Int × Int × Bool × Int × Int × PUnit) × (List (List (Int × Int × Int)) × List Int × PUnit) × (List (List (Int × Int × Int)) × List Int × PUnit) × List (Int × Int × ByteArray) × (Int × Int × ByteArray × PUnit) × (Int × Int × ByteArray × PUnit) × PUnit) (y : (Int × Int × Bool × PUnit) × (List (List (Int × Int × Int)) × List Int × PUnit) × (List (List (Int × Int × Int)) × List Int × PUnit) × List (Int × Int × ByteArray) × (Int × Int × ByteArray × PUnit) × (Int × Int × ByteArray × PUnit) × PUnit) => SemR Try.prog Γ 2203 x y) y)) : SemR Try.prog Γ 2203 ((x0, x1, x2, x3, x4, ()), (x5, x6, ()), (x7, x8, ()), x9, (x10, x11, x12, ()), (x13, x14, x15, ()), ()) y :=
  loop_rule (P := Try.prog) (c := (cf kt 0)) (body := (loopAt (loopAt (loopAt code22 0) 0) 0)) (l := []) rfl mixed (by kernel_rfl) (by kernel_rfl) trivial (l22_2_eq x0 x1 x2 x3 x4 x5 x6 x7 x8 x9 x10 x11 x12 x13 x14 x15) h

end Go.Proofs.YtjmnjimlkljhjaaV

/- The trees of functions and loops: what they do, step by step. -/
set_option linter.unusedVariables false
set_option maxRecDepth 100000
namespace Go.Proofs.YtjmnjimlkljhjaaV
open Go Go.Proofs

/-! quincunx/quincunxlaw05.LeastClasses -/
noncomputable def t3 (x0 : List (List (Int × Int × Int))) (x1 : List Int) : Tree Γ ((Bool × PUnit) × PUnit) :=
 .act 1000 (((), ())) (fun y => match y with
  | ((y0, ()), ()) =>
   .act 1100 ((((x0, x1), ()), ())) (fun y => match y with
    | ((y1, ()), ()) =>
     .ite (!y1) (
      .ret (((y0, ()), ()))) (
      .act 1200 ((((x0, x1), ()), ())) (fun y => match y with
       | ((y2, ()), ()) =>
        .ite (y2 != 0) (
         .ret (((y0, ()), ()))) (
         .act 1300 ((((x0, x1), ()), ())) (fun y => match y with
          | ((y3, ()), ()) =>
           .act 1400 ((((x0, x1), ()), ())) (fun y => match y with
            | ((y4, ()), ()) =>
             .ite ((↑(List.length y3) : Int) != (↑(List.length y4) : Int)) (
              .ret (((false, ()), ()))) (
              .act 301 (((y0, y3, y4, (↑(List.length y3) : Int), 0, ()), (x0, x1, ()), ())) (fun y => match y with
               | (.inl ((y5, ()), (y6, y7, ()), ())) =>
                .ite y5 (
                 .act 1600 ((((y6, y7), ()), ())) (fun y => match y with
                  | ((y8, ()), ()) =>
                   .act 1700 ((((y6, y7), ()), ())) (fun y => match y with
                    | ((y9, ()), ()) =>
                     .act 1500 (((y8, y9, ()), ())) (fun y => match y with
                      | ((y10, ()), ()) =>
                       .ret (((y10, ()), ())))))) (
                 .ret (((false, ()), ())))
               | (.inr ((y5, ()), ())) =>
                .ret (((y5, ()), ())))))))))))

theorem t3_eq (x0 : List (List (Int × Int × Int))) (x1 : List Int) : funT (cf kt 0) 300 Try.f3 code3 (plan code3 [301]) (((x0, x1), ()), ()) = t3 x0 x1 := by kernel_rfl

theorem r300 (x0 : List (List (Int × Int × Int))) (x1 : List Int) {y : ((Bool × PUnit) × PUnit)} (h : (t3 x0 x1).wp (SemR Try.prog Γ) (fun z => y = z)) : SemR Try.prog Γ 300 (((x0, x1), ()), ()) y :=
  fn_rule (P := Try.prog) (c := (cf kt 0)) (code := code3) (l := [301]) rfl mixed (by kernel_rfl) Try.func3 (by kernel_rfl) (by kernel_rfl) ⟨by kernel_rfl, trivial⟩ (by kernel_rfl) (t3_eq x0 x1) h

noncomputable def l3_0 (x0 : Bool) (x1 : List Bool) (x2 : List Bool) (x3 : Int) (x4 : Int) (x5 : List (List (Int × Int × Int))) (x6 : List Int) : Tree Γ ((Bool × List Bool × List Bool × Int × Int × PUnit) × (List (List (Int × Int × Int)) × List Int × PUnit) × PUnit ⊕ (Bool × PUnit) × (List (List (Int × Int × Int)) × List Int × PUnit) × PUnit ⊕ (Bool × PUnit) × PUnit) :=
 .ite (decide (x4 < x3)) (
  .chk (decide (0 ≤ x4)) (
  .chk (decide (x4 < (↑(List.length x1) : Int))) (
  .chk (decide (0 ≤ x4)) (
  .chk (decide (x4 < (↑(List.length x2) : Int))) (
  .ite (!List.getD x1 (Int.toNat x4) false == List.getD x2 (Int.toNat x4) false) (
   .ret (Sum.inr (Sum.inr ((false, ()), ())))) (
   .ret (Sum.inl ((x0, x1, x2, x3, IntKind.wrap IntKind.i64 (x4 + 1), ()), (x5, x6, ()), ())))))))) (
  .ret (Sum.inr (Sum.inl ((x0, ()), (x5, x6, ()), ()))))

theorem l3_0_eq (x0 : Bool) (x1 : List Bool) (x2 : List Bool) (x3 : Int) (x4 : Int) (x5 : List (List (Int × Int × Int))) (x6 : List Int) : roundT (cf kt 0) 301 (loopAt code3 0) (plan (loopAt code3 0) []) ((x0, x1, x2, x3, x4, ()), (x5, x6, ()), ()) = l3_0 x0 x1 x2 x3 x4 x5 x6 := by kernel_rfl

theorem r301 (x0 : Bool) (x1 : List Bool) (x2 : List Bool) (x3 : Int) (x4 : Int) (x5 : List (List (Int × Int × Int))) (x6 : List Int) {y : (Bool × PUnit) × (List (List (Int × Int × Int)) × List Int × PUnit) × PUnit ⊕ (Bool × PUnit) × PUnit} (h : (l3_0 x0 x1 x2 x3 x4 x5 x6).wp (SemR Try.prog Γ) (LoopP (fun (x : (Bool × List Bool × List Bool × Int × Int × PUnit) × (List (List (Int × Int × Int)) × List Int × PUnit) × PUnit) (y : (Bool × PUnit) × (List (List (Int × Int × Int)) × List Int × PUnit) × PUnit ⊕ (Bool × PUnit) × PUnit) => SemR Try.prog Γ 301 x y) y)) : SemR Try.prog Γ 301 ((x0, x1, x2, x3, x4, ()), (x5, x6, ()), ()) y :=
  loop_rule (P := Try.prog) (c := (cf kt 0)) (body := (loopAt code3 0)) (l := []) rfl mixed (by kernel_rfl) (by kernel_rfl) trivial (l3_0_eq x0 x1 x2 x3 x4 x5 x6) h

/-! quincunx/quincunxlaw05.LeastBuilds -/
noncomputable def t4 (x0 : List (List (Int × Int × Int))) (x1 : List Int) : Tree Γ ((Bool × PUnit) × PUnit) :=
 .act 1000 (((), ())) (fun y => match y with
  | ((y0, ()), ()) =>
   .act 1100 ((((x0, x1), ()), ())) (fun y => match y with
    | ((y1, ()), ()) =>
     .ite (!y1) (
      .ret (((y0, ()), ()))) (
      .act 1800 ((((x0, x1), ()), ())) (fun y => match y with
       | (((y2, y3), y4, ()), ()) =>
        .act 1900 ((((x0, x1), ()), ())) (fun y => match y with
         | (((y5, y6), y7, ()), ()) =>
          .ite y0 (
           .act 2000 ((((y2, y3), (y5, y6), ()), ())) (fun y => match y with
            | ((y8, ()), ()) =>
             .ret (((y8 && y4 == y7, ()), ())))) (
           .ret (((false, ()), ()))))))))

theorem t4_eq (x0 : List (List (Int × Int × Int))) (x1 : List Int) : funT (cf kt 0) 400 Try.f4 code4 (plan code4 []) (((x0, x1), ()), ()) = t4 x0 x1 := by kernel_rfl

theorem r400 (x0 : List (List (Int × Int × Int))) (x1 : List Int) {y : ((Bool × PUnit) × PUnit)} (h : (t4 x0 x1).wp (SemR Try.prog Γ) (fun z => y = z)) : SemR Try.prog Γ 400 (((x0, x1), ()), ()) y :=
  fn_rule (P := Try.prog) (c := (cf kt 0)) (code := code4) (l := []) rfl mixed (by kernel_rfl) Try.func4 (by kernel_rfl) (by kernel_rfl) trivial (by kernel_rfl) (t4_eq x0 x1) h

/-! quincunx/quincunxlaw05.LeastApart -/
noncomputable def t5 (x0 : List (List (Int × Int × Int))) (x1 : List Int) (x2 : List (List (Int × Int × Int))) (x3 : List Int) : Tree Γ ((Bool × PUnit) × PUnit) :=
 .act 1000 (((), ())) (fun y => match y with
  | ((y0, ()), ()) =>
   .act 1100 ((((x0, x1), ()), ())) (fun y => match y with
    | ((y1, ()), ()) =>
     .ite (!y1) (
      .ret (((y0, ()), ()))) (
      .act 1100 ((((x2, x3), ()), ())) (fun y => match y with
       | ((y2, ()), ()) =>
        .ite (!y2) (
         .ret (((y0, ()), ()))) (
         .act 2100 ((((x0, x1), (x2, x3), ()), ())) (fun y => match y with
          | ((y3, y4, y5, ()), ()) =>
           .act 2200 ((((x0, x1), (x2, x3), ()), ())) (fun y => match y with
            | ((y6, y7, y8, ()), ()) =>
             .ret (((y0 && strEq y3 y6 && y4 == y7 && y5 == y8, ()), ())))))))))

theorem t5_eq (x0 : List (List (Int × Int × Int))) (x1 : List Int) (x2 : List (List (Int × Int × Int))) (x3 : List Int) : funT (cf kt 0) 500 Try.f5 code5 (plan code5 []) (((x0, x1), (x2, x3), ()), ()) = t5 x0 x1 x2 x3 := by kernel_rfl

theorem r500 (x0 : List (List (Int × Int × Int))) (x1 : List Int) (x2 : List (List (Int × Int × Int))) (x3 : List Int) {y : ((Bool × PUnit) × PUnit)} (h : (t5 x0 x1 x2 x3).wp (SemR Try.prog Γ) (fun z => y = z)) : SemR Try.prog Γ 500 (((x0, x1), (x2, x3), ()), ()) y :=
  fn_rule (P := Try.prog) (c := (cf kt 0)) (code := code5) (l := []) rfl mixed (by kernel_rfl) Try.func5 (by kernel_rfl) (by kernel_rfl) trivial (by kernel_rfl) (t5_eq x0 x1 x2 x3) h

/-! quincunx/quincunxlaw05.LeastSame -/
noncomputable def t6 (x0 : List (List (Int × Int × Int))) (x1 : List Int) (x2 : ByteArray) : Tree Γ ((Bool × PUnit) × PUnit) :=
 .act 1000 (((), ())) (fun y => match y with
  | ((y0, ()), ()) =>
   .act 1100 ((((x0, x1), ()), ())) (fun y => match y with
    | ((y1, ()), ()) =>
     .ite (!y1) (
      .ret (((y0, ()), ()))) (
      .act 1200 ((((x0, x1), ()), ())) (fun y => match y with
       | ((y2, ()), ()) =>
        .ite (y2 != 0 || decide ((↑(ByteArray.size x2) : Int) > 100)) (
         .ret (((y0, ()), ()))) (
         .act 1800 ((((x0, x1), ()), ())) (fun y => match y with
          | (((y3, y4), y5, ()), ()) =>
           .ite (y5 != 0 || decide ((↑(List.length y3) : Int) > (↑(List.length x0) : Int))) (
            .ret (((false, ()), ()))) (
            .act 1200 ((((y3, y4), ()), ())) (fun y => match y with
             | ((y6, ()), ()) =>
              .ite (y6 != 0) (
               .ret (((false, ()), ()))) (
               .act 2100 ((((x0, x1), (y3, y4), ()), ())) (fun y => match y with
                | ((y7, y8, y9, ()), ()) =>
                 .act 1800 ((((y3, y4), ()), ())) (fun y => match y with
                  | (((y10, y11), y12, ()), ()) =>
                   .ite y0 (
                    .ite (!y8) (
                     .ite (y9 == 0) (
                      .act 2300 ((((y3, y4), x2, ()), ())) (fun y => match y with
                       | ((y13, ()), ()) =>
                        .act 2300 ((((x0, x1), x2, ()), ())) (fun y => match y with
                         | ((y14, ()), ()) =>
                          .ite (y13 == y14) (
                           .ite (y12 == 0) (
                            .act 2000 ((((y3, y4), (y10, y11), ()), ())) (fun y => match y with
                             | ((y15, ()), ()) =>
                              .ret (((y15, ()), ())))) (
                            .ret (((false, ()), ())))) (
                           .ret (((false, ()), ())))))) (
                      .ret (((false, ()), ())))) (
                     .ret (((false, ()), ())))) (
                    .ret (((false, ()), ()))))))))))))))

theorem t6_eq (x0 : List (List (Int × Int × Int))) (x1 : List Int) (x2 : ByteArray) : funT (cf kt 0) 600 Try.f6 code6 (plan code6 []) (((x0, x1), x2, ()), ()) = t6 x0 x1 x2 := by kernel_rfl

theorem r600 (x0 : List (List (Int × Int × Int))) (x1 : List Int) (x2 : ByteArray) {y : ((Bool × PUnit) × PUnit)} (h : (t6 x0 x1 x2).wp (SemR Try.prog Γ) (fun z => y = z)) : SemR Try.prog Γ 600 (((x0, x1), x2, ()), ()) y :=
  fn_rule (P := Try.prog) (c := (cf kt 0)) (code := code6) (l := []) rfl mixed (by kernel_rfl) Try.func6 (by kernel_rfl) (by kernel_rfl) trivial (by kernel_rfl) (t6_eq x0 x1 x2) h

/-! quincunx/quincunxlaw05.LeastOne -/
noncomputable def t7 (x0 : List (List (Int × Int × Int))) (x1 : List Int) (x2 : List (List (Int × Int × Int))) (x3 : List Int) : Tree Γ ((Bool × PUnit) × PUnit) :=
 .act 1000 (((), ())) (fun y => match y with
  | ((y0, ()), ()) =>
   .act 1100 ((((x0, x1), ()), ())) (fun y => match y with
    | ((y1, ()), ()) =>
     .ite (!y1) (
      .ret (((y0, ()), ()))) (
      .act 1100 ((((x2, x3), ()), ())) (fun y => match y with
       | ((y2, ()), ()) =>
        .ite (!y2) (
         .ret (((y0, ()), ()))) (
         .act 1200 ((((x0, x1), ()), ())) (fun y => match y with
          | ((y3, ()), ()) =>
           .ite (y3 != 0) (
            .ret (((y0, ()), ()))) (
            .act 1200 ((((x2, x3), ()), ())) (fun y => match y with
             | ((y4, ()), ()) =>
              .ite (y4 != 0) (
               .ret (((y0, ()), ()))) (
               .act 1800 ((((x0, x1), ()), ())) (fun y => match y with
                | (((y5, y6), y7, ()), ()) =>
                 .act 1800 ((((x2, x3), ()), ())) (fun y => match y with
                  | (((y8, y9), y10, ()), ()) =>
                   .act 2100 ((((x0, x1), (x2, x3), ()), ())) (fun y => match y with
                    | ((y11, y12, y13, ()), ()) =>
                     .ite y12 (
                      .act 2300 ((((x0, x1), y11, ()), ())) (fun y => match y with
                       | ((y14, ()), ()) =>
                        .act 2300 ((((x2, x3), y11, ()), ())) (fun y => match y with
                         | ((y15, ()), ()) =>
                          .ite (y14 == y15) (
                           .ret (((false, ()), ()))) (
                           .ite y0 (
                            .act 2000 ((((y5, y6), (y8, y9), ()), ())) (fun y => match y with
                             | ((y16, ()), ()) =>
                              .ret (((y16 == !y12, ()), ())))) (
                            .ret (((false, ()), ()))))))) (
                      .ite y0 (
                       .act 2000 ((((y5, y6), (y8, y9), ()), ())) (fun y => match y with
                        | ((y14, ()), ()) =>
                         .ret (((y14 == !y12, ()), ())))) (
                       .ret (((false, ()), ()))))))))))))))))

theorem t7_eq (x0 : List (List (Int × Int × Int))) (x1 : List Int) (x2 : List (List (Int × Int × Int))) (x3 : List Int) : funT (cf kt 0) 700 Try.f7 code7 (plan code7 []) (((x0, x1), (x2, x3), ()), ()) = t7 x0 x1 x2 x3 := by kernel_rfl

theorem r700 (x0 : List (List (Int × Int × Int))) (x1 : List Int) (x2 : List (List (Int × Int × Int))) (x3 : List Int) {y : ((Bool × PUnit) × PUnit)} (h : (t7 x0 x1 x2 x3).wp (SemR Try.prog Γ) (fun z => y = z)) : SemR Try.prog Γ 700 (((x0, x1), (x2, x3), ()), ()) y :=
  fn_rule (P := Try.prog) (c := (cf kt 0)) (code := code7) (l := []) rfl mixed (by kernel_rfl) Try.func7 (by kernel_rfl) (by kernel_rfl) trivial (by kernel_rfl) (t7_eq x0 x1 x2 x3) h

/-! quincunx/quincunxlaw05.LeastTells -/
noncomputable def t8 (x0 : List (List (Int × Int × Int))) (x1 : List Int) : Tree Γ ((Bool × PUnit) × PUnit) :=
 .act 1000 (((), ())) (fun y => match y with
  | ((y0, ()), ()) =>
   .act 1100 ((((x0, x1), ()), ())) (fun y => match y with
    | ((y1, ()), ()) =>
     .ite (!y1) (
      .ret (((y0, ()), ()))) (
      .act 1200 ((((x0, x1), ()), ())) (fun y => match y with
       | ((y2, ()), ()) =>
        .ite (y2 != 0) (
         .ret (((y0, ()), ()))) (
         .act 1800 ((((x0, x1), ()), ())) (fun y => match y with
          | (((y3, y4), y5, ()), ()) =>
           .act 1300 ((((y3, y4), ()), ())) (fun y => match y with
            | ((y6, ()), ()) =>
             .act 1600 ((((y3, y4), ()), ())) (fun y => match y with
              | ((y7, ()), ()) =>
               .ite ((↑(List.length y7) : Int) != (↑(List.length y3) : Int) || (↑(List.length y6) : Int) != (↑(List.length y7) : Int)) (
                .ret (((false, ()), ()))) (
                .act 801 (((y0, y6, y7, (↑(List.length y7) : Int), 0, ()), ())) (fun y => match y with
                 | (.inl ((y8, ()), ())) =>
                  .ret (((y8, ()), ()))
                 | (.inr ((y8, ()), ())) =>
                  .ret (((y8, ()), ()))))))))))))

theorem t8_eq (x0 : List (List (Int × Int × Int))) (x1 : List Int) : funT (cf kt 0) 800 Try.f8 code8 (plan code8 [801]) (((x0, x1), ()), ()) = t8 x0 x1 := by kernel_rfl

theorem r800 (x0 : List (List (Int × Int × Int))) (x1 : List Int) {y : ((Bool × PUnit) × PUnit)} (h : (t8 x0 x1).wp (SemR Try.prog Γ) (fun z => y = z)) : SemR Try.prog Γ 800 (((x0, x1), ()), ()) y :=
  fn_rule (P := Try.prog) (c := (cf kt 0)) (code := code8) (l := [801]) rfl mixed (by kernel_rfl) Try.func8 (by kernel_rfl) (by kernel_rfl) ⟨by kernel_rfl, trivial⟩ (by kernel_rfl) (t8_eq x0 x1) h

noncomputable def l8_0 (x0 : Bool) (x1 : List Bool) (x2 : List Int) (x3 : Int) (x4 : Int) : Tree Γ ((Bool × List Bool × List Int × Int × Int × PUnit) × PUnit ⊕ (Bool × PUnit) × PUnit ⊕ (Bool × PUnit) × PUnit) :=
 .ite (decide (x4 < x3)) (
  .chk (decide (0 ≤ x4)) (
  .chk (decide (x4 < (↑(List.length x2) : Int))) (
  .chk (List.getD x2 (Int.toNat x4) 0 != x4 || decide (0 ≤ x4)) (
  .chk (List.getD x2 (Int.toNat x4) 0 != x4 || decide (x4 < (↑(List.length x1) : Int))) (
  .ite (List.getD x2 (Int.toNat x4) 0 != x4) (
   .ret (Sum.inr (Sum.inr ((false, ()), ())))) (
   .ite (List.getD x1 (Int.toNat x4) false && decide ((↑(List.length x2) : Int) > 1)) (
    .ret (Sum.inr (Sum.inr ((false, ()), ())))) (
    .ret (Sum.inl ((x0, x1, x2, x3, IntKind.wrap IntKind.i64 (x4 + 1), ()), ()))))))))) (
  .ret (Sum.inr (Sum.inl ((x0, ()), ()))))

theorem l8_0_eq (x0 : Bool) (x1 : List Bool) (x2 : List Int) (x3 : Int) (x4 : Int) : roundT (cf kt 0) 801 (loopAt code8 0) (plan (loopAt code8 0) []) ((x0, x1, x2, x3, x4, ()), ()) = l8_0 x0 x1 x2 x3 x4 := by kernel_rfl

theorem r801 (x0 : Bool) (x1 : List Bool) (x2 : List Int) (x3 : Int) (x4 : Int) {y : (Bool × PUnit) × PUnit ⊕ (Bool × PUnit) × PUnit} (h : (l8_0 x0 x1 x2 x3 x4).wp (SemR Try.prog Γ) (LoopP (fun (x : (Bool × List Bool × List Int × Int × Int × PUnit) × PUnit) (y : (Bool × PUnit) × PUnit ⊕ (Bool × PUnit) × PUnit) => SemR Try.prog Γ 801 x y) y)) : SemR Try.prog Γ 801 ((x0, x1, x2, x3, x4, ()), ()) y :=
  loop_rule (P := Try.prog) (c := (cf kt 0)) (body := (loopAt code8 0)) (l := []) rfl mixed (by kernel_rfl) (by kernel_rfl) trivial (l8_0_eq x0 x1 x2 x3 x4) h

/-! quincunx/quincunxlaw05.LeastTurns -/
noncomputable def t9 (x0 : List (List (Int × Int × Int))) (x1 : List Int) (x2 : List (List (Int × Int × Int))) (x3 : List Int) : Tree Γ ((Bool × PUnit) × PUnit) :=
 .act 1000 (((), ())) (fun y => match y with
  | ((y0, ()), ()) =>
   .act 1100 ((((x0, x1), ()), ())) (fun y => match y with
    | ((y1, ()), ()) =>
     .ite (!y1) (
      .ret (((y0, ()), ()))) (
      .act 1100 ((((x2, x3), ()), ())) (fun y => match y with
       | ((y2, ()), ()) =>
        .ite (!y2) (
         .ret (((y0, ()), ()))) (
         .act 2100 ((((x0, x1), (x2, x3), ()), ())) (fun y => match y with
          | ((y3, y4, y5, ()), ()) =>
           .act 2100 ((((x2, x3), (x0, x1), ()), ())) (fun y => match y with
            | ((y6, y7, y8, ()), ()) =>
             .act 2100 ((((x0, x1), (x0, x1), ()), ())) (fun y => match y with
              | ((y9, y10, y11, ()), ()) =>
               .ite (y0 && strEq y3 y6 && y4 == y7 && y5 == y8 && !y10) (
                .ret (((y11 == 0 || y5 != 0, ()), ()))) (
                .ret (((false, ()), ())))))))))))

theorem t9_eq (x0 : List (List (Int × Int × Int))) (x1 : List Int) (x2 : List (List (Int × Int × Int))) (x3 : List Int) : funT (cf kt 0) 900 Try.f9 code9 (plan code9 []) (((x0, x1), (x2, x3), ()), ()) = t9 x0 x1 x2 x3 := by kernel_rfl

theorem r900 (x0 : List (List (Int × Int × Int))) (x1 : List Int) (x2 : List (List (Int × Int × Int))) (x3 : List Int) {y : ((Bool × PUnit) × PUnit)} (h : (t9 x0 x1 x2 x3).wp (SemR Try.prog Γ) (fun z => y = z)) : SemR Try.prog Γ 900 (((x0, x1), (x2, x3), ()), ()) y :=
  fn_rule (P := Try.prog) (c := (cf kt 0)) (code := code9) (l := []) rfl mixed (by kernel_rfl) Try.func9 (by kernel_rfl) (by kernel_rfl) trivial (by kernel_rfl) (t9_eq x0 x1 x2 x3) h

/-! quincunx/quincunxlaw05.live -/
noncomputable def t10  : Tree Γ ((Bool × PUnit) × PUnit) :=
 .act 2400 (((1, [0, 0], ()), ())) (fun y => match y with
  | (((y0, y1), ()), ()) =>
   .act 2400 (((1, [-1, 0], ()), ())) (fun y => match y with
    | (((y2, y3), ()), ()) =>
     .act 2100 ((((y0, y1), (y2, y3), ()), ())) (fun y => match y with
      | ((y4, y5, y6, ()), ()) =>
       .act 2400 (((0, [0, 0], ()), ())) (fun y => match y with
        | (((y7, y8), ()), ()) =>
         .act 1800 ((((y7, y8), ()), ())) (fun y => match y with
          | (((y9, y10), y11, ()), ()) =>
           .ite (strEq y4 { data := #[] } && y5 && y6 == 0 && y11 == 0 && (↑(List.length y9) : Int) == 1) (
            .act 2400 (((0, [0, 0], ()), ())) (fun y => match y with
             | (((y12, y13), ()), ()) =>
              .act 1600 ((((y12, y13), ()), ())) (fun y => match y with
               | ((y14, ()), ()) =>
                .act 1500 (((y14, [0, 0], ()), ())) (fun y => match y with
                 | ((y15, ()), ()) =>
                  .ite y15 (
                   .act 2400 (((0, [0, 0], ()), ())) (fun y => match y with
                    | (((y16, y17), ()), ()) =>
                     .act 1300 ((((y16, y17), ()), ())) (fun y => match y with
                      | ((y18, ()), ()) =>
                       .ret ((((↑(List.length y18) : Int) == 2, ()), ()))))) (
                   .ret (((false, ()), ()))))))) (
            .ret (((false, ()), ()))))))))

theorem t10_eq  : funT (cf kt 0) 1000 Try.f10 code10 (plan code10 []) ((), ()) = t10 := by kernel_rfl

theorem r1000  {y : ((Bool × PUnit) × PUnit)} (h : (t10).wp (SemR Try.prog Γ) (fun z => y = z)) : SemR Try.prog Γ 1000 ((), ()) y :=
  fn_rule (P := Try.prog) (c := (cf kt 0)) (code := code10) (l := []) rfl mixed (by kernel_rfl) Try.func10 (by kernel_rfl) (by kernel_rfl) trivial (by kernel_rfl) (t10_eq) h

end Go.Proofs.YtjmnjimlkljhjaaV
