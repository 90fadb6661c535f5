/- Texts of this claim. -/
import Derived.Test.YtnmgimjamahalaaGl
import Derived.Test.YtnmgimjamahalaaProg
import Derived.KernelRfl
section
set_option linter.unusedVariables false
set_option maxRecDepth 100000
set_option maxHeartbeats 0
namespace Go.Am
noncomputable def ctr9 : Ctr :=
  ⟨9, [.list 3, .int Go.IntKind.u8, .int Go.IntKind.u8, .int Go.IntKind.u8, .int Go.IntKind.u8], [], [(.ret, ⟨[(0, .bool)], [], 1⟩)]⟩
noncomputable def la9 : List LA :=
  [⟨9, [false, true, false, true, true, true, true, true], ⟨⟨[(0, .list 3), (1, .int Go.IntKind.u8), (2, .int Go.IntKind.u8), (3, .int Go.IntKind.u8), (4, .int Go.IntKind.u8), (11, .vec 0 4), (13, .vec 1 3), (14, .vec 2 3), (15, .int Go.IntKind.i64)], [.row [(Go.Am.CK.int Go.IntKind.i64), (Go.Am.CK.int Go.IntKind.i64), (Go.Am.CK.int Go.IntKind.i64), (Go.Am.CK.int Go.IntKind.i64)], .row [(Go.Am.CK.int Go.IntKind.i64), (Go.Am.CK.int Go.IntKind.i64), (Go.Am.CK.int Go.IntKind.i64)], .row [(Go.Am.CK.int Go.IntKind.i64), (Go.Am.CK.int Go.IntKind.i64), (Go.Am.CK.int Go.IntKind.i64)]], 210⟩, [((Go.Am.AX.exit 0), ⟨[(2, .int Go.IntKind.u8), (3, .int Go.IntKind.u8), (4, .int Go.IntKind.u8), (11, .vec 0 4), (13, .vec 1 3), (14, .vec 2 3)], [.row [(Go.Am.CK.int Go.IntKind.i64), (Go.Am.CK.int Go.IntKind.i64), (Go.Am.CK.int Go.IntKind.i64), (Go.Am.CK.int Go.IntKind.i64)], .row [(Go.Am.CK.int Go.IntKind.i64), (Go.Am.CK.int Go.IntKind.i64), (Go.Am.CK.int Go.IntKind.i64)], .row [(Go.Am.CK.int Go.IntKind.i64), (Go.Am.CK.int Go.IntKind.i64), (Go.Am.CK.int Go.IntKind.i64)]], 210⟩)]⟩⟩,
   ⟨9, [false, true, false, true, true, true, true, true, true, true, true, true, true, true, true, true], ⟨⟨[(4, .int Go.IntKind.u8), (11, .vec 0 4), (21, .vec 1 4), (22, .int Go.IntKind.i64)], [.row [(Go.Am.CK.int Go.IntKind.i64), (Go.Am.CK.int Go.IntKind.i64), (Go.Am.CK.int Go.IntKind.i64), (Go.Am.CK.int Go.IntKind.i64)], .row [(Go.Am.CK.int Go.IntKind.i64), (Go.Am.CK.int Go.IntKind.i64), (Go.Am.CK.int Go.IntKind.i64), (Go.Am.CK.int Go.IntKind.i64)]], 210⟩, [(Go.Am.AX.ret, ⟨[(10, .bool)], [], 210⟩), ((Go.Am.AX.exit 2), ⟨[], [], 210⟩)]⟩⟩]
noncomputable def ja9 : List JA :=
  [⟨9, [false, true, false, false, true, false, true, true, true, true, true, true, true, true, true, true, true, true, true], [(Go.Am.AX.ret, ⟨[(10, .bool)], [], 210⟩), (Go.Am.AX.normal, ⟨[(4, .int Go.IntKind.u8), (11, .vec 0 4), (21, .vec 1 4), (22, .int Go.IntKind.i64)], [.row [(Go.Am.CK.int Go.IntKind.i64), (Go.Am.CK.int Go.IntKind.i64), (Go.Am.CK.int Go.IntKind.i64), (Go.Am.CK.int Go.IntKind.i64)], .row [(Go.Am.CK.int Go.IntKind.i64), (Go.Am.CK.int Go.IntKind.i64), (Go.Am.CK.int Go.IntKind.i64), (Go.Am.CK.int Go.IntKind.i64)]], 210⟩)]⟩,
   ⟨9, [true, true, false, true, true, true, true, true, true, true], [(Go.Am.AX.normal, ⟨[(4, .int Go.IntKind.u8), (11, .vec 0 4), (13, .vec 1 3), (14, .vec 2 3)], [.row [(Go.Am.CK.int Go.IntKind.i64), (Go.Am.CK.int Go.IntKind.i64), (Go.Am.CK.int Go.IntKind.i64), (Go.Am.CK.int Go.IntKind.i64)], .row [(Go.Am.CK.int Go.IntKind.i64), (Go.Am.CK.int Go.IntKind.i64), (Go.Am.CK.int Go.IntKind.i64)], .row [(Go.Am.CK.int Go.IntKind.i64), (Go.Am.CK.int Go.IntKind.i64), (Go.Am.CK.int Go.IntKind.i64)]], 210⟩)]⟩,
   ⟨9, [false, false, true, true, true, true, true, true, true, true, true], [(Go.Am.AX.normal, ⟨[(4, .int Go.IntKind.u8), (11, .vec 0 4), (14, .vec 1 3), (124, .bool)], [.row [(Go.Am.CK.int Go.IntKind.i64), (Go.Am.CK.int Go.IntKind.i64), (Go.Am.CK.int Go.IntKind.i64), (Go.Am.CK.int Go.IntKind.i64)], .row [(Go.Am.CK.int Go.IntKind.i64), (Go.Am.CK.int Go.IntKind.i64), (Go.Am.CK.int Go.IntKind.i64)]], 210⟩)]⟩,
   ⟨9, [false, true, false, true, true, true, true, true, true, true], [(Go.Am.AX.normal, ⟨[(3, .int Go.IntKind.u8), (4, .int Go.IntKind.u8), (11, .vec 0 4), (13, .vec 1 3), (14, .vec 2 3), (17, .int Go.IntKind.i64), (18, .int Go.IntKind.i64), (88, .bool)], [.row [(Go.Am.CK.int Go.IntKind.i64), (Go.Am.CK.int Go.IntKind.i64), (Go.Am.CK.int Go.IntKind.i64), (Go.Am.CK.int Go.IntKind.i64)], .row [(Go.Am.CK.int Go.IntKind.i64), (Go.Am.CK.int Go.IntKind.i64), (Go.Am.CK.int Go.IntKind.i64)], .row [(Go.Am.CK.int Go.IntKind.i64), (Go.Am.CK.int Go.IntKind.i64), (Go.Am.CK.int Go.IntKind.i64)]], 210⟩)]⟩,
   ⟨9, [false, false, true, true, true, true, true, true, true, true, true, true, true, true], [(Go.Am.AX.normal, ⟨[(4, .int Go.IntKind.u8), (11, .vec 0 4), (21, .vec 1 4), (142, .bool)], [.row [(Go.Am.CK.int Go.IntKind.i64), (Go.Am.CK.int Go.IntKind.i64), (Go.Am.CK.int Go.IntKind.i64), (Go.Am.CK.int Go.IntKind.i64)], .row [(Go.Am.CK.int Go.IntKind.i64), (Go.Am.CK.int Go.IntKind.i64), (Go.Am.CK.int Go.IntKind.i64), (Go.Am.CK.int Go.IntKind.i64)]], 210⟩)]⟩]
noncomputable def gam9 : List CF :=
  [⟨ctr18, F18⟩, ⟨ctr14, F14⟩, ⟨ctr13, F13⟩, ⟨ctr27, F27⟩]
noncomputable def an9 : Anns :=
  ⟨gam9, ja9, []⟩
noncomputable def b9_2 (p : Prim) : (List (List (Go.Am.D)) × (List (List (Go.Am.D)) × (Int × (Int × Unit)))) → Option ((List (List (Go.Am.D)) × (List (List (Go.Am.D)) × (Int × (Int × Unit)))) ⊕ ((Bool × Unit) ⊕ Unit)) :=
  fun s83 => opt.run _ (
          opt.ask _ (p.cmp Go.BinOp.lss s83.2.2.2.1 (p.ofNat (p.len s83.2.1))) (
           opt.alt ((Bool × Unit)) ((List (List (Go.Am.D)) × (List (List (Go.Am.D)) × (Int × (Int × Unit))))) _ (
             opt.run (((Bool × Unit) ⊕ (List (List (Go.Am.D)) × (List (List (Go.Am.D)) × (Int × (Int × Unit)))))) (
              opt.need _ (bif (p.cmp Go.BinOp.geq s83.2.2.2.1 (0 : Int)) then (p.cmp Go.BinOp.lss s83.2.2.2.1 (p.ofNat (p.len s83.2.1))) else Bool.false) <|
              opt.need _ (p.rowOk s83.2.1 (p.add 0 (p.nat s83.2.2.2.1)) [(Go.Am.CK.int Go.IntKind.i64), (Go.Am.CK.int Go.IntKind.i64), (Go.Am.CK.int Go.IntKind.i64), (Go.Am.CK.int Go.IntKind.i64)]) <|
              opt.need _ (bif (p.cmp Go.BinOp.geq s83.2.2.2.1 (0 : Int)) then (p.cmp Go.BinOp.lss s83.2.2.2.1 (p.ofNat (p.len s83.1))) else Bool.false) <|
              opt.need _ (p.rowOk s83.1 (p.add 0 (p.nat s83.2.2.2.1)) [(Go.Am.CK.int Go.IntKind.i64), (Go.Am.CK.int Go.IntKind.i64), (Go.Am.CK.int Go.IntKind.i64), (Go.Am.CK.int Go.IntKind.i64)]) <|
              opt.ask _ (p.cmp Go.BinOp.neq (p.rdI s83.2.1 (p.add 0 (p.nat s83.2.2.2.1)) 0) (p.rdI s83.1 (p.add 0 (p.nat s83.2.2.2.1)) 0)) (
               opt.ret _ (Sum.inl (Bool.false, ()))) (
               opt.need _ (bif (p.cmp Go.BinOp.geq s83.2.2.2.1 (0 : Int)) then (p.cmp Go.BinOp.lss s83.2.2.2.1 (p.ofNat (p.len s83.2.1))) else Bool.false) <|
               opt.need _ (p.rowOk s83.2.1 (p.add 0 (p.nat s83.2.2.2.1)) [(Go.Am.CK.int Go.IntKind.i64), (Go.Am.CK.int Go.IntKind.i64), (Go.Am.CK.int Go.IntKind.i64), (Go.Am.CK.int Go.IntKind.i64)]) <|
               opt.need _ (bif (p.cmp Go.BinOp.geq s83.2.2.2.1 (0 : Int)) then (p.cmp Go.BinOp.lss s83.2.2.2.1 (p.ofNat (p.len s83.1))) else Bool.false) <|
               opt.need _ (p.rowOk s83.1 (p.add 0 (p.nat s83.2.2.2.1)) [(Go.Am.CK.int Go.IntKind.i64), (Go.Am.CK.int Go.IntKind.i64), (Go.Am.CK.int Go.IntKind.i64), (Go.Am.CK.int Go.IntKind.i64)]) <|
               opt.ask _ (p.cmp Go.BinOp.neq (p.rdI s83.2.1 (p.add 0 (p.nat s83.2.2.2.1)) 1) (p.rdI s83.1 (p.add 0 (p.nat s83.2.2.2.1)) 1)) (
                opt.ret _ (Sum.inl (Bool.false, ()))) (
                opt.need _ (bif (p.cmp Go.BinOp.geq s83.2.2.2.1 (0 : Int)) then (p.cmp Go.BinOp.lss s83.2.2.2.1 (p.ofNat (p.len s83.2.1))) else Bool.false) <|
                opt.need _ (p.rowOk s83.2.1 (p.add 0 (p.nat s83.2.2.2.1)) [(Go.Am.CK.int Go.IntKind.i64), (Go.Am.CK.int Go.IntKind.i64), (Go.Am.CK.int Go.IntKind.i64), (Go.Am.CK.int Go.IntKind.i64)]) <|
                opt.need _ (bif (p.cmp Go.BinOp.geq s83.2.2.2.1 (0 : Int)) then (p.cmp Go.BinOp.lss s83.2.2.2.1 (p.ofNat (p.len s83.1))) else Bool.false) <|
                opt.need _ (p.rowOk s83.1 (p.add 0 (p.nat s83.2.2.2.1)) [(Go.Am.CK.int Go.IntKind.i64), (Go.Am.CK.int Go.IntKind.i64), (Go.Am.CK.int Go.IntKind.i64), (Go.Am.CK.int Go.IntKind.i64)]) <|
                opt.ask _ (p.cmp Go.BinOp.neq (p.rdI s83.2.1 (p.add 0 (p.nat s83.2.2.2.1)) 2) (p.rdI s83.1 (p.add 0 (p.nat s83.2.2.2.1)) 2)) (
                 opt.ret _ (Sum.inl (Bool.false, ()))) (
                 opt.need _ (bif (p.cmp Go.BinOp.geq s83.2.2.2.1 (0 : Int)) then (p.cmp Go.BinOp.lss s83.2.2.2.1 (p.ofNat (p.len s83.2.1))) else Bool.false) <|
                 opt.need _ (p.rowOk s83.2.1 (p.add 0 (p.nat s83.2.2.2.1)) [(Go.Am.CK.int Go.IntKind.i64), (Go.Am.CK.int Go.IntKind.i64), (Go.Am.CK.int Go.IntKind.i64), (Go.Am.CK.int Go.IntKind.i64)]) <|
                 opt.need _ (bif (p.cmp Go.BinOp.geq s83.2.2.2.1 (0 : Int)) then (p.cmp Go.BinOp.lss s83.2.2.2.1 (p.ofNat (p.len s83.1))) else Bool.false) <|
                 opt.need _ (p.rowOk s83.1 (p.add 0 (p.nat s83.2.2.2.1)) [(Go.Am.CK.int Go.IntKind.i64), (Go.Am.CK.int Go.IntKind.i64), (Go.Am.CK.int Go.IntKind.i64), (Go.Am.CK.int Go.IntKind.i64)]) <|
                 opt.need _ (bif (p.cmp Go.BinOp.geq s83.2.2.2.1 (0 : Int)) then (p.cmp Go.BinOp.lss s83.2.2.2.1 (p.ofNat (p.len s83.1))) else Bool.false) <|
                 opt.need _ (p.rowOk s83.1 (p.add 0 (p.nat s83.2.2.2.1)) [(Go.Am.CK.int Go.IntKind.i64), (Go.Am.CK.int Go.IntKind.i64), (Go.Am.CK.int Go.IntKind.i64), (Go.Am.CK.int Go.IntKind.i64)]) <|
                 opt.need _ (p.cmp Go.BinOp.neq (50 : Int) (0 : Int)) <|
                 opt.ask _ (p.cmp Go.BinOp.neq (p.rdI s83.2.1 (p.add 0 (p.nat s83.2.2.2.1)) 3) (p.ar Go.BinOp.add Go.IntKind.i64 (p.rdI s83.1 (p.add 0 (p.nat s83.2.2.2.1)) 3) (p.ar Go.BinOp.mul Go.IntKind.i64 (p.rdI s83.1 (p.add 0 (p.nat s83.2.2.2.1)) 2) (p.cvt Go.IntKind.i64 (p.ar Go.BinOp.rem Go.IntKind.u8 s83.2.2.1 (50 : Int)))))) (
                  opt.ret _ (Sum.inl (Bool.false, ()))) (
                  opt.need _ (p.eqN 0 0) <|
                  opt.need _ (p.eqN (p.len s83.1) (p.len s83.1)) <|
                  opt.need _ (p.eqN 0 0) <|
                  opt.need _ (p.eqN (p.len s83.2.1) (p.len s83.2.1)) <|
                  opt.ret _ (Sum.inr (s83.1, (s83.2.1, (s83.2.2.1, (s83.2.2.2.1, ()))))))))))) (fun y84 =>
            opt.ret _ (Sum.inr (Sum.inl (y84.1, ())))) (fun y85 =>
            opt.bnd ((List (List (Go.Am.D)) × (List (List (Go.Am.D)) × (Int × (Int × Unit))))) _ (some y85) fun y86 =>
            opt.need _ (p.eqN 0 0) <|
            opt.need _ (p.eqN (p.len y86.1) (p.len y86.1)) <|
            opt.need _ (p.eqN 0 0) <|
            opt.need _ (p.eqN (p.len y86.2.1) (p.len y86.2.1)) <|
            opt.ret _ (Sum.inl (y86.1, (y86.2.1, (y86.2.2.1, ((p.ar Go.BinOp.add Go.IntKind.i64 y86.2.2.2.1 (1 : Int)), ()))))))) (
           opt.ret _ (Sum.inr (Sum.inr ()))))
noncomputable def b9_1 (p : Prim) : (List (List (Go.Am.D)) × (List (List (Go.Am.D)) × (List (List (Go.Am.D)) × (List (List (Go.Am.D)) × (Int × (Int × (Int × (Int × (Int × Unit))))))))) → Option ((List (List (Go.Am.D)) × (List (List (Go.Am.D)) × (List (List (Go.Am.D)) × (List (List (Go.Am.D)) × (Int × (Int × (Int × (Int × (Int × Unit))))))))) ⊕ (List (List (Go.Am.D)) × (List (List (Go.Am.D)) × (List (List (Go.Am.D)) × (Int × (Int × (Int × Unit))))))) :=
  fun s72 => opt.run _ (
       opt.ask _ (p.cmp Go.BinOp.lss s72.2.2.2.2.2.2.2.2.1 (p.ofNat (p.len s72.2.2.2.1))) (
        opt.need _ (p.cmp Go.BinOp.neq (p.ofNat (p.len s72.2.2.2.1)) (0 : Int)) <|
        opt.need _ (p.rowOk s72.2.2.2.1 (p.nat (p.ar Go.BinOp.sub Go.IntKind.i64 (p.ar Go.BinOp.sub Go.IntKind.i64 (p.ofNat (p.len s72.2.2.2.1)) (1 : Int)) (p.ar Go.BinOp.rem Go.IntKind.i64 (p.ar Go.BinOp.add Go.IntKind.i64 s72.2.2.2.2.2.2.2.2.1 (p.cvt Go.IntKind.i64 s72.2.2.2.2.1)) (p.ofNat (p.len s72.2.2.2.1))))) [(Go.Am.CK.int Go.IntKind.i64), (Go.Am.CK.int Go.IntKind.i64), (Go.Am.CK.int Go.IntKind.i64)]) <|
        opt.need _ (p.cmp Go.BinOp.geq (p.ar Go.BinOp.sub Go.IntKind.i64 (p.ar Go.BinOp.sub Go.IntKind.i64 (p.ofNat (p.len s72.2.2.2.1)) (1 : Int)) (p.ar Go.BinOp.rem Go.IntKind.i64 (p.ar Go.BinOp.add Go.IntKind.i64 s72.2.2.2.2.2.2.2.2.1 (p.cvt Go.IntKind.i64 s72.2.2.2.2.1)) (p.ofNat (p.len s72.2.2.2.1)))) (0 : Int)) <|
        opt.need _ (p.and (p.leN (p.add 0 1) (p.len [[(Go.Am.D.int Go.IntKind.i64 (p.rdI s72.2.2.2.1 (p.nat (p.ar Go.BinOp.sub Go.IntKind.i64 (p.ar Go.BinOp.sub Go.IntKind.i64 (p.ofNat (p.len s72.2.2.2.1)) (1 : Int)) (p.ar Go.BinOp.rem Go.IntKind.i64 (p.ar Go.BinOp.add Go.IntKind.i64 s72.2.2.2.2.2.2.2.2.1 (p.cvt Go.IntKind.i64 s72.2.2.2.2.1)) (p.ofNat (p.len s72.2.2.2.1))))) 0)), (Go.Am.D.int Go.IntKind.i64 (p.rdI s72.2.2.2.1 (p.nat (p.ar Go.BinOp.sub Go.IntKind.i64 (p.ar Go.BinOp.sub Go.IntKind.i64 (p.ofNat (p.len s72.2.2.2.1)) (1 : Int)) (p.ar Go.BinOp.rem Go.IntKind.i64 (p.ar Go.BinOp.add Go.IntKind.i64 s72.2.2.2.2.2.2.2.2.1 (p.cvt Go.IntKind.i64 s72.2.2.2.2.1)) (p.ofNat (p.len s72.2.2.2.1))))) 1)), (Go.Am.D.int Go.IntKind.i64 (p.rdI s72.2.2.2.1 (p.nat (p.ar Go.BinOp.sub Go.IntKind.i64 (p.ar Go.BinOp.sub Go.IntKind.i64 (p.ofNat (p.len s72.2.2.2.1)) (1 : Int)) (p.ar Go.BinOp.rem Go.IntKind.i64 (p.ar Go.BinOp.add Go.IntKind.i64 s72.2.2.2.2.2.2.2.2.1 (p.cvt Go.IntKind.i64 s72.2.2.2.2.1)) (p.ofNat (p.len s72.2.2.2.1))))) 2))]])) (p.and (p.leN (p.add 0 (p.len s72.2.1)) (p.len s72.2.1)) (p.and (p.leN 1 1) (p.leN (p.add (p.len s72.2.1) 1) 1000000)))) <|
        opt.need _ (p.rowOk s72.2.2.2.1 (p.nat s72.2.2.2.2.2.2.2.2.1) [(Go.Am.CK.int Go.IntKind.i64), (Go.Am.CK.int Go.IntKind.i64), (Go.Am.CK.int Go.IntKind.i64)]) <|
        opt.need _ (p.cmp Go.BinOp.geq s72.2.2.2.2.2.2.2.2.1 (0 : Int)) <|
        opt.need _ (p.cmp Go.BinOp.neq (50 : Int) (0 : Int)) <|
        opt.need _ (p.and (p.leN (p.add 0 1) (p.len [[(Go.Am.D.int Go.IntKind.i64 (p.rdI s72.2.2.2.1 (p.nat s72.2.2.2.2.2.2.2.2.1) 0)), (Go.Am.D.int Go.IntKind.i64 (p.ar Go.BinOp.add Go.IntKind.i64 (p.rdI s72.2.2.2.1 (p.nat s72.2.2.2.2.2.2.2.2.1) 1) (p.cvt Go.IntKind.i64 (p.ar Go.BinOp.rem Go.IntKind.u8 s72.2.2.2.2.2.2.2.1 (50 : Int))))), (Go.Am.D.int Go.IntKind.i64 (p.rdI s72.2.2.2.1 (p.nat s72.2.2.2.2.2.2.2.2.1) 2))]])) (p.and (p.leN (p.add 0 (p.len s72.2.2.1)) (p.len s72.2.2.1)) (p.and (p.leN 1 1) (p.leN (p.add (p.len s72.2.2.1) 1) 1000000)))) <|
        opt.need _ (p.eqN 0 0) <|
        opt.need _ (p.eqN (p.len s72.1) (p.len s72.1)) <|
        opt.need _ (p.eqN 0 0) <|
        opt.need _ (p.eqN (p.add (p.len s72.2.1) 1) (p.len (p.app (p.cut s72.2.1 0 (p.len s72.2.1)) (p.cut [[(Go.Am.D.int Go.IntKind.i64 (p.rdI s72.2.2.2.1 (p.nat (p.ar Go.BinOp.sub Go.IntKind.i64 (p.ar Go.BinOp.sub Go.IntKind.i64 (p.ofNat (p.len s72.2.2.2.1)) (1 : Int)) (p.ar Go.BinOp.rem Go.IntKind.i64 (p.ar Go.BinOp.add Go.IntKind.i64 s72.2.2.2.2.2.2.2.2.1 (p.cvt Go.IntKind.i64 s72.2.2.2.2.1)) (p.ofNat (p.len s72.2.2.2.1))))) 0)), (Go.Am.D.int Go.IntKind.i64 (p.rdI s72.2.2.2.1 (p.nat (p.ar Go.BinOp.sub Go.IntKind.i64 (p.ar Go.BinOp.sub Go.IntKind.i64 (p.ofNat (p.len s72.2.2.2.1)) (1 : Int)) (p.ar Go.BinOp.rem Go.IntKind.i64 (p.ar Go.BinOp.add Go.IntKind.i64 s72.2.2.2.2.2.2.2.2.1 (p.cvt Go.IntKind.i64 s72.2.2.2.2.1)) (p.ofNat (p.len s72.2.2.2.1))))) 1)), (Go.Am.D.int Go.IntKind.i64 (p.rdI s72.2.2.2.1 (p.nat (p.ar Go.BinOp.sub Go.IntKind.i64 (p.ar Go.BinOp.sub Go.IntKind.i64 (p.ofNat (p.len s72.2.2.2.1)) (1 : Int)) (p.ar Go.BinOp.rem Go.IntKind.i64 (p.ar Go.BinOp.add Go.IntKind.i64 s72.2.2.2.2.2.2.2.2.1 (p.cvt Go.IntKind.i64 s72.2.2.2.2.1)) (p.ofNat (p.len s72.2.2.2.1))))) 2))]] 0 1)))) <|
        opt.need _ (p.eqN 0 0) <|
        opt.need _ (p.eqN (p.add (p.len s72.2.2.1) 1) (p.len (p.app (p.cut s72.2.2.1 0 (p.len s72.2.2.1)) (p.cut [[(Go.Am.D.int Go.IntKind.i64 (p.rdI s72.2.2.2.1 (p.nat s72.2.2.2.2.2.2.2.2.1) 0)), (Go.Am.D.int Go.IntKind.i64 (p.ar Go.BinOp.add Go.IntKind.i64 (p.rdI s72.2.2.2.1 (p.nat s72.2.2.2.2.2.2.2.2.1) 1) (p.cvt Go.IntKind.i64 (p.ar Go.BinOp.rem Go.IntKind.u8 s72.2.2.2.2.2.2.2.1 (50 : Int))))), (Go.Am.D.int Go.IntKind.i64 (p.rdI s72.2.2.2.1 (p.nat s72.2.2.2.2.2.2.2.2.1) 2))]] 0 1)))) <|
        opt.ret _ (Sum.inl (s72.1, ((p.app (p.cut s72.2.1 0 (p.len s72.2.1)) (p.cut [[(Go.Am.D.int Go.IntKind.i64 (p.rdI s72.2.2.2.1 (p.nat (p.ar Go.BinOp.sub Go.IntKind.i64 (p.ar Go.BinOp.sub Go.IntKind.i64 (p.ofNat (p.len s72.2.2.2.1)) (1 : Int)) (p.ar Go.BinOp.rem Go.IntKind.i64 (p.ar Go.BinOp.add Go.IntKind.i64 s72.2.2.2.2.2.2.2.2.1 (p.cvt Go.IntKind.i64 s72.2.2.2.2.1)) (p.ofNat (p.len s72.2.2.2.1))))) 0)), (Go.Am.D.int Go.IntKind.i64 (p.rdI s72.2.2.2.1 (p.nat (p.ar Go.BinOp.sub Go.IntKind.i64 (p.ar Go.BinOp.sub Go.IntKind.i64 (p.ofNat (p.len s72.2.2.2.1)) (1 : Int)) (p.ar Go.BinOp.rem Go.IntKind.i64 (p.ar Go.BinOp.add Go.IntKind.i64 s72.2.2.2.2.2.2.2.2.1 (p.cvt Go.IntKind.i64 s72.2.2.2.2.1)) (p.ofNat (p.len s72.2.2.2.1))))) 1)), (Go.Am.D.int Go.IntKind.i64 (p.rdI s72.2.2.2.1 (p.nat (p.ar Go.BinOp.sub Go.IntKind.i64 (p.ar Go.BinOp.sub Go.IntKind.i64 (p.ofNat (p.len s72.2.2.2.1)) (1 : Int)) (p.ar Go.BinOp.rem Go.IntKind.i64 (p.ar Go.BinOp.add Go.IntKind.i64 s72.2.2.2.2.2.2.2.2.1 (p.cvt Go.IntKind.i64 s72.2.2.2.2.1)) (p.ofNat (p.len s72.2.2.2.1))))) 2))]] 0 1)), ((p.app (p.cut s72.2.2.1 0 (p.len s72.2.2.1)) (p.cut [[(Go.Am.D.int Go.IntKind.i64 (p.rdI s72.2.2.2.1 (p.nat s72.2.2.2.2.2.2.2.2.1) 0)), (Go.Am.D.int Go.IntKind.i64 (p.ar Go.BinOp.add Go.IntKind.i64 (p.rdI s72.2.2.2.1 (p.nat s72.2.2.2.2.2.2.2.2.1) 1) (p.cvt Go.IntKind.i64 (p.ar Go.BinOp.rem Go.IntKind.u8 s72.2.2.2.2.2.2.2.1 (50 : Int))))), (Go.Am.D.int Go.IntKind.i64 (p.rdI s72.2.2.2.1 (p.nat s72.2.2.2.2.2.2.2.2.1) 2))]] 0 1)), (s72.2.2.2.1, (s72.2.2.2.2.1, (s72.2.2.2.2.2.1, (s72.2.2.2.2.2.2.1, (s72.2.2.2.2.2.2.2.1, ((p.ar Go.BinOp.add Go.IntKind.i64 s72.2.2.2.2.2.2.2.2.1 (1 : Int)), ()))))))))))) (
        opt.need _ (p.eqN 0 0) <|
        opt.need _ (p.eqN (p.len s72.1) (p.len s72.1)) <|
        opt.need _ (p.eqN 0 0) <|
        opt.need _ (p.eqN (p.len s72.2.1) (p.len s72.2.1)) <|
        opt.need _ (p.eqN 0 0) <|
        opt.need _ (p.eqN (p.len s72.2.2.1) (p.len s72.2.2.1)) <|
        opt.ret _ (Sum.inr (s72.1, (s72.2.1, (s72.2.2.1, (s72.2.2.2.2.2.1, (s72.2.2.2.2.2.2.1, (s72.2.2.2.2.2.2.2.1, ())))))))))
noncomputable def G9 : (p : Prim) → (List (List (Go.Am.D)) × (Int × (Int × (Int × (Int × Unit))))) → Option ((Bool × Unit)) :=
  fun p x =>
  opt.bnd ((Bool × Unit)) _ (G27 p (x.1, ())) fun y69 =>
  opt.ask _ (bif y69.1 then Bool.false else Bool.true) (
   opt.bnd ((Bool × Unit)) _ (G13 p ()) fun y70 =>
   opt.ret _ (y70.1, ())) (
   opt.bnd ((List (List (Go.Am.D)) × (Int × Unit))) _ (G14 p (x.1, ())) fun y71 =>
   opt.ask _ (p.cmp Go.BinOp.neq y71.2.1 (0 : Int)) (
    opt.ret _ (Bool.false, ())) (
    opt.need _ (p.eqN 0 0) <|
    opt.need _ (p.eqN (p.len y71.1) (p.len y71.1)) <|
    opt.bnd ((List (List (Go.Am.D)) × (List (List (Go.Am.D)) × (List (List (Go.Am.D)) × (Int × (Int × (Int × Unit))))))) _ (
      iter (b9_1 p) (y71.1, ([], ([], (x.1, (x.2.1, (x.2.2.1, (x.2.2.2.1, (x.2.2.2.2.1, ((0 : Int), ())))))))))) fun y73 =>
    opt.need _ (p.cmp Go.BinOp.neq (p.ofNat (p.len y73.2.1)) (0 : Int)) <|
    opt.need _ (bif (p.cmp Go.BinOp.geq (p.ar Go.BinOp.rem Go.IntKind.i64 (p.cvt Go.IntKind.i64 y73.2.2.2.1) (p.ofNat (p.len y73.2.1))) (0 : Int)) then (p.cmp Go.BinOp.lss (p.ar Go.BinOp.rem Go.IntKind.i64 (p.cvt Go.IntKind.i64 y73.2.2.2.1) (p.ofNat (p.len y73.2.1))) (p.ofNat (p.len y73.2.1))) else Bool.false) <|
    opt.need _ (p.rowOk y73.2.1 (p.add 0 (p.nat (p.ar Go.BinOp.rem Go.IntKind.i64 (p.cvt Go.IntKind.i64 y73.2.2.2.1) (p.ofNat (p.len y73.2.1))))) [(Go.Am.CK.int Go.IntKind.i64), (Go.Am.CK.int Go.IntKind.i64), (Go.Am.CK.int Go.IntKind.i64)]) <|
    opt.bnd ((List (List (Go.Am.D)) × (List (List (Go.Am.D)) × (List (List (Go.Am.D)) × (Int × (Int × (Int × (Int × (Bool × Unit))))))))) _ (
      opt.run ((List (List (Go.Am.D)) × (List (List (Go.Am.D)) × (List (List (Go.Am.D)) × (Int × (Int × (Int × (Int × (Bool × Unit))))))))) (
       opt.ask _ (p.cmp Go.BinOp.gtr (p.rdI y73.2.1 (p.add 0 (p.nat (p.ar Go.BinOp.rem Go.IntKind.i64 (p.cvt Go.IntKind.i64 y73.2.2.2.1) (p.ofNat (p.len y73.2.1))))) 2) (1 : Int)) (
        opt.need _ (p.eqN 0 0) <|
        opt.need _ (p.eqN (p.len y73.1) (p.len y73.1)) <|
        opt.need _ (p.eqN 0 0) <|
        opt.need _ (p.eqN (p.len y73.2.1) (p.len y73.2.1)) <|
        opt.need _ (p.eqN 0 0) <|
        opt.need _ (p.eqN (p.len y73.2.2.1) (p.len y73.2.2.1)) <|
        opt.ret _ (y73.1, (y73.2.1, (y73.2.2.1, (y73.2.2.2.2.1, (y73.2.2.2.2.2.1, ((p.ar Go.BinOp.rem Go.IntKind.i64 (p.cvt Go.IntKind.i64 y73.2.2.2.1) (p.ofNat (p.len y73.2.1))), ((p.rdI y73.2.1 (p.add 0 (p.nat (p.ar Go.BinOp.rem Go.IntKind.i64 (p.cvt Go.IntKind.i64 y73.2.2.2.1) (p.ofNat (p.len y73.2.1))))) 2), ((p.cmp Go.BinOp.lss (p.ofNat (p.len y73.2.1)) (24 : Int)), ()))))))))) (
        opt.need _ (p.eqN 0 0) <|
        opt.need _ (p.eqN (p.len y73.1) (p.len y73.1)) <|
        opt.need _ (p.eqN 0 0) <|
        opt.need _ (p.eqN (p.len y73.2.1) (p.len y73.2.1)) <|
        opt.need _ (p.eqN 0 0) <|
        opt.need _ (p.eqN (p.len y73.2.2.1) (p.len y73.2.2.1)) <|
        opt.ret _ (y73.1, (y73.2.1, (y73.2.2.1, (y73.2.2.2.2.1, (y73.2.2.2.2.2.1, ((p.ar Go.BinOp.rem Go.IntKind.i64 (p.cvt Go.IntKind.i64 y73.2.2.2.1) (p.ofNat (p.len y73.2.1))), ((p.rdI y73.2.1 (p.add 0 (p.nat (p.ar Go.BinOp.rem Go.IntKind.i64 (p.cvt Go.IntKind.i64 y73.2.2.2.1) (p.ofNat (p.len y73.2.1))))) 2), (Bool.false, ()))))))))))) fun y74 =>
    opt.bnd ((List (List (Go.Am.D)) × (List (List (Go.Am.D)) × (List (List (Go.Am.D)) × (Int × Unit))))) _ (
      opt.run ((List (List (Go.Am.D)) × (List (List (Go.Am.D)) × (List (List (Go.Am.D)) × (Int × Unit))))) (
       opt.ask _ y74.2.2.2.2.2.2.2.1 (
        opt.need _ (bif (p.cmp Go.BinOp.geq y74.2.2.2.2.2.1 (0 : Int)) then (p.cmp Go.BinOp.lss y74.2.2.2.2.2.1 (p.ofNat (p.len y74.2.1))) else Bool.false) <|
        opt.need _ (p.rowOk y74.2.1 (p.add 0 (p.nat y74.2.2.2.2.2.1)) [(Go.Am.CK.int Go.IntKind.i64), (Go.Am.CK.int Go.IntKind.i64), (Go.Am.CK.int Go.IntKind.i64)]) <|
        opt.need _ (p.cmp Go.BinOp.neq (p.ar Go.BinOp.sub Go.IntKind.i64 y74.2.2.2.2.2.2.1 (1 : Int)) (0 : Int)) <|
        opt.need _ (bif (p.cmp Go.BinOp.geq y74.2.2.2.2.2.1 (0 : Int)) then (p.cmp Go.BinOp.lss y74.2.2.2.2.2.1 (p.ofNat (p.len y74.2.1))) else Bool.false) <|
        opt.need _ (p.rowOk y74.2.1 (p.add 0 (p.nat y74.2.2.2.2.2.1)) [(Go.Am.CK.int Go.IntKind.i64), (Go.Am.CK.int Go.IntKind.i64), (Go.Am.CK.int Go.IntKind.i64)]) <|
        opt.need _ (p.and (p.leN (p.add 0 1) (p.len [[(Go.Am.D.int Go.IntKind.i64 (p.rdI y74.2.1 (p.add 0 (p.nat y74.2.2.2.2.2.1)) 0)), (Go.Am.D.int Go.IntKind.i64 (p.rdI y74.2.1 (p.add 0 (p.nat y74.2.2.2.2.2.1)) 1)), (Go.Am.D.int Go.IntKind.i64 (p.ar Go.BinOp.add Go.IntKind.i64 (1 : Int) (p.ar Go.BinOp.rem Go.IntKind.i64 (p.cvt Go.IntKind.i64 y74.2.2.2.1) (p.ar Go.BinOp.sub Go.IntKind.i64 y74.2.2.2.2.2.2.1 (1 : Int)))))]])) (p.and (p.leN (p.add 0 (p.len y74.2.1)) (p.len (p.set y74.2.1 (p.add 0 (p.nat y74.2.2.2.2.2.1)) [(Go.Am.D.int Go.IntKind.i64 (p.rdI y74.2.1 (p.add 0 (p.nat y74.2.2.2.2.2.1)) 0)), (Go.Am.D.int Go.IntKind.i64 (p.rdI y74.2.1 (p.add 0 (p.nat y74.2.2.2.2.2.1)) 1)), (Go.Am.D.int Go.IntKind.i64 (p.ar Go.BinOp.sub Go.IntKind.i64 y74.2.2.2.2.2.2.1 (p.ar Go.BinOp.add Go.IntKind.i64 (1 : Int) (p.ar Go.BinOp.rem Go.IntKind.i64 (p.cvt Go.IntKind.i64 y74.2.2.2.1) (p.ar Go.BinOp.sub Go.IntKind.i64 y74.2.2.2.2.2.2.1 (1 : Int))))))]))) (p.and (p.leN 1 1) (p.leN (p.add (p.len y74.2.1) 1) 1000000)))) <|
        opt.need _ (p.eqN 0 0) <|
        opt.need _ (p.eqN (p.len y74.1) (p.len y74.1)) <|
        opt.need _ (p.eqN 0 0) <|
        opt.need _ (p.eqN (p.add (p.len y74.2.1) 1) (p.len (p.app (p.cut (p.set y74.2.1 (p.add 0 (p.nat y74.2.2.2.2.2.1)) [(Go.Am.D.int Go.IntKind.i64 (p.rdI y74.2.1 (p.add 0 (p.nat y74.2.2.2.2.2.1)) 0)), (Go.Am.D.int Go.IntKind.i64 (p.rdI y74.2.1 (p.add 0 (p.nat y74.2.2.2.2.2.1)) 1)), (Go.Am.D.int Go.IntKind.i64 (p.ar Go.BinOp.sub Go.IntKind.i64 y74.2.2.2.2.2.2.1 (p.ar Go.BinOp.add Go.IntKind.i64 (1 : Int) (p.ar Go.BinOp.rem Go.IntKind.i64 (p.cvt Go.IntKind.i64 y74.2.2.2.1) (p.ar Go.BinOp.sub Go.IntKind.i64 y74.2.2.2.2.2.2.1 (1 : Int))))))]) 0 (p.len y74.2.1)) (p.cut [[(Go.Am.D.int Go.IntKind.i64 (p.rdI y74.2.1 (p.add 0 (p.nat y74.2.2.2.2.2.1)) 0)), (Go.Am.D.int Go.IntKind.i64 (p.rdI y74.2.1 (p.add 0 (p.nat y74.2.2.2.2.2.1)) 1)), (Go.Am.D.int Go.IntKind.i64 (p.ar Go.BinOp.add Go.IntKind.i64 (1 : Int) (p.ar Go.BinOp.rem Go.IntKind.i64 (p.cvt Go.IntKind.i64 y74.2.2.2.1) (p.ar Go.BinOp.sub Go.IntKind.i64 y74.2.2.2.2.2.2.1 (1 : Int)))))]] 0 1)))) <|
        opt.need _ (p.eqN 0 0) <|
        opt.need _ (p.eqN (p.len y74.2.2.1) (p.len y74.2.2.1)) <|
        opt.ret _ (y74.1, ((p.app (p.cut (p.set y74.2.1 (p.add 0 (p.nat y74.2.2.2.2.2.1)) [(Go.Am.D.int Go.IntKind.i64 (p.rdI y74.2.1 (p.add 0 (p.nat y74.2.2.2.2.2.1)) 0)), (Go.Am.D.int Go.IntKind.i64 (p.rdI y74.2.1 (p.add 0 (p.nat y74.2.2.2.2.2.1)) 1)), (Go.Am.D.int Go.IntKind.i64 (p.ar Go.BinOp.sub Go.IntKind.i64 y74.2.2.2.2.2.2.1 (p.ar Go.BinOp.add Go.IntKind.i64 (1 : Int) (p.ar Go.BinOp.rem Go.IntKind.i64 (p.cvt Go.IntKind.i64 y74.2.2.2.1) (p.ar Go.BinOp.sub Go.IntKind.i64 y74.2.2.2.2.2.2.1 (1 : Int))))))]) 0 (p.len y74.2.1)) (p.cut [[(Go.Am.D.int Go.IntKind.i64 (p.rdI y74.2.1 (p.add 0 (p.nat y74.2.2.2.2.2.1)) 0)), (Go.Am.D.int Go.IntKind.i64 (p.rdI y74.2.1 (p.add 0 (p.nat y74.2.2.2.2.2.1)) 1)), (Go.Am.D.int Go.IntKind.i64 (p.ar Go.BinOp.add Go.IntKind.i64 (1 : Int) (p.ar Go.BinOp.rem Go.IntKind.i64 (p.cvt Go.IntKind.i64 y74.2.2.2.1) (p.ar Go.BinOp.sub Go.IntKind.i64 y74.2.2.2.2.2.2.1 (1 : Int)))))]] 0 1)), (y74.2.2.1, (y74.2.2.2.2.1, ()))))) (
        opt.need _ (p.eqN 0 0) <|
        opt.need _ (p.eqN (p.len y74.1) (p.len y74.1)) <|
        opt.need _ (p.eqN 0 0) <|
        opt.need _ (p.eqN (p.len y74.2.1) (p.len y74.2.1)) <|
        opt.need _ (p.eqN 0 0) <|
        opt.need _ (p.eqN (p.len y74.2.2.1) (p.len y74.2.2.1)) <|
        opt.ret _ (y74.1, (y74.2.1, (y74.2.2.1, (y74.2.2.2.2.1, ()))))))) fun y75 =>
    opt.need _ (p.and (p.leN (p.add 0 (p.len y75.2.1)) (p.len y75.2.1)) Bool.true) <|
    opt.bnd ((List (List (Go.Am.D)) × (Int × Unit))) _ (G14 p ((p.cut y75.2.1 0 (p.len y75.2.1)), ())) fun y76 =>
    opt.need _ (p.plain y76.1) <|
    opt.bnd ((List (List (Go.Am.D)) × (List (List (Go.Am.D)) × (Int × (Bool × Unit))))) _ (
      opt.run ((List (List (Go.Am.D)) × (List (List (Go.Am.D)) × (Int × (Bool × Unit))))) (
       opt.ask _ (p.cmp Go.BinOp.neq y76.2.1 (0 : Int)) (
        opt.need _ (p.eqN 0 0) <|
        opt.need _ (p.eqN (p.len y75.1) (p.len y75.1)) <|
        opt.need _ (p.eqN 0 0) <|
        opt.need _ (p.eqN (p.len y75.2.2.1) (p.len y75.2.2.1)) <|
        opt.ret _ (y75.1, (y75.2.2.1, (y75.2.2.2.1, (Bool.true, ()))))) (
        opt.need _ (p.and (p.leN (p.add 0 (p.len y75.1)) (p.len y75.1)) (p.and (p.leN (p.add 0 (p.len y76.1)) (p.len y76.1)) Bool.true)) <|
        opt.bnd ((Bool × Unit)) _ (G18 p ((p.cut y75.1 0 (p.len y75.1)), ((p.cut y76.1 0 (p.len y76.1)), ()))) fun y77 =>
        opt.need _ (p.eqN 0 0) <|
        opt.need _ (p.eqN (p.len y75.1) (p.len y75.1)) <|
        opt.need _ (p.eqN 0 0) <|
        opt.need _ (p.eqN (p.len y75.2.2.1) (p.len y75.2.2.1)) <|
        opt.ret _ (y75.1, (y75.2.2.1, (y75.2.2.2.1, ((bif y77.1 then Bool.false else Bool.true), ()))))))) fun y78 =>
    opt.ask _ y78.2.2.2.1 (
     opt.ret _ (Bool.false, ())) (
     opt.need _ (p.and (p.leN (p.add 0 (p.len y78.2.1)) (p.len y78.2.1)) Bool.true) <|
     opt.bnd ((Bool × Unit)) _ (G27 p ((p.cut y78.2.1 0 (p.len y78.2.1)), ())) fun y79 =>
     opt.ask _ (bif y79.1 then Bool.false else Bool.true) (
      opt.bnd ((Bool × Unit)) _ (G13 p ()) fun y80 =>
      opt.ret _ (y80.1, ())) (
      opt.need _ (p.and (p.leN (p.add 0 (p.len y78.2.1)) (p.len y78.2.1)) Bool.true) <|
      opt.bnd ((List (List (Go.Am.D)) × (Int × Unit))) _ (G14 p ((p.cut y78.2.1 0 (p.len y78.2.1)), ())) fun y81 =>
      opt.need _ (p.plain y81.1) <|
      opt.bnd ((List (List (Go.Am.D)) × (List (List (Go.Am.D)) × (Int × (Bool × Unit))))) _ (
        opt.run ((List (List (Go.Am.D)) × (List (List (Go.Am.D)) × (Int × (Bool × Unit))))) (
         opt.ask _ (p.cmp Go.BinOp.neq y81.2.1 (0 : Int)) (
          opt.need _ (p.eqN 0 0) <|
          opt.need _ (p.eqN (p.len y78.1) (p.len y78.1)) <|
          opt.need _ (p.eqN 0 0) <|
          opt.need _ (p.eqN (p.len y81.1) (p.len y81.1)) <|
          opt.ret _ (y78.1, (y81.1, (y78.2.2.1, (Bool.true, ()))))) (
          opt.need _ (p.eqN 0 0) <|
          opt.need _ (p.eqN (p.len y78.1) (p.len y78.1)) <|
          opt.need _ (p.eqN 0 0) <|
          opt.need _ (p.eqN (p.len y81.1) (p.len y81.1)) <|
          opt.ret _ (y78.1, (y81.1, (y78.2.2.1, ((p.cmp Go.BinOp.neq (p.ofNat (p.len y81.1)) (p.ofNat (p.len y78.1))), ()))))))) fun y82 =>
      opt.ask _ y82.2.2.2.1 (
       opt.ret _ (Bool.false, ())) (
       opt.need _ (p.eqN 0 0) <|
       opt.need _ (p.eqN (p.len y82.1) (p.len y82.1)) <|
       opt.need _ (p.eqN 0 0) <|
       opt.need _ (p.eqN (p.len y82.2.1) (p.len y82.2.1)) <|
       opt.alt ((Bool × Unit)) (Unit) _ (
         iter (b9_2 p) (y82.1, (y82.2.1, (y82.2.2.1, ((0 : Int), ()))))) (fun y87 =>
        opt.ret _ (y87.1, ())) (fun y88 =>
        opt.bnd (Unit) _ (some y88) fun y89 =>
        opt.bnd ((Bool × Unit)) _ (G13 p ()) fun y90 =>
        opt.ret _ (y90.1, ())))))))
noncomputable def F9 : Prim → Tup (ctr9).scs → Option (STup (scss (ctr9).outs)) :=
  fun p x => G9 p x
theorem eq9 (p : Prim) (x : Tup (ctr9).scs) : bodyRun opt p (autoEnv Go.Proofs.Try.prog) (mkOrc opt p (autoEnv Go.Proofs.Try.prog) 400 (an9) la9) 400 ctr9 x = G9 p x := by kernel_rfl
theorem gok9 : GamOk Go.Proofs.Try.prog (gam9) := by
  intro cf h
  simp only [gam9, List.mem_cons, List.not_mem_nil, or_false] at h
  rcases h with rfl | rfl | rfl | rfl
  · exact ok18
  · exact ok14
  · exact ok13
  · exact ok27
theorem enters9 : Enters Go.Proofs.Try.prog 9 := enters_auto (b := _) rfl (by kernel_rfl)
theorem ok9 : CtrOk Go.Proofs.Try.prog ctr9 (F9 std) := ctr_of_body (autoEnv_ok follows_mixed) (mkOrc_ok (autoEnv_ok follows_mixed) gok9 _) enters9 (fun x => eq9 std x)
end Go.Am
end
