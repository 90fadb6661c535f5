/- Texts of this claim. -/
import Derived.Test.YtnmgimjamahalaaGl
import Derived.Test.YtnmgimjamahalaaProg
import Derived.KernelRfl
section
set_option linter.unusedVariables false
set_option maxRecDepth 100000
set_option maxHeartbeats 0
namespace Go.Am
noncomputable def ctr8 : Ctr :=
  ⟨8, [.list 3, .int Go.IntKind.u8], [], [(.ret, ⟨[(0, .bool)], [], 1⟩)]⟩
noncomputable def la8 : List LA :=
  [⟨8, [false, true, false, true, true, true, true, true, true, true], ⟨⟨[(0, .list 3), (5, .vec 0 1), (6, .int Go.IntKind.i64), (7, .bptr 1 0), (9, .bptr 2 0), (10, .bptr 3 0), (11, .int Go.IntKind.i64)], [.row [(Go.Am.CK.int Go.IntKind.i64)], .box [.int Go.IntKind.i64, .int Go.IntKind.i64], .box [.int Go.IntKind.i64, .int Go.IntKind.i64, .int Go.IntKind.i64, .int Go.IntKind.i64], .box [.int Go.IntKind.i64, .int Go.IntKind.i64, .int Go.IntKind.i64, .int Go.IntKind.i64]], 149⟩, [((Go.Am.AX.exit 0), ⟨[(0, .list 3), (5, .vec 0 1), (6, .int Go.IntKind.i64), (7, .bptr 1 0), (9, .bptr 2 0), (10, .bptr 3 0)], [.row [(Go.Am.CK.int Go.IntKind.i64)], .box [.int Go.IntKind.i64, .int Go.IntKind.i64], .box [.int Go.IntKind.i64, .int Go.IntKind.i64, .int Go.IntKind.i64, .int Go.IntKind.i64], .box [.int Go.IntKind.i64, .int Go.IntKind.i64, .int Go.IntKind.i64, .int Go.IntKind.i64]], 149⟩)]⟩⟩,
   ⟨8, [false, true, false, true, false, false, true, false, false, true, false, true, true, true, true, true, true, true], ⟨⟨[(0, .list 3), (5, .vec 0 1), (6, .int Go.IntKind.i64), (7, .bptr 1 0), (9, .bptr 2 0), (10, .bptr 3 0), (11, .int Go.IntKind.i64), (12, .bptr 4 0), (13, .int Go.IntKind.i64)], [.row [(Go.Am.CK.int Go.IntKind.i64)], .box [.int Go.IntKind.i64, .int Go.IntKind.i64], .box [.int Go.IntKind.i64, .int Go.IntKind.i64, .int Go.IntKind.i64, .int Go.IntKind.i64], .box [.int Go.IntKind.i64, .int Go.IntKind.i64, .int Go.IntKind.i64, .int Go.IntKind.i64], .box [.int Go.IntKind.i64, .int Go.IntKind.i64, .int Go.IntKind.i64, .int Go.IntKind.i64]], 149⟩, [((Go.Am.AX.exit 2), ⟨[(0, .list 3), (5, .vec 0 1), (6, .int Go.IntKind.i64), (7, .bptr 1 0), (9, .bptr 2 0), (10, .bptr 3 0), (11, .int Go.IntKind.i64), (12, .bptr 4 0)], [.row [(Go.Am.CK.int Go.IntKind.i64)], .box [.int Go.IntKind.i64, .int Go.IntKind.i64], .box [.int Go.IntKind.i64, .int Go.IntKind.i64, .int Go.IntKind.i64, .int Go.IntKind.i64], .box [.int Go.IntKind.i64, .int Go.IntKind.i64, .int Go.IntKind.i64, .int Go.IntKind.i64], .box [.int Go.IntKind.i64, .int Go.IntKind.i64, .int Go.IntKind.i64, .int Go.IntKind.i64]], 149⟩)]⟩⟩,
   ⟨8, [false, true, false, true, true, true, true, true, true, true, true], ⟨⟨[(0, .list 3), (5, .vec 0 1), (6, .int Go.IntKind.i64), (7, .bptr 1 0), (9, .bptr 2 0), (10, .bptr 3 0), (15, .int Go.IntKind.i64)], [.row [(Go.Am.CK.int Go.IntKind.i64)], .box [.int Go.IntKind.i64, .int Go.IntKind.i64], .box [.int Go.IntKind.i64, .int Go.IntKind.i64, .int Go.IntKind.i64, .int Go.IntKind.i64], .box [.int Go.IntKind.i64, .int Go.IntKind.i64, .int Go.IntKind.i64, .int Go.IntKind.i64]], 149⟩, [((Go.Am.AX.exit 4), ⟨[(7, .bptr 0 0), (9, .bptr 1 0), (10, .bptr 2 0)], [.box [.int Go.IntKind.i64, .int Go.IntKind.i64], .box [.int Go.IntKind.i64, .int Go.IntKind.i64, .int Go.IntKind.i64, .int Go.IntKind.i64], .box [.int Go.IntKind.i64, .int Go.IntKind.i64, .int Go.IntKind.i64, .int Go.IntKind.i64]], 149⟩)]⟩⟩,
   ⟨8, [false, true, false, true, false, false, true, false, false, true, false, true, true, true, true, true, true, true, true], ⟨⟨[(0, .list 3), (5, .vec 0 1), (6, .int Go.IntKind.i64), (7, .bptr 1 0), (9, .bptr 2 0), (10, .bptr 3 0), (15, .int Go.IntKind.i64), (16, .bptr 4 0), (17, .int Go.IntKind.i64)], [.row [(Go.Am.CK.int Go.IntKind.i64)], .box [.int Go.IntKind.i64, .int Go.IntKind.i64], .box [.int Go.IntKind.i64, .int Go.IntKind.i64, .int Go.IntKind.i64, .int Go.IntKind.i64], .box [.int Go.IntKind.i64, .int Go.IntKind.i64, .int Go.IntKind.i64, .int Go.IntKind.i64], .box [.int Go.IntKind.i64, .int Go.IntKind.i64, .int Go.IntKind.i64, .int Go.IntKind.i64]], 149⟩, [((Go.Am.AX.exit 6), ⟨[(0, .list 3), (5, .vec 0 1), (6, .int Go.IntKind.i64), (7, .bptr 1 0), (9, .bptr 2 0), (10, .bptr 3 0), (15, .int Go.IntKind.i64), (16, .bptr 4 0)], [.row [(Go.Am.CK.int Go.IntKind.i64)], .box [.int Go.IntKind.i64, .int Go.IntKind.i64], .box [.int Go.IntKind.i64, .int Go.IntKind.i64, .int Go.IntKind.i64, .int Go.IntKind.i64], .box [.int Go.IntKind.i64, .int Go.IntKind.i64, .int Go.IntKind.i64, .int Go.IntKind.i64], .box [.int Go.IntKind.i64, .int Go.IntKind.i64, .int Go.IntKind.i64, .int Go.IntKind.i64]], 149⟩)]⟩⟩]
noncomputable def ja8 : List JA :=
  [⟨8, [false, true, true, false, false, true, false, false, true, false, true, true, true, true, true, true, true, true], [(Go.Am.AX.normal, ⟨[(0, .list 3), (5, .vec 0 1), (6, .int Go.IntKind.i64), (7, .bptr 1 0), (9, .bptr 2 0), (10, .bptr 3 0), (15, .int Go.IntKind.i64), (16, .bptr 4 0), (128, .bool)], [.row [(Go.Am.CK.int Go.IntKind.i64)], .box [.int Go.IntKind.i64, .int Go.IntKind.i64], .box [.int Go.IntKind.i64, .int Go.IntKind.i64, .int Go.IntKind.i64, .int Go.IntKind.i64], .box [.int Go.IntKind.i64, .int Go.IntKind.i64, .int Go.IntKind.i64, .int Go.IntKind.i64], .box [.int Go.IntKind.i64, .int Go.IntKind.i64, .int Go.IntKind.i64, .int Go.IntKind.i64]], 149⟩)]⟩,
   ⟨8, [false, true, true, false, false, true, false, false, true, false, true, true, true, true, true, true, true], [(Go.Am.AX.normal, ⟨[(0, .list 3), (5, .vec 0 1), (6, .int Go.IntKind.i64), (7, .bptr 1 0), (9, .bptr 2 0), (10, .bptr 3 0), (11, .int Go.IntKind.i64), (12, .bptr 4 0), (83, .bool)], [.row [(Go.Am.CK.int Go.IntKind.i64)], .box [.int Go.IntKind.i64, .int Go.IntKind.i64], .box [.int Go.IntKind.i64, .int Go.IntKind.i64, .int Go.IntKind.i64, .int Go.IntKind.i64], .box [.int Go.IntKind.i64, .int Go.IntKind.i64, .int Go.IntKind.i64, .int Go.IntKind.i64], .box [.int Go.IntKind.i64, .int Go.IntKind.i64, .int Go.IntKind.i64, .int Go.IntKind.i64]], 149⟩)]⟩,
   ⟨8, [true, true, false, false, true, false, false, true, false, true, false, false, true, false, false, true, false, true, true, true, true, true, true, true, true], [(Go.Am.AX.normal, ⟨[(0, .list 3), (5, .vec 0 1), (6, .int Go.IntKind.i64), (7, .bptr 1 0), (9, .bptr 2 0), (10, .bptr 3 0), (15, .int Go.IntKind.i64), (16, .bptr 4 0), (17, .int Go.IntKind.i64)], [.row [(Go.Am.CK.int Go.IntKind.i64)], .box [.int Go.IntKind.i64, .int Go.IntKind.i64], .box [.int Go.IntKind.i64, .int Go.IntKind.i64, .int Go.IntKind.i64, .int Go.IntKind.i64], .box [.int Go.IntKind.i64, .int Go.IntKind.i64, .int Go.IntKind.i64, .int Go.IntKind.i64], .box [.int Go.IntKind.i64, .int Go.IntKind.i64, .int Go.IntKind.i64, .int Go.IntKind.i64]], 149⟩)]⟩,
   ⟨8, [true, true, false, false, true, false, false, true, false, true, false, false, true, false, false, true, false, true, true, true, true, true, true, true], [(Go.Am.AX.normal, ⟨[(0, .list 3), (5, .vec 0 1), (6, .int Go.IntKind.i64), (7, .bptr 1 0), (9, .bptr 2 0), (10, .bptr 3 0), (11, .int Go.IntKind.i64), (12, .bptr 4 0), (13, .int Go.IntKind.i64)], [.row [(Go.Am.CK.int Go.IntKind.i64)], .box [.int Go.IntKind.i64, .int Go.IntKind.i64], .box [.int Go.IntKind.i64, .int Go.IntKind.i64, .int Go.IntKind.i64, .int Go.IntKind.i64], .box [.int Go.IntKind.i64, .int Go.IntKind.i64, .int Go.IntKind.i64, .int Go.IntKind.i64], .box [.int Go.IntKind.i64, .int Go.IntKind.i64, .int Go.IntKind.i64, .int Go.IntKind.i64]], 149⟩)]⟩,
   ⟨8, [true, true, true, false, false, true, false, false, true, false, true, true, true, true, true, true, true], [(Go.Am.AX.normal, ⟨[(0, .list 3), (5, .vec 0 1), (6, .int Go.IntKind.i64), (7, .bptr 1 0), (9, .bptr 2 0), (10, .bptr 3 0), (11, .int Go.IntKind.i64)], [.row [(Go.Am.CK.int Go.IntKind.i64)], .box [.int Go.IntKind.i64, .int Go.IntKind.i64], .box [.int Go.IntKind.i64, .int Go.IntKind.i64, .int Go.IntKind.i64, .int Go.IntKind.i64], .box [.int Go.IntKind.i64, .int Go.IntKind.i64, .int Go.IntKind.i64, .int Go.IntKind.i64]], 149⟩)]⟩,
   ⟨8, [true, true, true, false, false, true, false, false, true, false, true, true, true, true, true, true, true, true], [(Go.Am.AX.normal, ⟨[(0, .list 3), (5, .vec 0 1), (6, .int Go.IntKind.i64), (7, .bptr 1 0), (9, .bptr 2 0), (10, .bptr 3 0), (15, .int Go.IntKind.i64)], [.row [(Go.Am.CK.int Go.IntKind.i64)], .box [.int Go.IntKind.i64, .int Go.IntKind.i64], .box [.int Go.IntKind.i64, .int Go.IntKind.i64, .int Go.IntKind.i64, .int Go.IntKind.i64], .box [.int Go.IntKind.i64, .int Go.IntKind.i64, .int Go.IntKind.i64, .int Go.IntKind.i64]], 149⟩)]⟩]
noncomputable def gam8 : List CF :=
  [⟨ctr32, F32⟩, ⟨ctr31, F31⟩, ⟨ctr30, F30⟩, ⟨ctr21, F21⟩, ⟨ctr28, F28⟩, ⟨ctr13, F13⟩, ⟨ctr27, F27⟩]
noncomputable def an8 : Anns :=
  ⟨gam8, ja8, []⟩
noncomputable def b8_4 (p : Prim) : (List (List (Go.Am.D)) × (Int × (Int × (Int × (Int × (Int × (Int × (Int × (Int × (Int × (Int × (Int × (Int × (Int × (Int × (List (List (Go.Am.D)) × (Int × (Int × (Int × Unit))))))))))))))))))) → Option ((List (List (Go.Am.D)) × (Int × (Int × (Int × (Int × (Int × (Int × (Int × (Int × (Int × (Int × (Int × (Int × (Int × (Int × (List (List (Go.Am.D)) × (Int × (Int × (Int × Unit))))))))))))))))))) ⊕ (List (List (Go.Am.D)) × (Int × (Int × (Int × (Int × (Int × (Int × (Int × (Int × (Int × (Int × (Int × (Int × (Int × (Int × (List (List (Go.Am.D)) × (Int × (Int × Unit))))))))))))))))))) :=
  fun s167 => opt.run _ (
           opt.ask _ (p.cmp Go.BinOp.leq s167.2.2.2.2.2.2.2.2.2.2.2.2.2.2.2.2.2.2.1 s167.2.2.2.2.2.2.2.2.2.2.2.2.2.2.2.2.1) (
            opt.need _ (bif (p.cmp Go.BinOp.geq s167.2.2.2.2.2.2.2.2.2.2.2.2.2.2.2.2.2.2.1 (0 : Int)) then (p.cmp Go.BinOp.lss s167.2.2.2.2.2.2.2.2.2.2.2.2.2.2.2.2.2.2.1 (p.ofNat (p.len s167.1))) else Bool.false) <|
            opt.need _ (p.rowOk s167.1 (p.add 0 (p.nat s167.2.2.2.2.2.2.2.2.2.2.2.2.2.2.2.2.2.2.1)) [(Go.Am.CK.int Go.IntKind.i64)]) <|
            opt.need _ (bif (p.cmp Go.BinOp.geq s167.2.2.2.2.2.2.2.2.2.2.2.2.2.2.2.2.2.1 (0 : Int)) then (p.cmp Go.BinOp.lss s167.2.2.2.2.2.2.2.2.2.2.2.2.2.2.2.2.2.1 (p.ofNat (p.len s167.1))) else Bool.false) <|
            opt.need _ (p.rowOk s167.1 (p.add 0 (p.nat s167.2.2.2.2.2.2.2.2.2.2.2.2.2.2.2.2.2.1)) [(Go.Am.CK.int Go.IntKind.i64)]) <|
            opt.bnd ((Int × (Int × (Int × (Int × Unit))))) _ (G30 p (s167.2.2.2.2.2.2.2.2.2.2.2.2.2.2.2.1, ((p.rdI s167.1 (p.add 0 (p.nat s167.2.2.2.2.2.2.2.2.2.2.2.2.2.2.2.2.2.2.1)) 0), ((p.rdI s167.1 (p.add 0 (p.nat s167.2.2.2.2.2.2.2.2.2.2.2.2.2.2.2.2.2.1)) 0), ())))) fun y168 =>
            opt.bnd ((Bool × Unit)) _ (G31 p (s167.2.2.2.2.2.2.2.2.2.2.2.1, (s167.2.2.2.2.2.2.2.2.2.2.2.2.1, (s167.2.2.2.2.2.2.2.2.2.2.2.2.2.1, (s167.2.2.2.2.2.2.2.2.2.2.2.2.2.2.1, (y168.1, (y168.2.1, (y168.2.2.1, (y168.2.2.2.1, ()))))))))) fun y169 =>
            opt.bnd ((List (List (Go.Am.D)) × (Int × (Int × (Int × (Int × (Int × (Int × (Int × (Int × (Int × (Int × (Int × (Int × (Int × (Int × (List (List (Go.Am.D)) × (Int × (Int × (Int × Unit)))))))))))))))))))) _ (
              opt.run ((List (List (Go.Am.D)) × (Int × (Int × (Int × (Int × (Int × (Int × (Int × (Int × (Int × (Int × (Int × (Int × (Int × (Int × (List (List (Go.Am.D)) × (Int × (Int × (Int × Unit)))))))))))))))))))) (
               opt.ask _ y169.1 (
                opt.need _ (p.eqN 0 0) <|
                opt.need _ (p.eqN (p.len s167.1) (p.len s167.1)) <|
                opt.ret _ (s167.1, (s167.2.1, (s167.2.2.1, (s167.2.2.2.1, (s167.2.2.2.2.1, (s167.2.2.2.2.2.1, (s167.2.2.2.2.2.2.1, (s167.2.2.2.2.2.2.2.1, (s167.2.2.2.2.2.2.2.2.1, (s167.2.2.2.2.2.2.2.2.2.1, (s167.2.2.2.2.2.2.2.2.2.2.1, (y168.1, (y168.2.1, (y168.2.2.1, (y168.2.2.2.1, (s167.2.2.2.2.2.2.2.2.2.2.2.2.2.2.2.1, (s167.2.2.2.2.2.2.2.2.2.2.2.2.2.2.2.2.1, (s167.2.2.2.2.2.2.2.2.2.2.2.2.2.2.2.2.2.1, (s167.2.2.2.2.2.2.2.2.2.2.2.2.2.2.2.2.2.2.1, ())))))))))))))))))))) (
                opt.need _ (p.eqN 0 0) <|
                opt.need _ (p.eqN (p.len s167.1) (p.len s167.1)) <|
                opt.ret _ (s167.1, (s167.2.1, (s167.2.2.1, (s167.2.2.2.1, (s167.2.2.2.2.1, (s167.2.2.2.2.2.1, (s167.2.2.2.2.2.2.1, (s167.2.2.2.2.2.2.2.1, (s167.2.2.2.2.2.2.2.2.1, (s167.2.2.2.2.2.2.2.2.2.1, (s167.2.2.2.2.2.2.2.2.2.2.1, (s167.2.2.2.2.2.2.2.2.2.2.2.1, (s167.2.2.2.2.2.2.2.2.2.2.2.2.1, (s167.2.2.2.2.2.2.2.2.2.2.2.2.2.1, (s167.2.2.2.2.2.2.2.2.2.2.2.2.2.2.1, (s167.2.2.2.2.2.2.2.2.2.2.2.2.2.2.2.1, (s167.2.2.2.2.2.2.2.2.2.2.2.2.2.2.2.2.1, (s167.2.2.2.2.2.2.2.2.2.2.2.2.2.2.2.2.2.1, (s167.2.2.2.2.2.2.2.2.2.2.2.2.2.2.2.2.2.2.1, ())))))))))))))))))))))) fun y170 =>
            opt.need _ (p.eqN 0 0) <|
            opt.need _ (p.eqN (p.len y170.1) (p.len y170.1)) <|
            opt.ret _ (Sum.inl (y170.1, (y170.2.1, (y170.2.2.1, (y170.2.2.2.1, (y170.2.2.2.2.1, (y170.2.2.2.2.2.1, (y170.2.2.2.2.2.2.1, (y170.2.2.2.2.2.2.2.1, (y170.2.2.2.2.2.2.2.2.1, (y170.2.2.2.2.2.2.2.2.2.1, (y170.2.2.2.2.2.2.2.2.2.2.1, (y170.2.2.2.2.2.2.2.2.2.2.2.1, (y170.2.2.2.2.2.2.2.2.2.2.2.2.1, (y170.2.2.2.2.2.2.2.2.2.2.2.2.2.1, (y170.2.2.2.2.2.2.2.2.2.2.2.2.2.2.1, (y170.2.2.2.2.2.2.2.2.2.2.2.2.2.2.2.1, (y170.2.2.2.2.2.2.2.2.2.2.2.2.2.2.2.2.1, (y170.2.2.2.2.2.2.2.2.2.2.2.2.2.2.2.2.2.1, ((p.ar Go.BinOp.add Go.IntKind.i64 y170.2.2.2.2.2.2.2.2.2.2.2.2.2.2.2.2.2.2.1 (1 : Int)), ()))))))))))))))))))))) (
            opt.need _ (p.eqN 0 0) <|
            opt.need _ (p.eqN (p.len s167.1) (p.len s167.1)) <|
            opt.ret _ (Sum.inr (s167.1, (s167.2.1, (s167.2.2.1, (s167.2.2.2.1, (s167.2.2.2.2.1, (s167.2.2.2.2.2.1, (s167.2.2.2.2.2.2.1, (s167.2.2.2.2.2.2.2.1, (s167.2.2.2.2.2.2.2.2.1, (s167.2.2.2.2.2.2.2.2.2.1, (s167.2.2.2.2.2.2.2.2.2.2.1, (s167.2.2.2.2.2.2.2.2.2.2.2.1, (s167.2.2.2.2.2.2.2.2.2.2.2.2.1, (s167.2.2.2.2.2.2.2.2.2.2.2.2.2.1, (s167.2.2.2.2.2.2.2.2.2.2.2.2.2.2.1, (s167.2.2.2.2.2.2.2.2.2.2.2.2.2.2.2.1, (s167.2.2.2.2.2.2.2.2.2.2.2.2.2.2.2.2.1, (s167.2.2.2.2.2.2.2.2.2.2.2.2.2.2.2.2.2.1, ())))))))))))))))))))))
noncomputable def b8_3 (p : Prim) : (List (List (Go.Am.D)) × (Int × (Int × (Int × (Int × (Int × (Int × (Int × (Int × (Int × (Int × (List (List (Go.Am.D)) × (Int × (Int × Unit)))))))))))))) → Option ((List (List (Go.Am.D)) × (Int × (Int × (Int × (Int × (Int × (Int × (Int × (Int × (Int × (Int × (List (List (Go.Am.D)) × (Int × (Int × Unit)))))))))))))) ⊕ (Int × (Int × (Int × (Int × (Int × (Int × (Int × (Int × (Int × (Int × Unit))))))))))) :=
  fun s165 => opt.run _ (
       opt.ask _ (p.cmp Go.BinOp.lss s165.2.2.2.2.2.2.2.2.2.2.2.2.2.1 (p.ofNat (p.len s165.1))) (
        opt.need _ (bif (p.cmp Go.BinOp.geq s165.2.2.2.2.2.2.2.2.2.2.2.2.1 (0 : Int)) then (p.cmp Go.BinOp.lss s165.2.2.2.2.2.2.2.2.2.2.2.2.1 (p.ofNat (p.len s165.1))) else Bool.false) <|
        opt.need _ (p.rowOk s165.1 (p.add 0 (p.nat s165.2.2.2.2.2.2.2.2.2.2.2.2.1)) [(Go.Am.CK.int Go.IntKind.i64)]) <|
        opt.need _ (bif (p.cmp Go.BinOp.geq s165.2.2.2.2.2.2.2.2.2.2.2.2.2.1 (0 : Int)) then (p.cmp Go.BinOp.lss s165.2.2.2.2.2.2.2.2.2.2.2.2.2.1 (p.ofNat (p.len s165.1))) else Bool.false) <|
        opt.need _ (p.rowOk s165.1 (p.add 0 (p.nat s165.2.2.2.2.2.2.2.2.2.2.2.2.2.1)) [(Go.Am.CK.int Go.IntKind.i64)]) <|
        opt.bnd ((Int × (Int × (Int × (Int × Unit))))) _ (G30 p (s165.2.2.2.2.2.2.2.2.2.2.2.1, ((p.rdI s165.1 (p.add 0 (p.nat s165.2.2.2.2.2.2.2.2.2.2.2.2.1)) 0), ((p.rdI s165.1 (p.add 0 (p.nat s165.2.2.2.2.2.2.2.2.2.2.2.2.2.1)) 0), ())))) fun y166 =>
        opt.need _ (p.eqN 0 0) <|
        opt.need _ (p.eqN (p.len s165.1) (p.len s165.1)) <|
        opt.bnd ((List (List (Go.Am.D)) × (Int × (Int × (Int × (Int × (Int × (Int × (Int × (Int × (Int × (Int × (Int × (Int × (Int × (Int × (List (List (Go.Am.D)) × (Int × (Int × Unit))))))))))))))))))) _ (
          iter (b8_4 p) (s165.1, (s165.2.1, (s165.2.2.1, (s165.2.2.2.1, (s165.2.2.2.2.1, (s165.2.2.2.2.2.1, (s165.2.2.2.2.2.2.1, (s165.2.2.2.2.2.2.2.1, (s165.2.2.2.2.2.2.2.2.1, (s165.2.2.2.2.2.2.2.2.2.1, (s165.2.2.2.2.2.2.2.2.2.2.1, (y166.1, (y166.2.1, (y166.2.2.1, (y166.2.2.2.1, (s165.2.2.2.2.2.2.2.2.2.2.2.1, (s165.2.2.2.2.2.2.2.2.2.2.2.2.1, (s165.2.2.2.2.2.2.2.2.2.2.2.2.2.1, ((0 : Int), ())))))))))))))))))))) fun y171 =>
        opt.bnd ((List (List (Go.Am.D)) × (Int × (Int × (Int × (Int × (Int × (Int × (Int × (Int × (Int × (Int × (Int × (Int × (Int × (Int × (List (List (Go.Am.D)) × (Int × (Int × (Bool × Unit)))))))))))))))))))) _ (
          opt.run ((List (List (Go.Am.D)) × (Int × (Int × (Int × (Int × (Int × (Int × (Int × (Int × (Int × (Int × (Int × (Int × (Int × (Int × (List (List (Go.Am.D)) × (Int × (Int × (Bool × Unit)))))))))))))))))))) (
           opt.ask _ (p.cmp Go.BinOp.eql y171.2.2.2.2.2.2.2.2.2.2.2.2.2.2.2.2.2.1 y171.2.2.2.2.2.2.2.2.2.2.2.2.2.2.2.2.1) (
            opt.need _ (p.eqN 0 0) <|
            opt.need _ (p.eqN (p.len y171.1) (p.len y171.1)) <|
            opt.ret _ (y171.1, (y171.2.1, (y171.2.2.1, (y171.2.2.2.1, (y171.2.2.2.2.1, (y171.2.2.2.2.2.1, (y171.2.2.2.2.2.2.1, (y171.2.2.2.2.2.2.2.1, (y171.2.2.2.2.2.2.2.2.1, (y171.2.2.2.2.2.2.2.2.2.1, (y171.2.2.2.2.2.2.2.2.2.2.1, (y171.2.2.2.2.2.2.2.2.2.2.2.1, (y171.2.2.2.2.2.2.2.2.2.2.2.2.1, (y171.2.2.2.2.2.2.2.2.2.2.2.2.2.1, (y171.2.2.2.2.2.2.2.2.2.2.2.2.2.2.1, (y171.2.2.2.2.2.2.2.2.2.2.2.2.2.2.2.1, (y171.2.2.2.2.2.2.2.2.2.2.2.2.2.2.2.2.1, (y171.2.2.2.2.2.2.2.2.2.2.2.2.2.2.2.2.2.1, (Bool.true, ())))))))))))))))))))) (
            opt.bnd ((Bool × Unit)) _ (G31 p (y171.2.2.2.2.2.2.2.2.2.2.2.1, (y171.2.2.2.2.2.2.2.2.2.2.2.2.1, (y171.2.2.2.2.2.2.2.2.2.2.2.2.2.1, (y171.2.2.2.2.2.2.2.2.2.2.2.2.2.2.1, (y171.2.2.2.2.2.2.2.1, (y171.2.2.2.2.2.2.2.2.1, (y171.2.2.2.2.2.2.2.2.2.1, (y171.2.2.2.2.2.2.2.2.2.2.1, ()))))))))) fun y172 =>
            opt.need _ (p.eqN 0 0) <|
            opt.need _ (p.eqN (p.len y171.1) (p.len y171.1)) <|
            opt.ret _ (y171.1, (y171.2.1, (y171.2.2.1, (y171.2.2.2.1, (y171.2.2.2.2.1, (y171.2.2.2.2.2.1, (y171.2.2.2.2.2.2.1, (y171.2.2.2.2.2.2.2.1, (y171.2.2.2.2.2.2.2.2.1, (y171.2.2.2.2.2.2.2.2.2.1, (y171.2.2.2.2.2.2.2.2.2.2.1, (y171.2.2.2.2.2.2.2.2.2.2.2.1, (y171.2.2.2.2.2.2.2.2.2.2.2.2.1, (y171.2.2.2.2.2.2.2.2.2.2.2.2.2.1, (y171.2.2.2.2.2.2.2.2.2.2.2.2.2.2.1, (y171.2.2.2.2.2.2.2.2.2.2.2.2.2.2.2.1, (y171.2.2.2.2.2.2.2.2.2.2.2.2.2.2.2.2.1, (y171.2.2.2.2.2.2.2.2.2.2.2.2.2.2.2.2.2.1, (y172.1, ())))))))))))))))))))))) fun y173 =>
        opt.bnd ((List (List (Go.Am.D)) × (Int × (Int × (Int × (Int × (Int × (Int × (Int × (Int × (Int × (Int × (List (List (Go.Am.D)) × (Int × (Int × Unit))))))))))))))) _ (
          opt.run ((List (List (Go.Am.D)) × (Int × (Int × (Int × (Int × (Int × (Int × (Int × (Int × (Int × (Int × (List (List (Go.Am.D)) × (Int × (Int × Unit))))))))))))))) (
           opt.ask _ y173.2.2.2.2.2.2.2.2.2.2.2.2.2.2.2.2.2.2.1 (
            opt.need _ (p.eqN 0 0) <|
            opt.need _ (p.eqN (p.len y173.1) (p.len y173.1)) <|
            opt.ret _ (y173.1, (y173.2.1, (y173.2.2.1, (y173.2.2.2.1, (y173.2.2.2.2.1, (y173.2.2.2.2.2.1, (y173.2.2.2.2.2.2.1, (y173.2.2.2.2.2.2.2.2.2.2.2.1, (y173.2.2.2.2.2.2.2.2.2.2.2.2.1, (y173.2.2.2.2.2.2.2.2.2.2.2.2.2.1, (y173.2.2.2.2.2.2.2.2.2.2.2.2.2.2.1, (y173.2.2.2.2.2.2.2.2.2.2.2.2.2.2.2.1, (y173.2.2.2.2.2.2.2.2.2.2.2.2.2.2.2.2.1, (y173.2.2.2.2.2.2.2.2.2.2.2.2.2.2.2.2.2.1, ()))))))))))))))) (
            opt.need _ (p.eqN 0 0) <|
            opt.need _ (p.eqN (p.len y173.1) (p.len y173.1)) <|
            opt.ret _ (y173.1, (y173.2.1, (y173.2.2.1, (y173.2.2.2.1, (y173.2.2.2.2.1, (y173.2.2.2.2.2.1, (y173.2.2.2.2.2.2.1, (y173.2.2.2.2.2.2.2.1, (y173.2.2.2.2.2.2.2.2.1, (y173.2.2.2.2.2.2.2.2.2.1, (y173.2.2.2.2.2.2.2.2.2.2.1, (y173.2.2.2.2.2.2.2.2.2.2.2.2.2.2.2.1, (y173.2.2.2.2.2.2.2.2.2.2.2.2.2.2.2.2.1, (y173.2.2.2.2.2.2.2.2.2.2.2.2.2.2.2.2.2.1, ()))))))))))))))))) fun y174 =>
        opt.need _ (p.eqN 0 0) <|
        opt.need _ (p.eqN (p.len y174.1) (p.len y174.1)) <|
        opt.ret _ (Sum.inl (y174.1, (y174.2.1, (y174.2.2.1, (y174.2.2.2.1, (y174.2.2.2.2.1, (y174.2.2.2.2.2.1, (y174.2.2.2.2.2.2.1, (y174.2.2.2.2.2.2.2.1, (y174.2.2.2.2.2.2.2.2.1, (y174.2.2.2.2.2.2.2.2.2.1, (y174.2.2.2.2.2.2.2.2.2.2.1, (y174.2.2.2.2.2.2.2.2.2.2.2.1, (y174.2.2.2.2.2.2.2.2.2.2.2.2.1, ((p.ar Go.BinOp.add Go.IntKind.i64 y174.2.2.2.2.2.2.2.2.2.2.2.2.2.1 (1 : Int)), ())))))))))))))))) (
        opt.ret _ (Sum.inr (s165.2.1, (s165.2.2.1, (s165.2.2.2.1, (s165.2.2.2.2.1, (s165.2.2.2.2.2.1, (s165.2.2.2.2.2.2.1, (s165.2.2.2.2.2.2.2.1, (s165.2.2.2.2.2.2.2.2.1, (s165.2.2.2.2.2.2.2.2.2.1, (s165.2.2.2.2.2.2.2.2.2.2.1, ())))))))))))))
noncomputable def b8_2 (p : Prim) : (List (List (Go.Am.D)) × (Int × (Int × (Int × (Int × (Int × (Int × (Int × (Int × (Int × (Int × (Int × (Int × (Int × (Int × (List (List (Go.Am.D)) × (Int × (Int × (Int × Unit))))))))))))))))))) → Option ((List (List (Go.Am.D)) × (Int × (Int × (Int × (Int × (Int × (Int × (Int × (Int × (Int × (Int × (Int × (Int × (Int × (Int × (List (List (Go.Am.D)) × (Int × (Int × (Int × Unit))))))))))))))))))) ⊕ (List (List (Go.Am.D)) × (Int × (Int × (Int × (Int × (Int × (Int × (Int × (Int × (Int × (Int × (Int × (Int × (Int × (Int × (List (List (Go.Am.D)) × (Int × (Int × Unit))))))))))))))))))) :=
  fun s156 => opt.run _ (
           opt.ask _ (p.cmp Go.BinOp.lss s156.2.2.2.2.2.2.2.2.2.2.2.2.2.2.2.2.2.2.1 (p.ofNat (p.len s156.1))) (
            opt.need _ (bif (p.cmp Go.BinOp.geq s156.2.2.2.2.2.2.2.2.2.2.2.2.2.2.2.2.2.1 (0 : Int)) then (p.cmp Go.BinOp.lss s156.2.2.2.2.2.2.2.2.2.2.2.2.2.2.2.2.2.1 (p.ofNat (p.len s156.1))) else Bool.false) <|
            opt.need _ (p.rowOk s156.1 (p.add 0 (p.nat s156.2.2.2.2.2.2.2.2.2.2.2.2.2.2.2.2.2.1)) [(Go.Am.CK.int Go.IntKind.i64)]) <|
            opt.need _ (bif (p.cmp Go.BinOp.geq s156.2.2.2.2.2.2.2.2.2.2.2.2.2.2.2.2.2.2.1 (0 : Int)) then (p.cmp Go.BinOp.lss s156.2.2.2.2.2.2.2.2.2.2.2.2.2.2.2.2.2.2.1 (p.ofNat (p.len s156.1))) else Bool.false) <|
            opt.need _ (p.rowOk s156.1 (p.add 0 (p.nat s156.2.2.2.2.2.2.2.2.2.2.2.2.2.2.2.2.2.2.1)) [(Go.Am.CK.int Go.IntKind.i64)]) <|
            opt.bnd ((Int × (Int × (Int × (Int × Unit))))) _ (G30 p (s156.2.2.2.2.2.2.2.2.2.2.2.2.2.2.2.1, ((p.rdI s156.1 (p.add 0 (p.nat s156.2.2.2.2.2.2.2.2.2.2.2.2.2.2.2.2.2.1)) 0), ((p.rdI s156.1 (p.add 0 (p.nat s156.2.2.2.2.2.2.2.2.2.2.2.2.2.2.2.2.2.2.1)) 0), ())))) fun y157 =>
            opt.bnd ((Bool × Unit)) _ (G31 p (y157.1, (y157.2.1, (y157.2.2.1, (y157.2.2.2.1, (s156.2.2.2.2.2.2.2.2.2.2.2.1, (s156.2.2.2.2.2.2.2.2.2.2.2.2.1, (s156.2.2.2.2.2.2.2.2.2.2.2.2.2.1, (s156.2.2.2.2.2.2.2.2.2.2.2.2.2.2.1, ()))))))))) fun y158 =>
            opt.bnd ((List (List (Go.Am.D)) × (Int × (Int × (Int × (Int × (Int × (Int × (Int × (Int × (Int × (Int × (Int × (Int × (Int × (Int × (List (List (Go.Am.D)) × (Int × (Int × (Int × Unit)))))))))))))))))))) _ (
              opt.run ((List (List (Go.Am.D)) × (Int × (Int × (Int × (Int × (Int × (Int × (Int × (Int × (Int × (Int × (Int × (Int × (Int × (Int × (List (List (Go.Am.D)) × (Int × (Int × (Int × Unit)))))))))))))))))))) (
               opt.ask _ y158.1 (
                opt.need _ (p.eqN 0 0) <|
                opt.need _ (p.eqN (p.len s156.1) (p.len s156.1)) <|
                opt.ret _ (s156.1, (s156.2.1, (s156.2.2.1, (s156.2.2.2.1, (s156.2.2.2.2.1, (s156.2.2.2.2.2.1, (s156.2.2.2.2.2.2.1, (s156.2.2.2.2.2.2.2.1, (s156.2.2.2.2.2.2.2.2.1, (s156.2.2.2.2.2.2.2.2.2.1, (s156.2.2.2.2.2.2.2.2.2.2.1, (y157.1, (y157.2.1, (y157.2.2.1, (y157.2.2.2.1, (s156.2.2.2.2.2.2.2.2.2.2.2.2.2.2.2.1, (s156.2.2.2.2.2.2.2.2.2.2.2.2.2.2.2.2.1, (s156.2.2.2.2.2.2.2.2.2.2.2.2.2.2.2.2.2.1, (s156.2.2.2.2.2.2.2.2.2.2.2.2.2.2.2.2.2.2.1, ())))))))))))))))))))) (
                opt.need _ (p.eqN 0 0) <|
                opt.need _ (p.eqN (p.len s156.1) (p.len s156.1)) <|
                opt.ret _ (s156.1, (s156.2.1, (s156.2.2.1, (s156.2.2.2.1, (s156.2.2.2.2.1, (s156.2.2.2.2.2.1, (s156.2.2.2.2.2.2.1, (s156.2.2.2.2.2.2.2.1, (s156.2.2.2.2.2.2.2.2.1, (s156.2.2.2.2.2.2.2.2.2.1, (s156.2.2.2.2.2.2.2.2.2.2.1, (s156.2.2.2.2.2.2.2.2.2.2.2.1, (s156.2.2.2.2.2.2.2.2.2.2.2.2.1, (s156.2.2.2.2.2.2.2.2.2.2.2.2.2.1, (s156.2.2.2.2.2.2.2.2.2.2.2.2.2.2.1, (s156.2.2.2.2.2.2.2.2.2.2.2.2.2.2.2.1, (s156.2.2.2.2.2.2.2.2.2.2.2.2.2.2.2.2.1, (s156.2.2.2.2.2.2.2.2.2.2.2.2.2.2.2.2.2.1, (s156.2.2.2.2.2.2.2.2.2.2.2.2.2.2.2.2.2.2.1, ())))))))))))))))))))))) fun y159 =>
            opt.need _ (p.eqN 0 0) <|
            opt.need _ (p.eqN (p.len y159.1) (p.len y159.1)) <|
            opt.ret _ (Sum.inl (y159.1, (y159.2.1, (y159.2.2.1, (y159.2.2.2.1, (y159.2.2.2.2.1, (y159.2.2.2.2.2.1, (y159.2.2.2.2.2.2.1, (y159.2.2.2.2.2.2.2.1, (y159.2.2.2.2.2.2.2.2.1, (y159.2.2.2.2.2.2.2.2.2.1, (y159.2.2.2.2.2.2.2.2.2.2.1, (y159.2.2.2.2.2.2.2.2.2.2.2.1, (y159.2.2.2.2.2.2.2.2.2.2.2.2.1, (y159.2.2.2.2.2.2.2.2.2.2.2.2.2.1, (y159.2.2.2.2.2.2.2.2.2.2.2.2.2.2.1, (y159.2.2.2.2.2.2.2.2.2.2.2.2.2.2.2.1, (y159.2.2.2.2.2.2.2.2.2.2.2.2.2.2.2.2.1, (y159.2.2.2.2.2.2.2.2.2.2.2.2.2.2.2.2.2.1, ((p.ar Go.BinOp.add Go.IntKind.i64 y159.2.2.2.2.2.2.2.2.2.2.2.2.2.2.2.2.2.2.1 (1 : Int)), ()))))))))))))))))))))) (
            opt.need _ (p.eqN 0 0) <|
            opt.need _ (p.eqN (p.len s156.1) (p.len s156.1)) <|
            opt.ret _ (Sum.inr (s156.1, (s156.2.1, (s156.2.2.1, (s156.2.2.2.1, (s156.2.2.2.2.1, (s156.2.2.2.2.2.1, (s156.2.2.2.2.2.2.1, (s156.2.2.2.2.2.2.2.1, (s156.2.2.2.2.2.2.2.2.1, (s156.2.2.2.2.2.2.2.2.2.1, (s156.2.2.2.2.2.2.2.2.2.2.1, (s156.2.2.2.2.2.2.2.2.2.2.2.1, (s156.2.2.2.2.2.2.2.2.2.2.2.2.1, (s156.2.2.2.2.2.2.2.2.2.2.2.2.2.1, (s156.2.2.2.2.2.2.2.2.2.2.2.2.2.2.1, (s156.2.2.2.2.2.2.2.2.2.2.2.2.2.2.2.1, (s156.2.2.2.2.2.2.2.2.2.2.2.2.2.2.2.2.1, (s156.2.2.2.2.2.2.2.2.2.2.2.2.2.2.2.2.2.1, ())))))))))))))))))))))
noncomputable def b8_1 (p : Prim) : (List (List (Go.Am.D)) × (Int × (Int × (Int × (Int × (Int × (Int × (Int × (Int × (Int × (Int × (List (List (Go.Am.D)) × (Int × (Int × Unit)))))))))))))) → Option ((List (List (Go.Am.D)) × (Int × (Int × (Int × (Int × (Int × (Int × (Int × (Int × (Int × (Int × (List (List (Go.Am.D)) × (Int × (Int × Unit)))))))))))))) ⊕ (List (List (Go.Am.D)) × (Int × (Int × (Int × (Int × (Int × (Int × (Int × (Int × (Int × (Int × (List (List (Go.Am.D)) × (Int × Unit)))))))))))))) :=
  fun s154 => opt.run _ (
       opt.ask _ (p.cmp Go.BinOp.leq s154.2.2.2.2.2.2.2.2.2.2.2.2.2.1 s154.2.2.2.2.2.2.2.2.2.2.2.2.1) (
        opt.need _ (bif (p.cmp Go.BinOp.geq s154.2.2.2.2.2.2.2.2.2.2.2.2.2.1 (0 : Int)) then (p.cmp Go.BinOp.lss s154.2.2.2.2.2.2.2.2.2.2.2.2.2.1 (p.ofNat (p.len s154.1))) else Bool.false) <|
        opt.need _ (p.rowOk s154.1 (p.add 0 (p.nat s154.2.2.2.2.2.2.2.2.2.2.2.2.2.1)) [(Go.Am.CK.int Go.IntKind.i64)]) <|
        opt.need _ (bif (p.cmp Go.BinOp.geq s154.2.2.2.2.2.2.2.2.2.2.2.2.1 (0 : Int)) then (p.cmp Go.BinOp.lss s154.2.2.2.2.2.2.2.2.2.2.2.2.1 (p.ofNat (p.len s154.1))) else Bool.false) <|
        opt.need _ (p.rowOk s154.1 (p.add 0 (p.nat s154.2.2.2.2.2.2.2.2.2.2.2.2.1)) [(Go.Am.CK.int Go.IntKind.i64)]) <|
        opt.bnd ((Int × (Int × (Int × (Int × Unit))))) _ (G30 p (s154.2.2.2.2.2.2.2.2.2.2.2.1, ((p.rdI s154.1 (p.add 0 (p.nat s154.2.2.2.2.2.2.2.2.2.2.2.2.2.1)) 0), ((p.rdI s154.1 (p.add 0 (p.nat s154.2.2.2.2.2.2.2.2.2.2.2.2.1)) 0), ())))) fun y155 =>
        opt.need _ (p.eqN 0 0) <|
        opt.need _ (p.eqN (p.len s154.1) (p.len s154.1)) <|
        opt.bnd ((List (List (Go.Am.D)) × (Int × (Int × (Int × (Int × (Int × (Int × (Int × (Int × (Int × (Int × (Int × (Int × (Int × (Int × (List (List (Go.Am.D)) × (Int × (Int × Unit))))))))))))))))))) _ (
          iter (b8_2 p) (s154.1, (s154.2.1, (s154.2.2.1, (s154.2.2.2.1, (s154.2.2.2.2.1, (s154.2.2.2.2.2.1, (s154.2.2.2.2.2.2.1, (s154.2.2.2.2.2.2.2.1, (s154.2.2.2.2.2.2.2.2.1, (s154.2.2.2.2.2.2.2.2.2.1, (s154.2.2.2.2.2.2.2.2.2.2.1, (y155.1, (y155.2.1, (y155.2.2.1, (y155.2.2.2.1, (s154.2.2.2.2.2.2.2.2.2.2.2.1, (s154.2.2.2.2.2.2.2.2.2.2.2.2.1, (s154.2.2.2.2.2.2.2.2.2.2.2.2.2.1, (s154.2.2.2.2.2.2.2.2.2.2.2.2.1, ())))))))))))))))))))) fun y160 =>
        opt.bnd ((List (List (Go.Am.D)) × (Int × (Int × (Int × (Int × (Int × (Int × (Int × (Int × (Int × (Int × (Int × (Int × (Int × (Int × (List (List (Go.Am.D)) × (Int × (Int × (Bool × Unit)))))))))))))))))))) _ (
          opt.run ((List (List (Go.Am.D)) × (Int × (Int × (Int × (Int × (Int × (Int × (Int × (Int × (Int × (Int × (Int × (Int × (Int × (Int × (List (List (Go.Am.D)) × (Int × (Int × (Bool × Unit)))))))))))))))))))) (
           opt.ask _ (p.cmp Go.BinOp.eql y160.2.2.2.2.2.2.2.2.2.2.2.2.2.2.2.2.2.1 (0 : Int)) (
            opt.need _ (p.eqN 0 0) <|
            opt.need _ (p.eqN (p.len y160.1) (p.len y160.1)) <|
            opt.ret _ (y160.1, (y160.2.1, (y160.2.2.1, (y160.2.2.2.1, (y160.2.2.2.2.1, (y160.2.2.2.2.2.1, (y160.2.2.2.2.2.2.1, (y160.2.2.2.2.2.2.2.1, (y160.2.2.2.2.2.2.2.2.1, (y160.2.2.2.2.2.2.2.2.2.1, (y160.2.2.2.2.2.2.2.2.2.2.1, (y160.2.2.2.2.2.2.2.2.2.2.2.1, (y160.2.2.2.2.2.2.2.2.2.2.2.2.1, (y160.2.2.2.2.2.2.2.2.2.2.2.2.2.1, (y160.2.2.2.2.2.2.2.2.2.2.2.2.2.2.1, (y160.2.2.2.2.2.2.2.2.2.2.2.2.2.2.2.1, (y160.2.2.2.2.2.2.2.2.2.2.2.2.2.2.2.2.1, (y160.2.2.2.2.2.2.2.2.2.2.2.2.2.2.2.2.2.1, (Bool.true, ())))))))))))))))))))) (
            opt.bnd ((Bool × Unit)) _ (G31 p (y160.2.2.2.1, (y160.2.2.2.2.1, (y160.2.2.2.2.2.1, (y160.2.2.2.2.2.2.1, (y160.2.2.2.2.2.2.2.2.2.2.2.1, (y160.2.2.2.2.2.2.2.2.2.2.2.2.1, (y160.2.2.2.2.2.2.2.2.2.2.2.2.2.1, (y160.2.2.2.2.2.2.2.2.2.2.2.2.2.2.1, ()))))))))) fun y161 =>
            opt.need _ (p.eqN 0 0) <|
            opt.need _ (p.eqN (p.len y160.1) (p.len y160.1)) <|
            opt.ret _ (y160.1, (y160.2.1, (y160.2.2.1, (y160.2.2.2.1, (y160.2.2.2.2.1, (y160.2.2.2.2.2.1, (y160.2.2.2.2.2.2.1, (y160.2.2.2.2.2.2.2.1, (y160.2.2.2.2.2.2.2.2.1, (y160.2.2.2.2.2.2.2.2.2.1, (y160.2.2.2.2.2.2.2.2.2.2.1, (y160.2.2.2.2.2.2.2.2.2.2.2.1, (y160.2.2.2.2.2.2.2.2.2.2.2.2.1, (y160.2.2.2.2.2.2.2.2.2.2.2.2.2.1, (y160.2.2.2.2.2.2.2.2.2.2.2.2.2.2.1, (y160.2.2.2.2.2.2.2.2.2.2.2.2.2.2.2.1, (y160.2.2.2.2.2.2.2.2.2.2.2.2.2.2.2.2.1, (y160.2.2.2.2.2.2.2.2.2.2.2.2.2.2.2.2.2.1, (y161.1, ())))))))))))))))))))))) fun y162 =>
        opt.bnd ((List (List (Go.Am.D)) × (Int × (Int × (Int × (Int × (Int × (Int × (Int × (Int × (Int × (Int × (List (List (Go.Am.D)) × (Int × (Int × Unit))))))))))))))) _ (
          opt.run ((List (List (Go.Am.D)) × (Int × (Int × (Int × (Int × (Int × (Int × (Int × (Int × (Int × (Int × (List (List (Go.Am.D)) × (Int × (Int × Unit))))))))))))))) (
           opt.ask _ y162.2.2.2.2.2.2.2.2.2.2.2.2.2.2.2.2.2.2.1 (
            opt.need _ (p.eqN 0 0) <|
            opt.need _ (p.eqN (p.len y162.1) (p.len y162.1)) <|
            opt.ret _ (y162.1, (y162.2.1, (y162.2.2.1, (y162.2.2.2.2.2.2.2.2.2.2.2.1, (y162.2.2.2.2.2.2.2.2.2.2.2.2.1, (y162.2.2.2.2.2.2.2.2.2.2.2.2.2.1, (y162.2.2.2.2.2.2.2.2.2.2.2.2.2.2.1, (y162.2.2.2.2.2.2.2.1, (y162.2.2.2.2.2.2.2.2.1, (y162.2.2.2.2.2.2.2.2.2.1, (y162.2.2.2.2.2.2.2.2.2.2.1, (y162.2.2.2.2.2.2.2.2.2.2.2.2.2.2.2.1, (y162.2.2.2.2.2.2.2.2.2.2.2.2.2.2.2.2.1, (y162.2.2.2.2.2.2.2.2.2.2.2.2.2.2.2.2.2.1, ()))))))))))))))) (
            opt.need _ (p.eqN 0 0) <|
            opt.need _ (p.eqN (p.len y162.1) (p.len y162.1)) <|
            opt.ret _ (y162.1, (y162.2.1, (y162.2.2.1, (y162.2.2.2.1, (y162.2.2.2.2.1, (y162.2.2.2.2.2.1, (y162.2.2.2.2.2.2.1, (y162.2.2.2.2.2.2.2.1, (y162.2.2.2.2.2.2.2.2.1, (y162.2.2.2.2.2.2.2.2.2.1, (y162.2.2.2.2.2.2.2.2.2.2.1, (y162.2.2.2.2.2.2.2.2.2.2.2.2.2.2.2.1, (y162.2.2.2.2.2.2.2.2.2.2.2.2.2.2.2.2.1, (y162.2.2.2.2.2.2.2.2.2.2.2.2.2.2.2.2.2.1, ()))))))))))))))))) fun y163 =>
        opt.need _ (p.eqN 0 0) <|
        opt.need _ (p.eqN (p.len y163.1) (p.len y163.1)) <|
        opt.ret _ (Sum.inl (y163.1, (y163.2.1, (y163.2.2.1, (y163.2.2.2.1, (y163.2.2.2.2.1, (y163.2.2.2.2.2.1, (y163.2.2.2.2.2.2.1, (y163.2.2.2.2.2.2.2.1, (y163.2.2.2.2.2.2.2.2.1, (y163.2.2.2.2.2.2.2.2.2.1, (y163.2.2.2.2.2.2.2.2.2.2.1, (y163.2.2.2.2.2.2.2.2.2.2.2.1, (y163.2.2.2.2.2.2.2.2.2.2.2.2.1, ((p.ar Go.BinOp.add Go.IntKind.i64 y163.2.2.2.2.2.2.2.2.2.2.2.2.2.1 (1 : Int)), ())))))))))))))))) (
        opt.need _ (p.eqN 0 0) <|
        opt.need _ (p.eqN (p.len s154.1) (p.len s154.1)) <|
        opt.ret _ (Sum.inr (s154.1, (s154.2.1, (s154.2.2.1, (s154.2.2.2.1, (s154.2.2.2.2.1, (s154.2.2.2.2.2.1, (s154.2.2.2.2.2.2.1, (s154.2.2.2.2.2.2.2.1, (s154.2.2.2.2.2.2.2.2.1, (s154.2.2.2.2.2.2.2.2.2.1, (s154.2.2.2.2.2.2.2.2.2.2.1, (s154.2.2.2.2.2.2.2.2.2.2.2.1, (s154.2.2.2.2.2.2.2.2.2.2.2.2.1, ()))))))))))))))))
noncomputable def G8 : (p : Prim) → (List (List (Go.Am.D)) × (Int × Unit)) → Option ((Bool × Unit)) :=
  fun p x =>
  opt.bnd ((Bool × Unit)) _ (G27 p (x.1, ())) fun y150 =>
  opt.ask _ (bif y150.1 then Bool.false else Bool.true) (
   opt.bnd ((Bool × Unit)) _ (G13 p ()) fun y151 =>
   opt.ret _ (y151.1, ())) (
   opt.bnd ((List (List (Go.Am.D)) × Unit)) _ (G28 p (x.1, ())) fun y152 =>
   opt.need _ (p.cmp Go.BinOp.neq (p.ofNat (p.len y152.1)) (0 : Int)) <|
   opt.need _ (bif (p.cmp Go.BinOp.geq (p.ar Go.BinOp.rem Go.IntKind.i64 (p.cvt Go.IntKind.i64 x.2.1) (p.ofNat (p.len y152.1))) (0 : Int)) then (p.cmp Go.BinOp.lss (p.ar Go.BinOp.rem Go.IntKind.i64 (p.cvt Go.IntKind.i64 x.2.1) (p.ofNat (p.len y152.1))) (p.ofNat (p.len y152.1))) else Bool.false) <|
   opt.need _ (p.rowOk y152.1 (p.add 0 (p.nat (p.ar Go.BinOp.rem Go.IntKind.i64 (p.cvt Go.IntKind.i64 x.2.1) (p.ofNat (p.len y152.1))))) [(Go.Am.CK.int Go.IntKind.i64)]) <|
   opt.bnd ((Int × (Int × (Int × Unit)))) _ (G21 p (x.1, ((p.rdI y152.1 (p.add 0 (p.nat (p.ar Go.BinOp.rem Go.IntKind.i64 (p.cvt Go.IntKind.i64 x.2.1) (p.ofNat (p.len y152.1))))) 0), ()))) fun y153 =>
   opt.ask _ (p.cmp Go.BinOp.neq y153.2.2.1 (0 : Int)) (
    opt.ret _ (Bool.false, ())) (
    opt.need _ (p.eqN 0 0) <|
    opt.need _ (p.eqN (p.len y152.1) (p.len y152.1)) <|
    opt.bnd ((List (List (Go.Am.D)) × (Int × (Int × (Int × (Int × (Int × (Int × (Int × (Int × (Int × (Int × (List (List (Go.Am.D)) × (Int × Unit)))))))))))))) _ (
      iter (b8_1 p) (y152.1, (y153.1, (y153.2.1, ((0 : Int), ((0 : Int), ((0 : Int), ((0 : Int), ((0 : Int), ((0 : Int), ((0 : Int), ((0 : Int), (x.1, ((p.ar Go.BinOp.rem Go.IntKind.i64 (p.cvt Go.IntKind.i64 x.2.1) (p.ofNat (p.len y152.1))), ((0 : Int), ()))))))))))))))) fun y164 =>
    opt.need _ (p.eqN 0 0) <|
    opt.need _ (p.eqN (p.len y164.1) (p.len y164.1)) <|
    opt.bnd ((Int × (Int × (Int × (Int × (Int × (Int × (Int × (Int × (Int × (Int × Unit))))))))))) _ (
      iter (b8_3 p) (y164.1, (y164.2.1, (y164.2.2.1, (y164.2.2.2.1, (y164.2.2.2.2.1, (y164.2.2.2.2.2.1, (y164.2.2.2.2.2.2.1, (y164.2.2.2.2.2.2.2.1, (y164.2.2.2.2.2.2.2.2.1, (y164.2.2.2.2.2.2.2.2.2.1, (y164.2.2.2.2.2.2.2.2.2.2.1, (y164.2.2.2.2.2.2.2.2.2.2.2.1, (y164.2.2.2.2.2.2.2.2.2.2.2.2.1, (y164.2.2.2.2.2.2.2.2.2.2.2.2.1, ()))))))))))))))) fun y175 =>
    opt.bnd ((Int × (Int × Unit))) _ (G32 p (y175.2.2.2.2.2.1, (y175.2.2.2.2.1, ()))) fun y176 =>
    opt.ask _ (bif (p.cmp Go.BinOp.eql y175.1 y176.1) then (bif (p.cmp Go.BinOp.eql y175.2.1 y176.2.1) then Bool.true else Bool.false) else Bool.false) (
     opt.bnd ((Int × (Int × Unit))) _ (G32 p (y175.2.2.2.2.2.2.2.2.2.1, (y175.2.2.2.2.2.2.2.2.1, ()))) fun y177 =>
     opt.ask _ (bif (p.cmp Go.BinOp.eql y175.1 y177.1) then (bif (p.cmp Go.BinOp.eql y175.2.1 y177.2.1) then Bool.true else Bool.false) else Bool.false) (
      opt.bnd ((Bool × Unit)) _ (G13 p ()) fun y178 =>
      opt.ret _ (y178.1, ())) (
      opt.ret _ (Bool.false, ()))) (
     opt.ret _ (Bool.false, ()))))
noncomputable def F8 : Prim → Tup (ctr8).scs → Option (STup (scss (ctr8).outs)) :=
  fun p x => G8 p x
theorem eq8 (p : Prim) (x : Tup (ctr8).scs) : bodyRun opt p (autoEnv Go.Proofs.Try.prog) (mkOrc opt p (autoEnv Go.Proofs.Try.prog) 400 (an8) la8) 400 ctr8 x = G8 p x := by kernel_rfl
theorem gok8 : GamOk Go.Proofs.Try.prog (gam8) := by
  intro cf h
  simp only [gam8, List.mem_cons, List.not_mem_nil, or_false] at h
  rcases h with rfl | rfl | rfl | rfl | rfl | rfl | rfl
  · exact ok32
  · exact ok31
  · exact ok30
  · exact ok21
  · exact ok28
  · exact ok13
  · exact ok27
theorem enters8 : Enters Go.Proofs.Try.prog 8 := enters_auto (b := _) rfl (by kernel_rfl)
theorem ok8 : CtrOk Go.Proofs.Try.prog ctr8 (F8 std) := ctr_of_body (autoEnv_ok follows_mixed) (mkOrc_ok (autoEnv_ok follows_mixed) gok8 _) enters8 (fun x => eq8 std x)
end Go.Am
end
