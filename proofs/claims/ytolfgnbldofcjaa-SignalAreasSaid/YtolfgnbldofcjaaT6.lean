/-
  Proved: SignalAreas: for every input the call returns true, and each argument reads afterwards as it read before; there is no condition.
-/
import Derived.Test.YtolfgnbldofcjaaT5
import Derived.Test.YtolfgnbldofcjaaProg
import Derived.KernelRfl
set_option linter.unusedVariables false
set_option linter.unusedSimpArgs false
set_option linter.unusedSectionVars false
set_option maxRecDepth 100000
set_option maxHeartbeats 0
noncomputable section
namespace Go.Am
def ctr15 : Ctr :=
 ⟨15, [], [], [(.ret, ⟨[(0, .bool)], [], 1⟩)]⟩
def la15 : List LA :=
 []
def ja15 : List JA :=
 [⟨15, [false, false, true, true, true, true, true, true, true, true, true, true, true, true], 0, [(AX.normal, ⟨[(1, .bptr 0 0), (3, .bptr 1 0), (4, .bptr 2 0), (5, .vec 3 2), (7, .bool), (9, .bptr 4 0), (15, .bptr 5 0), (17, .bptr 6 0), (19, .bptr 7 0), (21, .int .i64), (22, .int .i64), (127, .bool)], [.box [.full 8 2, .full 9 1], .box [.full 10 2, .nils], .box [.full 11 2, .nils], .row [ci, ci], .box [.int .i64, .int .i64], .box [.int .i64, .int .i64, .int .i64], .box [.int .i64, .int .i64, .int .i64], .box [.int .i64, .int .i64], .row [ci, ci], .row [(CK.list 2)], .row [ci, ci], .row [ci, ci]], 170⟩)]⟩]
def gam15 : List CF :=
 [⟨ctr38, G38⟩, ⟨ctr36, G36⟩, ⟨ctr20, G20⟩, ⟨ctr27, G27⟩, ⟨ctr25, G25⟩, ⟨ctr37, G37⟩, ⟨ctr32, G32⟩, ⟨ctr39, G39⟩, ⟨ctr23, G23⟩, ⟨ctr21, G21⟩, ⟨ctr16, G16⟩]
def an15 : Anns :=
 ⟨gam15, ja15, [⟨15, [false, true, true], ⟨[(1, .bptr 0 0), (2, .bptr 1 0), (3, .bptr 2 0), (4, .bptr 3 0)], [.box [.full 4 2, .full 5 1], .box [.full 6 2, .nils], .box [.full 7 2, .nils], .box [.full 8 2, .nils], .row [ci, ci], .row [(CK.list 2)], .row [ci, ci], .row [ci, ci], .row [ci, ci]], 170⟩⟩]⟩
def g15 (it : It) : (p : Prim) → Unit → Option T2 :=
 fun p x =>
 opt.need _ (p.eqN 0 0) <|
 opt.need _ (p.eqN 3 (p.len [[(D.int .i64 (0 : Int)), (D.int .i64 (0 : Int))], [(D.int .i64 (4 : Int)), (D.int .i64 (0 : Int))], [(D.int .i64 (0 : Int)), (D.int .i64 (4 : Int))]])) <|
 opt.need _ (p.eqN 3 (p.len [[(D.int .i64 (0 : Int)), (D.int .i64 (0 : Int))], [(D.int .i64 (4 : Int)), (D.int .i64 (0 : Int))], [(D.int .i64 (0 : Int)), (D.int .i64 (4 : Int))]])) <|
 opt.need _ (p.eqN 0 0) <|
 opt.need _ (p.eqN 1 (p.len [[(D.list Bool.true 2 [[(D.int .i64 (0 : Int)), (D.int .i64 (0 : Int))], [(D.int .i64 (1 : Int)), (D.int .i64 (0 : Int))]])]])) <|
 opt.need _ (p.eqN 1 (p.len [[(D.list Bool.true 2 [[(D.int .i64 (0 : Int)), (D.int .i64 (0 : Int))], [(D.int .i64 (1 : Int)), (D.int .i64 (0 : Int))]])]])) <|
 opt.need _ (p.eqN 0 0) <|
 opt.need _ (p.eqN 1 (p.len [[(D.int .i64 (6 : Int)), (D.int .i64 (0 : Int))]])) <|
 opt.need _ (p.eqN 1 (p.len [[(D.int .i64 (6 : Int)), (D.int .i64 (0 : Int))]])) <|
 opt.need _ (p.eqN 0 0) <|
 opt.need _ (p.eqN 1 (p.len [[(D.int .i64 (4 : Int)), (D.int .i64 (2 : Int))]])) <|
 opt.need _ (p.eqN 1 (p.len [[(D.int .i64 (4 : Int)), (D.int .i64 (2 : Int))]])) <|
 opt.need _ (p.eqN 0 0) <|
 opt.need _ (p.eqN 1 (p.len [[(D.int .i64 (3 : Int)), (D.int .i64 (2 : Int))]])) <|
 opt.need _ (p.eqN 1 (p.len [[(D.int .i64 (3 : Int)), (D.int .i64 (2 : Int))]])) <|
 opt.need _ (p.and (p.and (p.leN (p.add 0 (p.len [[(D.int .i64 (0 : Int)), (D.int .i64 (0 : Int))], [(D.int .i64 (4 : Int)), (D.int .i64 (0 : Int))], [(D.int .i64 (0 : Int)), (D.int .i64 (4 : Int))]])) (p.len [[(D.int .i64 (0 : Int)), (D.int .i64 (0 : Int))], [(D.int .i64 (4 : Int)), (D.int .i64 (0 : Int))], [(D.int .i64 (0 : Int)), (D.int .i64 (4 : Int))]])) (p.and (p.leN (p.add 0 (p.len [[(D.list Bool.true 2 [[(D.int .i64 (0 : Int)), (D.int .i64 (0 : Int))], [(D.int .i64 (1 : Int)), (D.int .i64 (0 : Int))]])]])) (p.len [[(D.list Bool.true 2 [[(D.int .i64 (0 : Int)), (D.int .i64 (0 : Int))], [(D.int .i64 (1 : Int)), (D.int .i64 (0 : Int))]])]])) Bool.true)) Bool.true) <|
 opt.bnd ((LD × T1)) _ (g16 it p ((p.cut [[(D.int .i64 (0 : Int)), (D.int .i64 (0 : Int))], [(D.int .i64 (4 : Int)), (D.int .i64 (0 : Int))], [(D.int .i64 (0 : Int)), (D.int .i64 (4 : Int))]] 0 (p.len [[(D.int .i64 (0 : Int)), (D.int .i64 (0 : Int))], [(D.int .i64 (4 : Int)), (D.int .i64 (0 : Int))], [(D.int .i64 (0 : Int)), (D.int .i64 (4 : Int))]])), ((p.cut [[(D.list Bool.true 2 [[(D.int .i64 (0 : Int)), (D.int .i64 (0 : Int))], [(D.int .i64 (1 : Int)), (D.int .i64 (0 : Int))]])]] 0 (p.len [[(D.list Bool.true 2 [[(D.int .i64 (0 : Int)), (D.int .i64 (0 : Int))], [(D.int .i64 (1 : Int)), (D.int .i64 (0 : Int))]])]])), ()))) fun a =>
 opt.need _ (p.plain a.1) <|
 opt.need _ (p.and (p.and (p.leN (p.add 0 (p.len [[(D.int .i64 (0 : Int)), (D.int .i64 (0 : Int))], [(D.int .i64 (4 : Int)), (D.int .i64 (0 : Int))], [(D.int .i64 (0 : Int)), (D.int .i64 (4 : Int))]])) (p.len [[(D.int .i64 (0 : Int)), (D.int .i64 (0 : Int))], [(D.int .i64 (4 : Int)), (D.int .i64 (0 : Int))], [(D.int .i64 (0 : Int)), (D.int .i64 (4 : Int))]])) (p.and (p.leN (p.add 0 (p.len [[(D.list Bool.true 2 [[(D.int .i64 (0 : Int)), (D.int .i64 (0 : Int))], [(D.int .i64 (1 : Int)), (D.int .i64 (0 : Int))]])]])) (p.len [[(D.list Bool.true 2 [[(D.int .i64 (0 : Int)), (D.int .i64 (0 : Int))], [(D.int .i64 (1 : Int)), (D.int .i64 (0 : Int))]])]])) Bool.true)) (p.and Bool.true Bool.true)) <|
 opt.bnd ((Bool × (Int × Unit))) _ (g21 it p ((p.cut [[(D.int .i64 (0 : Int)), (D.int .i64 (0 : Int))], [(D.int .i64 (4 : Int)), (D.int .i64 (0 : Int))], [(D.int .i64 (0 : Int)), (D.int .i64 (4 : Int))]] 0 (p.len [[(D.int .i64 (0 : Int)), (D.int .i64 (0 : Int))], [(D.int .i64 (4 : Int)), (D.int .i64 (0 : Int))], [(D.int .i64 (0 : Int)), (D.int .i64 (4 : Int))]])), ((p.cut [[(D.list Bool.true 2 [[(D.int .i64 (0 : Int)), (D.int .i64 (0 : Int))], [(D.int .i64 (1 : Int)), (D.int .i64 (0 : Int))]])]] 0 (p.len [[(D.list Bool.true 2 [[(D.int .i64 (0 : Int)), (D.int .i64 (0 : Int))], [(D.int .i64 (1 : Int)), (D.int .i64 (0 : Int))]])]])), ((3 : Int), ((2 : Int), ()))))) fun b =>
 opt.need _ (p.and (p.and (p.leN (p.add 0 (p.len [[(D.int .i64 (0 : Int)), (D.int .i64 (0 : Int))], [(D.int .i64 (4 : Int)), (D.int .i64 (0 : Int))], [(D.int .i64 (0 : Int)), (D.int .i64 (4 : Int))]])) (p.len [[(D.int .i64 (0 : Int)), (D.int .i64 (0 : Int))], [(D.int .i64 (4 : Int)), (D.int .i64 (0 : Int))], [(D.int .i64 (0 : Int)), (D.int .i64 (4 : Int))]])) (p.and (p.leN (p.add 0 (p.len [[(D.list Bool.true 2 [[(D.int .i64 (0 : Int)), (D.int .i64 (0 : Int))], [(D.int .i64 (1 : Int)), (D.int .i64 (0 : Int))]])]])) (p.len [[(D.list Bool.true 2 [[(D.int .i64 (0 : Int)), (D.int .i64 (0 : Int))], [(D.int .i64 (1 : Int)), (D.int .i64 (0 : Int))]])]])) Bool.true)) (p.and (p.leN (p.add 0 4) (p.len [[(D.int .i64 (0 : Int)), (D.int .i64 (0 : Int))], [(D.int .i64 (4 : Int)), (D.int .i64 (0 : Int))], [(D.int .i64 (4 : Int)), (D.int .i64 (4 : Int))], [(D.int .i64 (0 : Int)), (D.int .i64 (4 : Int))]])) Bool.true)) <|
 opt.bnd T7 _ (g23 it p ((p.cut [[(D.int .i64 (0 : Int)), (D.int .i64 (0 : Int))], [(D.int .i64 (4 : Int)), (D.int .i64 (0 : Int))], [(D.int .i64 (0 : Int)), (D.int .i64 (4 : Int))]] 0 (p.len [[(D.int .i64 (0 : Int)), (D.int .i64 (0 : Int))], [(D.int .i64 (4 : Int)), (D.int .i64 (0 : Int))], [(D.int .i64 (0 : Int)), (D.int .i64 (4 : Int))]])), ((p.cut [[(D.list Bool.true 2 [[(D.int .i64 (0 : Int)), (D.int .i64 (0 : Int))], [(D.int .i64 (1 : Int)), (D.int .i64 (0 : Int))]])]] 0 (p.len [[(D.list Bool.true 2 [[(D.int .i64 (0 : Int)), (D.int .i64 (0 : Int))], [(D.int .i64 (1 : Int)), (D.int .i64 (0 : Int))]])]])), ((p.cut [[(D.int .i64 (0 : Int)), (D.int .i64 (0 : Int))], [(D.int .i64 (4 : Int)), (D.int .i64 (0 : Int))], [(D.int .i64 (4 : Int)), (D.int .i64 (4 : Int))], [(D.int .i64 (0 : Int)), (D.int .i64 (4 : Int))]] 0 4), ())))) fun c =>
 opt.need _ (p.and (p.and (p.leN (p.add 0 (p.len [[(D.int .i64 (0 : Int)), (D.int .i64 (0 : Int))], [(D.int .i64 (4 : Int)), (D.int .i64 (0 : Int))], [(D.int .i64 (0 : Int)), (D.int .i64 (4 : Int))]])) (p.len [[(D.int .i64 (0 : Int)), (D.int .i64 (0 : Int))], [(D.int .i64 (4 : Int)), (D.int .i64 (0 : Int))], [(D.int .i64 (0 : Int)), (D.int .i64 (4 : Int))]])) (p.and (p.leN (p.add 0 (p.len [[(D.list Bool.true 2 [[(D.int .i64 (0 : Int)), (D.int .i64 (0 : Int))], [(D.int .i64 (1 : Int)), (D.int .i64 (0 : Int))]])]])) (p.len [[(D.list Bool.true 2 [[(D.int .i64 (0 : Int)), (D.int .i64 (0 : Int))], [(D.int .i64 (1 : Int)), (D.int .i64 (0 : Int))]])]])) Bool.true)) (p.and (p.and (p.leN (p.add 0 (p.len [[(D.int .i64 (6 : Int)), (D.int .i64 (0 : Int))]])) (p.len [[(D.int .i64 (6 : Int)), (D.int .i64 (0 : Int))]])) (p.and Bool.true Bool.true)) (p.and Bool.true Bool.true))) <|
 opt.bnd T0 _ (g39 it p ((p.cut [[(D.int .i64 (0 : Int)), (D.int .i64 (0 : Int))], [(D.int .i64 (4 : Int)), (D.int .i64 (0 : Int))], [(D.int .i64 (0 : Int)), (D.int .i64 (4 : Int))]] 0 (p.len [[(D.int .i64 (0 : Int)), (D.int .i64 (0 : Int))], [(D.int .i64 (4 : Int)), (D.int .i64 (0 : Int))], [(D.int .i64 (0 : Int)), (D.int .i64 (4 : Int))]])), ((p.cut [[(D.list Bool.true 2 [[(D.int .i64 (0 : Int)), (D.int .i64 (0 : Int))], [(D.int .i64 (1 : Int)), (D.int .i64 (0 : Int))]])]] 0 (p.len [[(D.list Bool.true 2 [[(D.int .i64 (0 : Int)), (D.int .i64 (0 : Int))], [(D.int .i64 (1 : Int)), (D.int .i64 (0 : Int))]])]])), ((p.cut [[(D.int .i64 (6 : Int)), (D.int .i64 (0 : Int))]] 0 (p.len [[(D.int .i64 (6 : Int)), (D.int .i64 (0 : Int))]])), ([], ((1 : Int), ((0 : Int), ((5 : Int), ())))))))) fun d =>
 opt.need _ (p.and (p.and (p.leN (p.add 0 (p.len [[(D.int .i64 (0 : Int)), (D.int .i64 (0 : Int))], [(D.int .i64 (4 : Int)), (D.int .i64 (0 : Int))], [(D.int .i64 (0 : Int)), (D.int .i64 (4 : Int))]])) (p.len [[(D.int .i64 (0 : Int)), (D.int .i64 (0 : Int))], [(D.int .i64 (4 : Int)), (D.int .i64 (0 : Int))], [(D.int .i64 (0 : Int)), (D.int .i64 (4 : Int))]])) (p.and (p.leN (p.add 0 (p.len [[(D.list Bool.true 2 [[(D.int .i64 (0 : Int)), (D.int .i64 (0 : Int))], [(D.int .i64 (1 : Int)), (D.int .i64 (0 : Int))]])]])) (p.len [[(D.list Bool.true 2 [[(D.int .i64 (0 : Int)), (D.int .i64 (0 : Int))], [(D.int .i64 (1 : Int)), (D.int .i64 (0 : Int))]])]])) Bool.true)) (p.and (p.and (p.leN (p.add 0 (p.len [[(D.int .i64 (6 : Int)), (D.int .i64 (0 : Int))]])) (p.len [[(D.int .i64 (6 : Int)), (D.int .i64 (0 : Int))]])) (p.and Bool.true Bool.true)) (p.and Bool.true Bool.true))) <|
 opt.bnd T0 _ (g39 it p ((p.cut [[(D.int .i64 (0 : Int)), (D.int .i64 (0 : Int))], [(D.int .i64 (4 : Int)), (D.int .i64 (0 : Int))], [(D.int .i64 (0 : Int)), (D.int .i64 (4 : Int))]] 0 (p.len [[(D.int .i64 (0 : Int)), (D.int .i64 (0 : Int))], [(D.int .i64 (4 : Int)), (D.int .i64 (0 : Int))], [(D.int .i64 (0 : Int)), (D.int .i64 (4 : Int))]])), ((p.cut [[(D.list Bool.true 2 [[(D.int .i64 (0 : Int)), (D.int .i64 (0 : Int))], [(D.int .i64 (1 : Int)), (D.int .i64 (0 : Int))]])]] 0 (p.len [[(D.list Bool.true 2 [[(D.int .i64 (0 : Int)), (D.int .i64 (0 : Int))], [(D.int .i64 (1 : Int)), (D.int .i64 (0 : Int))]])]])), ((p.cut [[(D.int .i64 (6 : Int)), (D.int .i64 (0 : Int))]] 0 (p.len [[(D.int .i64 (6 : Int)), (D.int .i64 (0 : Int))]])), ([], ((1 : Int), ((0 : Int), ((6 : Int), ())))))))) fun e =>
 opt.need _ (p.and (p.and (p.leN (p.add 0 (p.len [[(D.int .i64 (0 : Int)), (D.int .i64 (0 : Int))], [(D.int .i64 (4 : Int)), (D.int .i64 (0 : Int))], [(D.int .i64 (0 : Int)), (D.int .i64 (4 : Int))]])) (p.len [[(D.int .i64 (0 : Int)), (D.int .i64 (0 : Int))], [(D.int .i64 (4 : Int)), (D.int .i64 (0 : Int))], [(D.int .i64 (0 : Int)), (D.int .i64 (4 : Int))]])) (p.and (p.leN (p.add 0 (p.len [[(D.list Bool.true 2 [[(D.int .i64 (0 : Int)), (D.int .i64 (0 : Int))], [(D.int .i64 (1 : Int)), (D.int .i64 (0 : Int))]])]])) (p.len [[(D.list Bool.true 2 [[(D.int .i64 (0 : Int)), (D.int .i64 (0 : Int))], [(D.int .i64 (1 : Int)), (D.int .i64 (0 : Int))]])]])) Bool.true)) (p.and (p.and (p.leN (p.add 0 (p.len [[(D.int .i64 (3 : Int)), (D.int .i64 (2 : Int))]])) (p.len [[(D.int .i64 (3 : Int)), (D.int .i64 (2 : Int))]])) (p.and Bool.true Bool.true)) Bool.true)) <|
 opt.bnd T9 _ (g32 it p ((p.cut [[(D.int .i64 (0 : Int)), (D.int .i64 (0 : Int))], [(D.int .i64 (4 : Int)), (D.int .i64 (0 : Int))], [(D.int .i64 (0 : Int)), (D.int .i64 (4 : Int))]] 0 (p.len [[(D.int .i64 (0 : Int)), (D.int .i64 (0 : Int))], [(D.int .i64 (4 : Int)), (D.int .i64 (0 : Int))], [(D.int .i64 (0 : Int)), (D.int .i64 (4 : Int))]])), ((p.cut [[(D.list Bool.true 2 [[(D.int .i64 (0 : Int)), (D.int .i64 (0 : Int))], [(D.int .i64 (1 : Int)), (D.int .i64 (0 : Int))]])]] 0 (p.len [[(D.list Bool.true 2 [[(D.int .i64 (0 : Int)), (D.int .i64 (0 : Int))], [(D.int .i64 (1 : Int)), (D.int .i64 (0 : Int))]])]])), ((p.cut [[(D.int .i64 (3 : Int)), (D.int .i64 (2 : Int))]] 0 (p.len [[(D.int .i64 (3 : Int)), (D.int .i64 (2 : Int))]])), ([], ()))))) fun f =>
 opt.need _ (p.and (p.and (p.leN (p.add 0 (p.len [[(D.int .i64 (0 : Int)), (D.int .i64 (0 : Int))], [(D.int .i64 (4 : Int)), (D.int .i64 (0 : Int))], [(D.int .i64 (0 : Int)), (D.int .i64 (4 : Int))]])) (p.len [[(D.int .i64 (0 : Int)), (D.int .i64 (0 : Int))], [(D.int .i64 (4 : Int)), (D.int .i64 (0 : Int))], [(D.int .i64 (0 : Int)), (D.int .i64 (4 : Int))]])) (p.and (p.leN (p.add 0 (p.len [[(D.list Bool.true 2 [[(D.int .i64 (0 : Int)), (D.int .i64 (0 : Int))], [(D.int .i64 (1 : Int)), (D.int .i64 (0 : Int))]])]])) (p.len [[(D.list Bool.true 2 [[(D.int .i64 (0 : Int)), (D.int .i64 (0 : Int))], [(D.int .i64 (1 : Int)), (D.int .i64 (0 : Int))]])]])) Bool.true)) (p.and (p.and (p.leN (p.add 0 (p.len [[(D.int .i64 (4 : Int)), (D.int .i64 (2 : Int))]])) (p.len [[(D.int .i64 (4 : Int)), (D.int .i64 (2 : Int))]])) (p.and Bool.true Bool.true)) Bool.true)) <|
 opt.bnd T9 _ (g32 it p ((p.cut [[(D.int .i64 (0 : Int)), (D.int .i64 (0 : Int))], [(D.int .i64 (4 : Int)), (D.int .i64 (0 : Int))], [(D.int .i64 (0 : Int)), (D.int .i64 (4 : Int))]] 0 (p.len [[(D.int .i64 (0 : Int)), (D.int .i64 (0 : Int))], [(D.int .i64 (4 : Int)), (D.int .i64 (0 : Int))], [(D.int .i64 (0 : Int)), (D.int .i64 (4 : Int))]])), ((p.cut [[(D.list Bool.true 2 [[(D.int .i64 (0 : Int)), (D.int .i64 (0 : Int))], [(D.int .i64 (1 : Int)), (D.int .i64 (0 : Int))]])]] 0 (p.len [[(D.list Bool.true 2 [[(D.int .i64 (0 : Int)), (D.int .i64 (0 : Int))], [(D.int .i64 (1 : Int)), (D.int .i64 (0 : Int))]])]])), ((p.cut [[(D.int .i64 (4 : Int)), (D.int .i64 (2 : Int))]] 0 (p.len [[(D.int .i64 (4 : Int)), (D.int .i64 (2 : Int))]])), ([], ()))))) fun g =>
 opt.need _ (p.and (p.and (p.leN (p.add 0 (p.len [[(D.int .i64 (0 : Int)), (D.int .i64 (0 : Int))], [(D.int .i64 (4 : Int)), (D.int .i64 (0 : Int))], [(D.int .i64 (0 : Int)), (D.int .i64 (4 : Int))]])) (p.len [[(D.int .i64 (0 : Int)), (D.int .i64 (0 : Int))], [(D.int .i64 (4 : Int)), (D.int .i64 (0 : Int))], [(D.int .i64 (0 : Int)), (D.int .i64 (4 : Int))]])) (p.and (p.leN (p.add 0 (p.len [[(D.list Bool.true 2 [[(D.int .i64 (0 : Int)), (D.int .i64 (0 : Int))], [(D.int .i64 (1 : Int)), (D.int .i64 (0 : Int))]])]])) (p.len [[(D.list Bool.true 2 [[(D.int .i64 (0 : Int)), (D.int .i64 (0 : Int))], [(D.int .i64 (1 : Int)), (D.int .i64 (0 : Int))]])]])) Bool.true)) (p.and (p.and (p.leN (p.add 0 (p.len [[(D.int .i64 (3 : Int)), (D.int .i64 (2 : Int))]])) (p.len [[(D.int .i64 (3 : Int)), (D.int .i64 (2 : Int))]])) (p.and Bool.true Bool.true)) Bool.true)) <|
 opt.bnd T9 _ (g37 it p ((p.cut [[(D.int .i64 (0 : Int)), (D.int .i64 (0 : Int))], [(D.int .i64 (4 : Int)), (D.int .i64 (0 : Int))], [(D.int .i64 (0 : Int)), (D.int .i64 (4 : Int))]] 0 (p.len [[(D.int .i64 (0 : Int)), (D.int .i64 (0 : Int))], [(D.int .i64 (4 : Int)), (D.int .i64 (0 : Int))], [(D.int .i64 (0 : Int)), (D.int .i64 (4 : Int))]])), ((p.cut [[(D.list Bool.true 2 [[(D.int .i64 (0 : Int)), (D.int .i64 (0 : Int))], [(D.int .i64 (1 : Int)), (D.int .i64 (0 : Int))]])]] 0 (p.len [[(D.list Bool.true 2 [[(D.int .i64 (0 : Int)), (D.int .i64 (0 : Int))], [(D.int .i64 (1 : Int)), (D.int .i64 (0 : Int))]])]])), ((p.cut [[(D.int .i64 (3 : Int)), (D.int .i64 (2 : Int))]] 0 (p.len [[(D.int .i64 (3 : Int)), (D.int .i64 (2 : Int))]])), ([], ()))))) fun h =>
 opt.need _ (p.and (p.and (p.leN (p.add 0 (p.len [[(D.int .i64 (0 : Int)), (D.int .i64 (0 : Int))], [(D.int .i64 (4 : Int)), (D.int .i64 (0 : Int))], [(D.int .i64 (0 : Int)), (D.int .i64 (4 : Int))]])) (p.len [[(D.int .i64 (0 : Int)), (D.int .i64 (0 : Int))], [(D.int .i64 (4 : Int)), (D.int .i64 (0 : Int))], [(D.int .i64 (0 : Int)), (D.int .i64 (4 : Int))]])) (p.and (p.leN (p.add 0 (p.len [[(D.list Bool.true 2 [[(D.int .i64 (0 : Int)), (D.int .i64 (0 : Int))], [(D.int .i64 (1 : Int)), (D.int .i64 (0 : Int))]])]])) (p.len [[(D.list Bool.true 2 [[(D.int .i64 (0 : Int)), (D.int .i64 (0 : Int))], [(D.int .i64 (1 : Int)), (D.int .i64 (0 : Int))]])]])) Bool.true)) (p.and (p.and (p.leN (p.add 0 (p.len [[(D.int .i64 (4 : Int)), (D.int .i64 (2 : Int))]])) (p.len [[(D.int .i64 (4 : Int)), (D.int .i64 (2 : Int))]])) (p.and Bool.true Bool.true)) Bool.true)) <|
 opt.bnd T7 _ (g25 it p ((p.cut [[(D.int .i64 (0 : Int)), (D.int .i64 (0 : Int))], [(D.int .i64 (4 : Int)), (D.int .i64 (0 : Int))], [(D.int .i64 (0 : Int)), (D.int .i64 (4 : Int))]] 0 (p.len [[(D.int .i64 (0 : Int)), (D.int .i64 (0 : Int))], [(D.int .i64 (4 : Int)), (D.int .i64 (0 : Int))], [(D.int .i64 (0 : Int)), (D.int .i64 (4 : Int))]])), ((p.cut [[(D.list Bool.true 2 [[(D.int .i64 (0 : Int)), (D.int .i64 (0 : Int))], [(D.int .i64 (1 : Int)), (D.int .i64 (0 : Int))]])]] 0 (p.len [[(D.list Bool.true 2 [[(D.int .i64 (0 : Int)), (D.int .i64 (0 : Int))], [(D.int .i64 (1 : Int)), (D.int .i64 (0 : Int))]])]])), ((p.cut [[(D.int .i64 (4 : Int)), (D.int .i64 (2 : Int))]] 0 (p.len [[(D.int .i64 (4 : Int)), (D.int .i64 (2 : Int))]])), ([], ()))))) fun i =>
 opt.need _ (p.and (bif (bif (p.leN (p.add 0 (p.len [[(D.int .i64 (0 : Int)), (D.int .i64 (0 : Int))], [(D.int .i64 (4 : Int)), (D.int .i64 (0 : Int))], [(D.int .i64 (0 : Int)), (D.int .i64 (4 : Int))]])) (p.len [[(D.int .i64 (0 : Int)), (D.int .i64 (0 : Int))], [(D.int .i64 (4 : Int)), (D.int .i64 (0 : Int))], [(D.int .i64 (0 : Int)), (D.int .i64 (4 : Int))]])) then (bif (p.leN (p.add 0 (p.len [[(D.list Bool.true 2 [[(D.int .i64 (0 : Int)), (D.int .i64 (0 : Int))], [(D.int .i64 (1 : Int)), (D.int .i64 (0 : Int))]])]])) (p.len [[(D.list Bool.true 2 [[(D.int .i64 (0 : Int)), (D.int .i64 (0 : Int))], [(D.int .i64 (1 : Int)), (D.int .i64 (0 : Int))]])]])) then Bool.true else Bool.false) else Bool.false) then (bif (bif (p.leN (p.add 0 (p.len [[(D.int .i64 (4 : Int)), (D.int .i64 (2 : Int))]])) (p.len [[(D.int .i64 (4 : Int)), (D.int .i64 (2 : Int))]])) then Bool.true else Bool.false) then (bif (bif (p.leN (p.add 0 (p.len [[(D.int .i64 (3 : Int)), (D.int .i64 (2 : Int))]])) (p.len [[(D.int .i64 (3 : Int)), (D.int .i64 (2 : Int))]])) then Bool.true else Bool.false) then Bool.true else Bool.false) else Bool.false) else Bool.false) Bool.true) <|
 opt.bnd T7 _ (g27 it p ([[(D.list Bool.false 2 (p.cut [[(D.int .i64 (0 : Int)), (D.int .i64 (0 : Int))], [(D.int .i64 (4 : Int)), (D.int .i64 (0 : Int))], [(D.int .i64 (0 : Int)), (D.int .i64 (4 : Int))]] 0 (p.len [[(D.int .i64 (0 : Int)), (D.int .i64 (0 : Int))], [(D.int .i64 (4 : Int)), (D.int .i64 (0 : Int))], [(D.int .i64 (0 : Int)), (D.int .i64 (4 : Int))]]))), (D.list Bool.false 1 (p.cut [[(D.list Bool.true 2 [[(D.int .i64 (0 : Int)), (D.int .i64 (0 : Int))], [(D.int .i64 (1 : Int)), (D.int .i64 (0 : Int))]])]] 0 (p.len [[(D.list Bool.true 2 [[(D.int .i64 (0 : Int)), (D.int .i64 (0 : Int))], [(D.int .i64 (1 : Int)), (D.int .i64 (0 : Int))]])]])))], [(D.list Bool.false 2 (p.cut [[(D.int .i64 (4 : Int)), (D.int .i64 (2 : Int))]] 0 (p.len [[(D.int .i64 (4 : Int)), (D.int .i64 (2 : Int))]]))), (D.list Bool.true 0 [])], [(D.list Bool.false 2 (p.cut [[(D.int .i64 (3 : Int)), (D.int .i64 (2 : Int))]] 0 (p.len [[(D.int .i64 (3 : Int)), (D.int .i64 (2 : Int))]]))), (D.list Bool.true 0 [])]], ())) fun j =>
 opt.bnd ((LD × (LD × (LD × (LD × (LD × T80)))))) _ (
 opt.run ((LD × (LD × (LD × (LD × (LD × T80)))))) (
 opt.ask _ (p.cmp .neq a.2.1 (0 : Int)) (
 opt.need _ (p.eqN 0 0) <|
 opt.need _ (p.eqN (p.len [[(D.int .i64 (0 : Int)), (D.int .i64 (0 : Int))], [(D.int .i64 (4 : Int)), (D.int .i64 (0 : Int))], [(D.int .i64 (0 : Int)), (D.int .i64 (4 : Int))]]) (p.len [[(D.int .i64 (0 : Int)), (D.int .i64 (0 : Int))], [(D.int .i64 (4 : Int)), (D.int .i64 (0 : Int))], [(D.int .i64 (0 : Int)), (D.int .i64 (4 : Int))]])) <|
 opt.need _ (p.eqN (p.len [[(D.int .i64 (0 : Int)), (D.int .i64 (0 : Int))], [(D.int .i64 (4 : Int)), (D.int .i64 (0 : Int))], [(D.int .i64 (0 : Int)), (D.int .i64 (4 : Int))]]) (p.len [[(D.int .i64 (0 : Int)), (D.int .i64 (0 : Int))], [(D.int .i64 (4 : Int)), (D.int .i64 (0 : Int))], [(D.int .i64 (0 : Int)), (D.int .i64 (4 : Int))]])) <|
 opt.need _ (p.eqN 0 0) <|
 opt.need _ (p.eqN (p.len [[(D.list Bool.true 2 [[(D.int .i64 (0 : Int)), (D.int .i64 (0 : Int))], [(D.int .i64 (1 : Int)), (D.int .i64 (0 : Int))]])]]) (p.len [[(D.list Bool.true 2 [[(D.int .i64 (0 : Int)), (D.int .i64 (0 : Int))], [(D.int .i64 (1 : Int)), (D.int .i64 (0 : Int))]])]])) <|
 opt.need _ (p.eqN (p.len [[(D.list Bool.true 2 [[(D.int .i64 (0 : Int)), (D.int .i64 (0 : Int))], [(D.int .i64 (1 : Int)), (D.int .i64 (0 : Int))]])]]) (p.len [[(D.list Bool.true 2 [[(D.int .i64 (0 : Int)), (D.int .i64 (0 : Int))], [(D.int .i64 (1 : Int)), (D.int .i64 (0 : Int))]])]])) <|
 opt.need _ (p.eqN 0 0) <|
 opt.need _ (p.eqN (p.len [[(D.int .i64 (4 : Int)), (D.int .i64 (2 : Int))]]) (p.len [[(D.int .i64 (4 : Int)), (D.int .i64 (2 : Int))]])) <|
 opt.need _ (p.eqN (p.len [[(D.int .i64 (4 : Int)), (D.int .i64 (2 : Int))]]) (p.len [[(D.int .i64 (4 : Int)), (D.int .i64 (2 : Int))]])) <|
 opt.need _ (p.eqN 0 0) <|
 opt.need _ (p.eqN (p.len [[(D.int .i64 (3 : Int)), (D.int .i64 (2 : Int))]]) (p.len [[(D.int .i64 (3 : Int)), (D.int .i64 (2 : Int))]])) <|
 opt.need _ (p.eqN (p.len [[(D.int .i64 (3 : Int)), (D.int .i64 (2 : Int))]]) (p.len [[(D.int .i64 (3 : Int)), (D.int .i64 (2 : Int))]])) <|
 opt.need _ (p.eqN 0 0) <|
 opt.need _ (p.eqN (p.len a.1) (p.len a.1)) <|
 opt.ret _ (a.1, ([[(D.int .i64 (0 : Int)), (D.int .i64 (0 : Int))], [(D.int .i64 (4 : Int)), (D.int .i64 (0 : Int))], [(D.int .i64 (0 : Int)), (D.int .i64 (4 : Int))]], ([[(D.list Bool.true 2 [[(D.int .i64 (0 : Int)), (D.int .i64 (0 : Int))], [(D.int .i64 (1 : Int)), (D.int .i64 (0 : Int))]])]], ([[(D.int .i64 (4 : Int)), (D.int .i64 (2 : Int))]], ([[(D.int .i64 (3 : Int)), (D.int .i64 (2 : Int))]], (c.1, (c.2.1, (g.1, (g.2.1, (g.2.2.1, (h.1, (h.2.1, (h.2.2.1, (i.1, (i.2.1, (b.1, (j.1, (j.2.1, (Bool.true, ())))))))))))))))))))) (
 opt.ask _ (p.cmp .neq b.2.1 (0 : Int)) (
 opt.need _ (p.eqN 0 0) <|
 opt.need _ (p.eqN (p.len [[(D.int .i64 (0 : Int)), (D.int .i64 (0 : Int))], [(D.int .i64 (4 : Int)), (D.int .i64 (0 : Int))], [(D.int .i64 (0 : Int)), (D.int .i64 (4 : Int))]]) (p.len [[(D.int .i64 (0 : Int)), (D.int .i64 (0 : Int))], [(D.int .i64 (4 : Int)), (D.int .i64 (0 : Int))], [(D.int .i64 (0 : Int)), (D.int .i64 (4 : Int))]])) <|
 opt.need _ (p.eqN (p.len [[(D.int .i64 (0 : Int)), (D.int .i64 (0 : Int))], [(D.int .i64 (4 : Int)), (D.int .i64 (0 : Int))], [(D.int .i64 (0 : Int)), (D.int .i64 (4 : Int))]]) (p.len [[(D.int .i64 (0 : Int)), (D.int .i64 (0 : Int))], [(D.int .i64 (4 : Int)), (D.int .i64 (0 : Int))], [(D.int .i64 (0 : Int)), (D.int .i64 (4 : Int))]])) <|
 opt.need _ (p.eqN 0 0) <|
 opt.need _ (p.eqN (p.len [[(D.list Bool.true 2 [[(D.int .i64 (0 : Int)), (D.int .i64 (0 : Int))], [(D.int .i64 (1 : Int)), (D.int .i64 (0 : Int))]])]]) (p.len [[(D.list Bool.true 2 [[(D.int .i64 (0 : Int)), (D.int .i64 (0 : Int))], [(D.int .i64 (1 : Int)), (D.int .i64 (0 : Int))]])]])) <|
 opt.need _ (p.eqN (p.len [[(D.list Bool.true 2 [[(D.int .i64 (0 : Int)), (D.int .i64 (0 : Int))], [(D.int .i64 (1 : Int)), (D.int .i64 (0 : Int))]])]]) (p.len [[(D.list Bool.true 2 [[(D.int .i64 (0 : Int)), (D.int .i64 (0 : Int))], [(D.int .i64 (1 : Int)), (D.int .i64 (0 : Int))]])]])) <|
 opt.need _ (p.eqN 0 0) <|
 opt.need _ (p.eqN (p.len [[(D.int .i64 (4 : Int)), (D.int .i64 (2 : Int))]]) (p.len [[(D.int .i64 (4 : Int)), (D.int .i64 (2 : Int))]])) <|
 opt.need _ (p.eqN (p.len [[(D.int .i64 (4 : Int)), (D.int .i64 (2 : Int))]]) (p.len [[(D.int .i64 (4 : Int)), (D.int .i64 (2 : Int))]])) <|
 opt.need _ (p.eqN 0 0) <|
 opt.need _ (p.eqN (p.len [[(D.int .i64 (3 : Int)), (D.int .i64 (2 : Int))]]) (p.len [[(D.int .i64 (3 : Int)), (D.int .i64 (2 : Int))]])) <|
 opt.need _ (p.eqN (p.len [[(D.int .i64 (3 : Int)), (D.int .i64 (2 : Int))]]) (p.len [[(D.int .i64 (3 : Int)), (D.int .i64 (2 : Int))]])) <|
 opt.need _ (p.eqN 0 0) <|
 opt.need _ (p.eqN (p.len a.1) (p.len a.1)) <|
 opt.ret _ (a.1, ([[(D.int .i64 (0 : Int)), (D.int .i64 (0 : Int))], [(D.int .i64 (4 : Int)), (D.int .i64 (0 : Int))], [(D.int .i64 (0 : Int)), (D.int .i64 (4 : Int))]], ([[(D.list Bool.true 2 [[(D.int .i64 (0 : Int)), (D.int .i64 (0 : Int))], [(D.int .i64 (1 : Int)), (D.int .i64 (0 : Int))]])]], ([[(D.int .i64 (4 : Int)), (D.int .i64 (2 : Int))]], ([[(D.int .i64 (3 : Int)), (D.int .i64 (2 : Int))]], (c.1, (c.2.1, (g.1, (g.2.1, (g.2.2.1, (h.1, (h.2.1, (h.2.2.1, (i.1, (i.2.1, (b.1, (j.1, (j.2.1, (Bool.true, ())))))))))))))))))))) (
 opt.ask _ (p.cmp .neq c.2.2.1 (0 : Int)) (
 opt.need _ (p.eqN 0 0) <|
 opt.need _ (p.eqN (p.len [[(D.int .i64 (0 : Int)), (D.int .i64 (0 : Int))], [(D.int .i64 (4 : Int)), (D.int .i64 (0 : Int))], [(D.int .i64 (0 : Int)), (D.int .i64 (4 : Int))]]) (p.len [[(D.int .i64 (0 : Int)), (D.int .i64 (0 : Int))], [(D.int .i64 (4 : Int)), (D.int .i64 (0 : Int))], [(D.int .i64 (0 : Int)), (D.int .i64 (4 : Int))]])) <|
 opt.need _ (p.eqN (p.len [[(D.int .i64 (0 : Int)), (D.int .i64 (0 : Int))], [(D.int .i64 (4 : Int)), (D.int .i64 (0 : Int))], [(D.int .i64 (0 : Int)), (D.int .i64 (4 : Int))]]) (p.len [[(D.int .i64 (0 : Int)), (D.int .i64 (0 : Int))], [(D.int .i64 (4 : Int)), (D.int .i64 (0 : Int))], [(D.int .i64 (0 : Int)), (D.int .i64 (4 : Int))]])) <|
 opt.need _ (p.eqN 0 0) <|
 opt.need _ (p.eqN (p.len [[(D.list Bool.true 2 [[(D.int .i64 (0 : Int)), (D.int .i64 (0 : Int))], [(D.int .i64 (1 : Int)), (D.int .i64 (0 : Int))]])]]) (p.len [[(D.list Bool.true 2 [[(D.int .i64 (0 : Int)), (D.int .i64 (0 : Int))], [(D.int .i64 (1 : Int)), (D.int .i64 (0 : Int))]])]])) <|
 opt.need _ (p.eqN (p.len [[(D.list Bool.true 2 [[(D.int .i64 (0 : Int)), (D.int .i64 (0 : Int))], [(D.int .i64 (1 : Int)), (D.int .i64 (0 : Int))]])]]) (p.len [[(D.list Bool.true 2 [[(D.int .i64 (0 : Int)), (D.int .i64 (0 : Int))], [(D.int .i64 (1 : Int)), (D.int .i64 (0 : Int))]])]])) <|
 opt.need _ (p.eqN 0 0) <|
 opt.need _ (p.eqN (p.len [[(D.int .i64 (4 : Int)), (D.int .i64 (2 : Int))]]) (p.len [[(D.int .i64 (4 : Int)), (D.int .i64 (2 : Int))]])) <|
 opt.need _ (p.eqN (p.len [[(D.int .i64 (4 : Int)), (D.int .i64 (2 : Int))]]) (p.len [[(D.int .i64 (4 : Int)), (D.int .i64 (2 : Int))]])) <|
 opt.need _ (p.eqN 0 0) <|
 opt.need _ (p.eqN (p.len [[(D.int .i64 (3 : Int)), (D.int .i64 (2 : Int))]]) (p.len [[(D.int .i64 (3 : Int)), (D.int .i64 (2 : Int))]])) <|
 opt.need _ (p.eqN (p.len [[(D.int .i64 (3 : Int)), (D.int .i64 (2 : Int))]]) (p.len [[(D.int .i64 (3 : Int)), (D.int .i64 (2 : Int))]])) <|
 opt.need _ (p.eqN 0 0) <|
 opt.need _ (p.eqN (p.len a.1) (p.len a.1)) <|
 opt.ret _ (a.1, ([[(D.int .i64 (0 : Int)), (D.int .i64 (0 : Int))], [(D.int .i64 (4 : Int)), (D.int .i64 (0 : Int))], [(D.int .i64 (0 : Int)), (D.int .i64 (4 : Int))]], ([[(D.list Bool.true 2 [[(D.int .i64 (0 : Int)), (D.int .i64 (0 : Int))], [(D.int .i64 (1 : Int)), (D.int .i64 (0 : Int))]])]], ([[(D.int .i64 (4 : Int)), (D.int .i64 (2 : Int))]], ([[(D.int .i64 (3 : Int)), (D.int .i64 (2 : Int))]], (c.1, (c.2.1, (g.1, (g.2.1, (g.2.2.1, (h.1, (h.2.1, (h.2.2.1, (i.1, (i.2.1, (b.1, (j.1, (j.2.1, (Bool.true, ())))))))))))))))))))) (
 opt.ask _ (p.cmp .neq d.1 (0 : Int)) (
 opt.need _ (p.eqN 0 0) <|
 opt.need _ (p.eqN (p.len [[(D.int .i64 (0 : Int)), (D.int .i64 (0 : Int))], [(D.int .i64 (4 : Int)), (D.int .i64 (0 : Int))], [(D.int .i64 (0 : Int)), (D.int .i64 (4 : Int))]]) (p.len [[(D.int .i64 (0 : Int)), (D.int .i64 (0 : Int))], [(D.int .i64 (4 : Int)), (D.int .i64 (0 : Int))], [(D.int .i64 (0 : Int)), (D.int .i64 (4 : Int))]])) <|
 opt.need _ (p.eqN (p.len [[(D.int .i64 (0 : Int)), (D.int .i64 (0 : Int))], [(D.int .i64 (4 : Int)), (D.int .i64 (0 : Int))], [(D.int .i64 (0 : Int)), (D.int .i64 (4 : Int))]]) (p.len [[(D.int .i64 (0 : Int)), (D.int .i64 (0 : Int))], [(D.int .i64 (4 : Int)), (D.int .i64 (0 : Int))], [(D.int .i64 (0 : Int)), (D.int .i64 (4 : Int))]])) <|
 opt.need _ (p.eqN 0 0) <|
 opt.need _ (p.eqN (p.len [[(D.list Bool.true 2 [[(D.int .i64 (0 : Int)), (D.int .i64 (0 : Int))], [(D.int .i64 (1 : Int)), (D.int .i64 (0 : Int))]])]]) (p.len [[(D.list Bool.true 2 [[(D.int .i64 (0 : Int)), (D.int .i64 (0 : Int))], [(D.int .i64 (1 : Int)), (D.int .i64 (0 : Int))]])]])) <|
 opt.need _ (p.eqN (p.len [[(D.list Bool.true 2 [[(D.int .i64 (0 : Int)), (D.int .i64 (0 : Int))], [(D.int .i64 (1 : Int)), (D.int .i64 (0 : Int))]])]]) (p.len [[(D.list Bool.true 2 [[(D.int .i64 (0 : Int)), (D.int .i64 (0 : Int))], [(D.int .i64 (1 : Int)), (D.int .i64 (0 : Int))]])]])) <|
 opt.need _ (p.eqN 0 0) <|
 opt.need _ (p.eqN (p.len [[(D.int .i64 (4 : Int)), (D.int .i64 (2 : Int))]]) (p.len [[(D.int .i64 (4 : Int)), (D.int .i64 (2 : Int))]])) <|
 opt.need _ (p.eqN (p.len [[(D.int .i64 (4 : Int)), (D.int .i64 (2 : Int))]]) (p.len [[(D.int .i64 (4 : Int)), (D.int .i64 (2 : Int))]])) <|
 opt.need _ (p.eqN 0 0) <|
 opt.need _ (p.eqN (p.len [[(D.int .i64 (3 : Int)), (D.int .i64 (2 : Int))]]) (p.len [[(D.int .i64 (3 : Int)), (D.int .i64 (2 : Int))]])) <|
 opt.need _ (p.eqN (p.len [[(D.int .i64 (3 : Int)), (D.int .i64 (2 : Int))]]) (p.len [[(D.int .i64 (3 : Int)), (D.int .i64 (2 : Int))]])) <|
 opt.need _ (p.eqN 0 0) <|
 opt.need _ (p.eqN (p.len a.1) (p.len a.1)) <|
 opt.ret _ (a.1, ([[(D.int .i64 (0 : Int)), (D.int .i64 (0 : Int))], [(D.int .i64 (4 : Int)), (D.int .i64 (0 : Int))], [(D.int .i64 (0 : Int)), (D.int .i64 (4 : Int))]], ([[(D.list Bool.true 2 [[(D.int .i64 (0 : Int)), (D.int .i64 (0 : Int))], [(D.int .i64 (1 : Int)), (D.int .i64 (0 : Int))]])]], ([[(D.int .i64 (4 : Int)), (D.int .i64 (2 : Int))]], ([[(D.int .i64 (3 : Int)), (D.int .i64 (2 : Int))]], (c.1, (c.2.1, (g.1, (g.2.1, (g.2.2.1, (h.1, (h.2.1, (h.2.2.1, (i.1, (i.2.1, (b.1, (j.1, (j.2.1, (Bool.true, ())))))))))))))))))))) (
 opt.ask _ (p.cmp .neq e.1 (14 : Int)) (
 opt.need _ (p.eqN 0 0) <|
 opt.need _ (p.eqN (p.len [[(D.int .i64 (0 : Int)), (D.int .i64 (0 : Int))], [(D.int .i64 (4 : Int)), (D.int .i64 (0 : Int))], [(D.int .i64 (0 : Int)), (D.int .i64 (4 : Int))]]) (p.len [[(D.int .i64 (0 : Int)), (D.int .i64 (0 : Int))], [(D.int .i64 (4 : Int)), (D.int .i64 (0 : Int))], [(D.int .i64 (0 : Int)), (D.int .i64 (4 : Int))]])) <|
 opt.need _ (p.eqN (p.len [[(D.int .i64 (0 : Int)), (D.int .i64 (0 : Int))], [(D.int .i64 (4 : Int)), (D.int .i64 (0 : Int))], [(D.int .i64 (0 : Int)), (D.int .i64 (4 : Int))]]) (p.len [[(D.int .i64 (0 : Int)), (D.int .i64 (0 : Int))], [(D.int .i64 (4 : Int)), (D.int .i64 (0 : Int))], [(D.int .i64 (0 : Int)), (D.int .i64 (4 : Int))]])) <|
 opt.need _ (p.eqN 0 0) <|
 opt.need _ (p.eqN (p.len [[(D.list Bool.true 2 [[(D.int .i64 (0 : Int)), (D.int .i64 (0 : Int))], [(D.int .i64 (1 : Int)), (D.int .i64 (0 : Int))]])]]) (p.len [[(D.list Bool.true 2 [[(D.int .i64 (0 : Int)), (D.int .i64 (0 : Int))], [(D.int .i64 (1 : Int)), (D.int .i64 (0 : Int))]])]])) <|
 opt.need _ (p.eqN (p.len [[(D.list Bool.true 2 [[(D.int .i64 (0 : Int)), (D.int .i64 (0 : Int))], [(D.int .i64 (1 : Int)), (D.int .i64 (0 : Int))]])]]) (p.len [[(D.list Bool.true 2 [[(D.int .i64 (0 : Int)), (D.int .i64 (0 : Int))], [(D.int .i64 (1 : Int)), (D.int .i64 (0 : Int))]])]])) <|
 opt.need _ (p.eqN 0 0) <|
 opt.need _ (p.eqN (p.len [[(D.int .i64 (4 : Int)), (D.int .i64 (2 : Int))]]) (p.len [[(D.int .i64 (4 : Int)), (D.int .i64 (2 : Int))]])) <|
 opt.need _ (p.eqN (p.len [[(D.int .i64 (4 : Int)), (D.int .i64 (2 : Int))]]) (p.len [[(D.int .i64 (4 : Int)), (D.int .i64 (2 : Int))]])) <|
 opt.need _ (p.eqN 0 0) <|
 opt.need _ (p.eqN (p.len [[(D.int .i64 (3 : Int)), (D.int .i64 (2 : Int))]]) (p.len [[(D.int .i64 (3 : Int)), (D.int .i64 (2 : Int))]])) <|
 opt.need _ (p.eqN (p.len [[(D.int .i64 (3 : Int)), (D.int .i64 (2 : Int))]]) (p.len [[(D.int .i64 (3 : Int)), (D.int .i64 (2 : Int))]])) <|
 opt.need _ (p.eqN 0 0) <|
 opt.need _ (p.eqN (p.len a.1) (p.len a.1)) <|
 opt.ret _ (a.1, ([[(D.int .i64 (0 : Int)), (D.int .i64 (0 : Int))], [(D.int .i64 (4 : Int)), (D.int .i64 (0 : Int))], [(D.int .i64 (0 : Int)), (D.int .i64 (4 : Int))]], ([[(D.list Bool.true 2 [[(D.int .i64 (0 : Int)), (D.int .i64 (0 : Int))], [(D.int .i64 (1 : Int)), (D.int .i64 (0 : Int))]])]], ([[(D.int .i64 (4 : Int)), (D.int .i64 (2 : Int))]], ([[(D.int .i64 (3 : Int)), (D.int .i64 (2 : Int))]], (c.1, (c.2.1, (g.1, (g.2.1, (g.2.2.1, (h.1, (h.2.1, (h.2.2.1, (i.1, (i.2.1, (b.1, (j.1, (j.2.1, (Bool.true, ())))))))))))))))))))) (
 opt.ask _ (p.cmp .neq f.2.2.2.1 (21 : Int)) (
 opt.need _ (p.eqN 0 0) <|
 opt.need _ (p.eqN (p.len [[(D.int .i64 (0 : Int)), (D.int .i64 (0 : Int))], [(D.int .i64 (4 : Int)), (D.int .i64 (0 : Int))], [(D.int .i64 (0 : Int)), (D.int .i64 (4 : Int))]]) (p.len [[(D.int .i64 (0 : Int)), (D.int .i64 (0 : Int))], [(D.int .i64 (4 : Int)), (D.int .i64 (0 : Int))], [(D.int .i64 (0 : Int)), (D.int .i64 (4 : Int))]])) <|
 opt.need _ (p.eqN (p.len [[(D.int .i64 (0 : Int)), (D.int .i64 (0 : Int))], [(D.int .i64 (4 : Int)), (D.int .i64 (0 : Int))], [(D.int .i64 (0 : Int)), (D.int .i64 (4 : Int))]]) (p.len [[(D.int .i64 (0 : Int)), (D.int .i64 (0 : Int))], [(D.int .i64 (4 : Int)), (D.int .i64 (0 : Int))], [(D.int .i64 (0 : Int)), (D.int .i64 (4 : Int))]])) <|
 opt.need _ (p.eqN 0 0) <|
 opt.need _ (p.eqN (p.len [[(D.list Bool.true 2 [[(D.int .i64 (0 : Int)), (D.int .i64 (0 : Int))], [(D.int .i64 (1 : Int)), (D.int .i64 (0 : Int))]])]]) (p.len [[(D.list Bool.true 2 [[(D.int .i64 (0 : Int)), (D.int .i64 (0 : Int))], [(D.int .i64 (1 : Int)), (D.int .i64 (0 : Int))]])]])) <|
 opt.need _ (p.eqN (p.len [[(D.list Bool.true 2 [[(D.int .i64 (0 : Int)), (D.int .i64 (0 : Int))], [(D.int .i64 (1 : Int)), (D.int .i64 (0 : Int))]])]]) (p.len [[(D.list Bool.true 2 [[(D.int .i64 (0 : Int)), (D.int .i64 (0 : Int))], [(D.int .i64 (1 : Int)), (D.int .i64 (0 : Int))]])]])) <|
 opt.need _ (p.eqN 0 0) <|
 opt.need _ (p.eqN (p.len [[(D.int .i64 (4 : Int)), (D.int .i64 (2 : Int))]]) (p.len [[(D.int .i64 (4 : Int)), (D.int .i64 (2 : Int))]])) <|
 opt.need _ (p.eqN (p.len [[(D.int .i64 (4 : Int)), (D.int .i64 (2 : Int))]]) (p.len [[(D.int .i64 (4 : Int)), (D.int .i64 (2 : Int))]])) <|
 opt.need _ (p.eqN 0 0) <|
 opt.need _ (p.eqN (p.len [[(D.int .i64 (3 : Int)), (D.int .i64 (2 : Int))]]) (p.len [[(D.int .i64 (3 : Int)), (D.int .i64 (2 : Int))]])) <|
 opt.need _ (p.eqN (p.len [[(D.int .i64 (3 : Int)), (D.int .i64 (2 : Int))]]) (p.len [[(D.int .i64 (3 : Int)), (D.int .i64 (2 : Int))]])) <|
 opt.need _ (p.eqN 0 0) <|
 opt.need _ (p.eqN (p.len a.1) (p.len a.1)) <|
 opt.ret _ (a.1, ([[(D.int .i64 (0 : Int)), (D.int .i64 (0 : Int))], [(D.int .i64 (4 : Int)), (D.int .i64 (0 : Int))], [(D.int .i64 (0 : Int)), (D.int .i64 (4 : Int))]], ([[(D.list Bool.true 2 [[(D.int .i64 (0 : Int)), (D.int .i64 (0 : Int))], [(D.int .i64 (1 : Int)), (D.int .i64 (0 : Int))]])]], ([[(D.int .i64 (4 : Int)), (D.int .i64 (2 : Int))]], ([[(D.int .i64 (3 : Int)), (D.int .i64 (2 : Int))]], (c.1, (c.2.1, (g.1, (g.2.1, (g.2.2.1, (h.1, (h.2.1, (h.2.2.1, (i.1, (i.2.1, (b.1, (j.1, (j.2.1, (Bool.true, ())))))))))))))))))))) (
 opt.ask _ (p.cmp .neq g.2.2.2.1 (0 : Int)) (
 opt.need _ (p.eqN 0 0) <|
 opt.need _ (p.eqN (p.len [[(D.int .i64 (0 : Int)), (D.int .i64 (0 : Int))], [(D.int .i64 (4 : Int)), (D.int .i64 (0 : Int))], [(D.int .i64 (0 : Int)), (D.int .i64 (4 : Int))]]) (p.len [[(D.int .i64 (0 : Int)), (D.int .i64 (0 : Int))], [(D.int .i64 (4 : Int)), (D.int .i64 (0 : Int))], [(D.int .i64 (0 : Int)), (D.int .i64 (4 : Int))]])) <|
 opt.need _ (p.eqN (p.len [[(D.int .i64 (0 : Int)), (D.int .i64 (0 : Int))], [(D.int .i64 (4 : Int)), (D.int .i64 (0 : Int))], [(D.int .i64 (0 : Int)), (D.int .i64 (4 : Int))]]) (p.len [[(D.int .i64 (0 : Int)), (D.int .i64 (0 : Int))], [(D.int .i64 (4 : Int)), (D.int .i64 (0 : Int))], [(D.int .i64 (0 : Int)), (D.int .i64 (4 : Int))]])) <|
 opt.need _ (p.eqN 0 0) <|
 opt.need _ (p.eqN (p.len [[(D.list Bool.true 2 [[(D.int .i64 (0 : Int)), (D.int .i64 (0 : Int))], [(D.int .i64 (1 : Int)), (D.int .i64 (0 : Int))]])]]) (p.len [[(D.list Bool.true 2 [[(D.int .i64 (0 : Int)), (D.int .i64 (0 : Int))], [(D.int .i64 (1 : Int)), (D.int .i64 (0 : Int))]])]])) <|
 opt.need _ (p.eqN (p.len [[(D.list Bool.true 2 [[(D.int .i64 (0 : Int)), (D.int .i64 (0 : Int))], [(D.int .i64 (1 : Int)), (D.int .i64 (0 : Int))]])]]) (p.len [[(D.list Bool.true 2 [[(D.int .i64 (0 : Int)), (D.int .i64 (0 : Int))], [(D.int .i64 (1 : Int)), (D.int .i64 (0 : Int))]])]])) <|
 opt.need _ (p.eqN 0 0) <|
 opt.need _ (p.eqN (p.len [[(D.int .i64 (4 : Int)), (D.int .i64 (2 : Int))]]) (p.len [[(D.int .i64 (4 : Int)), (D.int .i64 (2 : Int))]])) <|
 opt.need _ (p.eqN (p.len [[(D.int .i64 (4 : Int)), (D.int .i64 (2 : Int))]]) (p.len [[(D.int .i64 (4 : Int)), (D.int .i64 (2 : Int))]])) <|
 opt.need _ (p.eqN 0 0) <|
 opt.need _ (p.eqN (p.len [[(D.int .i64 (3 : Int)), (D.int .i64 (2 : Int))]]) (p.len [[(D.int .i64 (3 : Int)), (D.int .i64 (2 : Int))]])) <|
 opt.need _ (p.eqN (p.len [[(D.int .i64 (3 : Int)), (D.int .i64 (2 : Int))]]) (p.len [[(D.int .i64 (3 : Int)), (D.int .i64 (2 : Int))]])) <|
 opt.need _ (p.eqN 0 0) <|
 opt.need _ (p.eqN (p.len a.1) (p.len a.1)) <|
 opt.ret _ (a.1, ([[(D.int .i64 (0 : Int)), (D.int .i64 (0 : Int))], [(D.int .i64 (4 : Int)), (D.int .i64 (0 : Int))], [(D.int .i64 (0 : Int)), (D.int .i64 (4 : Int))]], ([[(D.list Bool.true 2 [[(D.int .i64 (0 : Int)), (D.int .i64 (0 : Int))], [(D.int .i64 (1 : Int)), (D.int .i64 (0 : Int))]])]], ([[(D.int .i64 (4 : Int)), (D.int .i64 (2 : Int))]], ([[(D.int .i64 (3 : Int)), (D.int .i64 (2 : Int))]], (c.1, (c.2.1, (g.1, (g.2.1, (g.2.2.1, (h.1, (h.2.1, (h.2.2.1, (i.1, (i.2.1, (b.1, (j.1, (j.2.1, (Bool.true, ())))))))))))))))))))) (
 opt.ask _ (p.cmp .neq h.2.2.2.1 (0 : Int)) (
 opt.need _ (p.eqN 0 0) <|
 opt.need _ (p.eqN (p.len [[(D.int .i64 (0 : Int)), (D.int .i64 (0 : Int))], [(D.int .i64 (4 : Int)), (D.int .i64 (0 : Int))], [(D.int .i64 (0 : Int)), (D.int .i64 (4 : Int))]]) (p.len [[(D.int .i64 (0 : Int)), (D.int .i64 (0 : Int))], [(D.int .i64 (4 : Int)), (D.int .i64 (0 : Int))], [(D.int .i64 (0 : Int)), (D.int .i64 (4 : Int))]])) <|
 opt.need _ (p.eqN (p.len [[(D.int .i64 (0 : Int)), (D.int .i64 (0 : Int))], [(D.int .i64 (4 : Int)), (D.int .i64 (0 : Int))], [(D.int .i64 (0 : Int)), (D.int .i64 (4 : Int))]]) (p.len [[(D.int .i64 (0 : Int)), (D.int .i64 (0 : Int))], [(D.int .i64 (4 : Int)), (D.int .i64 (0 : Int))], [(D.int .i64 (0 : Int)), (D.int .i64 (4 : Int))]])) <|
 opt.need _ (p.eqN 0 0) <|
 opt.need _ (p.eqN (p.len [[(D.list Bool.true 2 [[(D.int .i64 (0 : Int)), (D.int .i64 (0 : Int))], [(D.int .i64 (1 : Int)), (D.int .i64 (0 : Int))]])]]) (p.len [[(D.list Bool.true 2 [[(D.int .i64 (0 : Int)), (D.int .i64 (0 : Int))], [(D.int .i64 (1 : Int)), (D.int .i64 (0 : Int))]])]])) <|
 opt.need _ (p.eqN (p.len [[(D.list Bool.true 2 [[(D.int .i64 (0 : Int)), (D.int .i64 (0 : Int))], [(D.int .i64 (1 : Int)), (D.int .i64 (0 : Int))]])]]) (p.len [[(D.list Bool.true 2 [[(D.int .i64 (0 : Int)), (D.int .i64 (0 : Int))], [(D.int .i64 (1 : Int)), (D.int .i64 (0 : Int))]])]])) <|
 opt.need _ (p.eqN 0 0) <|
 opt.need _ (p.eqN (p.len [[(D.int .i64 (4 : Int)), (D.int .i64 (2 : Int))]]) (p.len [[(D.int .i64 (4 : Int)), (D.int .i64 (2 : Int))]])) <|
 opt.need _ (p.eqN (p.len [[(D.int .i64 (4 : Int)), (D.int .i64 (2 : Int))]]) (p.len [[(D.int .i64 (4 : Int)), (D.int .i64 (2 : Int))]])) <|
 opt.need _ (p.eqN 0 0) <|
 opt.need _ (p.eqN (p.len [[(D.int .i64 (3 : Int)), (D.int .i64 (2 : Int))]]) (p.len [[(D.int .i64 (3 : Int)), (D.int .i64 (2 : Int))]])) <|
 opt.need _ (p.eqN (p.len [[(D.int .i64 (3 : Int)), (D.int .i64 (2 : Int))]]) (p.len [[(D.int .i64 (3 : Int)), (D.int .i64 (2 : Int))]])) <|
 opt.need _ (p.eqN 0 0) <|
 opt.need _ (p.eqN (p.len a.1) (p.len a.1)) <|
 opt.ret _ (a.1, ([[(D.int .i64 (0 : Int)), (D.int .i64 (0 : Int))], [(D.int .i64 (4 : Int)), (D.int .i64 (0 : Int))], [(D.int .i64 (0 : Int)), (D.int .i64 (4 : Int))]], ([[(D.list Bool.true 2 [[(D.int .i64 (0 : Int)), (D.int .i64 (0 : Int))], [(D.int .i64 (1 : Int)), (D.int .i64 (0 : Int))]])]], ([[(D.int .i64 (4 : Int)), (D.int .i64 (2 : Int))]], ([[(D.int .i64 (3 : Int)), (D.int .i64 (2 : Int))]], (c.1, (c.2.1, (g.1, (g.2.1, (g.2.2.1, (h.1, (h.2.1, (h.2.2.1, (i.1, (i.2.1, (b.1, (j.1, (j.2.1, (Bool.true, ())))))))))))))))))))) (
 opt.ask _ (p.cmp .neq i.2.2.1 (0 : Int)) (
 opt.need _ (p.eqN 0 0) <|
 opt.need _ (p.eqN (p.len [[(D.int .i64 (0 : Int)), (D.int .i64 (0 : Int))], [(D.int .i64 (4 : Int)), (D.int .i64 (0 : Int))], [(D.int .i64 (0 : Int)), (D.int .i64 (4 : Int))]]) (p.len [[(D.int .i64 (0 : Int)), (D.int .i64 (0 : Int))], [(D.int .i64 (4 : Int)), (D.int .i64 (0 : Int))], [(D.int .i64 (0 : Int)), (D.int .i64 (4 : Int))]])) <|
 opt.need _ (p.eqN (p.len [[(D.int .i64 (0 : Int)), (D.int .i64 (0 : Int))], [(D.int .i64 (4 : Int)), (D.int .i64 (0 : Int))], [(D.int .i64 (0 : Int)), (D.int .i64 (4 : Int))]]) (p.len [[(D.int .i64 (0 : Int)), (D.int .i64 (0 : Int))], [(D.int .i64 (4 : Int)), (D.int .i64 (0 : Int))], [(D.int .i64 (0 : Int)), (D.int .i64 (4 : Int))]])) <|
 opt.need _ (p.eqN 0 0) <|
 opt.need _ (p.eqN (p.len [[(D.list Bool.true 2 [[(D.int .i64 (0 : Int)), (D.int .i64 (0 : Int))], [(D.int .i64 (1 : Int)), (D.int .i64 (0 : Int))]])]]) (p.len [[(D.list Bool.true 2 [[(D.int .i64 (0 : Int)), (D.int .i64 (0 : Int))], [(D.int .i64 (1 : Int)), (D.int .i64 (0 : Int))]])]])) <|
 opt.need _ (p.eqN (p.len [[(D.list Bool.true 2 [[(D.int .i64 (0 : Int)), (D.int .i64 (0 : Int))], [(D.int .i64 (1 : Int)), (D.int .i64 (0 : Int))]])]]) (p.len [[(D.list Bool.true 2 [[(D.int .i64 (0 : Int)), (D.int .i64 (0 : Int))], [(D.int .i64 (1 : Int)), (D.int .i64 (0 : Int))]])]])) <|
 opt.need _ (p.eqN 0 0) <|
 opt.need _ (p.eqN (p.len [[(D.int .i64 (4 : Int)), (D.int .i64 (2 : Int))]]) (p.len [[(D.int .i64 (4 : Int)), (D.int .i64 (2 : Int))]])) <|
 opt.need _ (p.eqN (p.len [[(D.int .i64 (4 : Int)), (D.int .i64 (2 : Int))]]) (p.len [[(D.int .i64 (4 : Int)), (D.int .i64 (2 : Int))]])) <|
 opt.need _ (p.eqN 0 0) <|
 opt.need _ (p.eqN (p.len [[(D.int .i64 (3 : Int)), (D.int .i64 (2 : Int))]]) (p.len [[(D.int .i64 (3 : Int)), (D.int .i64 (2 : Int))]])) <|
 opt.need _ (p.eqN (p.len [[(D.int .i64 (3 : Int)), (D.int .i64 (2 : Int))]]) (p.len [[(D.int .i64 (3 : Int)), (D.int .i64 (2 : Int))]])) <|
 opt.need _ (p.eqN 0 0) <|
 opt.need _ (p.eqN (p.len a.1) (p.len a.1)) <|
 opt.ret _ (a.1, ([[(D.int .i64 (0 : Int)), (D.int .i64 (0 : Int))], [(D.int .i64 (4 : Int)), (D.int .i64 (0 : Int))], [(D.int .i64 (0 : Int)), (D.int .i64 (4 : Int))]], ([[(D.list Bool.true 2 [[(D.int .i64 (0 : Int)), (D.int .i64 (0 : Int))], [(D.int .i64 (1 : Int)), (D.int .i64 (0 : Int))]])]], ([[(D.int .i64 (4 : Int)), (D.int .i64 (2 : Int))]], ([[(D.int .i64 (3 : Int)), (D.int .i64 (2 : Int))]], (c.1, (c.2.1, (g.1, (g.2.1, (g.2.2.1, (h.1, (h.2.1, (h.2.2.1, (i.1, (i.2.1, (b.1, (j.1, (j.2.1, (Bool.true, ())))))))))))))))))))) (
 opt.need _ (p.eqN 0 0) <|
 opt.need _ (p.eqN (p.len [[(D.int .i64 (0 : Int)), (D.int .i64 (0 : Int))], [(D.int .i64 (4 : Int)), (D.int .i64 (0 : Int))], [(D.int .i64 (0 : Int)), (D.int .i64 (4 : Int))]]) (p.len [[(D.int .i64 (0 : Int)), (D.int .i64 (0 : Int))], [(D.int .i64 (4 : Int)), (D.int .i64 (0 : Int))], [(D.int .i64 (0 : Int)), (D.int .i64 (4 : Int))]])) <|
 opt.need _ (p.eqN (p.len [[(D.int .i64 (0 : Int)), (D.int .i64 (0 : Int))], [(D.int .i64 (4 : Int)), (D.int .i64 (0 : Int))], [(D.int .i64 (0 : Int)), (D.int .i64 (4 : Int))]]) (p.len [[(D.int .i64 (0 : Int)), (D.int .i64 (0 : Int))], [(D.int .i64 (4 : Int)), (D.int .i64 (0 : Int))], [(D.int .i64 (0 : Int)), (D.int .i64 (4 : Int))]])) <|
 opt.need _ (p.eqN 0 0) <|
 opt.need _ (p.eqN (p.len [[(D.list Bool.true 2 [[(D.int .i64 (0 : Int)), (D.int .i64 (0 : Int))], [(D.int .i64 (1 : Int)), (D.int .i64 (0 : Int))]])]]) (p.len [[(D.list Bool.true 2 [[(D.int .i64 (0 : Int)), (D.int .i64 (0 : Int))], [(D.int .i64 (1 : Int)), (D.int .i64 (0 : Int))]])]])) <|
 opt.need _ (p.eqN (p.len [[(D.list Bool.true 2 [[(D.int .i64 (0 : Int)), (D.int .i64 (0 : Int))], [(D.int .i64 (1 : Int)), (D.int .i64 (0 : Int))]])]]) (p.len [[(D.list Bool.true 2 [[(D.int .i64 (0 : Int)), (D.int .i64 (0 : Int))], [(D.int .i64 (1 : Int)), (D.int .i64 (0 : Int))]])]])) <|
 opt.need _ (p.eqN 0 0) <|
 opt.need _ (p.eqN (p.len [[(D.int .i64 (4 : Int)), (D.int .i64 (2 : Int))]]) (p.len [[(D.int .i64 (4 : Int)), (D.int .i64 (2 : Int))]])) <|
 opt.need _ (p.eqN (p.len [[(D.int .i64 (4 : Int)), (D.int .i64 (2 : Int))]]) (p.len [[(D.int .i64 (4 : Int)), (D.int .i64 (2 : Int))]])) <|
 opt.need _ (p.eqN 0 0) <|
 opt.need _ (p.eqN (p.len [[(D.int .i64 (3 : Int)), (D.int .i64 (2 : Int))]]) (p.len [[(D.int .i64 (3 : Int)), (D.int .i64 (2 : Int))]])) <|
 opt.need _ (p.eqN (p.len [[(D.int .i64 (3 : Int)), (D.int .i64 (2 : Int))]]) (p.len [[(D.int .i64 (3 : Int)), (D.int .i64 (2 : Int))]])) <|
 opt.need _ (p.eqN 0 0) <|
 opt.need _ (p.eqN (p.len a.1) (p.len a.1)) <|
 opt.ret _ (a.1, ([[(D.int .i64 (0 : Int)), (D.int .i64 (0 : Int))], [(D.int .i64 (4 : Int)), (D.int .i64 (0 : Int))], [(D.int .i64 (0 : Int)), (D.int .i64 (4 : Int))]], ([[(D.list Bool.true 2 [[(D.int .i64 (0 : Int)), (D.int .i64 (0 : Int))], [(D.int .i64 (1 : Int)), (D.int .i64 (0 : Int))]])]], ([[(D.int .i64 (4 : Int)), (D.int .i64 (2 : Int))]], ([[(D.int .i64 (3 : Int)), (D.int .i64 (2 : Int))]], (c.1, (c.2.1, (g.1, (g.2.1, (g.2.2.1, (h.1, (h.2.1, (h.2.2.1, (i.1, (i.2.1, (b.1, (j.1, (j.2.1, ((p.cmp .neq j.2.2.1 (0 : Int)), ())))))))))))))))))))))))))))))) fun k =>
 opt.ask _ k.2.2.2.2.2.2.2.2.2.2.2.2.2.2.2.2.2.2.1 (
 opt.ret _ (Bool.false, ())) (
 opt.need _ (p.and (p.leN (p.add 0 (p.len k.1)) (p.len k.1)) (p.and (p.leN (p.add 0 4) (p.len [[(D.int .i64 (0 : Int)), (D.int .i64 (0 : Int))], [(D.int .i64 (5 : Int)), (D.int .i64 (0 : Int))], [(D.int .i64 (1 : Int)), (D.int .i64 (4 : Int))], [(D.int .i64 (0 : Int)), (D.int .i64 (4 : Int))]])) Bool.true)) <|
 opt.bnd T2 _ (g20 it p ((p.cut k.1 0 (p.len k.1)), ((p.cut [[(D.int .i64 (0 : Int)), (D.int .i64 (0 : Int))], [(D.int .i64 (5 : Int)), (D.int .i64 (0 : Int))], [(D.int .i64 (1 : Int)), (D.int .i64 (4 : Int))], [(D.int .i64 (0 : Int)), (D.int .i64 (4 : Int))]] 0 4), ()))) fun l =>
 opt.ask _ l.1 (
 opt.ask _ k.2.2.2.2.2.2.2.2.2.2.2.2.2.2.2.1 (
 opt.ask _ (bif (p.cmp .eql k.2.2.2.2.2.1 (5 : Int)) then (bif (p.cmp .eql k.2.2.2.2.2.2.1 (0 : Int)) then Bool.true else Bool.false) else Bool.false) (
 opt.need _ (p.and (p.and (p.leN (p.add 0 (p.len k.2.1)) (p.len k.2.1)) (p.and (p.leN (p.add 0 (p.len k.2.2.1)) (p.len k.2.2.1)) Bool.true)) (p.and (p.and (p.leN (p.add 0 (p.len k.2.2.2.1)) (p.len k.2.2.2.1)) (p.and Bool.true Bool.true)) (p.and Bool.true Bool.true))) <|
 opt.bnd T0 _ (g36 it p ((p.cut k.2.1 0 (p.len k.2.1)), ((p.cut k.2.2.1 0 (p.len k.2.2.1)), ((p.cut k.2.2.2.1 0 (p.len k.2.2.2.1)), ([], (k.2.2.2.2.2.2.2.1, (k.2.2.2.2.2.2.2.2.1, (k.2.2.2.2.2.2.2.2.2.1, ())))))))) fun m =>
 opt.ask _ (p.cmp .eql m.1 (0 : Int)) (
 opt.need _ (p.and (p.and (p.leN (p.add 0 (p.len k.2.1)) (p.len k.2.1)) (p.and (p.leN (p.add 0 (p.len k.2.2.1)) (p.len k.2.2.1)) Bool.true)) (p.and (p.and (p.leN (p.add 0 (p.len k.2.2.2.2.1)) (p.len k.2.2.2.2.1)) (p.and Bool.true Bool.true)) (p.and Bool.true Bool.true))) <|
 opt.bnd T0 _ (g38 it p ((p.cut k.2.1 0 (p.len k.2.1)), ((p.cut k.2.2.1 0 (p.len k.2.2.1)), ((p.cut k.2.2.2.2.1 0 (p.len k.2.2.2.2.1)), ([], (k.2.2.2.2.2.2.2.2.2.2.1, (k.2.2.2.2.2.2.2.2.2.2.2.1, (k.2.2.2.2.2.2.2.2.2.2.2.2.1, ())))))))) fun n =>
 opt.ask _ (p.cmp .eql n.1 (0 : Int)) (
 opt.ask _ (bif (p.cmp .eql k.2.2.2.2.2.2.2.2.2.2.2.2.2.1 (1 : Int)) then (bif (p.cmp .eql k.2.2.2.2.2.2.2.2.2.2.2.2.2.2.1 (2 : Int)) then Bool.true else Bool.false) else Bool.false) (
 opt.ask _ (p.cmp .eql k.2.2.2.2.2.2.2.2.2.2.2.2.2.2.2.2.1 (0 : Int)) (
 opt.ret _ ((p.cmp .eql k.2.2.2.2.2.2.2.2.2.2.2.2.2.2.2.2.2.1 (2 : Int)), ())) (
 opt.ret _ (Bool.false, ()))) (
 opt.ret _ (Bool.false, ()))) (
 opt.ret _ (Bool.false, ()))) (
 opt.ret _ (Bool.false, ()))) (
 opt.ret _ (Bool.false, ()))) (
 opt.ret _ (Bool.false, ()))) (
 opt.ret _ (Bool.false, ())))
def G15 := g15 it0
theorem ok15 : CtrOk PG ctr15 (G15 std) := okF (a := an15) (l := la15) (gC ok38 (gC ok36 (gC ok20 (gC ok27 (gC ok25 (gC ok37 (gC ok32 (gC ok39 (gC ok23 (gC ok21 (gC ok16 (gN)))))))))))) (by kernel_rfl) fun _ _ => by kernel_rfl
end Go.Am
end
section
namespace Go.Am
theorem mg102 {i j : It} (h : i.Le j) : ∀ s, le (g102 i std s) (g102 j std s) := fun _ => le_alt (h _ _ _ _ _ (fun _ => le_refl _)) (fun _ => le_refl _) (fun _ => le_refl _)
theorem mg87 {i j : It} (h : i.Le j) : ∀ s, le (g87 i std s) (g87 j std s) := fun _ => le_bnd (le_refl _) (fun _ => le_bnd (le_refl _) (fun _ => le_need (le_bnd (mg102 h _) (fun _ => le_refl _))))
theorem mc99_1 {i j : It} (h : i.Le j) : ∀ s, le (c99_1 i std s) (c99_1 j std s) := fun _ => le_run (le_ask (le_need (le_need (le_bnd (h _ _ _ _ _ (fun _ => le_refl _)) (fun _ => le_refl _)))) (le_refl _))
theorem mg99 {i j : It} (h : i.Le j) : ∀ s, le (g99 i std s) (g99 j std s) := fun _ => le_bnd (h _ _ _ _ _ (mc99_1 h)) (fun _ => le_refl _)
theorem mg53 {i j : It} (h : i.Le j) : ∀ s, le (g53 i std s) (g53 j std s) := fun _ => le_alt (h _ _ _ _ _ (fun _ => le_refl _)) (fun _ => le_refl _) (fun _ => le_refl _)
theorem mg60 {i j : It} (h : i.Le j) : ∀ s, le (g60 i std s) (g60 j std s) := fun _ => le_need (le_need (le_need (le_need (le_bnd (h _ _ _ _ _ (fun _ => le_refl _)) (fun _ => le_refl _)))))
theorem mg20 {i j : It} (h : i.Le j) : ∀ s, le (g20 i std s) (g20 j std s) := fun _ => le_ask (le_refl _) (le_alt (h _ _ _ _ _ (fun _ => le_refl _)) (fun _ => le_refl _) (fun _ => le_refl _))
theorem mc18_2 {i j : It} (h : i.Le j) : ∀ s, le (c18_2 i std s) (c18_2 j std s) := fun _ => le_run (le_ask (le_need (le_need (le_bnd (mg53 h _) (fun _ => le_refl _)))) (le_refl _))
theorem mg18 {i j : It} (h : i.Le j) : ∀ s, le (g18 i std s) (g18 j std s) := fun _ => le_bnd (le_run (le_bnd (le_refl _) (fun _ => le_ask (le_refl _) (le_ask (le_refl _) (le_alt (h _ _ _ _ _ (fun _ => le_refl _)) (fun _ => le_refl _) (fun _ => le_refl _)))))) (fun _ => le_ask (le_refl _) (le_bnd (le_run (le_bnd (mg53 h _) (fun _ => le_ask (le_refl _) (le_alt (h _ _ _ _ _ (mc18_2 h)) (fun _ => le_refl _) (fun _ => le_refl _))))) (fun _ => le_refl _)))
theorem mg57 {i j : It} (h : i.Le j) : ∀ s, le (g57 i std s) (g57 j std s) := fun _ => le_ask (le_refl _) (le_alt (le_run (le_alt (h _ _ _ _ _ (fun _ => le_refl _)) (fun _ => le_refl _) (fun _ => le_refl _))) (fun _ => le_refl _) (fun _ => le_refl _))
theorem mc93_1 {i j : It} (h : i.Le j) : ∀ s, le (c93_1 i std s) (c93_1 j std s) := fun _ => le_run (le_ask (le_need (le_need (le_bnd (le_refl _) (fun _ => le_bnd (h _ _ _ _ _ (fun _ => le_refl _)) (fun _ => le_refl _))))) (le_refl _))
theorem mg93 {i j : It} (h : i.Le j) : ∀ s, le (g93 i std s) (g93 j std s) := fun _ => le_bnd (h _ _ _ _ _ (mc93_1 h)) (fun _ => le_refl _)
theorem mg65 {i j : It} (h : i.Le j) : ∀ s, le (g65 i std s) (g65 j std s) := fun _ => le_need (le_bnd (mg93 h _) (fun _ => le_refl _))
theorem mg76 {i j : It} (h : i.Le j) : ∀ s, le (g76 i std s) (g76 j std s) := fun _ => le_bnd (le_refl _) (fun _ => le_bnd (le_refl _) (fun _ => le_ask (le_refl _) (le_need (le_bnd (mg93 h _) (fun _ => le_refl _)))))
theorem mg68 {i j : It} (h : i.Le j) : ∀ s, le (g68 i std s) (g68 j std s) := fun _ => le_bnd (le_refl _) (fun _ => le_ask (le_refl _) (le_bnd (mg65 h _) (fun _ => le_refl _)))
theorem mg78 {i j : It} (h : i.Le j) : ∀ s, le (g78 i std s) (g78 j std s) := fun _ => le_need (le_bnd (h _ _ _ _ _ (fun _ => le_refl _)) (fun _ => le_refl _))
theorem mg92 {i j : It} (h : i.Le j) : ∀ s, le (g92 i std s) (g92 j std s) := fun _ => le_bnd (mg78 h _) (fun _ => le_bnd (mg78 h _) (fun _ => le_refl _))
theorem mc63_5 {i j : It} (h : i.Le j) : ∀ s, le (c63_5 i std s) (c63_5 j std s) := fun _ => le_run (le_ask (le_need (le_need (le_bnd (mg92 h _) (fun _ => le_refl _)))) (le_refl _))
theorem mc63_3 {i j : It} (h : i.Le j) : ∀ s, le (c63_3 i std s) (c63_3 j std s) := fun _ => le_run (le_ask (le_need (le_need (le_bnd (le_run (le_need (le_need (le_need (le_need (le_need (le_alt (h _ _ _ _ _ (fun _ => le_refl _)) (fun _ => le_refl _) (fun _ => le_refl _)))))))) (fun _ => le_refl _)))) (le_refl _))
theorem mc63_1 {i j : It} (h : i.Le j) : ∀ s, le (c63_1 i std s) (c63_1 j std s) := fun _ => le_run (le_ask (le_need (le_need (le_need (le_need (le_bnd (h _ _ _ _ _ (fun _ => le_refl _)) (fun _ => le_refl _)))))) (le_refl _))
theorem mg63 {i j : It} (h : i.Le j) : ∀ s, le (g63 i std s) (g63 j std s) := fun _ => le_bnd (h _ _ _ _ _ (mc63_1 h)) (fun _ => le_need (le_need (le_need (le_need (le_need (le_bnd (h _ _ _ _ _ (mc63_3 h)) (fun _ => le_need (le_need (le_bnd (h _ _ _ _ _ (mc63_5 h)) (fun _ => le_refl _))))))))))
theorem mc108o_2 {i j : It} (h : i.Le j) : ∀ s, le (c108o_2 i std s) (c108o_2 j std s) := fun _ => le_run (le_ask (le_need (le_need (le_need (le_need (le_bnd (mg87 h _) (fun _ => le_refl _)))))) (le_refl _))
theorem mc108o_1 {i j : It} (h : i.Le j) : ∀ s, le (c108o_1 i std s) (c108o_1 j std s) := fun _ => le_run (le_ask (le_need (le_need (le_need (le_bnd (h _ _ _ _ _ (mc108o_2 h)) (fun _ => le_refl _))))) (le_refl _))
theorem mg108o {i j : It} (h : i.Le j) : ∀ s, le (g108o i std s) (g108o j std s) := fun _ => le_need (le_need (le_need (le_bnd (h _ _ _ _ _ (mc108o_1 h)) (fun _ => le_refl _))))
theorem mc104o_1 {i j : It} (h : i.Le j) : ∀ s, le (c104o_1 i std s) (c104o_1 j std s) := fun _ => le_run (le_ask (le_need (le_need (le_need (le_bnd (mg108o h _) (fun _ => le_refl _))))) (le_refl _))
theorem mg104o {i j : It} (h : i.Le j) : ∀ s, le (g104o i std s) (g104o j std s) := fun _ => le_need (le_need (le_need (le_bnd (h _ _ _ _ _ (mc104o_1 h)) (fun _ => le_refl _))))
theorem mg97op {i j : It} (h : i.Le j) : ∀ s, le (g97op i std s) (g97op j std s) := fun _ => le_bnd (le_refl _) (fun _ => le_need (le_need (le_need (le_bnd (mg104o h _) (fun _ => le_refl _)))))
theorem mc108t_1 {i j : It} (h : i.Le j) : ∀ s, le (c108t_1 i std s) (c108t_1 j std s) := fun _ => le_run (le_ask (le_need (le_need (le_bnd (h _ _ _ _ _ (fun _ => le_refl _)) (fun _ => le_refl _)))) (le_refl _))
theorem mg108t {i j : It} (h : i.Le j) : ∀ s, le (g108t i std s) (g108t j std s) := fun _ => le_need (le_need (le_bnd (h _ _ _ _ _ (mc108t_1 h)) (fun _ => le_refl _)))
theorem mc104t_1 {i j : It} (h : i.Le j) : ∀ s, le (c104t_1 i std s) (c104t_1 j std s) := fun _ => le_run (le_ask (le_need (le_need (le_bnd (mg108t h _) (fun _ => le_refl _)))) (le_refl _))
theorem mg104t {i j : It} (h : i.Le j) : ∀ s, le (g104t i std s) (g104t j std s) := fun _ => le_need (le_need (le_bnd (h _ _ _ _ _ (mc104t_1 h)) (fun _ => le_refl _)))
theorem mg97tp {i j : It} (h : i.Le j) : ∀ s, le (g97tp i std s) (g97tp j std s) := fun _ => le_bnd (le_refl _) (fun _ => le_need (le_need (le_bnd (mg104t h _) (fun _ => le_refl _))))
theorem mg97o {i j : It} (h : i.Le j) : ∀ s, le (g97o i std s) (g97o j std s) := fun _ => le_cond (mg97op h _) (le_refl _)
theorem mg97t {i j : It} (h : i.Le j) : ∀ s, le (g97t i std s) (g97t j std s) := fun _ => le_cond (mg97tp h _) (le_refl _)
theorem mc88_1 {i j : It} (h : i.Le j) : ∀ s, le (c88_1 i std s) (c88_1 j std s) := fun _ => le_run (le_ask (le_need (le_need (le_bnd (h _ _ _ _ _ (fun _ => le_refl _)) (fun _ => le_refl _)))) (le_refl _))
theorem mg88 {i j : It} (h : i.Le j) : ∀ s, le (g88 i std s) (g88 j std s) := fun _ => le_bnd (h _ _ _ _ _ (mc88_1 h)) (fun _ => le_refl _)
theorem mc101_1 {i j : It} (h : i.Le j) : ∀ s, le (c101_1 i std s) (c101_1 j std s) := fun _ => le_run (le_ask (le_need (le_need (le_need (le_need (le_ask (le_need (le_bnd (h _ _ _ _ _ (fun _ => le_refl _)) (fun _ => le_refl _))) (le_refl _)))))) (le_refl _))
theorem mg101 {i j : It} (h : i.Le j) : ∀ s, le (g101 i std s) (g101 j std s) := fun _ => le_ask (le_refl _) (le_alt (h _ _ _ _ _ (mc101_1 h)) (fun _ => le_refl _) (fun _ => le_refl _))
theorem mg86 {i j : It} (h : i.Le j) : ∀ s, le (g86 i std s) (g86 j std s) := fun _ => le_need (le_need (le_need (le_need (le_need (le_bnd (mg97o h _) (fun _ => le_bnd (mg101 h _) (fun _ => le_refl _)))))))
theorem mg89 {i j : It} (h : i.Le j) : ∀ s, le (g89 i std s) (g89 j std s) := fun _ => le_bnd (h _ _ _ _ _ (fun _ => le_refl _)) (fun _ => le_refl _)
theorem mg59 {i j : It} (h : i.Le j) : ∀ s, le (g59 i std s) (g59 j std s) := fun _ => le_bnd (mg86 h _) (fun _ => le_ask (le_refl _) (le_need (le_bnd (mg88 h _) (fun _ => le_need (le_bnd (mg89 h _) (fun _ => le_need (le_bnd (mg88 h _) (fun _ => le_refl _))))))))
theorem mc80_3 {i j : It} (h : i.Le j) : ∀ s, le (c80_3 i std s) (c80_3 j std s) := fun _ => le_run (le_ask (le_bnd (le_run (le_need (le_need (le_need (le_bnd (mg99 h _) (fun _ => le_refl _)))))) (fun _ => le_refl _)) (le_refl _))
theorem mc80_1 {i j : It} (h : i.Le j) : ∀ s, le (c80_1 i std s) (c80_1 j std s) := fun _ => le_run (le_ask (le_need (le_need (le_bnd (le_run (le_need (le_need (le_need (le_need (le_need (le_alt (h _ _ _ _ _ (fun _ => le_refl _)) (fun _ => le_refl _) (fun _ => le_refl _)))))))) (fun _ => le_refl _)))) (le_refl _))
theorem mg80 {i j : It} (h : i.Le j) : ∀ s, le (g80 i std s) (g80 j std s) := fun _ => le_need (le_need (le_need (le_bnd (h _ _ _ _ _ (mc80_1 h)) (fun _ => le_need (le_need (le_bnd (mg97t h _) (fun _ => le_need (le_need (le_need (le_bnd (mg99 h _) (fun _ => le_need (le_need (le_need (le_need (le_need (le_bnd (h _ _ _ _ _ (mc80_3 h)) (fun _ => le_refl _)))))))))))))))))
theorem mc48_1 {i j : It} (h : i.Le j) : ∀ s, le (c48_1 i std s) (c48_1 j std s) := fun _ => le_run (le_ask (le_need (le_need (le_bnd (mg60 h _) (fun _ => le_bnd (mg59 h _) (fun _ => le_bnd (mg80 h _) (fun _ => le_refl _)))))) (le_refl _))
theorem mg48 {i j : It} (h : i.Le j) : ∀ s, le (g48 i std s) (g48 j std s) := fun _ => le_bnd (mg18 h _) (fun _ => le_ask (le_refl _) (le_bnd (mg60 h _) (fun _ => le_bnd (mg59 h _) (fun _ => le_bnd (h _ _ _ _ _ (mc48_1 h)) (fun _ => le_refl _)))))
theorem mg16 {i j : It} (h : i.Le j) : ∀ s, le (g16 i std s) (g16 j std s) := fun _ => le_alt (mg48 h _) (fun _ => le_refl _) (fun _ => le_bnd (le_refl _) (fun _ => le_ask (le_refl _) (le_bnd (h _ _ _ _ _ (fun _ => le_refl _)) (fun _ => le_refl _))))
theorem mg62 {i j : It} (h : i.Le j) : ∀ s, le (g62 i std s) (g62 j std s) := fun _ => le_alt (mg48 h _) (fun _ => le_ask (le_refl _) (le_alt (mg48 h _) (fun _ => le_refl _) (fun _ => le_refl _))) (fun _ => le_bnd (le_refl _) (fun _ => le_ask (le_refl _) (le_alt (mg48 h _) (fun _ => le_refl _) (fun _ => le_refl _))))
theorem mg21 {i j : It} (h : i.Le j) : ∀ s, le (g21 i std s) (g21 j std s) := fun _ => le_alt (mg48 h _) (fun _ => le_ask (le_refl _) (le_need (le_bnd (mg53 h _) (fun _ => le_refl _)))) (fun _ => le_bnd (le_refl _) (fun _ => le_ask (le_refl _) (le_need (le_bnd (mg53 h _) (fun _ => le_ask (le_refl _) (le_bnd (mg57 h _) (fun _ => le_refl _)))))))
theorem mc23_2 {i j : It} (h : i.Le j) : ∀ s, le (c23_2 i std s) (c23_2 j std s) := fun _ => le_run (le_ask (le_need (le_need (le_bnd (mg57 h _) (fun _ => le_refl _)))) (le_refl _))
theorem mc23_1 {i j : It} (h : i.Le j) : ∀ s, le (c23_1 i std s) (c23_1 j std s) := fun _ => le_run (le_ask (le_need (le_need (le_bnd (mg57 h _) (fun _ => le_refl _)))) (le_refl _))
theorem mg23 {i j : It} (h : i.Le j) : ∀ s, le (g23 i std s) (g23 j std s) := fun _ => le_alt (mg48 h _) (fun _ => le_alt (le_run (le_ask (le_refl _) (le_bnd (le_refl _) (fun _ => le_alt (le_run (le_ask (le_refl _) (le_bnd (mg53 h _) (fun _ => le_refl _)))) (fun _ => le_refl _) (fun _ => le_refl _))))) (fun _ => le_refl _) (fun _ => le_alt (le_refl _) (fun _ => le_bnd (mg60 h _) (fun _ => le_bnd (mg59 h _) (fun _ => le_refl _))) (fun _ => le_bnd (le_refl _) (fun _ => le_bnd (mg60 h _) (fun _ => le_bnd (mg59 h _) (fun _ => le_alt (h _ _ _ _ _ (mc23_1 h)) (fun _ => le_refl _) (fun _ => le_refl _))))))) (fun _ => le_bnd (le_refl _) (fun _ => le_alt (le_run (le_ask (le_refl _) (le_bnd (le_refl _) (fun _ => le_alt (le_run (le_ask (le_refl _) (le_bnd (mg53 h _) (fun _ => le_refl _)))) (fun _ => le_refl _) (fun _ => le_refl _))))) (fun _ => le_refl _) (fun _ => le_alt (le_refl _) (fun _ => le_bnd (mg60 h _) (fun _ => le_bnd (mg59 h _) (fun _ => le_refl _))) (fun _ => le_bnd (le_refl _) (fun _ => le_bnd (mg60 h _) (fun _ => le_bnd (mg59 h _) (fun _ => le_alt (h _ _ _ _ _ (mc23_2 h)) (fun _ => le_refl _) (fun _ => le_refl _))))))))
theorem mg32 {i j : It} (h : i.Le j) : ∀ s, le (g32 i std s) (g32 j std s) := fun _ => le_alt (mg62 h _) (fun _ => le_refl _) (fun _ => le_alt (le_refl _) (fun _ => le_refl _) (fun _ => le_alt (le_refl _) (fun _ => le_refl _) (fun _ => le_bnd (le_refl _) (fun _ => le_ask (le_refl _) (le_bnd (mg63 h _) (fun _ => le_refl _))))))
theorem mc27_4 {i j : It} (h : i.Le j) : ∀ s, le (c27_4 i std s) (c27_4 j std s) := fun _ => le_run (le_ask (le_need (le_need (le_alt (h _ _ _ _ _ (fun _ => le_refl _)) (fun _ => le_refl _) (fun _ => le_refl _)))) (le_refl _))
theorem mc27_3 {i j : It} (h : i.Le j) : ∀ s, le (c27_3 i std s) (c27_3 j std s) := fun _ => le_run (le_ask (le_need (le_need (le_bnd (mg63 h _) (fun _ => le_refl _)))) (le_refl _))
theorem mc27_2 {i j : It} (h : i.Le j) : ∀ s, le (c27_2 i std s) (c27_2 j std s) := fun _ => le_run (le_ask (le_need (le_need (le_need (le_need (le_need (le_need (le_need (le_bnd (h _ _ _ _ _ (mc27_3 h)) (fun _ => le_refl _))))))))) (le_refl _))
theorem mc27_1 {i j : It} (h : i.Le j) : ∀ s, le (c27_1 i std s) (c27_1 j std s) := fun _ => le_run (le_ask (le_alt (le_run (le_need (le_need (le_alt (mg48 h _) (fun _ => le_refl _) (fun _ => le_refl _))))) (fun _ => le_refl _) (fun _ => le_refl _)) (le_refl _))
theorem mg27 {i j : It} (h : i.Le j) : ∀ s, le (g27 i std s) (g27 j std s) := fun _ => le_ask (le_refl _) (le_alt (h _ _ _ _ _ (mc27_1 h)) (fun _ => le_refl _) (fun _ => le_bnd (le_refl _) (fun _ => le_need (le_need (le_need (le_need (le_bnd (h _ _ _ _ _ (mc27_2 h)) (fun _ => le_need (le_need (le_alt (h _ _ _ _ _ (mc27_4 h)) (fun _ => le_refl _) (fun _ => le_refl _)))))))))))
theorem mg78m {i j : It} (h : i.Le j) : ∀ s, le (g78m i std s) (g78m j std s) := fun _ => le_need (le_bnd (h _ _ _ _ _ (fun _ => le_refl _)) (fun _ => le_refl _))
theorem mg39 {i j : It} (h : i.Le j) : ∀ s, le (g39 i std s) (g39 j std s) := fun _ => le_alt (mg62 h _) (fun _ => le_refl _) (fun _ => le_alt (le_refl _) (fun _ => le_refl _) (fun _ => le_alt (le_refl _) (fun _ => le_alt (le_run (le_ask (le_refl _) (le_ask (le_refl _) (le_bnd (le_refl _) (fun _ => le_bnd (le_refl _) (fun _ => le_ask (le_refl _) (le_bnd (le_refl _) (fun _ => le_ask (le_refl _) (le_ask (le_refl _) (le_alt (le_run (le_ask (le_refl _) (le_bnd (mg78m h _) (fun _ => le_refl _)))) (fun _ => le_refl _) (fun _ => le_refl _))))))))))) (fun _ => le_refl _) (fun _ => le_refl _)) (fun _ => le_bnd (le_refl _) (fun _ => le_alt (le_run (le_ask (le_refl _) (le_ask (le_refl _) (le_bnd (le_refl _) (fun _ => le_bnd (le_refl _) (fun _ => le_ask (le_refl _) (le_bnd (le_refl _) (fun _ => le_ask (le_refl _) (le_ask (le_refl _) (le_alt (le_run (le_ask (le_refl _) (le_bnd (mg78m h _) (fun _ => le_ask (le_refl _) (le_bnd (mg78m h _) (fun _ => le_refl _)))))) (fun _ => le_refl _) (fun _ => le_refl _))))))))))) (fun _ => le_refl _) (fun _ => le_refl _)))))
theorem mc37_4 {i j : It} (h : i.Le j) : ∀ s, le (c37_4 i std s) (c37_4 j std s) := fun _ => le_run (le_ask (le_need (le_need (le_need (le_need (le_need (le_ask (le_refl _) (le_bnd (mg76 h _) (fun _ => le_refl _)))))))) (le_refl _))
theorem mc37_3 {i j : It} (h : i.Le j) : ∀ s, le (c37_3 i std s) (c37_3 j std s) := fun _ => le_run (le_ask (le_need (le_need (le_need (le_need (le_need (le_ask (le_refl _) (le_alt (le_run (le_alt (h _ _ _ _ _ (mc37_4 h)) (fun _ => le_refl _) (fun _ => le_refl _))) (fun _ => le_refl _) (fun _ => le_refl _)))))))) (le_refl _))
theorem mc37_2 {i j : It} (h : i.Le j) : ∀ s, le (c37_2 i std s) (c37_2 j std s) := fun _ => le_run (le_ask (le_need (le_need (le_bnd (mg57 h _) (fun _ => le_refl _)))) (le_refl _))
theorem mc37_1 {i j : It} (h : i.Le j) : ∀ s, le (c37_1 i std s) (c37_1 j std s) := fun _ => le_run (le_ask (le_bnd (le_refl _) (fun _ => le_alt (h _ _ _ _ _ (mc37_2 h)) (fun _ => le_refl _) (fun _ => le_refl _))) (le_refl _))
theorem mg37 {i j : It} (h : i.Le j) : ∀ s, le (g37 i std s) (g37 j std s) := fun _ => le_alt (mg62 h _) (fun _ => le_refl _) (fun _ => le_alt (le_refl _) (fun _ => le_refl _) (fun _ => le_alt (le_refl _) (fun _ => le_refl _) (fun _ => le_bnd (le_refl _) (fun _ => le_ask (le_refl _) (le_alt (h _ _ _ _ _ (mc37_1 h)) (fun _ => le_refl _) (fun _ => le_bnd (le_refl _) (fun _ => le_alt (le_run (le_alt (h _ _ _ _ _ (mc37_3 h)) (fun _ => le_refl _) (fun _ => le_refl _))) (fun _ => le_refl _) (fun _ => le_refl _))))))))
theorem mg69 {i j : It} (h : i.Le j) : ∀ s, le (g69 i std s) (g69 j std s) := fun _ => le_ask (le_refl _) (le_need (le_need (le_bnd (h _ _ _ _ _ (fun _ => le_refl _)) (fun _ => le_refl _))))
theorem mc25_4 {i j : It} (h : i.Le j) : ∀ s, le (c25_4 i std s) (c25_4 j std s) := fun _ => le_run (le_ask (le_need (le_need (le_need (le_need (le_need (le_ask (le_refl _) (le_bnd (mg68 h _) (fun _ => le_refl _)))))))) (le_refl _))
theorem mc25_3 {i j : It} (h : i.Le j) : ∀ s, le (c25_3 i std s) (c25_3 j std s) := fun _ => le_run (le_ask (le_need (le_need (le_bnd (mg65 h _) (fun _ => le_refl _)))) (le_refl _))
theorem mc25_2 {i j : It} (h : i.Le j) : ∀ s, le (c25_2 i std s) (c25_2 j std s) := fun _ => le_run (le_ask (le_need (le_need (le_bnd (h _ _ _ _ _ (mc25_3 h)) (fun _ => le_bnd (le_run (le_alt (h _ _ _ _ _ (mc25_4 h)) (fun _ => le_refl _) (fun _ => le_refl _))) (fun _ => le_refl _))))) (le_refl _))
theorem mc25_1 {i j : It} (h : i.Le j) : ∀ s, le (c25_1 i std s) (c25_1 j std s) := fun _ => le_run (le_ask (le_bnd (le_refl _) (fun _ => le_bnd (h _ _ _ _ _ (mc25_2 h)) (fun _ => le_refl _))) (le_refl _))
theorem mg25 {i j : It} (h : i.Le j) : ∀ s, le (g25 i std s) (g25 j std s) := fun _ => le_alt (mg62 h _) (fun _ => le_refl _) (fun _ => le_alt (le_refl _) (fun _ => le_refl _) (fun _ => le_alt (le_refl _) (fun _ => le_refl _) (fun _ => le_bnd (le_refl _) (fun _ => le_ask (le_refl _) (le_bnd (mg63 h _) (fun _ => le_ask (le_refl _) (le_need (le_bnd (h _ _ _ _ _ (mc25_1 h)) (fun _ => le_bnd (mg69 h _) (fun _ => le_refl _))))))))))
theorem mg56 {i j : It} (h : i.Le j) : ∀ s, le (g56 i std s) (g56 j std s) := fun _ => le_alt (h _ _ _ _ _ (fun _ => le_refl _)) (fun _ => le_refl _) (fun _ => le_refl _)
theorem mc61_2 {i j : It} (h : i.Le j) : ∀ s, le (c61_2 i std s) (c61_2 j std s) := fun _ => le_run (le_need (le_need (le_bnd (h _ _ _ _ _ (fun _ => le_refl _)) (fun _ => le_refl _))))
theorem mg61 {i j : It} (h : i.Le j) : ∀ s, le (g61 i std s) (g61 j std s) := fun _ => le_need (le_bnd (h _ _ _ _ _ (fun _ => le_refl _)) (fun _ => le_need (le_bnd (h _ _ _ _ _ (mc61_2 h)) (fun _ => le_refl _))))
theorem mc19_2 {i j : It} (h : i.Le j) : ∀ s, le (c19_2 i std s) (c19_2 j std s) := fun _ => le_run (le_ask (le_need (le_need (le_bnd (mg56 h _) (fun _ => le_refl _)))) (le_refl _))
theorem mg19 {i j : It} (h : i.Le j) : ∀ s, le (g19 i std s) (g19 j std s) := fun _ => le_bnd (le_refl _) (fun _ => le_ask (le_refl _) (le_alt (h _ _ _ _ _ (fun _ => le_refl _)) (fun _ => le_refl _) (fun _ => le_bnd (le_refl _) (fun _ => le_bnd (mg56 h _) (fun _ => le_ask (le_refl _) (le_alt (h _ _ _ _ _ (mc19_2 h)) (fun _ => le_refl _) (fun _ => le_refl _)))))))
theorem mg43 {i j : It} (h : i.Le j) : ∀ s, le (g43 i std s) (g43 j std s) := fun _ => le_alt (h _ _ _ _ _ (fun _ => le_refl _)) (fun _ => le_refl _) (fun _ => le_refl _)
theorem mc49_3 {i j : It} (h : i.Le j) : ∀ s, le (c49_3 i std s) (c49_3 j std s) := fun _ => le_run (le_ask (le_need (le_need (le_need (le_need (le_need (le_bnd (h _ _ _ _ _ (fun _ => le_refl _)) (fun _ => le_refl _))))))) (le_refl _))
theorem mc49_2 {i j : It} (h : i.Le j) : ∀ s, le (c49_2 i std s) (c49_2 j std s) := fun _ => le_run (le_ask (le_need (le_need (le_need (le_bnd (h _ _ _ _ _ (mc49_3 h)) (fun _ => le_refl _))))) (le_refl _))
theorem mc49_1 {i j : It} (h : i.Le j) : ∀ s, le (c49_1 i std s) (c49_1 j std s) := fun _ => le_run (le_ask (le_need (le_need (le_bnd (mg61 h _) (fun _ => le_need (le_need (le_need (le_bnd (h _ _ _ _ _ (mc49_2 h)) (fun _ => le_bnd (mg61 h _) (fun _ => le_refl _))))))))) (le_refl _))
theorem mg49 {i j : It} (h : i.Le j) : ∀ s, le (g49 i std s) (g49 j std s) := fun _ => le_bnd (mg61 h _) (fun _ => le_bnd (h _ _ _ _ _ (mc49_1 h)) (fun _ => le_refl _))
theorem mg72 {i j : It} (h : i.Le j) : ∀ s, le (g72 i std s) (g72 j std s) := fun _ => le_bnd (mg19 h _) (fun _ => le_ask (le_bnd (mg19 h _) (fun _ => le_refl _)) (le_bnd (mg19 h _) (fun _ => le_refl _)))
theorem mg36 {i j : It} (h : i.Le j) : ∀ s, le (g36 i std s) (g36 j std s) := fun _ => le_bnd (mg72 h _) (fun _ => le_ask (le_bnd (mg72 h _) (fun _ => le_refl _)) (le_bnd (le_refl _) (fun _ => le_ask (le_refl _) (le_bnd (mg49 h _) (fun _ => le_bnd (mg49 h _) (fun _ => le_alt (h _ _ _ _ _ (fun _ => le_refl _)) (fun _ => le_refl _) (fun _ => le_bnd (le_refl _) (fun _ => le_alt (h _ _ _ _ _ (fun _ => le_refl _)) (fun _ => le_refl _) (fun _ => le_refl _)))))))))
theorem mg38 {i j : It} (h : i.Le j) : ∀ s, le (g38 i std s) (g38 j std s) := fun _ => le_bnd (mg72 h _) (fun _ => le_ask (le_bnd (mg72 h _) (fun _ => le_refl _)) (le_bnd (le_refl _) (fun _ => le_ask (le_refl _) (le_bnd (mg49 h _) (fun _ => le_bnd (mg43 h _) (fun _ => le_ask (le_refl _) (le_bnd (mg49 h _) (fun _ => le_bnd (mg43 h _) (fun _ => le_refl _)))))))))
theorem mg15 {i j : It} (h : i.Le j) : ∀ s, le (g15 i std s) (g15 j std s) := fun _ => le_need (le_need (le_need (le_need (le_need (le_need (le_need (le_need (le_need (le_need (le_need (le_need (le_need (le_need (le_need (le_need (le_bnd (mg16 h _) (fun _ => le_need (le_need (le_bnd (mg21 h _) (fun _ => le_need (le_bnd (mg23 h _) (fun _ => le_need (le_bnd (mg39 h _) (fun _ => le_need (le_bnd (mg39 h _) (fun _ => le_need (le_bnd (mg32 h _) (fun _ => le_need (le_bnd (mg32 h _) (fun _ => le_need (le_bnd (mg37 h _) (fun _ => le_need (le_bnd (mg25 h _) (fun _ => le_need (le_bnd (mg27 h _) (fun _ => le_bnd (le_refl _) (fun _ => le_ask (le_refl _) (le_need (le_bnd (mg20 h _) (fun _ => le_ask (le_ask (le_ask (le_need (le_bnd (mg36 h _) (fun _ => le_ask (le_need (le_bnd (mg38 h _) (fun _ => le_refl _))) (le_refl _)))) (le_refl _)) (le_refl _)) (le_refl _)))))))))))))))))))))))))))))))))))))))))
end Go.Am
end
section
namespace Go.Am
theorem g15_ev : g15 (itN 200) std () = some (true, ()) := by kernel_rfl
theorem G15_ok : G15 std () = some (true, ()) := mg15 (itN_le 200) () _ g15_ev
end Go.Am
end
section
namespace Go.Am
open M06
def fineG (l : List Pt) (hs : List (List Pt)) : Prop := ¬ greatG l hs ∧ chkG l hs = 0
instance (l : List Pt) (hs : List (List Pt)) : Decidable (fineG l hs) := by unfold fineG; infer_instance
theorem fineG_iff {l : List Pt} {hs : List (List Pt)} : fineG l hs ↔ Fine l hs := by
 unfold fineG
 rw [chk_fine]
 refine ⟨fun h => h.2, fun h => ⟨?_, h⟩⟩
 rintro (k | k | ⟨x, hx, k⟩)
 ·have := h.many.2; omega
 ·have := h.few; omega
 ·have := (h.manyH x hx).2; omega
instance (l : List Pt) (hs : List (List Pt)) : Decidable (Fine l hs) := decidable_of_iff _ fineG_iff
instance (p : Pt) : Decidable (Big p) := by unfold Big; infer_instance
end Go.Am
end
noncomputable section
namespace Go.Am
def ctr3 : Ctr :=
 ⟨3, [.agg [.list 2, .list 1]], [], [(.ret, ⟨[(0, .bool)], [], 1⟩)]⟩
def la3 : List LA :=
 []
def ja3 : List JA :=
 []
def gam3 : List CF :=
 [⟨ctr20, G20⟩, ⟨ctr19, G19⟩, ⟨ctr18, G18⟩, ⟨ctr17, G17⟩, ⟨ctr16, G16⟩, ⟨ctr15, G15⟩, ⟨ctr14, G14⟩]
def an3 : Anns :=
 ⟨gam3, ja3, []⟩
def G3 : (p : Prim) → (LD × (LD × Unit)) → Option T2 :=
 fun p x =>
 opt.bnd T2 _ (G14 p (x.1, (x.2.1, ()))) fun a =>
 opt.ask _ a.1 (
 opt.bnd T2 _ (G15 p ()) fun b =>
 opt.ret _ (b.1, ())) (
 opt.bnd ((LD × T1)) _ (G16 p (x.1, (x.2.1, ()))) fun c =>
 opt.bnd ((LD × T1)) _ (G17 p (x.1, (x.2.1, ()))) fun d =>
 opt.bnd T0 _ (G18 p (x.1, (x.2.1, ()))) fun e =>
 opt.bnd T0 _ (G19 p (x.1, (x.2.1, ()))) fun f =>
 opt.ask _ (p.cmp .eql e.1 f.1) (
 opt.need _ (p.and (p.leN (p.add 0 (p.len c.1)) (p.len c.1)) (p.and Bool.true Bool.true)) <|
 opt.bnd T2 _ (G20 p ((p.cut c.1 0 (p.len c.1)), (d.1, ()))) fun g =>
 opt.ask _ g.1 (
 opt.ask _ (p.cmp .eql c.2.1 d.2.1) (
 opt.bnd T2 _ (G15 p ()) fun h =>
 opt.ret _ (h.1, ())) (
 opt.ret _ (Bool.false, ()))) (
 opt.ret _ (Bool.false, ()))) (
 opt.ret _ (Bool.false, ())))
theorem ok3 : CtrOk PG ctr3 (G3 std) := okF (a := an3) (l := la3) (gC ok20 (gC ok19 (gC ok18 (gC ok17 (gC ok16 (gC ok15 (gC ok14 (gN)))))))) (by kernel_rfl) fun _ _ => by kernel_rfl
end Go.Am
end
section
namespace Go.Am
open M06
theorem area_len (l : List Pt) (hs : List (List Pt)) : (areaG l hs).length ≤ 1000 := by
 unfold areaG
 split
 ·rename_i h
  have := corn_len (chk_fine.1 h)
  omega
 ·simp
theorem G3_ok (l : List Pt) (hs : List (List Pt)) : G3 std (encP l, encH hs, ()) = some (true, ()) := by
 unfold G3
 by_cases hg : greatG l hs
 ·simp only [stdS, stdL, G14_ok, hg, G15_ok]
 ·have hlen := area_len l hs
  have h20 := G20_ok (areaG l hs) (areaG l hs) (by omega)
  have htk : (encP (areaG l hs)).take (areaG l hs).length = encP (areaG l hs) := by rw [List.take_of_length_le (by rw [encP_len]; omega)]
  simp only [stdS, stdL, G14_ok, hg, G15_ok, G16_ok, G17_ok, G18_ok, G19_ok, encP_len, Nat.le_refl, List.drop_zero, htk, h20]
end Go.Am
end
section
namespace Go.Proofs.Ytolfgnbldofcjaa
open Go.ChangeShapes Go.WideShapes Go.ChangeAt Go.RowKit Go.Am
theorem walk3 {e0 : List (List D)} {e1 : List (List D)} (h : G3 std (e0, e1, ()) = some (true, ())) : ∃ h', ARet Try.prog 3 (toA [.agg [.list false 2 e0, .list false 1 e1]]) [] (.d (.bool true)) h' := by
 have := (ok3.2 (e0, e1, ()) (true, ()) h).2
 exact ⟨_, this⟩
theorem shp3 : shps Try.prog 6 Try.f3.params.toList = true := by kernel_rfl
theorem rt3 : Try.f3.resultTypes = #[Try.f3.resultTypes.getD 0 0] := by kernel_rfl
theorem rb3 : Try.prog.underlying (Try.f3.resultTypes.getD 0 0) = some .bool := by kernel_rfl
theorem bools3 : Try.f3.params.toList.all (fun t => decide (t < Try.prog.types.size)) = true := by kernel_rfl
set_option maxRecDepth 100000 in
theorem contract3 (H : Type) (enc : TypeId × Value → H) (W : World) (base : Nat) (args : Array Value) (ds gs : List (DataW H)) (before : List MemPlace)
  (hval : ∀ (j : Nat) t v, Try.f3.params[j]? = some t → args[j]? = some v → Value.okWide Try.prog W .any base t v)
  (hW : DataW.Whole enc Try.prog Try.f3.params.toList Rows.signalAreasSpec.vars false W args.toList ds gs before) :
  Calls Try.prog 3 args W fun e W' => ∃ v, e = .returned v ∧ Rows.signalAreasSpec.post enc Try.prog Try.f3 false true false false W args v W' := by
 have hW' := hW
 obtain ⟨p, q, hA0, hV, rfl, hfz, hnd⟩ := hW
 have hA : DataW.TrodAll enc Try.prog W 0 (fun _ => true) true Try.f3.params.toList args.toList ds p := hA0
 obtain ⟨xs, h1, h2, h3⟩ := args_ok (O := fun _ => False) (fun _ h => h) shp3 (hval_list hval) hA
 have hd : ∃ x0, xs = [x0] ∧ (∃ ds, x0 = .agg ds ∧ DKs [.list [.int .i64, .int .i64], .list [.list [.int .i64, .int .i64]]] ds) := by
  match xs, h1 with
  | [x0], h1 => exact ⟨x0, rfl, h1.1⟩
 obtain ⟨x0, rfl, k0⟩ := hd
 obtain ⟨l0, h0, rfl⟩ := glass_of k0
 obtain ⟨h', hr⟩ := walk3 (G3_ok l0 h0)
 exact (calls_of_aret hr h2 h3).mono fun e W' ⟨he, hs⟩ => ⟨_, he, law_post laid rowed sized bools3 rfl rt3 rb3 (fun ds hd => by
  match ds, hd with
  | [d0], _ => exact ⟨rfl, rfl, rfl⟩) hW' hs⟩
set_option maxRecDepth 100000 in
theorem lifted3 (os : Os) (started : os.Started) (H : Type) (enc : TypeId × Value → H) :
  ReturnsInHanded {} Try.checked os 3 .any (Rows.signalAreasSpec.pre6 enc Try.prog Try.f3 Rows.signalAreasRow.domain false) (Rows.signalAreasSpec.post enc Try.prog Try.f3 false true false false) := by
 refine returnsInHanded_of_change (C := Try.checked) own started (by kernel_rfl) Try.func3
  (ChangeSpec.witness6 (enc := enc) (C := Try.checked) false ⟨#[], #[.agg #[.slice none 0 0, .slice none 0 0]], []⟩ 8 (by kernel_rfl) (by kernel_rfl) (by kernel_rfl) (by kernel_rfl)) ?_
 intro W base args ds gs before hval hW _ _
 exact contract3 H enc W base args ds gs before hval hW
set_option maxRecDepth 100000 in
theorem signalAreas_over : Rows.signalAreasRow.holds Try.pinned (OpenSpec.ofChange Rows.signalAreasSpec) :=
 OpenClaim.holds_of_wide 3 Try.f3 rfl rfl rfl rfl rfl rfl rfl ⟨rfl, rfl, rfl, rfl, rfl⟩ rfl rfl rfl rfl rfl (by kernel_rfl) Try.func3 (by kernel_rfl)
  (of_decide_eq_true (by kernel_rfl)) (by unfold Func.isWrapper; first | (rw [if_pos (by decide +kernel)]; kernel_rfl) | (rw [if_neg (by decide +kernel)]; exact ⟨rfl, rfl⟩))
  (fun os started H enc _ => lifted3 os started H enc)
theorem signalAreas_holds : Rows.SignalAreasSaid := signalAreas_over
end Go.Proofs.Ytolfgnbldofcjaa
end
