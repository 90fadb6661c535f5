/-
  From a proved contract of a law to its statement: what all laws of the chapter share.
-/
import Derived.Test.YtolfgnbldofcjaaRc
import Derived.Test.YtolfgnbldofcjaaProg
import Derived.KernelRfl
import Derived.Test.YtolfgnbldofcjaaAmE
import Derived.Test.YtolfgnbldofcjaaRows
import Derived.OpenShut
import Derived.JoinedCond
import Derived.JoinedOf
import Derived.JoinedAt
import Derived.WalkKit
import Derived.ProofKit
section
set_option linter.unusedVariables false
set_option maxRecDepth 100000
set_option maxHeartbeats 0
namespace Go.Am
noncomputable def ctr13 : Ctr :=
 ⟨13, [], [], [(.ret, ⟨[(0, .bool)], [], 1⟩)]⟩
noncomputable def la13 : List LA :=
 []
noncomputable def ja13 : List JA :=
 [⟨13, [false, true, true, true, true, true, true, true], 0, [(AX.normal, ⟨[(0, .bool)], [], 100⟩)]⟩]
noncomputable def gam13 : List CF :=
 [⟨ctr15, F15⟩, ⟨ctr40, F40⟩, ⟨ctr39, F39⟩, ⟨ctr37, F37⟩, ⟨ctr25, F25⟩, ⟨ctr23, F23⟩, ⟨ctr21, F21⟩]
noncomputable def an13 : Anns :=
 ⟨gam13, ja13, [⟨13, [false, true, true], ⟨[(1, .bptr 0 0), (2, .bptr 1 0), (3, .bptr 2 0)], [.box [.full 3 2, .full 4 1], .box [.full 5 2, .nils], .box [.full 6 2, .nils], .row [(CK.int .i64), (CK.int .i64)], .row [(CK.list 2)], .row [(CK.int .i64), (CK.int .i64)], .row [(CK.int .i64), (CK.int .i64)]], 100⟩⟩]⟩
noncomputable def g13 (it : It) : (p : Prim) → Unit → Option ((Bool × Unit)) :=
 fun p x =>
 opt.need _ (p.eqN 0 0) <|
 opt.need _ (p.eqN 3 (p.len [[(D.int .i64 (0 : Int)), (D.int .i64 (0 : Int))], [(D.int .i64 (4 : Int)), (D.int .i64 (0 : Int))], [(D.int .i64 (0 : Int)), (D.int .i64 (4 : Int))]])) <|
 opt.need _ (p.eqN 3 (p.len [[(D.int .i64 (0 : Int)), (D.int .i64 (0 : Int))], [(D.int .i64 (4 : Int)), (D.int .i64 (0 : Int))], [(D.int .i64 (0 : Int)), (D.int .i64 (4 : Int))]])) <|
 opt.need _ (p.eqN 0 0) <|
 opt.need _ (p.eqN 1 (p.len [[(D.list Bool.true 2 [[(D.int .i64 (0 : Int)), (D.int .i64 (0 : Int))], [(D.int .i64 (1 : Int)), (D.int .i64 (0 : Int))]])]])) <|
 opt.need _ (p.eqN 1 (p.len [[(D.list Bool.true 2 [[(D.int .i64 (0 : Int)), (D.int .i64 (0 : Int))], [(D.int .i64 (1 : Int)), (D.int .i64 (0 : Int))]])]])) <|
 opt.need _ (p.eqN 0 0) <|
 opt.need _ (p.eqN 1 (p.len [[(D.int .i64 (6 : Int)), (D.int .i64 (0 : Int))]])) <|
 opt.need _ (p.eqN 1 (p.len [[(D.int .i64 (6 : Int)), (D.int .i64 (0 : Int))]])) <|
 opt.need _ (p.eqN 0 0) <|
 opt.need _ (p.eqN 1 (p.len [[(D.int .i64 (3 : Int)), (D.int .i64 (2 : Int))]])) <|
 opt.need _ (p.eqN 1 (p.len [[(D.int .i64 (3 : Int)), (D.int .i64 (2 : Int))]])) <|
 opt.need _ (p.and (p.and (p.leN (p.add 0 (p.len [[(D.int .i64 (0 : Int)), (D.int .i64 (0 : Int))], [(D.int .i64 (4 : Int)), (D.int .i64 (0 : Int))], [(D.int .i64 (0 : Int)), (D.int .i64 (4 : Int))]])) (p.len [[(D.int .i64 (0 : Int)), (D.int .i64 (0 : Int))], [(D.int .i64 (4 : Int)), (D.int .i64 (0 : Int))], [(D.int .i64 (0 : Int)), (D.int .i64 (4 : Int))]])) (p.and (p.leN (p.add 0 (p.len [[(D.list Bool.true 2 [[(D.int .i64 (0 : Int)), (D.int .i64 (0 : Int))], [(D.int .i64 (1 : Int)), (D.int .i64 (0 : Int))]])]])) (p.len [[(D.list Bool.true 2 [[(D.int .i64 (0 : Int)), (D.int .i64 (0 : Int))], [(D.int .i64 (1 : Int)), (D.int .i64 (0 : Int))]])]])) Bool.true)) (p.and Bool.true Bool.true)) <|
 opt.bnd ((Bool × (Int × Unit))) _ (g21 it p ((p.cut [[(D.int .i64 (0 : Int)), (D.int .i64 (0 : Int))], [(D.int .i64 (4 : Int)), (D.int .i64 (0 : Int))], [(D.int .i64 (0 : Int)), (D.int .i64 (4 : Int))]] 0 (p.len [[(D.int .i64 (0 : Int)), (D.int .i64 (0 : Int))], [(D.int .i64 (4 : Int)), (D.int .i64 (0 : Int))], [(D.int .i64 (0 : Int)), (D.int .i64 (4 : Int))]])), ((p.cut [[(D.list Bool.true 2 [[(D.int .i64 (0 : Int)), (D.int .i64 (0 : Int))], [(D.int .i64 (1 : Int)), (D.int .i64 (0 : Int))]])]] 0 (p.len [[(D.list Bool.true 2 [[(D.int .i64 (0 : Int)), (D.int .i64 (0 : Int))], [(D.int .i64 (1 : Int)), (D.int .i64 (0 : Int))]])]])), ((3 : Int), ((3 : Int), ()))))) fun y16 =>
 opt.need _ (p.and (p.and (p.leN (p.add 0 (p.len [[(D.int .i64 (0 : Int)), (D.int .i64 (0 : Int))], [(D.int .i64 (4 : Int)), (D.int .i64 (0 : Int))], [(D.int .i64 (0 : Int)), (D.int .i64 (4 : Int))]])) (p.len [[(D.int .i64 (0 : Int)), (D.int .i64 (0 : Int))], [(D.int .i64 (4 : Int)), (D.int .i64 (0 : Int))], [(D.int .i64 (0 : Int)), (D.int .i64 (4 : Int))]])) (p.and (p.leN (p.add 0 (p.len [[(D.list Bool.true 2 [[(D.int .i64 (0 : Int)), (D.int .i64 (0 : Int))], [(D.int .i64 (1 : Int)), (D.int .i64 (0 : Int))]])]])) (p.len [[(D.list Bool.true 2 [[(D.int .i64 (0 : Int)), (D.int .i64 (0 : Int))], [(D.int .i64 (1 : Int)), (D.int .i64 (0 : Int))]])]])) Bool.true)) (p.and (p.leN (p.add 0 4) (p.len [[(D.int .i64 (0 : Int)), (D.int .i64 (0 : Int))], [(D.int .i64 (5 : Int)), (D.int .i64 (0 : Int))], [(D.int .i64 (5 : Int)), (D.int .i64 (4 : Int))], [(D.int .i64 (0 : Int)), (D.int .i64 (4 : Int))]])) Bool.true)) <|
 opt.bnd ((Int × (Int × (Int × Unit)))) _ (g23 it p ((p.cut [[(D.int .i64 (0 : Int)), (D.int .i64 (0 : Int))], [(D.int .i64 (4 : Int)), (D.int .i64 (0 : Int))], [(D.int .i64 (0 : Int)), (D.int .i64 (4 : Int))]] 0 (p.len [[(D.int .i64 (0 : Int)), (D.int .i64 (0 : Int))], [(D.int .i64 (4 : Int)), (D.int .i64 (0 : Int))], [(D.int .i64 (0 : Int)), (D.int .i64 (4 : Int))]])), ((p.cut [[(D.list Bool.true 2 [[(D.int .i64 (0 : Int)), (D.int .i64 (0 : Int))], [(D.int .i64 (1 : Int)), (D.int .i64 (0 : Int))]])]] 0 (p.len [[(D.list Bool.true 2 [[(D.int .i64 (0 : Int)), (D.int .i64 (0 : Int))], [(D.int .i64 (1 : Int)), (D.int .i64 (0 : Int))]])]])), ((p.cut [[(D.int .i64 (0 : Int)), (D.int .i64 (0 : Int))], [(D.int .i64 (5 : Int)), (D.int .i64 (0 : Int))], [(D.int .i64 (5 : Int)), (D.int .i64 (4 : Int))], [(D.int .i64 (0 : Int)), (D.int .i64 (4 : Int))]] 0 4), ())))) fun y17 =>
 opt.need _ (p.and (p.and (p.leN (p.add 0 (p.len [[(D.int .i64 (0 : Int)), (D.int .i64 (0 : Int))], [(D.int .i64 (4 : Int)), (D.int .i64 (0 : Int))], [(D.int .i64 (0 : Int)), (D.int .i64 (4 : Int))]])) (p.len [[(D.int .i64 (0 : Int)), (D.int .i64 (0 : Int))], [(D.int .i64 (4 : Int)), (D.int .i64 (0 : Int))], [(D.int .i64 (0 : Int)), (D.int .i64 (4 : Int))]])) (p.and (p.leN (p.add 0 (p.len [[(D.list Bool.true 2 [[(D.int .i64 (0 : Int)), (D.int .i64 (0 : Int))], [(D.int .i64 (1 : Int)), (D.int .i64 (0 : Int))]])]])) (p.len [[(D.list Bool.true 2 [[(D.int .i64 (0 : Int)), (D.int .i64 (0 : Int))], [(D.int .i64 (1 : Int)), (D.int .i64 (0 : Int))]])]])) Bool.true)) (p.and (p.and (p.leN (p.add 0 (p.len [[(D.int .i64 (6 : Int)), (D.int .i64 (0 : Int))]])) (p.len [[(D.int .i64 (6 : Int)), (D.int .i64 (0 : Int))]])) (p.and Bool.true Bool.true)) Bool.true)) <|
 opt.bnd ((Int × (Int × (Int × Unit)))) _ (g25 it p ((p.cut [[(D.int .i64 (0 : Int)), (D.int .i64 (0 : Int))], [(D.int .i64 (4 : Int)), (D.int .i64 (0 : Int))], [(D.int .i64 (0 : Int)), (D.int .i64 (4 : Int))]] 0 (p.len [[(D.int .i64 (0 : Int)), (D.int .i64 (0 : Int))], [(D.int .i64 (4 : Int)), (D.int .i64 (0 : Int))], [(D.int .i64 (0 : Int)), (D.int .i64 (4 : Int))]])), ((p.cut [[(D.list Bool.true 2 [[(D.int .i64 (0 : Int)), (D.int .i64 (0 : Int))], [(D.int .i64 (1 : Int)), (D.int .i64 (0 : Int))]])]] 0 (p.len [[(D.list Bool.true 2 [[(D.int .i64 (0 : Int)), (D.int .i64 (0 : Int))], [(D.int .i64 (1 : Int)), (D.int .i64 (0 : Int))]])]])), ((p.cut [[(D.int .i64 (6 : Int)), (D.int .i64 (0 : Int))]] 0 (p.len [[(D.int .i64 (6 : Int)), (D.int .i64 (0 : Int))]])), ([], ()))))) fun y18 =>
 opt.need _ (p.and (p.and (p.leN (p.add 0 (p.len [[(D.int .i64 (0 : Int)), (D.int .i64 (0 : Int))], [(D.int .i64 (4 : Int)), (D.int .i64 (0 : Int))], [(D.int .i64 (0 : Int)), (D.int .i64 (4 : Int))]])) (p.len [[(D.int .i64 (0 : Int)), (D.int .i64 (0 : Int))], [(D.int .i64 (4 : Int)), (D.int .i64 (0 : Int))], [(D.int .i64 (0 : Int)), (D.int .i64 (4 : Int))]])) (p.and (p.leN (p.add 0 (p.len [[(D.list Bool.true 2 [[(D.int .i64 (0 : Int)), (D.int .i64 (0 : Int))], [(D.int .i64 (1 : Int)), (D.int .i64 (0 : Int))]])]])) (p.len [[(D.list Bool.true 2 [[(D.int .i64 (0 : Int)), (D.int .i64 (0 : Int))], [(D.int .i64 (1 : Int)), (D.int .i64 (0 : Int))]])]])) Bool.true)) (p.and (p.and (p.leN (p.add 0 (p.len [[(D.int .i64 (3 : Int)), (D.int .i64 (2 : Int))]])) (p.len [[(D.int .i64 (3 : Int)), (D.int .i64 (2 : Int))]])) (p.and Bool.true Bool.true)) Bool.true)) <|
 opt.bnd ((Int × (Int × (Int × Unit)))) _ (g25 it p ((p.cut [[(D.int .i64 (0 : Int)), (D.int .i64 (0 : Int))], [(D.int .i64 (4 : Int)), (D.int .i64 (0 : Int))], [(D.int .i64 (0 : Int)), (D.int .i64 (4 : Int))]] 0 (p.len [[(D.int .i64 (0 : Int)), (D.int .i64 (0 : Int))], [(D.int .i64 (4 : Int)), (D.int .i64 (0 : Int))], [(D.int .i64 (0 : Int)), (D.int .i64 (4 : Int))]])), ((p.cut [[(D.list Bool.true 2 [[(D.int .i64 (0 : Int)), (D.int .i64 (0 : Int))], [(D.int .i64 (1 : Int)), (D.int .i64 (0 : Int))]])]] 0 (p.len [[(D.list Bool.true 2 [[(D.int .i64 (0 : Int)), (D.int .i64 (0 : Int))], [(D.int .i64 (1 : Int)), (D.int .i64 (0 : Int))]])]])), ((p.cut [[(D.int .i64 (3 : Int)), (D.int .i64 (2 : Int))]] 0 (p.len [[(D.int .i64 (3 : Int)), (D.int .i64 (2 : Int))]])), ([], ()))))) fun y19 =>
 opt.need _ (p.and (p.and (p.leN (p.add 0 (p.len [[(D.int .i64 (0 : Int)), (D.int .i64 (0 : Int))], [(D.int .i64 (4 : Int)), (D.int .i64 (0 : Int))], [(D.int .i64 (0 : Int)), (D.int .i64 (4 : Int))]])) (p.len [[(D.int .i64 (0 : Int)), (D.int .i64 (0 : Int))], [(D.int .i64 (4 : Int)), (D.int .i64 (0 : Int))], [(D.int .i64 (0 : Int)), (D.int .i64 (4 : Int))]])) (p.and (p.leN (p.add 0 (p.len [[(D.list Bool.true 2 [[(D.int .i64 (0 : Int)), (D.int .i64 (0 : Int))], [(D.int .i64 (1 : Int)), (D.int .i64 (0 : Int))]])]])) (p.len [[(D.list Bool.true 2 [[(D.int .i64 (0 : Int)), (D.int .i64 (0 : Int))], [(D.int .i64 (1 : Int)), (D.int .i64 (0 : Int))]])]])) Bool.true)) (p.and (p.and (p.leN (p.add 0 (p.len [[(D.int .i64 (6 : Int)), (D.int .i64 (0 : Int))]])) (p.len [[(D.int .i64 (6 : Int)), (D.int .i64 (0 : Int))]])) (p.and Bool.true Bool.true)) Bool.true)) <|
 opt.bnd ((Int × (Int × (Int × (Int × Unit))))) _ (g37 it p ((p.cut [[(D.int .i64 (0 : Int)), (D.int .i64 (0 : Int))], [(D.int .i64 (4 : Int)), (D.int .i64 (0 : Int))], [(D.int .i64 (0 : Int)), (D.int .i64 (4 : Int))]] 0 (p.len [[(D.int .i64 (0 : Int)), (D.int .i64 (0 : Int))], [(D.int .i64 (4 : Int)), (D.int .i64 (0 : Int))], [(D.int .i64 (0 : Int)), (D.int .i64 (4 : Int))]])), ((p.cut [[(D.list Bool.true 2 [[(D.int .i64 (0 : Int)), (D.int .i64 (0 : Int))], [(D.int .i64 (1 : Int)), (D.int .i64 (0 : Int))]])]] 0 (p.len [[(D.list Bool.true 2 [[(D.int .i64 (0 : Int)), (D.int .i64 (0 : Int))], [(D.int .i64 (1 : Int)), (D.int .i64 (0 : Int))]])]])), ((p.cut [[(D.int .i64 (6 : Int)), (D.int .i64 (0 : Int))]] 0 (p.len [[(D.int .i64 (6 : Int)), (D.int .i64 (0 : Int))]])), ([], ()))))) fun y20 =>
 opt.bnd ((Bool × Unit)) _ (
 opt.run ((Bool × Unit)) (
 opt.ask _ (p.cmp .eql y16.2.1 (0 : Int)) (
 opt.ask _ (p.cmp .eql y17.2.2.1 (5 : Int)) (
 opt.ask _ (p.cmp .eql y18.2.2.1 (0 : Int)) (
 opt.ask _ (p.cmp .eql y19.2.2.1 (0 : Int)) (
 opt.ask _ (p.cmp .eql y20.2.2.2.1 (5 : Int)) (
 opt.ask _ (bif y16.1 then Bool.false else Bool.true) (
 opt.ask _ (bif (p.cmp .eql y18.1 (1 : Int)) then (bif (p.cmp .eql y18.2.1 (1 : Int)) then Bool.true else Bool.false) else Bool.false) (
 opt.ask _ (bif (p.cmp .eql y19.1 (0 : Int)) then (bif (p.cmp .eql y19.2.1 (1 : Int)) then Bool.true else Bool.false) else Bool.false) (
 opt.need _ (p.and (p.and (p.leN (p.add 0 (p.len [[(D.int .i64 (0 : Int)), (D.int .i64 (0 : Int))], [(D.int .i64 (4 : Int)), (D.int .i64 (0 : Int))], [(D.int .i64 (0 : Int)), (D.int .i64 (4 : Int))]])) (p.len [[(D.int .i64 (0 : Int)), (D.int .i64 (0 : Int))], [(D.int .i64 (4 : Int)), (D.int .i64 (0 : Int))], [(D.int .i64 (0 : Int)), (D.int .i64 (4 : Int))]])) (p.and (p.leN (p.add 0 (p.len [[(D.list Bool.true 2 [[(D.int .i64 (0 : Int)), (D.int .i64 (0 : Int))], [(D.int .i64 (1 : Int)), (D.int .i64 (0 : Int))]])]])) (p.len [[(D.list Bool.true 2 [[(D.int .i64 (0 : Int)), (D.int .i64 (0 : Int))], [(D.int .i64 (1 : Int)), (D.int .i64 (0 : Int))]])]])) Bool.true)) (p.and (p.and (p.leN (p.add 0 (p.len [[(D.int .i64 (6 : Int)), (D.int .i64 (0 : Int))]])) (p.len [[(D.int .i64 (6 : Int)), (D.int .i64 (0 : Int))]])) (p.and Bool.true Bool.true)) (p.and Bool.true Bool.true))) <|
 opt.bnd ((Int × Unit)) _ (g39 it p ((p.cut [[(D.int .i64 (0 : Int)), (D.int .i64 (0 : Int))], [(D.int .i64 (4 : Int)), (D.int .i64 (0 : Int))], [(D.int .i64 (0 : Int)), (D.int .i64 (4 : Int))]] 0 (p.len [[(D.int .i64 (0 : Int)), (D.int .i64 (0 : Int))], [(D.int .i64 (4 : Int)), (D.int .i64 (0 : Int))], [(D.int .i64 (0 : Int)), (D.int .i64 (4 : Int))]])), ((p.cut [[(D.list Bool.true 2 [[(D.int .i64 (0 : Int)), (D.int .i64 (0 : Int))], [(D.int .i64 (1 : Int)), (D.int .i64 (0 : Int))]])]] 0 (p.len [[(D.list Bool.true 2 [[(D.int .i64 (0 : Int)), (D.int .i64 (0 : Int))], [(D.int .i64 (1 : Int)), (D.int .i64 (0 : Int))]])]])), ((p.cut [[(D.int .i64 (6 : Int)), (D.int .i64 (0 : Int))]] 0 (p.len [[(D.int .i64 (6 : Int)), (D.int .i64 (0 : Int))]])), ([], ((0 : Int), ((1 : Int), ((0 : Int), ())))))))) fun y21 =>
 opt.ask _ (p.cmp .eql y21.1 (14 : Int)) (
 opt.need _ (p.and (p.and (p.leN (p.add 0 (p.len [[(D.int .i64 (0 : Int)), (D.int .i64 (0 : Int))], [(D.int .i64 (4 : Int)), (D.int .i64 (0 : Int))], [(D.int .i64 (0 : Int)), (D.int .i64 (4 : Int))]])) (p.len [[(D.int .i64 (0 : Int)), (D.int .i64 (0 : Int))], [(D.int .i64 (4 : Int)), (D.int .i64 (0 : Int))], [(D.int .i64 (0 : Int)), (D.int .i64 (4 : Int))]])) (p.and (p.leN (p.add 0 (p.len [[(D.list Bool.true 2 [[(D.int .i64 (0 : Int)), (D.int .i64 (0 : Int))], [(D.int .i64 (1 : Int)), (D.int .i64 (0 : Int))]])]])) (p.len [[(D.list Bool.true 2 [[(D.int .i64 (0 : Int)), (D.int .i64 (0 : Int))], [(D.int .i64 (1 : Int)), (D.int .i64 (0 : Int))]])]])) Bool.true)) (p.and (p.and (p.leN (p.add 0 (p.len [[(D.int .i64 (3 : Int)), (D.int .i64 (2 : Int))]])) (p.len [[(D.int .i64 (3 : Int)), (D.int .i64 (2 : Int))]])) (p.and Bool.true Bool.true)) (p.and Bool.true Bool.true))) <|
 opt.bnd ((Int × Unit)) _ (g40 it p ((p.cut [[(D.int .i64 (0 : Int)), (D.int .i64 (0 : Int))], [(D.int .i64 (4 : Int)), (D.int .i64 (0 : Int))], [(D.int .i64 (0 : Int)), (D.int .i64 (4 : Int))]] 0 (p.len [[(D.int .i64 (0 : Int)), (D.int .i64 (0 : Int))], [(D.int .i64 (4 : Int)), (D.int .i64 (0 : Int))], [(D.int .i64 (0 : Int)), (D.int .i64 (4 : Int))]])), ((p.cut [[(D.list Bool.true 2 [[(D.int .i64 (0 : Int)), (D.int .i64 (0 : Int))], [(D.int .i64 (1 : Int)), (D.int .i64 (0 : Int))]])]] 0 (p.len [[(D.list Bool.true 2 [[(D.int .i64 (0 : Int)), (D.int .i64 (0 : Int))], [(D.int .i64 (1 : Int)), (D.int .i64 (0 : Int))]])]])), ((p.cut [[(D.int .i64 (3 : Int)), (D.int .i64 (2 : Int))]] 0 (p.len [[(D.int .i64 (3 : Int)), (D.int .i64 (2 : Int))]])), ([], ((3 : Int), ((2 : Int), ((1 : Int), ())))))))) fun y22 =>
 opt.ask _ (p.cmp .eql y22.1 (0 : Int)) (
 opt.bnd ((Bool × Unit)) _ (g15 it p ()) fun y23 =>
 opt.ret _ (y23.1, ())) (
 opt.ret _ (Bool.false, ()))) (
 opt.ret _ (Bool.false, ()))) (
 opt.ret _ (Bool.false, ()))) (
 opt.ret _ (Bool.false, ()))) (
 opt.ret _ (Bool.false, ()))) (
 opt.ret _ (Bool.false, ()))) (
 opt.ret _ (Bool.false, ()))) (
 opt.ret _ (Bool.false, ()))) (
 opt.ret _ (Bool.false, ()))) (
 opt.ret _ (Bool.false, ())))) fun y24 =>
 opt.ret _ (y24.1, ())
noncomputable def G13 := g13 it0
noncomputable def F13 : Prim → Tup (ctr13).scs → Option (STup (scss (ctr13).outs)) :=
 fun p x => G13 p x
theorem eq13 (p : Prim) (x : Tup (ctr13).scs) : bodyRun opt p (autoEnv Go.Proofs.Try.prog) (mkOrc opt p (autoEnv Go.Proofs.Try.prog) 400 (an13) la13) 400 ctr13 x = G13 p x := by kernel_rfl
theorem gok13 : GamOk Go.Proofs.Try.prog (gam13) := by
  intro cf h
  simp only [gam13, List.mem_cons, List.not_mem_nil, or_false] at h
  rcases h with rfl | rfl | rfl | rfl | rfl | rfl | rfl
  · exact ok15
  · exact ok40
  · exact ok39
  · exact ok37
  · exact ok25
  · exact ok23
  · exact ok21
theorem enters13 : Enters Go.Proofs.Try.prog 13 := enters_auto (b := _) rfl (by kernel_rfl)
theorem ok13 : CtrOk Go.Proofs.Try.prog ctr13 (F13 std) := ctr_of_body (autoEnv_ok follows_mixed) (mkOrc_ok (autoEnv_ok follows_mixed) gok13 _) enters13 (fun x => eq13 std x)
end Go.Am
end

section
set_option linter.unusedVariables false
set_option maxRecDepth 100000
set_option maxHeartbeats 0
namespace Go.Am
theorem mg102 {i j : It} (h : i.Le j) : ∀ s, le (g102 i std s) (g102 j std s) := fun _ => le_alt (h _ _ _ _ _ (fun _ => le_refl _)) (fun _ => le_refl _) (fun _ => le_refl _)
theorem mg87 {i j : It} (h : i.Le j) : ∀ s, le (g87 i std s) (g87 j std s) := fun _ => le_bnd (le_refl _) (fun _ => le_bnd (le_refl _) (fun _ => le_need (le_bnd (mg102 h _) (fun _ => le_refl _))))
theorem mc99_1 {i j : It} (h : i.Le j) : ∀ s, le (c99_1 i std s) (c99_1 j std s) := fun _ => le_run (le_ask (le_need (le_need (le_bnd (h _ _ _ _ _ (fun _ => le_refl _)) (fun _ => le_refl _)))) (le_refl _))
theorem mg99 {i j : It} (h : i.Le j) : ∀ s, le (g99 i std s) (g99 j std s) := fun _ => le_bnd (h _ _ _ _ _ (mc99_1 h)) (fun _ => le_refl _)
theorem mg53 {i j : It} (h : i.Le j) : ∀ s, le (g53 i std s) (g53 j std s) := fun _ => le_alt (h _ _ _ _ _ (fun _ => le_refl _)) (fun _ => le_refl _) (fun _ => le_refl _)
theorem mg60 {i j : It} (h : i.Le j) : ∀ s, le (g60 i std s) (g60 j std s) := fun _ => le_need (le_need (le_need (le_need (le_bnd (h _ _ _ _ _ (fun _ => le_refl _)) (fun _ => le_refl _)))))
theorem mg20 {i j : It} (h : i.Le j) : ∀ s, le (g20 i std s) (g20 j std s) := fun _ => le_ask (le_refl _) (le_alt (h _ _ _ _ _ (fun _ => le_refl _)) (fun _ => le_refl _) (fun _ => le_refl _))
theorem mg14 {i j : It} (h : i.Le j) : ∀ s, le (g14 i std s) (g14 j std s) := fun _ => le_bnd (le_refl _) (fun _ => le_ask (le_refl _) (le_alt (h _ _ _ _ _ (fun _ => le_refl _)) (fun _ => le_refl _) (fun _ => le_refl _)))
theorem mc18_2 {i j : It} (h : i.Le j) : ∀ s, le (c18_2 i std s) (c18_2 j std s) := fun _ => le_run (le_ask (le_need (le_need (le_bnd (mg53 h _) (fun _ => le_refl _)))) (le_refl _))
theorem mg18 {i j : It} (h : i.Le j) : ∀ s, le (g18 i std s) (g18 j std s) := fun _ => le_bnd (le_run (le_bnd (le_refl _) (fun _ => le_ask (le_refl _) (le_ask (le_refl _) (le_alt (h _ _ _ _ _ (fun _ => le_refl _)) (fun _ => le_refl _) (fun _ => le_refl _)))))) (fun _ => le_ask (le_refl _) (le_bnd (le_run (le_bnd (mg53 h _) (fun _ => le_ask (le_refl _) (le_alt (h _ _ _ _ _ (mc18_2 h)) (fun _ => le_refl _) (fun _ => le_refl _))))) (fun _ => le_refl _)))
theorem mg57 {i j : It} (h : i.Le j) : ∀ s, le (g57 i std s) (g57 j std s) := fun _ => le_ask (le_refl _) (le_alt (le_run (le_alt (h _ _ _ _ _ (fun _ => le_refl _)) (fun _ => le_refl _) (fun _ => le_refl _))) (fun _ => le_refl _) (fun _ => le_refl _))
theorem mc93_1 {i j : It} (h : i.Le j) : ∀ s, le (c93_1 i std s) (c93_1 j std s) := fun _ => le_run (le_ask (le_need (le_need (le_bnd (le_refl _) (fun _ => le_bnd (h _ _ _ _ _ (fun _ => le_refl _)) (fun _ => le_refl _))))) (le_refl _))
theorem mg93 {i j : It} (h : i.Le j) : ∀ s, le (g93 i std s) (g93 j std s) := fun _ => le_bnd (h _ _ _ _ _ (mc93_1 h)) (fun _ => le_refl _)
theorem mg65 {i j : It} (h : i.Le j) : ∀ s, le (g65 i std s) (g65 j std s) := fun _ => le_need (le_bnd (mg93 h _) (fun _ => le_refl _))
theorem mg76 {i j : It} (h : i.Le j) : ∀ s, le (g76 i std s) (g76 j std s) := fun _ => le_bnd (le_refl _) (fun _ => le_bnd (le_refl _) (fun _ => le_ask (le_refl _) (le_need (le_bnd (mg93 h _) (fun _ => le_refl _)))))
theorem mg68 {i j : It} (h : i.Le j) : ∀ s, le (g68 i std s) (g68 j std s) := fun _ => le_bnd (le_refl _) (fun _ => le_ask (le_refl _) (le_bnd (mg65 h _) (fun _ => le_refl _)))
theorem mg78 {i j : It} (h : i.Le j) : ∀ s, le (g78 i std s) (g78 j std s) := fun _ => le_need (le_bnd (h _ _ _ _ _ (fun _ => le_refl _)) (fun _ => le_refl _))
theorem mg92 {i j : It} (h : i.Le j) : ∀ s, le (g92 i std s) (g92 j std s) := fun _ => le_bnd (mg78 h _) (fun _ => le_bnd (mg78 h _) (fun _ => le_refl _))
theorem mc63_5 {i j : It} (h : i.Le j) : ∀ s, le (c63_5 i std s) (c63_5 j std s) := fun _ => le_run (le_ask (le_need (le_need (le_bnd (mg92 h _) (fun _ => le_refl _)))) (le_refl _))
theorem mc63_3 {i j : It} (h : i.Le j) : ∀ s, le (c63_3 i std s) (c63_3 j std s) := fun _ => le_run (le_ask (le_need (le_need (le_bnd (le_run (le_need (le_need (le_need (le_need (le_need (le_alt (h _ _ _ _ _ (fun _ => le_refl _)) (fun _ => le_refl _) (fun _ => le_refl _)))))))) (fun _ => le_refl _)))) (le_refl _))
theorem mc63_1 {i j : It} (h : i.Le j) : ∀ s, le (c63_1 i std s) (c63_1 j std s) := fun _ => le_run (le_ask (le_need (le_need (le_need (le_need (le_bnd (h _ _ _ _ _ (fun _ => le_refl _)) (fun _ => le_refl _)))))) (le_refl _))
theorem mg63 {i j : It} (h : i.Le j) : ∀ s, le (g63 i std s) (g63 j std s) := fun _ => le_bnd (h _ _ _ _ _ (mc63_1 h)) (fun _ => le_need (le_need (le_need (le_need (le_need (le_bnd (h _ _ _ _ _ (mc63_3 h)) (fun _ => le_need (le_need (le_bnd (h _ _ _ _ _ (mc63_5 h)) (fun _ => le_refl _))))))))))
theorem mc108o_2 {i j : It} (h : i.Le j) : ∀ s, le (c108o_2 i std s) (c108o_2 j std s) := fun _ => le_run (le_ask (le_need (le_need (le_need (le_need (le_bnd (mg87 h _) (fun _ => le_refl _)))))) (le_refl _))
theorem mc108o_1 {i j : It} (h : i.Le j) : ∀ s, le (c108o_1 i std s) (c108o_1 j std s) := fun _ => le_run (le_ask (le_need (le_need (le_need (le_bnd (h _ _ _ _ _ (mc108o_2 h)) (fun _ => le_refl _))))) (le_refl _))
theorem mg108o {i j : It} (h : i.Le j) : ∀ s, le (g108o i std s) (g108o j std s) := fun _ => le_need (le_need (le_need (le_bnd (h _ _ _ _ _ (mc108o_1 h)) (fun _ => le_refl _))))
theorem mc104o_1 {i j : It} (h : i.Le j) : ∀ s, le (c104o_1 i std s) (c104o_1 j std s) := fun _ => le_run (le_ask (le_need (le_need (le_need (le_bnd (mg108o h _) (fun _ => le_refl _))))) (le_refl _))
theorem mg104o {i j : It} (h : i.Le j) : ∀ s, le (g104o i std s) (g104o j std s) := fun _ => le_need (le_need (le_need (le_bnd (h _ _ _ _ _ (mc104o_1 h)) (fun _ => le_refl _))))
theorem mg97o {i j : It} (h : i.Le j) : ∀ s, le (g97o i std s) (g97o j std s) := fun _ => le_bnd (le_refl _) (fun _ => le_need (le_need (le_need (le_bnd (mg104o h _) (fun _ => le_refl _)))))
theorem mc108t_1 {i j : It} (h : i.Le j) : ∀ s, le (c108t_1 i std s) (c108t_1 j std s) := fun _ => le_run (le_ask (le_need (le_need (le_bnd (h _ _ _ _ _ (fun _ => le_refl _)) (fun _ => le_refl _)))) (le_refl _))
theorem mg108t {i j : It} (h : i.Le j) : ∀ s, le (g108t i std s) (g108t j std s) := fun _ => le_need (le_need (le_bnd (h _ _ _ _ _ (mc108t_1 h)) (fun _ => le_refl _)))
theorem mc104t_1 {i j : It} (h : i.Le j) : ∀ s, le (c104t_1 i std s) (c104t_1 j std s) := fun _ => le_run (le_ask (le_need (le_need (le_bnd (mg108t h _) (fun _ => le_refl _)))) (le_refl _))
theorem mg104t {i j : It} (h : i.Le j) : ∀ s, le (g104t i std s) (g104t j std s) := fun _ => le_need (le_need (le_bnd (h _ _ _ _ _ (mc104t_1 h)) (fun _ => le_refl _)))
theorem mg97t {i j : It} (h : i.Le j) : ∀ s, le (g97t i std s) (g97t j std s) := fun _ => le_bnd (le_refl _) (fun _ => le_need (le_need (le_bnd (mg104t h _) (fun _ => le_refl _))))
theorem mc88_1 {i j : It} (h : i.Le j) : ∀ s, le (c88_1 i std s) (c88_1 j std s) := fun _ => le_run (le_ask (le_need (le_need (le_bnd (h _ _ _ _ _ (fun _ => le_refl _)) (fun _ => le_refl _)))) (le_refl _))
theorem mg88 {i j : It} (h : i.Le j) : ∀ s, le (g88 i std s) (g88 j std s) := fun _ => le_bnd (h _ _ _ _ _ (mc88_1 h)) (fun _ => le_refl _)
theorem mc101_1 {i j : It} (h : i.Le j) : ∀ s, le (c101_1 i std s) (c101_1 j std s) := fun _ => le_run (le_ask (le_need (le_need (le_need (le_need (le_ask (le_need (le_bnd (h _ _ _ _ _ (fun _ => le_refl _)) (fun _ => le_refl _))) (le_refl _)))))) (le_refl _))
theorem mg101 {i j : It} (h : i.Le j) : ∀ s, le (g101 i std s) (g101 j std s) := fun _ => le_ask (le_refl _) (le_bnd (h _ _ _ _ _ (mc101_1 h)) (fun _ => le_refl _))
theorem mg86 {i j : It} (h : i.Le j) : ∀ s, le (g86 i std s) (g86 j std s) := fun _ => le_need (le_need (le_need (le_need (le_need (le_bnd (mg97o h _) (fun _ => le_bnd (mg101 h _) (fun _ => le_refl _)))))))
theorem mg89 {i j : It} (h : i.Le j) : ∀ s, le (g89 i std s) (g89 j std s) := fun _ => le_bnd (h _ _ _ _ _ (fun _ => le_refl _)) (fun _ => le_refl _)
theorem mg59 {i j : It} (h : i.Le j) : ∀ s, le (g59 i std s) (g59 j std s) := fun _ => le_bnd (mg86 h _) (fun _ => le_ask (le_refl _) (le_need (le_bnd (mg88 h _) (fun _ => le_need (le_bnd (mg89 h _) (fun _ => le_need (le_bnd (mg88 h _) (fun _ => le_refl _))))))))
theorem mc80_3 {i j : It} (h : i.Le j) : ∀ s, le (c80_3 i std s) (c80_3 j std s) := fun _ => le_run (le_ask (le_bnd (le_run (le_need (le_need (le_need (le_bnd (mg99 h _) (fun _ => le_refl _)))))) (fun _ => le_refl _)) (le_refl _))
theorem mc80_1 {i j : It} (h : i.Le j) : ∀ s, le (c80_1 i std s) (c80_1 j std s) := fun _ => le_run (le_ask (le_need (le_need (le_bnd (le_run (le_need (le_need (le_need (le_need (le_need (le_alt (h _ _ _ _ _ (fun _ => le_refl _)) (fun _ => le_refl _) (fun _ => le_refl _)))))))) (fun _ => le_refl _)))) (le_refl _))
theorem mg80 {i j : It} (h : i.Le j) : ∀ s, le (g80 i std s) (g80 j std s) := fun _ => le_need (le_need (le_need (le_bnd (h _ _ _ _ _ (mc80_1 h)) (fun _ => le_need (le_need (le_bnd (mg97t h _) (fun _ => le_need (le_need (le_need (le_bnd (mg99 h _) (fun _ => le_need (le_need (le_need (le_need (le_need (le_bnd (h _ _ _ _ _ (mc80_3 h)) (fun _ => le_refl _)))))))))))))))))
theorem mc48_1 {i j : It} (h : i.Le j) : ∀ s, le (c48_1 i std s) (c48_1 j std s) := fun _ => le_run (le_ask (le_need (le_need (le_bnd (mg60 h _) (fun _ => le_bnd (mg59 h _) (fun _ => le_bnd (mg80 h _) (fun _ => le_refl _)))))) (le_refl _))
theorem mg48 {i j : It} (h : i.Le j) : ∀ s, le (g48 i std s) (g48 j std s) := fun _ => le_bnd (mg18 h _) (fun _ => le_ask (le_refl _) (le_bnd (mg60 h _) (fun _ => le_bnd (mg59 h _) (fun _ => le_bnd (h _ _ _ _ _ (mc48_1 h)) (fun _ => le_refl _)))))
theorem mg16 {i j : It} (h : i.Le j) : ∀ s, le (g16 i std s) (g16 j std s) := fun _ => le_alt (mg48 h _) (fun _ => le_refl _) (fun _ => le_bnd (le_refl _) (fun _ => le_ask (le_refl _) (le_bnd (h _ _ _ _ _ (fun _ => le_refl _)) (fun _ => le_refl _))))
theorem mg62 {i j : It} (h : i.Le j) : ∀ s, le (g62 i std s) (g62 j std s) := fun _ => le_alt (mg48 h _) (fun _ => le_ask (le_refl _) (le_alt (mg48 h _) (fun _ => le_refl _) (fun _ => le_refl _))) (fun _ => le_bnd (le_refl _) (fun _ => le_ask (le_refl _) (le_alt (mg48 h _) (fun _ => le_refl _) (fun _ => le_refl _))))
theorem mg21 {i j : It} (h : i.Le j) : ∀ s, le (g21 i std s) (g21 j std s) := fun _ => le_alt (mg48 h _) (fun _ => le_ask (le_refl _) (le_need (le_bnd (mg53 h _) (fun _ => le_refl _)))) (fun _ => le_bnd (le_refl _) (fun _ => le_ask (le_refl _) (le_need (le_bnd (mg53 h _) (fun _ => le_ask (le_refl _) (le_bnd (mg57 h _) (fun _ => le_refl _)))))))
theorem mc23_2 {i j : It} (h : i.Le j) : ∀ s, le (c23_2 i std s) (c23_2 j std s) := fun _ => le_run (le_ask (le_need (le_need (le_bnd (mg57 h _) (fun _ => le_refl _)))) (le_refl _))
theorem mc23_1 {i j : It} (h : i.Le j) : ∀ s, le (c23_1 i std s) (c23_1 j std s) := fun _ => le_run (le_ask (le_need (le_need (le_bnd (mg57 h _) (fun _ => le_refl _)))) (le_refl _))
theorem mg23 {i j : It} (h : i.Le j) : ∀ s, le (g23 i std s) (g23 j std s) := fun _ => le_alt (mg48 h _) (fun _ => le_alt (le_run (le_ask (le_refl _) (le_bnd (le_refl _) (fun _ => le_alt (le_run (le_ask (le_refl _) (le_bnd (mg53 h _) (fun _ => le_refl _)))) (fun _ => le_refl _) (fun _ => le_refl _))))) (fun _ => le_refl _) (fun _ => le_alt (le_refl _) (fun _ => le_bnd (mg60 h _) (fun _ => le_bnd (mg59 h _) (fun _ => le_refl _))) (fun _ => le_bnd (le_refl _) (fun _ => le_bnd (mg60 h _) (fun _ => le_bnd (mg59 h _) (fun _ => le_alt (h _ _ _ _ _ (mc23_1 h)) (fun _ => le_refl _) (fun _ => le_refl _))))))) (fun _ => le_bnd (le_refl _) (fun _ => le_alt (le_run (le_ask (le_refl _) (le_bnd (le_refl _) (fun _ => le_alt (le_run (le_ask (le_refl _) (le_bnd (mg53 h _) (fun _ => le_refl _)))) (fun _ => le_refl _) (fun _ => le_refl _))))) (fun _ => le_refl _) (fun _ => le_alt (le_refl _) (fun _ => le_bnd (mg60 h _) (fun _ => le_bnd (mg59 h _) (fun _ => le_refl _))) (fun _ => le_bnd (le_refl _) (fun _ => le_bnd (mg60 h _) (fun _ => le_bnd (mg59 h _) (fun _ => le_alt (h _ _ _ _ _ (mc23_2 h)) (fun _ => le_refl _) (fun _ => le_refl _))))))))
theorem mg32 {i j : It} (h : i.Le j) : ∀ s, le (g32 i std s) (g32 j std s) := fun _ => le_alt (mg62 h _) (fun _ => le_refl _) (fun _ => le_alt (le_refl _) (fun _ => le_refl _) (fun _ => le_alt (le_refl _) (fun _ => le_refl _) (fun _ => le_bnd (le_refl _) (fun _ => le_ask (le_refl _) (le_bnd (mg63 h _) (fun _ => le_refl _))))))
theorem mc27_4 {i j : It} (h : i.Le j) : ∀ s, le (c27_4 i std s) (c27_4 j std s) := fun _ => le_run (le_ask (le_need (le_need (le_alt (h _ _ _ _ _ (fun _ => le_refl _)) (fun _ => le_refl _) (fun _ => le_refl _)))) (le_refl _))
theorem mc27_3 {i j : It} (h : i.Le j) : ∀ s, le (c27_3 i std s) (c27_3 j std s) := fun _ => le_run (le_ask (le_need (le_need (le_bnd (mg63 h _) (fun _ => le_refl _)))) (le_refl _))
theorem mc27_2 {i j : It} (h : i.Le j) : ∀ s, le (c27_2 i std s) (c27_2 j std s) := fun _ => le_run (le_ask (le_need (le_need (le_need (le_need (le_need (le_need (le_need (le_bnd (h _ _ _ _ _ (mc27_3 h)) (fun _ => le_refl _))))))))) (le_refl _))
theorem mc27_1 {i j : It} (h : i.Le j) : ∀ s, le (c27_1 i std s) (c27_1 j std s) := fun _ => le_run (le_ask (le_alt (le_run (le_need (le_need (le_alt (mg48 h _) (fun _ => le_refl _) (fun _ => le_refl _))))) (fun _ => le_refl _) (fun _ => le_refl _)) (le_refl _))
theorem mg27 {i j : It} (h : i.Le j) : ∀ s, le (g27 i std s) (g27 j std s) := fun _ => le_ask (le_refl _) (le_alt (h _ _ _ _ _ (mc27_1 h)) (fun _ => le_refl _) (fun _ => le_bnd (le_refl _) (fun _ => le_need (le_need (le_need (le_need (le_bnd (h _ _ _ _ _ (mc27_2 h)) (fun _ => le_need (le_need (le_alt (h _ _ _ _ _ (mc27_4 h)) (fun _ => le_refl _) (fun _ => le_refl _)))))))))))
theorem mg78m {i j : It} (h : i.Le j) : ∀ s, le (g78m i std s) (g78m j std s) := fun _ => le_need (le_bnd (h _ _ _ _ _ (fun _ => le_refl _)) (fun _ => le_refl _))
theorem mg39 {i j : It} (h : i.Le j) : ∀ s, le (g39 i std s) (g39 j std s) := fun _ => le_alt (mg62 h _) (fun _ => le_refl _) (fun _ => le_alt (le_refl _) (fun _ => le_refl _) (fun _ => le_alt (le_refl _) (fun _ => le_alt (le_run (le_ask (le_refl _) (le_ask (le_refl _) (le_bnd (le_refl _) (fun _ => le_bnd (le_refl _) (fun _ => le_ask (le_refl _) (le_bnd (le_refl _) (fun _ => le_ask (le_refl _) (le_ask (le_refl _) (le_alt (le_run (le_ask (le_refl _) (le_bnd (mg78m h _) (fun _ => le_refl _)))) (fun _ => le_refl _) (fun _ => le_refl _))))))))))) (fun _ => le_refl _) (fun _ => le_refl _)) (fun _ => le_bnd (le_refl _) (fun _ => le_alt (le_run (le_ask (le_refl _) (le_ask (le_refl _) (le_bnd (le_refl _) (fun _ => le_bnd (le_refl _) (fun _ => le_ask (le_refl _) (le_bnd (le_refl _) (fun _ => le_ask (le_refl _) (le_ask (le_refl _) (le_alt (le_run (le_ask (le_refl _) (le_bnd (mg78m h _) (fun _ => le_ask (le_refl _) (le_bnd (mg78m h _) (fun _ => le_refl _)))))) (fun _ => le_refl _) (fun _ => le_refl _))))))))))) (fun _ => le_refl _) (fun _ => le_refl _)))))
theorem mg40 {i j : It} (h : i.Le j) : ∀ s, le (g40 i std s) (g40 j std s) := fun _ => le_alt (mg62 h _) (fun _ => le_alt (le_run (le_ask (le_refl _) (le_alt (le_run (le_ask (le_refl _) (le_ask (le_refl _) (le_need (le_bnd (mg53 h _) (fun _ => le_refl _)))))) (fun _ => le_refl _) (fun _ => le_alt (le_refl _) (fun _ => le_refl _) (fun _ => le_alt (le_refl _) (fun _ => le_alt (le_run (le_ask (le_refl _) (le_bnd (mg57 h _) (fun _ => le_refl _)))) (fun _ => le_refl _) (fun _ => le_refl _)) (fun _ => le_bnd (le_refl _) (fun _ => le_alt (le_run (le_ask (le_refl _) (le_bnd (mg57 h _) (fun _ => le_ask (le_refl _) (le_bnd (mg57 h _) (fun _ => le_refl _)))))) (fun _ => le_refl _) (fun _ => le_refl _)))))))) (fun _ => le_refl _) (fun _ => le_refl _)) (fun _ => le_alt (le_refl _) (fun _ => le_alt (le_run (le_ask (le_refl _) (le_alt (le_run (le_ask (le_refl _) (le_ask (le_refl _) (le_need (le_bnd (mg53 h _) (fun _ => le_refl _)))))) (fun _ => le_refl _) (fun _ => le_alt (le_refl _) (fun _ => le_refl _) (fun _ => le_alt (le_refl _) (fun _ => le_alt (le_run (le_ask (le_refl _) (le_bnd (mg57 h _) (fun _ => le_refl _)))) (fun _ => le_refl _) (fun _ => le_refl _)) (fun _ => le_bnd (le_refl _) (fun _ => le_alt (le_run (le_ask (le_refl _) (le_bnd (mg57 h _) (fun _ => le_ask (le_refl _) (le_bnd (mg57 h _) (fun _ => le_refl _)))))) (fun _ => le_refl _) (fun _ => le_refl _)))))))) (fun _ => le_refl _) (fun _ => le_refl _)) (fun _ => le_alt (le_refl _) (fun _ => le_alt (le_run (le_ask (le_refl _) (le_alt (le_run (le_ask (le_refl _) (le_ask (le_refl _) (le_need (le_bnd (mg53 h _) (fun _ => le_refl _)))))) (fun _ => le_refl _) (fun _ => le_alt (le_refl _) (fun _ => le_refl _) (fun _ => le_alt (le_refl _) (fun _ => le_alt (le_run (le_ask (le_refl _) (le_bnd (mg57 h _) (fun _ => le_refl _)))) (fun _ => le_refl _) (fun _ => le_refl _)) (fun _ => le_bnd (le_refl _) (fun _ => le_alt (le_run (le_ask (le_refl _) (le_bnd (mg57 h _) (fun _ => le_ask (le_refl _) (le_bnd (mg57 h _) (fun _ => le_refl _)))))) (fun _ => le_refl _) (fun _ => le_refl _)))))))) (fun _ => le_refl _) (fun _ => le_refl _)) (fun _ => le_bnd (le_refl _) (fun _ => le_alt (le_run (le_ask (le_refl _) (le_alt (le_run (le_ask (le_refl _) (le_ask (le_refl _) (le_need (le_bnd (mg53 h _) (fun _ => le_refl _)))))) (fun _ => le_refl _) (fun _ => le_alt (le_refl _) (fun _ => le_refl _) (fun _ => le_alt (le_refl _) (fun _ => le_alt (le_run (le_ask (le_refl _) (le_bnd (mg57 h _) (fun _ => le_refl _)))) (fun _ => le_refl _) (fun _ => le_refl _)) (fun _ => le_bnd (le_refl _) (fun _ => le_alt (le_run (le_ask (le_refl _) (le_bnd (mg57 h _) (fun _ => le_ask (le_refl _) (le_bnd (mg57 h _) (fun _ => le_refl _)))))) (fun _ => le_refl _) (fun _ => le_refl _)))))))) (fun _ => le_refl _) (fun _ => le_refl _)))))
theorem mc37_4 {i j : It} (h : i.Le j) : ∀ s, le (c37_4 i std s) (c37_4 j std s) := fun _ => le_run (le_ask (le_need (le_need (le_need (le_need (le_need (le_ask (le_refl _) (le_bnd (mg76 h _) (fun _ => le_refl _)))))))) (le_refl _))
theorem mc37_3 {i j : It} (h : i.Le j) : ∀ s, le (c37_3 i std s) (c37_3 j std s) := fun _ => le_run (le_ask (le_need (le_need (le_need (le_need (le_need (le_ask (le_refl _) (le_alt (le_run (le_alt (h _ _ _ _ _ (mc37_4 h)) (fun _ => le_refl _) (fun _ => le_refl _))) (fun _ => le_refl _) (fun _ => le_refl _)))))))) (le_refl _))
theorem mc37_2 {i j : It} (h : i.Le j) : ∀ s, le (c37_2 i std s) (c37_2 j std s) := fun _ => le_run (le_ask (le_need (le_need (le_bnd (mg57 h _) (fun _ => le_refl _)))) (le_refl _))
theorem mc37_1 {i j : It} (h : i.Le j) : ∀ s, le (c37_1 i std s) (c37_1 j std s) := fun _ => le_run (le_ask (le_bnd (le_refl _) (fun _ => le_alt (h _ _ _ _ _ (mc37_2 h)) (fun _ => le_refl _) (fun _ => le_refl _))) (le_refl _))
theorem mg37 {i j : It} (h : i.Le j) : ∀ s, le (g37 i std s) (g37 j std s) := fun _ => le_alt (mg62 h _) (fun _ => le_refl _) (fun _ => le_alt (le_refl _) (fun _ => le_refl _) (fun _ => le_alt (le_refl _) (fun _ => le_refl _) (fun _ => le_bnd (le_refl _) (fun _ => le_ask (le_refl _) (le_alt (h _ _ _ _ _ (mc37_1 h)) (fun _ => le_refl _) (fun _ => le_bnd (le_refl _) (fun _ => le_alt (le_run (le_alt (h _ _ _ _ _ (mc37_3 h)) (fun _ => le_refl _) (fun _ => le_refl _))) (fun _ => le_refl _) (fun _ => le_refl _))))))))
theorem mg69 {i j : It} (h : i.Le j) : ∀ s, le (g69 i std s) (g69 j std s) := fun _ => le_ask (le_refl _) (le_need (le_need (le_bnd (h _ _ _ _ _ (fun _ => le_refl _)) (fun _ => le_refl _))))
theorem mc25_4 {i j : It} (h : i.Le j) : ∀ s, le (c25_4 i std s) (c25_4 j std s) := fun _ => le_run (le_ask (le_need (le_need (le_need (le_need (le_need (le_ask (le_refl _) (le_bnd (mg68 h _) (fun _ => le_refl _)))))))) (le_refl _))
theorem mc25_3 {i j : It} (h : i.Le j) : ∀ s, le (c25_3 i std s) (c25_3 j std s) := fun _ => le_run (le_ask (le_need (le_need (le_bnd (mg65 h _) (fun _ => le_refl _)))) (le_refl _))
theorem mc25_2 {i j : It} (h : i.Le j) : ∀ s, le (c25_2 i std s) (c25_2 j std s) := fun _ => le_run (le_ask (le_need (le_need (le_bnd (h _ _ _ _ _ (mc25_3 h)) (fun _ => le_bnd (le_run (le_alt (h _ _ _ _ _ (mc25_4 h)) (fun _ => le_refl _) (fun _ => le_refl _))) (fun _ => le_refl _))))) (le_refl _))
theorem mc25_1 {i j : It} (h : i.Le j) : ∀ s, le (c25_1 i std s) (c25_1 j std s) := fun _ => le_run (le_ask (le_bnd (le_refl _) (fun _ => le_bnd (h _ _ _ _ _ (mc25_2 h)) (fun _ => le_refl _))) (le_refl _))
theorem mg25 {i j : It} (h : i.Le j) : ∀ s, le (g25 i std s) (g25 j std s) := fun _ => le_alt (mg62 h _) (fun _ => le_refl _) (fun _ => le_alt (le_refl _) (fun _ => le_refl _) (fun _ => le_alt (le_refl _) (fun _ => le_refl _) (fun _ => le_bnd (le_refl _) (fun _ => le_ask (le_refl _) (le_bnd (mg63 h _) (fun _ => le_ask (le_refl _) (le_need (le_bnd (h _ _ _ _ _ (mc25_1 h)) (fun _ => le_bnd (mg69 h _) (fun _ => le_refl _))))))))))
theorem mg56 {i j : It} (h : i.Le j) : ∀ s, le (g56 i std s) (g56 j std s) := fun _ => le_alt (h _ _ _ _ _ (fun _ => le_refl _)) (fun _ => le_refl _) (fun _ => le_refl _)
theorem mc61_2 {i j : It} (h : i.Le j) : ∀ s, le (c61_2 i std s) (c61_2 j std s) := fun _ => le_run (le_need (le_need (le_bnd (h _ _ _ _ _ (fun _ => le_refl _)) (fun _ => le_refl _))))
theorem mg61 {i j : It} (h : i.Le j) : ∀ s, le (g61 i std s) (g61 j std s) := fun _ => le_need (le_bnd (h _ _ _ _ _ (fun _ => le_refl _)) (fun _ => le_need (le_bnd (h _ _ _ _ _ (mc61_2 h)) (fun _ => le_refl _))))
theorem mg34 {i j : It} (h : i.Le j) : ∀ s, le (g34 i std s) (g34 j std s) := fun _ => le_bnd (h _ _ _ _ _ (fun _ => le_refl _)) (fun _ => le_refl _)
theorem mc19_2 {i j : It} (h : i.Le j) : ∀ s, le (c19_2 i std s) (c19_2 j std s) := fun _ => le_run (le_ask (le_need (le_need (le_bnd (mg56 h _) (fun _ => le_refl _)))) (le_refl _))
theorem mg19 {i j : It} (h : i.Le j) : ∀ s, le (g19 i std s) (g19 j std s) := fun _ => le_bnd (le_refl _) (fun _ => le_ask (le_refl _) (le_alt (h _ _ _ _ _ (fun _ => le_refl _)) (fun _ => le_refl _) (fun _ => le_bnd (le_refl _) (fun _ => le_bnd (mg56 h _) (fun _ => le_ask (le_refl _) (le_alt (h _ _ _ _ _ (mc19_2 h)) (fun _ => le_refl _) (fun _ => le_refl _)))))))
theorem mg43 {i j : It} (h : i.Le j) : ∀ s, le (g43 i std s) (g43 j std s) := fun _ => le_alt (h _ _ _ _ _ (fun _ => le_refl _)) (fun _ => le_refl _) (fun _ => le_refl _)
theorem mg44 {i j : It} (h : i.Le j) : ∀ s, le (g44 i std s) (g44 j std s) := fun _ => le_bnd (h _ _ _ _ _ (fun _ => le_refl _)) (fun _ => le_refl _)
theorem mc49_3 {i j : It} (h : i.Le j) : ∀ s, le (c49_3 i std s) (c49_3 j std s) := fun _ => le_run (le_ask (le_need (le_need (le_need (le_need (le_need (le_bnd (h _ _ _ _ _ (fun _ => le_refl _)) (fun _ => le_refl _))))))) (le_refl _))
theorem mc49_2 {i j : It} (h : i.Le j) : ∀ s, le (c49_2 i std s) (c49_2 j std s) := fun _ => le_run (le_ask (le_need (le_need (le_need (le_bnd (h _ _ _ _ _ (mc49_3 h)) (fun _ => le_refl _))))) (le_refl _))
theorem mc49_1 {i j : It} (h : i.Le j) : ∀ s, le (c49_1 i std s) (c49_1 j std s) := fun _ => le_run (le_ask (le_need (le_need (le_bnd (mg61 h _) (fun _ => le_need (le_need (le_need (le_bnd (h _ _ _ _ _ (mc49_2 h)) (fun _ => le_bnd (mg61 h _) (fun _ => le_refl _))))))))) (le_refl _))
theorem mg49 {i j : It} (h : i.Le j) : ∀ s, le (g49 i std s) (g49 j std s) := fun _ => le_bnd (mg61 h _) (fun _ => le_bnd (h _ _ _ _ _ (mc49_1 h)) (fun _ => le_refl _))
theorem mg17 {i j : It} (h : i.Le j) : ∀ s, le (g17 i std s) (g17 j std s) := fun _ => le_bnd (mg19 h _) (fun _ => le_ask (le_bnd (mg19 h _) (fun _ => le_refl _)) (le_bnd (mg49 h _) (fun _ => le_refl _)))
theorem mg58 {i j : It} (h : i.Le j) : ∀ s, le (g58 i std s) (g58 j std s) := fun _ => le_bnd (mg43 h _) (fun _ => le_refl _)
theorem mg22 {i j : It} (h : i.Le j) : ∀ s, le (g22 i std s) (g22 j std s) := fun _ => le_bnd (mg19 h _) (fun _ => le_ask (le_bnd (mg19 h _) (fun _ => le_refl _)) (le_need (le_bnd (mg56 h _) (fun _ => le_ask (le_refl _) (le_bnd (mg49 h _) (fun _ => le_bnd (mg58 h _) (fun _ => le_refl _)))))))
theorem mc24_1 {i j : It} (h : i.Le j) : ∀ s, le (c24_1 i std s) (c24_1 j std s) := fun _ => le_run (le_ask (le_need (le_need (le_bnd (mg58 h _) (fun _ => le_refl _)))) (le_refl _))
theorem mg24 {i j : It} (h : i.Le j) : ∀ s, le (g24 i std s) (g24 j std s) := fun _ => le_bnd (mg19 h _) (fun _ => le_ask (le_bnd (mg19 h _) (fun _ => le_refl _)) (le_bnd (le_refl _) (fun _ => le_ask (le_refl _) (le_bnd (mg56 h _) (fun _ => le_ask (le_refl _) (le_bnd (mg61 h _) (fun _ => le_bnd (mg49 h _) (fun _ => le_alt (h _ _ _ _ _ (mc24_1 h)) (fun _ => le_refl _) (fun _ => le_refl _)))))))))
theorem mg72 {i j : It} (h : i.Le j) : ∀ s, le (g72 i std s) (g72 j std s) := fun _ => le_bnd (mg19 h _) (fun _ => le_ask (le_bnd (mg19 h _) (fun _ => le_refl _)) (le_bnd (mg19 h _) (fun _ => le_refl _)))
theorem mg36 {i j : It} (h : i.Le j) : ∀ s, le (g36 i std s) (g36 j std s) := fun _ => le_bnd (mg72 h _) (fun _ => le_ask (le_bnd (mg72 h _) (fun _ => le_refl _)) (le_bnd (le_refl _) (fun _ => le_ask (le_refl _) (le_bnd (mg49 h _) (fun _ => le_bnd (mg49 h _) (fun _ => le_alt (h _ _ _ _ _ (fun _ => le_refl _)) (fun _ => le_refl _) (fun _ => le_bnd (le_refl _) (fun _ => le_alt (h _ _ _ _ _ (fun _ => le_refl _)) (fun _ => le_refl _) (fun _ => le_refl _)))))))))
theorem mg38 {i j : It} (h : i.Le j) : ∀ s, le (g38 i std s) (g38 j std s) := fun _ => le_bnd (mg72 h _) (fun _ => le_ask (le_bnd (mg72 h _) (fun _ => le_refl _)) (le_bnd (le_refl _) (fun _ => le_ask (le_refl _) (le_bnd (mg49 h _) (fun _ => le_bnd (mg43 h _) (fun _ => le_ask (le_refl _) (le_bnd (mg49 h _) (fun _ => le_bnd (mg43 h _) (fun _ => le_refl _)))))))))
theorem mc61_1_2 {i j : It} (h : i.Le j) : ∀ s, le (c61_1_2 i std s) (c61_1_2 j std s) := fun _ => le_run (le_need (le_need (le_need (le_need (le_bnd (h _ _ _ _ _ (fun _ => le_refl _)) (fun _ => le_refl _))))))
theorem mg61_1 {i j : It} (h : i.Le j) : ∀ s, le (g61_1 i std s) (g61_1 j std s) := fun _ => le_need (le_need (le_need (le_need (le_bnd (h _ _ _ _ _ (fun _ => le_refl _)) (fun _ => le_need (le_need (le_need (le_bnd (h _ _ _ _ _ (mc61_1_2 h)) (fun _ => le_refl _)))))))))
theorem mc95_1 {i j : It} (h : i.Le j) : ∀ s, le (c95_1 i std s) (c95_1 j std s) := fun _ => le_run (le_ask (le_need (le_need (le_bnd (h _ _ _ _ _ (fun _ => le_refl _)) (fun _ => le_refl _)))) (le_refl _))
theorem mg95 {i j : It} (h : i.Le j) : ∀ s, le (g95 i std s) (g95 j std s) := fun _ => le_bnd (mg49 h _) (fun _ => le_bnd (mg49 h _) (fun _ => le_bnd (h _ _ _ _ _ (mc95_1 h)) (fun _ => le_need (le_need (le_bnd (mg61_1 h _) (fun _ => le_refl _))))))
theorem mg74 {i j : It} (h : i.Le j) : ∀ s, le (g74 i std s) (g74 j std s) := fun _ => le_bnd (mg95 h _) (fun _ => le_bnd (mg58 h _) (fun _ => le_refl _))
theorem mc28_3 {i j : It} (h : i.Le j) : ∀ s, le (c28_3 i std s) (c28_3 j std s) := fun _ => le_run (le_ask (le_need (le_need (le_need (le_need (le_bnd (mg74 h _) (fun _ => le_refl _)))))) (le_refl _))
theorem mc28_2 {i j : It} (h : i.Le j) : ∀ s, le (c28_2 i std s) (c28_2 j std s) := fun _ => le_run (le_ask (le_alt (h _ _ _ _ _ (mc28_3 h)) (fun _ => le_refl _) (fun _ => le_refl _)) (le_refl _))
theorem mc28_1 {i j : It} (h : i.Le j) : ∀ s, le (c28_1 i std s) (c28_1 j std s) := fun _ => le_run (le_ask (le_need (le_need (le_bnd (mg19 h _) (fun _ => le_ask (le_need (le_need (le_bnd (mg19 h _) (fun _ => le_refl _)))) (le_refl _))))) (le_refl _))
theorem mg28 {i j : It} (h : i.Le j) : ∀ s, le (g28 i std s) (g28 j std s) := fun _ => le_ask (le_refl _) (le_alt (h _ _ _ _ _ (mc28_1 h)) (fun _ => le_refl _) (fun _ => le_bnd (le_refl _) (fun _ => le_alt (h _ _ _ _ _ (mc28_2 h)) (fun _ => le_refl _) (fun _ => le_refl _))))
theorem mg41 {i j : It} (h : i.Le j) : ∀ s, le (g41 i std s) (g41 j std s) := fun _ => le_bnd (mg72 h _) (fun _ => le_ask (le_bnd (mg72 h _) (fun _ => le_refl _)) (le_bnd (mg74 h _) (fun _ => le_refl _)))
theorem mg42 {i j : It} (h : i.Le j) : ∀ s, le (g42 i std s) (g42 j std s) := fun _ => le_bnd (mg72 h _) (fun _ => le_ask (le_bnd (mg72 h _) (fun _ => le_refl _)) (le_bnd (mg74 h _) (fun _ => le_refl _)))
theorem mg14d {i j : It} (h : i.Le j) : ∀ s, le (g14d i std s) (g14d j std s) := fun _ => le_bnd (le_refl _) (fun _ => le_ask (le_refl _) (le_alt (h _ _ _ _ _ (fun _ => le_refl _)) (fun _ => le_refl _) (fun _ => le_refl _)))
theorem mg29 {i j : It} (h : i.Le j) : ∀ s, le (g29 i std s) (g29 j std s) := fun _ => le_bnd (le_run (le_bnd (mg14d h _) (fun _ => le_ask (le_bnd (mg19 h _) (fun _ => le_refl _)) (le_refl _)))) (fun _ => le_refl _)
theorem mg35 {i j : It} (h : i.Le j) : ∀ s, le (g35 i std s) (g35 j std s) := fun _ => le_bnd (le_refl _) (fun _ => le_ask (le_refl _) (le_bnd (h _ _ _ _ _ (fun _ => le_refl _)) (fun _ => le_refl _)))
theorem mc45_2 {i j : It} (h : i.Le j) : ∀ s, le (c45_2 i std s) (c45_2 j std s) := fun _ => le_run (le_ask (le_need (le_need (le_bnd (h _ _ _ _ _ (fun _ => le_refl _)) (fun _ => le_refl _)))) (le_refl _))
theorem mc45_1 {i j : It} (h : i.Le j) : ∀ s, le (c45_1 i std s) (c45_1 j std s) := fun _ => le_run (le_ask (le_bnd (h _ _ _ _ _ (mc45_2 h)) (fun _ => le_refl _)) (le_refl _))
theorem mg45 {i j : It} (h : i.Le j) : ∀ s, le (g45 i std s) (g45 j std s) := fun _ => le_bnd (h _ _ _ _ _ (mc45_1 h)) (fun _ => le_refl _)
theorem mg30 {i j : It} (h : i.Le j) : ∀ s, le (g30 i std s) (g30 j std s) := fun _ => le_bnd (h _ _ _ _ _ (fun _ => le_refl _)) (fun _ => le_refl _)
theorem mg75 {i j : It} (h : i.Le j) : ∀ s, le (g75 i std s) (g75 j std s) := fun _ => le_bnd (h _ _ _ _ _ (fun _ => le_refl _)) (fun _ => le_refl _)
theorem mc33_1 {i j : It} (h : i.Le j) : ∀ s, le (c33_1 i std s) (c33_1 j std s) := fun _ => le_run (le_ask (le_need (le_need (le_bnd (mg75 h _) (fun _ => le_refl _)))) (le_refl _))
theorem mg33 {i j : It} (h : i.Le j) : ∀ s, le (g33 i std s) (g33 j std s) := fun _ => le_need (le_bnd (mg75 h _) (fun _ => le_bnd (h _ _ _ _ _ (mc33_1 h)) (fun _ => le_refl _)))
theorem mg15 {i j : It} (h : i.Le j) : ∀ s, le (g15 i std s) (g15 j std s) := fun _ => le_need (le_need (le_need (le_need (le_need (le_need (le_need (le_need (le_need (le_need (le_need (le_need (le_need (le_need (le_need (le_need (le_bnd (mg16 h _) (fun _ => le_need (le_need (le_bnd (mg21 h _) (fun _ => le_need (le_bnd (mg23 h _) (fun _ => le_need (le_bnd (mg39 h _) (fun _ => le_need (le_bnd (mg39 h _) (fun _ => le_need (le_bnd (mg32 h _) (fun _ => le_need (le_bnd (mg32 h _) (fun _ => le_need (le_bnd (mg37 h _) (fun _ => le_need (le_bnd (mg25 h _) (fun _ => le_need (le_bnd (mg27 h _) (fun _ => le_bnd (le_refl _) (fun _ => le_ask (le_refl _) (le_need (le_bnd (mg20 h _) (fun _ => le_ask (le_ask (le_ask (le_need (le_bnd (mg36 h _) (fun _ => le_ask (le_need (le_bnd (mg38 h _) (fun _ => le_refl _))) (le_refl _)))) (le_refl _)) (le_refl _)) (le_refl _)))))))))))))))))))))))))))))))))))))))))
theorem mg13 {i j : It} (h : i.Le j) : ∀ s, le (g13 i std s) (g13 j std s) := fun _ => le_need (le_need (le_need (le_need (le_need (le_need (le_need (le_need (le_need (le_need (le_need (le_need (le_need (le_bnd (mg21 h _) (fun _ => le_need (le_bnd (mg23 h _) (fun _ => le_need (le_bnd (mg25 h _) (fun _ => le_need (le_bnd (mg25 h _) (fun _ => le_need (le_bnd (mg37 h _) (fun _ => le_bnd (le_run (le_ask (le_ask (le_ask (le_ask (le_ask (le_ask (le_ask (le_ask (le_need (le_bnd (mg39 h _) (fun _ => le_ask (le_need (le_bnd (mg40 h _) (fun _ => le_ask (le_bnd (mg15 h _) (fun _ => le_refl _)) (le_refl _)))) (le_refl _)))) (le_refl _)) (le_refl _)) (le_refl _)) (le_refl _)) (le_refl _)) (le_refl _)) (le_refl _)) (le_refl _))) (fun _ => le_refl _)))))))))))))))))))))))
end Go.Am
end

section
set_option maxRecDepth 100000
namespace Go.Am
theorem g15_ev : g15 (itN 200) std () = some (true, ()) := by kernel_rfl
theorem g13_ev : g13 (itN 200) std () = some (true, ()) := by kernel_rfl
theorem G15_ok : G15 std () = some (true, ()) := mg15 (itN_le 200) () _ g15_ev
theorem G13_ok : G13 std () = some (true, ()) := mg13 (itN_le 200) () _ g13_ev
end Go.Am
end

section
set_option linter.unusedVariables false
set_option linter.unusedSimpArgs false
namespace Go.Am
open Go.ChangeShapes Go.WideShapes Go.ChangeAt
theorem hval_list {ps : Array TypeId} {args : Array Value} {p : TypeId → Value → Prop} (h : ∀ (j : Nat) t v, ps[j]? = some t → args[j]? = some v → p t v) :
    ∀ (j : Nat) t v, ps.toList[j]? = some t → args.toList[j]? = some v → p t v := fun j t v a b => h j t v (by simpa using a) (by simpa using b)
end Go.Am
namespace Go.Proofs.Ytolfgnbldofcjaa
open Go.ChangeShapes Go.WideShapes Go.ChangeAt Go.RowKit Go.Am
theorem own : ownKnob Try.prog.godebug = none := by kernel_rfl
theorem laid : laidOutB Try.prog = true := by kernel_rfl
theorem rowed : mapsRowed Try.prog = true := by kernel_rfl
theorem sized : ((List.range Try.prog.types.size).all fun t => match Try.prog.underlying t with | some (.slice e) => decide (0 < Try.prog.cellsOf e) | _ => true) = true := by kernel_rfl
end Go.Proofs.Ytolfgnbldofcjaa
end
