/-
  Proved: SignalHolds: for every input the call returns true, and each argument reads afterwards as it read before; there is no condition.
-/
import Derived.Test.YtolfgnbldofcjaaT5
import Derived.Test.YtolfgnbldofcjaaProg
import Derived.KernelRfl
set_option linter.unusedVariables false
set_option linter.unusedSimpArgs false
set_option linter.unusedSectionVars false
set_option maxRecDepth 100000
set_option maxHeartbeats 0
noncomputable section
namespace Go.Am
def ctr27 : Ctr :=
 ⟨27, [.list 2], [], [(.ret, ⟨[(0, .tuple [.int .i64, .int .i64, .int .i64])], [], 1⟩)]⟩
def la27 : List LA :=
 [⟨27, [false, true, false, true, true, true], 0, ⟨⟨[(5, .vec 0 1), (22, .list 2), (23, .int .i64), (24, .int .i64)], [.row [(CK.ref [(CR.list 2), (CR.list 1), (CR.list 2)])]], 103⟩, [(AX.ret, ⟨[(2, .int .i64), (3, .int .i64), (4, .int .i64)], [], 103⟩), ((AX.exit 0), ⟨[(5, .vec 0 1)], [.row [(CK.ref [(CR.list 2), (CR.list 1), (CR.list 2)])]], 103⟩)]⟩⟩,
 ⟨27, [false, true, false, true, true, true, true, true], 0, ⟨⟨[(5, .vec 0 1), (10, .map 1), (42, .vec 0 1), (43, .int .i64), (44, .int .i64)], [.row [(CK.ref [(CR.list 2), (CR.list 1), (CR.list 2)])], .map], 103⟩, [((AX.exit 2), ⟨[(5, .vec 0 1), (10, .map 1)], [.row [(CK.ref [(CR.list 2), (CR.list 1), (CR.list 2)])], .map], 103⟩)]⟩⟩,
 ⟨27, [false, true, true, false, false, true, true, false, false, true, false, true, true, true, true, true], 0, ⟨⟨[(5, .vec 0 1), (10, .map 1), (11, .int .i64), (12, .ref [.list 2, .list 1, .list 2]), (42, .vec 0 1), (43, .int .i64), (44, .int .i64), (52, .slc 0 1), (53, .int .i64), (54, .int .i64)], [.row [(CK.ref [(CR.list 2), (CR.list 1), (CR.list 2)])], .map], 103⟩, [((AX.exit 4), ⟨[(5, .vec 0 1), (10, .map 1), (42, .vec 0 1), (43, .int .i64), (44, .int .i64)], [.row [(CK.ref [(CR.list 2), (CR.list 1), (CR.list 2)])], .map], 103⟩)]⟩⟩,
 ⟨27, [false, true, false, true, true, true, true, true, true], 0, ⟨⟨[(5, .vec 0 1), (10, .map 1), (84, .int .i64), (85, .int .i64)], [.row [(CK.ref [(CR.list 2), (CR.list 1), (CR.list 2)])], .map], 103⟩, [(AX.ret, ⟨[(2, .int .i64), (3, .int .i64), (4, .int .i64)], [], 103⟩), ((AX.exit 6), ⟨[], [], 103⟩)]⟩⟩,
 ⟨27, [false, true, true, false, false, true, true, false, false, true, false, true, true, true, true, true, true], 0, ⟨⟨[(5, .vec 0 1), (10, .map 1), (17, .int .i64), (84, .int .i64), (85, .int .i64), (89, .int .i64), (90, .int .i64)], [.row [(CK.ref [(CR.list 2), (CR.list 1), (CR.list 2)])], .map], 103⟩, [(AX.ret, ⟨[(2, .int .i64), (3, .int .i64), (4, .int .i64)], [], 103⟩), ((AX.exit 8), ⟨[(5, .vec 0 1), (10, .map 1), (84, .int .i64), (85, .int .i64)], [.row [(CK.ref [(CR.list 2), (CR.list 1), (CR.list 2)])], .map], 103⟩)]⟩⟩]
def ja27 : List JA :=
 [⟨27, [true, true, true, false, false, true, true, false, false, true, true, false, false, true, true, false, false, true, false, true, true, true, true, true], 0, [(AX.normal, ⟨[(5, .vec 0 1), (10, .map 1), (11, .int .i64), (12, .ref [.list 2, .list 1, .list 2]), (42, .vec 0 1), (43, .int .i64), (44, .int .i64), (52, .slc 0 1), (53, .int .i64), (54, .int .i64)], [.row [(CK.ref [(CR.list 2), (CR.list 1), (CR.list 2)])], .map], 103⟩)]⟩,
 ⟨27, [false, true, true, false, false, true, true, false, false, true, true, false, false, true, false, true, true, true, true, true, true], 0, [(AX.ret, ⟨[(2, .int .i64), (3, .int .i64), (4, .int .i64)], [], 103⟩), (AX.normal, ⟨[(5, .vec 0 1), (10, .map 1), (17, .int .i64), (84, .int .i64), (85, .int .i64), (89, .int .i64), (90, .int .i64)], [.row [(CK.ref [(CR.list 2), (CR.list 1), (CR.list 2)])], .map], 103⟩)]⟩,
 ⟨27, [false, true, true, false, false, true, false, true, true, true], 0, [(AX.ret, ⟨[(2, .int .i64), (3, .int .i64), (4, .int .i64)], [], 103⟩), (AX.normal, ⟨[(5, .vec 0 1), (22, .list 2), (23, .int .i64), (24, .int .i64)], [.row [(CK.ref [(CR.list 2), (CR.list 1), (CR.list 2)])]], 103⟩)]⟩]
def gam27 : List CF :=
 [⟨ctr63, G63⟩, ⟨ctr48, G48⟩]
def an27 : Anns :=
 ⟨gam27, ja27, [⟨27, [true, true, true, false, false, true, true, false, false, true, false, true, true, true], ⟨[(5, .vec 0 1), (8, .ref [.list 2, .list 1, .list 2]), (22, .list 2), (23, .int .i64), (24, .int .i64)], [.row [(CK.ref [(CR.list 2), (CR.list 1), (CR.list 2)])]], 103⟩⟩]⟩
def b27_5 (p : Prim) : (LD × T42) → Option ((LD × T42) ⊕ ((Int × (Int × (Int × Unit))) ⊕ (LD × (List ((D × D)) × (Int × (Int × Unit)))))) :=
 fun a => opt.run _ (
 opt.ask _ (p.cmp .lss a.2.2.2.2.2.2.1 a.2.2.2.2.2.1) (
 opt.alt T6 ((LD × T42)) _ (
 opt.run (((Int × (Int × (Int × Unit))) ⊕ (LD × (List ((D × D)) × (Int × (Int × (Int × (Int × (Int × Unit))))))))) (
 opt.need _ (p.mOk a.2.1 [SK.i, SK.i] Bool.true (D.agg [(D.int .i64 a.2.2.1), (D.int .i64 a.2.2.2.2.2.2.1)]) Bool.false [ci]) <|
 opt.ask _ (p.mhas a.2.1 [SK.i, SK.i] Bool.true (D.agg [(D.int .i64 a.2.2.1), (D.int .i64 a.2.2.2.2.2.2.1)])) (
 opt.ask _ (p.cmp .gtr (p.mI a.2.1 [SK.i, SK.i] Bool.true (D.agg [(D.int .i64 a.2.2.1), (D.int .i64 a.2.2.2.2.2.2.1)]) 0) (0 : Int)) (
 opt.ret _ (Sum.inl (a.2.2.1, (a.2.2.2.2.2.2.1, ((0 : Int), ()))))) (
 opt.need _ (p.eqN 0 0) <|
 opt.need _ (p.eqN (p.len a.1) (p.len a.1)) <|
 opt.ret _ (Sum.inr (a.1, (a.2.1, (a.2.2.1, (a.2.2.2.1, (a.2.2.2.2.1, (a.2.2.2.2.2.1, (a.2.2.2.2.2.2.1, ())))))))))) (
 opt.ask _ (p.cmp .gtr (0 : Int) (0 : Int)) (
 opt.ret _ (Sum.inl (a.2.2.1, (a.2.2.2.2.2.2.1, ((0 : Int), ()))))) (
 opt.need _ (p.eqN 0 0) <|
 opt.need _ (p.eqN (p.len a.1) (p.len a.1)) <|
 opt.ret _ (Sum.inr (a.1, (a.2.1, (a.2.2.1, (a.2.2.2.1, (a.2.2.2.2.1, (a.2.2.2.2.2.1, (a.2.2.2.2.2.2.1, ())))))))))))) (fun b =>
 opt.ret _ (Sum.inr (Sum.inl (b.1, (b.2.1, (b.2.2.1, ())))))) (fun c =>
 opt.bnd ((LD × T42)) _ (some c) fun d =>
 opt.need _ (p.eqN 0 0) <|
 opt.need _ (p.eqN (p.len d.1) (p.len d.1)) <|
 opt.ret _ (Sum.inl (d.1, (d.2.1, (d.2.2.1, (d.2.2.2.1, (d.2.2.2.2.1, (d.2.2.2.2.2.1, ((p.ar .add .i64 d.2.2.2.2.2.2.1 (1 : Int)), ())))))))))) (
 opt.need _ (p.eqN 0 0) <|
 opt.need _ (p.eqN (p.len a.1) (p.len a.1)) <|
 opt.ret _ (Sum.inr (Sum.inr (a.1, (a.2.1, (a.2.2.2.1, (a.2.2.2.2.1, ()))))))))
def c27_4 (it : It) (p : Prim) : (LD × T15) → Option ((LD × T15) ⊕ ((Int × (Int × (Int × Unit))) ⊕ Unit)) :=
 fun a => opt.run _ (
 opt.ask _ (p.cmp .lss a.2.2.2.1 a.2.2.1) (
 opt.need _ (p.eqN 0 0) <|
 opt.need _ (p.eqN (p.len a.1) (p.len a.1)) <|
 opt.alt T6 ((LD × T15)) _ (
 it _ _ (b27_5 p) (a.1, (a.2.1, (a.2.2.2.1, (a.2.2.1, (a.2.2.2.1, ((p.ofNat (p.len a.1)), ((0 : Int), ())))))))) (fun b =>
 opt.ret _ (Sum.inr (Sum.inl (b.1, (b.2.1, (b.2.2.1, ())))))) (fun c =>
 opt.bnd ((LD × T15)) _ (some c) fun d =>
 opt.need _ (p.eqN 0 0) <|
 opt.need _ (p.eqN (p.len d.1) (p.len d.1)) <|
 opt.ret _ (Sum.inl (d.1, (d.2.1, (d.2.2.1, ((p.ar .add .i64 d.2.2.2.1 (1 : Int)), ()))))))) (
 opt.ret _ (Sum.inr (Sum.inr ()))))
def c27_3 (it : It) (p : Prim) : (LD × T43) → Option ((LD × T43) ⊕ (LD × T15)) :=
 fun a => opt.run _ (
 opt.ask _ (p.cmp .lss a.2.2.2.2.2.2.2.2.2.2.2.2.1 a.2.2.2.2.2.2.2.2.2.2.2.1) (
 opt.need _ (bif (p.cmp .geq a.2.2.2.2.2.2.2.2.2.2.2.2.1 (0 : Int)) then (p.cmp .lss a.2.2.2.2.2.2.2.2.2.2.2.2.1 (p.ofNat a.2.2.2.2.2.2.2.2.2.1)) else Bool.false) <|
 opt.need _ (p.rowOk a.1 (p.add a.2.2.2.2.2.2.2.2.1 (p.nat a.2.2.2.2.2.2.2.2.2.2.2.2.1)) [(CK.ref [(CR.list 2), (CR.list 1), (CR.list 2)])]) <|
 opt.bnd T20 _ (g63 it p ((p.rdL (p.rdR a.1 (p.add a.2.2.2.2.2.2.2.2.1 (p.nat a.2.2.2.2.2.2.2.2.2.2.2.2.1)) 0) 0 2), (a.2.2.2.2.2.1, ()))) fun b =>
 opt.bnd ((LD × T43)) _ (
 opt.run ((LD × T43)) (
 opt.ask _ (bif b.2.2.2.1 then Bool.false else Bool.true) (
 opt.need _ (p.mOk a.2.1 [SK.i, SK.i] Bool.true (D.agg [(D.int .i64 a.2.2.2.2.2.2.2.2.2.2.2.2.1), (D.int .i64 a.2.2.1)]) Bool.false [ci]) <|
 opt.ask _ (p.mhas a.2.1 [SK.i, SK.i] Bool.true (D.agg [(D.int .i64 a.2.2.2.2.2.2.2.2.2.2.2.2.1), (D.int .i64 a.2.2.1)])) (
 opt.need _ (p.eqN 0 0) <|
 opt.need _ (p.eqN (p.len a.1) (p.len a.1)) <|
 opt.need _ (p.eqN 0 0) <|
 opt.need _ (p.eqN (p.len a.1) (p.len a.1)) <|
 opt.ret _ (a.1, ((p.mset a.2.1 (p.nat (p.ofNat (p.mpos a.2.1 [SK.i, SK.i] Bool.true (D.agg [(D.int .i64 a.2.2.2.2.2.2.2.2.2.2.2.2.1), (D.int .i64 a.2.2.1)])))) (D.agg [(D.int .i64 a.2.2.2.2.2.2.2.2.2.2.2.2.1), (D.int .i64 a.2.2.1)]) (D.int .i64 (p.ar .add .i64 (p.mI a.2.1 [SK.i, SK.i] Bool.true (D.agg [(D.int .i64 a.2.2.2.2.2.2.2.2.2.2.2.2.1), (D.int .i64 a.2.2.1)]) 0) (1 : Int)))), (a.2.2.1, (a.2.2.2.1, (a.2.2.2.2.1, (a.2.2.2.2.2.1, (a.2.2.2.2.2.2.1, (a.2.2.2.2.2.2.2.1, (a.2.2.2.2.2.2.2.2.1, (a.2.2.2.2.2.2.2.2.2.1, (a.2.2.2.2.2.2.2.2.2.2.1, (a.2.2.2.2.2.2.2.2.2.2.2.1, (a.2.2.2.2.2.2.2.2.2.2.2.2.1, ())))))))))))))) (
 opt.need _ (p.eqN 0 0) <|
 opt.need _ (p.eqN (p.len a.1) (p.len a.1)) <|
 opt.need _ (p.eqN 0 0) <|
 opt.need _ (p.eqN (p.len a.1) (p.len a.1)) <|
 opt.ret _ (a.1, ((p.madd a.2.1 (D.agg [(D.int .i64 a.2.2.2.2.2.2.2.2.2.2.2.2.1), (D.int .i64 a.2.2.1)]) (D.int .i64 (p.ar .add .i64 (0 : Int) (1 : Int)))), (a.2.2.1, (a.2.2.2.1, (a.2.2.2.2.1, (a.2.2.2.2.2.1, (a.2.2.2.2.2.2.1, (a.2.2.2.2.2.2.2.1, (a.2.2.2.2.2.2.2.2.1, (a.2.2.2.2.2.2.2.2.2.1, (a.2.2.2.2.2.2.2.2.2.2.1, (a.2.2.2.2.2.2.2.2.2.2.2.1, (a.2.2.2.2.2.2.2.2.2.2.2.2.1, ()))))))))))))))) (
 opt.need _ (p.eqN 0 0) <|
 opt.need _ (p.eqN (p.len a.1) (p.len a.1)) <|
 opt.need _ (p.eqN 0 0) <|
 opt.need _ (p.eqN (p.len a.1) (p.len a.1)) <|
 opt.ret _ (a.1, (a.2.1, (a.2.2.1, (a.2.2.2.1, (a.2.2.2.2.1, (a.2.2.2.2.2.1, (a.2.2.2.2.2.2.1, (a.2.2.2.2.2.2.2.1, (a.2.2.2.2.2.2.2.2.1, (a.2.2.2.2.2.2.2.2.2.1, (a.2.2.2.2.2.2.2.2.2.2.1, (a.2.2.2.2.2.2.2.2.2.2.2.1, (a.2.2.2.2.2.2.2.2.2.2.2.2.1, ())))))))))))))))) fun c =>
 opt.need _ (p.eqN 0 0) <|
 opt.need _ (p.eqN (p.len c.1) (p.len c.1)) <|
 opt.need _ (p.eqN 0 0) <|
 opt.need _ (p.eqN (p.len c.1) (p.len c.1)) <|
 opt.ret _ (Sum.inl (c.1, (c.2.1, (c.2.2.1, (c.2.2.2.1, (c.2.2.2.2.1, (c.2.2.2.2.2.1, (c.2.2.2.2.2.2.1, (c.2.2.2.2.2.2.2.1, (c.2.2.2.2.2.2.2.2.1, (c.2.2.2.2.2.2.2.2.2.1, (c.2.2.2.2.2.2.2.2.2.2.1, (c.2.2.2.2.2.2.2.2.2.2.2.1, ((p.ar .add .i64 c.2.2.2.2.2.2.2.2.2.2.2.2.1 (1 : Int)), ()))))))))))))))) (
 opt.need _ (p.eqN 0 0) <|
 opt.need _ (p.eqN (p.len a.1) (p.len a.1)) <|
 opt.need _ (p.eqN 0 0) <|
 opt.need _ (p.eqN (p.len a.1) (p.len a.1)) <|
 opt.ret _ (Sum.inr (a.1, (a.2.1, (a.2.2.2.2.2.2.1, (a.2.2.2.2.2.2.2.1, ())))))))
def c27_2 (it : It) (p : Prim) : (LD × T15) → Option ((LD × T15) ⊕ (LD × (List ((D × D)) × Unit))) :=
 fun a => opt.run _ (
 opt.ask _ (p.cmp .lss a.2.2.2.1 a.2.2.1) (
 opt.need _ (bif (p.cmp .geq a.2.2.2.1 (0 : Int)) then (p.cmp .lss a.2.2.2.1 (p.ofNat (p.len a.1))) else Bool.false) <|
 opt.need _ (p.rowOk a.1 (p.add 0 (p.nat a.2.2.2.1)) [(CK.ref [(CR.list 2), (CR.list 1), (CR.list 2)])]) <|
 opt.need _ (p.and (p.cmp .geq (0 : Int) (0 : Int)) (p.and (p.cmp .leq (0 : Int) a.2.2.2.1) (p.and (p.cmp .leq a.2.2.2.1 a.2.2.2.1) (p.cmp .leq a.2.2.2.1 (p.ofNat (p.len a.1)))))) <|
 opt.need _ (p.eqN 0 0) <|
 opt.need _ (p.eqN (p.len a.1) (p.len a.1)) <|
 opt.need _ (p.eqN 0 0) <|
 opt.need _ (p.eqN (p.len a.1) (p.len a.1)) <|
 opt.bnd ((LD × T15)) _ (
 it _ _ (c27_3 it p) (a.1, (a.2.1, (a.2.2.2.1, ((p.rdL (p.rdR a.1 (p.add 0 (p.nat a.2.2.2.1)) 0) 0 0), ((p.rdL (p.rdR a.1 (p.add 0 (p.nat a.2.2.2.1)) 0) 0 1), ((p.rdL (p.rdR a.1 (p.add 0 (p.nat a.2.2.2.1)) 0) 0 2), (a.2.2.1, (a.2.2.2.1, ((p.add 0 (p.nat (0 : Int))), ((p.sub (p.nat a.2.2.2.1) (p.nat (0 : Int))), ((p.sub (p.nat a.2.2.2.1) (p.nat (0 : Int))), ((p.ofNat (p.sub (p.nat a.2.2.2.1) (p.nat (0 : Int)))), ((0 : Int), ())))))))))))))) fun b =>
 opt.need _ (p.eqN 0 0) <|
 opt.need _ (p.eqN (p.len b.1) (p.len b.1)) <|
 opt.need _ (p.eqN 0 0) <|
 opt.need _ (p.eqN (p.len b.1) (p.len b.1)) <|
 opt.ret _ (Sum.inl (b.1, (b.2.1, (b.2.2.1, ((p.ar .add .i64 b.2.2.2.1 (1 : Int)), ())))))) (
 opt.need _ (p.eqN 0 0) <|
 opt.need _ (p.eqN (p.len a.1) (p.len a.1)) <|
 opt.ret _ (Sum.inr (a.1, (a.2.1, ())))))
def c27_1 (it : It) (p : Prim) : (LD × (LD × T3)) → Option ((LD × (LD × T3)) ⊕ ((Int × (Int × (Int × Unit))) ⊕ (LD × Unit))) :=
 fun a => opt.run _ (
 opt.ask _ (p.cmp .lss a.2.2.2.1 a.2.2.1) (
 opt.alt T6 ((LD × (LD × T3))) _ (
 opt.run (((Int × (Int × (Int × Unit))) ⊕ (LD × (LD × (Int × (Int × Unit)))))) (
 opt.need _ (p.rowOk a.2.1 (p.nat a.2.2.2.1) [(CK.list 2), (CK.list 1)]) <|
 opt.need _ (p.cmp .geq a.2.2.2.1 (0 : Int)) <|
 opt.alt T0 ((LD × (LD × (LD × T1)))) _ (g48 it p ((p.rdL a.2.1 (p.nat a.2.2.2.1) 0), ((p.rdL a.2.1 (p.nat a.2.2.2.1) 1), ()))) (fun b =>
 opt.ask _ (p.cmp .neq b.1 (0 : Int)) (
 opt.ret _ (Sum.inl ((0 : Int), ((0 : Int), (b.1, ()))))) (
 opt.no _ 96)) (fun c =>
 opt.bnd ((LD × (LD × (LD × T1)))) _ (some c) fun d =>
 opt.ask _ (p.cmp .neq d.2.2.2.1 (0 : Int)) (
 opt.ret _ (Sum.inl ((0 : Int), ((0 : Int), (d.2.2.2.1, ()))))) (
 opt.need _ (p.eqN 0 0) <|
 opt.need _ (p.eqN (p.len a.1) (p.len a.1)) <|
 opt.need _ (p.and (p.leN (p.add 0 1) (p.len [[(D.ref [(D.list Bool.false 2 d.1), (D.list Bool.false 1 d.2.1), (D.list Bool.false 2 d.2.2.1)])]])) (p.and (p.leN (p.add 0 (p.len a.1)) (p.len a.1)) (p.and (p.leN 1 1) (p.leN (p.add (p.len a.1) 1) 1000000)))) <|
 opt.need _ (p.eqN 0 0) <|
 opt.need _ (p.eqN (p.add (p.len a.1) 1) (p.len (p.app (p.cut a.1 0 (p.len a.1)) (p.cut [[(D.ref [(D.list Bool.false 2 d.1), (D.list Bool.false 1 d.2.1), (D.list Bool.false 2 d.2.2.1)])]] 0 1)))) <|
 opt.ret _ (Sum.inr ((p.app (p.cut a.1 0 (p.len a.1)) (p.cut [[(D.ref [(D.list Bool.false 2 d.1), (D.list Bool.false 1 d.2.1), (D.list Bool.false 2 d.2.2.1)])]] 0 1)), (a.2.1, (a.2.2.1, (a.2.2.2.1, ()))))))))) (fun e =>
 opt.ret _ (Sum.inr (Sum.inl (e.1, (e.2.1, (e.2.2.1, ())))))) (fun f =>
 opt.bnd ((LD × (LD × T3))) _ (some f) fun g =>
 opt.need _ (p.eqN 0 0) <|
 opt.need _ (p.eqN (p.len g.1) (p.len g.1)) <|
 opt.ret _ (Sum.inl (g.1, (g.2.1, (g.2.2.1, ((p.ar .add .i64 g.2.2.2.1 (1 : Int)), ()))))))) (
 opt.need _ (p.eqN 0 0) <|
 opt.need _ (p.eqN (p.len a.1) (p.len a.1)) <|
 opt.ret _ (Sum.inr (Sum.inr (a.1, ())))))
def g27 (it : It) : (p : Prim) → (LD × Unit) → Option T6 :=
 fun p x =>
 opt.ask _ (p.cmp .gtr (p.ofNat (p.len x.1)) (8 : Int)) (
 opt.ret _ ((0 : Int), ((0 : Int), ((6 : Int), ())))) (
 opt.alt T6 ((LD × Unit)) _ (
 it _ _ (c27_1 it p) ([], (x.1, ((p.ofNat (p.len x.1)), ((0 : Int), ()))))) (fun a =>
 opt.ret _ (a.1, (a.2.1, (a.2.2.1, ())))) (fun b =>
 opt.bnd ((LD × Unit)) _ (some b) fun c =>
 opt.need _ (p.eqN 0 0) <|
 opt.need _ (p.eqN (p.len c.1) (p.len c.1)) <|
 opt.need _ (p.eqN 0 0) <|
 opt.need _ (p.eqN (p.len c.1) (p.len c.1)) <|
 opt.bnd ((LD × (List ((D × D)) × Unit))) _ (
 it _ _ (c27_2 it p) (c.1, ([], ((p.ofNat (p.len c.1)), ((0 : Int), ()))))) fun d =>
 opt.need _ (p.eqN 0 0) <|
 opt.need _ (p.eqN (p.len d.1) (p.len d.1)) <|
 opt.alt T6 (Unit) _ (
 it _ _ (c27_4 it p) (d.1, (d.2.1, ((p.ofNat (p.len d.1)), ((0 : Int), ()))))) (fun e =>
 opt.ret _ (e.1, (e.2.1, (e.2.2.1, ())))) (fun f =>
 opt.bnd (Unit) _ (some f) fun g =>
 opt.ret _ ((0 : Int), ((0 : Int), ((5 : Int), ()))))))
def G27 := g27 it0
theorem ok27 : CtrOk PG ctr27 (G27 std) := okF (a := an27) (l := la27) (gC ok63 (gC ok48 (gN))) (by kernel_rfl) fun _ _ => by kernel_rfl
end Go.Am
end
noncomputable section
namespace Go.Am
def ctr15 : Ctr :=
 ⟨15, [], [], [(.ret, ⟨[(0, .bool)], [], 1⟩)]⟩
def la15 : List LA :=
 []
def ja15 : List JA :=
 [⟨15, [false, false, true, true, true, true, true, true, true, true, true, true, true, true], 0, [(AX.normal, ⟨[(1, .bptr 0 0), (3, .bptr 1 0), (4, .bptr 2 0), (5, .vec 3 2), (7, .bool), (9, .bptr 4 0), (15, .bptr 5 0), (17, .bptr 6 0), (19, .bptr 7 0), (21, .int .i64), (22, .int .i64), (127, .bool)], [.box [.full 8 2, .full 9 1], .box [.full 10 2, .nils], .box [.full 11 2, .nils], .row [ci, ci], .box [.int .i64, .int .i64], .box [.int .i64, .int .i64, .int .i64], .box [.int .i64, .int .i64, .int .i64], .box [.int .i64, .int .i64], .row [ci, ci], .row [(CK.list 2)], .row [ci, ci], .row [ci, ci]], 170⟩)]⟩]
def gam15 : List CF :=
 [⟨ctr38, G38⟩, ⟨ctr36, G36⟩, ⟨ctr20, G20⟩, ⟨ctr27, G27⟩, ⟨ctr25, G25⟩, ⟨ctr37, G37⟩, ⟨ctr32, G32⟩, ⟨ctr39, G39⟩, ⟨ctr23, G23⟩, ⟨ctr21, G21⟩, ⟨ctr16, G16⟩]
def an15 : Anns :=
 ⟨gam15, ja15, [⟨15, [false, true, true], ⟨[(1, .bptr 0 0), (2, .bptr 1 0), (3, .bptr 2 0), (4, .bptr 3 0)], [.box [.full 4 2, .full 5 1], .box [.full 6 2, .nils], .box [.full 7 2, .nils], .box [.full 8 2, .nils], .row [ci, ci], .row [(CK.list 2)], .row [ci, ci], .row [ci, ci], .row [ci, ci]], 170⟩⟩]⟩
def g15 (it : It) : (p : Prim) → Unit → Option T2 :=
 fun p x =>
 opt.need _ (p.eqN 0 0) <|
 opt.need _ (p.eqN 3 (p.len [[(D.int .i64 (0 : Int)), (D.int .i64 (0 : Int))], [(D.int .i64 (4 : Int)), (D.int .i64 (0 : Int))], [(D.int .i64 (0 : Int)), (D.int .i64 (4 : Int))]])) <|
 opt.need _ (p.eqN 3 (p.len [[(D.int .i64 (0 : Int)), (D.int .i64 (0 : Int))], [(D.int .i64 (4 : Int)), (D.int .i64 (0 : Int))], [(D.int .i64 (0 : Int)), (D.int .i64 (4 : Int))]])) <|
 opt.need _ (p.eqN 0 0) <|
 opt.need _ (p.eqN 1 (p.len [[(D.list Bool.true 2 [[(D.int .i64 (0 : Int)), (D.int .i64 (0 : Int))], [(D.int .i64 (1 : Int)), (D.int .i64 (0 : Int))]])]])) <|
 opt.need _ (p.eqN 1 (p.len [[(D.list Bool.true 2 [[(D.int .i64 (0 : Int)), (D.int .i64 (0 : Int))], [(D.int .i64 (1 : Int)), (D.int .i64 (0 : Int))]])]])) <|
 opt.need _ (p.eqN 0 0) <|
 opt.need _ (p.eqN 1 (p.len [[(D.int .i64 (6 : Int)), (D.int .i64 (0 : Int))]])) <|
 opt.need _ (p.eqN 1 (p.len [[(D.int .i64 (6 : Int)), (D.int .i64 (0 : Int))]])) <|
 opt.need _ (p.eqN 0 0) <|
 opt.need _ (p.eqN 1 (p.len [[(D.int .i64 (4 : Int)), (D.int .i64 (2 : Int))]])) <|
 opt.need _ (p.eqN 1 (p.len [[(D.int .i64 (4 : Int)), (D.int .i64 (2 : Int))]])) <|
 opt.need _ (p.eqN 0 0) <|
 opt.need _ (p.eqN 1 (p.len [[(D.int .i64 (3 : Int)), (D.int .i64 (2 : Int))]])) <|
 opt.need _ (p.eqN 1 (p.len [[(D.int .i64 (3 : Int)), (D.int .i64 (2 : Int))]])) <|
 opt.need _ (p.and (p.and (p.leN (p.add 0 (p.len [[(D.int .i64 (0 : Int)), (D.int .i64 (0 : Int))], [(D.int .i64 (4 : Int)), (D.int .i64 (0 : Int))], [(D.int .i64 (0 : Int)), (D.int .i64 (4 : Int))]])) (p.len [[(D.int .i64 (0 : Int)), (D.int .i64 (0 : Int))], [(D.int .i64 (4 : Int)), (D.int .i64 (0 : Int))], [(D.int .i64 (0 : Int)), (D.int .i64 (4 : Int))]])) (p.and (p.leN (p.add 0 (p.len [[(D.list Bool.true 2 [[(D.int .i64 (0 : Int)), (D.int .i64 (0 : Int))], [(D.int .i64 (1 : Int)), (D.int .i64 (0 : Int))]])]])) (p.len [[(D.list Bool.true 2 [[(D.int .i64 (0 : Int)), (D.int .i64 (0 : Int))], [(D.int .i64 (1 : Int)), (D.int .i64 (0 : Int))]])]])) Bool.true)) Bool.true) <|
 opt.bnd ((LD × T1)) _ (g16 it p ((p.cut [[(D.int .i64 (0 : Int)), (D.int .i64 (0 : Int))], [(D.int .i64 (4 : Int)), (D.int .i64 (0 : Int))], [(D.int .i64 (0 : Int)), (D.int .i64 (4 : Int))]] 0 (p.len [[(D.int .i64 (0 : Int)), (D.int .i64 (0 : Int))], [(D.int .i64 (4 : Int)), (D.int .i64 (0 : Int))], [(D.int .i64 (0 : Int)), (D.int .i64 (4 : Int))]])), ((p.cut [[(D.list Bool.true 2 [[(D.int .i64 (0 : Int)), (D.int .i64 (0 : Int))], [(D.int .i64 (1 : Int)), (D.int .i64 (0 : Int))]])]] 0 (p.len [[(D.list Bool.true 2 [[(D.int .i64 (0 : Int)), (D.int .i64 (0 : Int))], [(D.int .i64 (1 : Int)), (D.int .i64 (0 : Int))]])]])), ()))) fun a =>
 opt.need _ (p.plain a.1) <|
 opt.need _ (p.and (p.and (p.leN (p.add 0 (p.len [[(D.int .i64 (0 : Int)), (D.int .i64 (0 : Int))], [(D.int .i64 (4 : Int)), (D.int .i64 (0 : Int))], [(D.int .i64 (0 : Int)), (D.int .i64 (4 : Int))]])) (p.len [[(D.int .i64 (0 : Int)), (D.int .i64 (0 : Int))], [(D.int .i64 (4 : Int)), (D.int .i64 (0 : Int))], [(D.int .i64 (0 : Int)), (D.int .i64 (4 : Int))]])) (p.and (p.leN (p.add 0 (p.len [[(D.list Bool.true 2 [[(D.int .i64 (0 : Int)), (D.int .i64 (0 : Int))], [(D.int .i64 (1 : Int)), (D.int .i64 (0 : Int))]])]])) (p.len [[(D.list Bool.true 2 [[(D.int .i64 (0 : Int)), (D.int .i64 (0 : Int))], [(D.int .i64 (1 : Int)), (D.int .i64 (0 : Int))]])]])) Bool.true)) (p.and Bool.true Bool.true)) <|
 opt.bnd T22 _ (g21 it p ((p.cut [[(D.int .i64 (0 : Int)), (D.int .i64 (0 : Int))], [(D.int .i64 (4 : Int)), (D.int .i64 (0 : Int))], [(D.int .i64 (0 : Int)), (D.int .i64 (4 : Int))]] 0 (p.len [[(D.int .i64 (0 : Int)), (D.int .i64 (0 : Int))], [(D.int .i64 (4 : Int)), (D.int .i64 (0 : Int))], [(D.int .i64 (0 : Int)), (D.int .i64 (4 : Int))]])), ((p.cut [[(D.list Bool.true 2 [[(D.int .i64 (0 : Int)), (D.int .i64 (0 : Int))], [(D.int .i64 (1 : Int)), (D.int .i64 (0 : Int))]])]] 0 (p.len [[(D.list Bool.true 2 [[(D.int .i64 (0 : Int)), (D.int .i64 (0 : Int))], [(D.int .i64 (1 : Int)), (D.int .i64 (0 : Int))]])]])), ((3 : Int), ((2 : Int), ()))))) fun b =>
 opt.need _ (p.and (p.and (p.leN (p.add 0 (p.len [[(D.int .i64 (0 : Int)), (D.int .i64 (0 : Int))], [(D.int .i64 (4 : Int)), (D.int .i64 (0 : Int))], [(D.int .i64 (0 : Int)), (D.int .i64 (4 : Int))]])) (p.len [[(D.int .i64 (0 : Int)), (D.int .i64 (0 : Int))], [(D.int .i64 (4 : Int)), (D.int .i64 (0 : Int))], [(D.int .i64 (0 : Int)), (D.int .i64 (4 : Int))]])) (p.and (p.leN (p.add 0 (p.len [[(D.list Bool.true 2 [[(D.int .i64 (0 : Int)), (D.int .i64 (0 : Int))], [(D.int .i64 (1 : Int)), (D.int .i64 (0 : Int))]])]])) (p.len [[(D.list Bool.true 2 [[(D.int .i64 (0 : Int)), (D.int .i64 (0 : Int))], [(D.int .i64 (1 : Int)), (D.int .i64 (0 : Int))]])]])) Bool.true)) (p.and (p.leN (p.add 0 4) (p.len [[(D.int .i64 (0 : Int)), (D.int .i64 (0 : Int))], [(D.int .i64 (4 : Int)), (D.int .i64 (0 : Int))], [(D.int .i64 (4 : Int)), (D.int .i64 (4 : Int))], [(D.int .i64 (0 : Int)), (D.int .i64 (4 : Int))]])) Bool.true)) <|
 opt.bnd T6 _ (g23 it p ((p.cut [[(D.int .i64 (0 : Int)), (D.int .i64 (0 : Int))], [(D.int .i64 (4 : Int)), (D.int .i64 (0 : Int))], [(D.int .i64 (0 : Int)), (D.int .i64 (4 : Int))]] 0 (p.len [[(D.int .i64 (0 : Int)), (D.int .i64 (0 : Int))], [(D.int .i64 (4 : Int)), (D.int .i64 (0 : Int))], [(D.int .i64 (0 : Int)), (D.int .i64 (4 : Int))]])), ((p.cut [[(D.list Bool.true 2 [[(D.int .i64 (0 : Int)), (D.int .i64 (0 : Int))], [(D.int .i64 (1 : Int)), (D.int .i64 (0 : Int))]])]] 0 (p.len [[(D.list Bool.true 2 [[(D.int .i64 (0 : Int)), (D.int .i64 (0 : Int))], [(D.int .i64 (1 : Int)), (D.int .i64 (0 : Int))]])]])), ((p.cut [[(D.int .i64 (0 : Int)), (D.int .i64 (0 : Int))], [(D.int .i64 (4 : Int)), (D.int .i64 (0 : Int))], [(D.int .i64 (4 : Int)), (D.int .i64 (4 : Int))], [(D.int .i64 (0 : Int)), (D.int .i64 (4 : Int))]] 0 4), ())))) fun c =>
 opt.need _ (p.and (p.and (p.leN (p.add 0 (p.len [[(D.int .i64 (0 : Int)), (D.int .i64 (0 : Int))], [(D.int .i64 (4 : Int)), (D.int .i64 (0 : Int))], [(D.int .i64 (0 : Int)), (D.int .i64 (4 : Int))]])) (p.len [[(D.int .i64 (0 : Int)), (D.int .i64 (0 : Int))], [(D.int .i64 (4 : Int)), (D.int .i64 (0 : Int))], [(D.int .i64 (0 : Int)), (D.int .i64 (4 : Int))]])) (p.and (p.leN (p.add 0 (p.len [[(D.list Bool.true 2 [[(D.int .i64 (0 : Int)), (D.int .i64 (0 : Int))], [(D.int .i64 (1 : Int)), (D.int .i64 (0 : Int))]])]])) (p.len [[(D.list Bool.true 2 [[(D.int .i64 (0 : Int)), (D.int .i64 (0 : Int))], [(D.int .i64 (1 : Int)), (D.int .i64 (0 : Int))]])]])) Bool.true)) (p.and (p.and (p.leN (p.add 0 (p.len [[(D.int .i64 (6 : Int)), (D.int .i64 (0 : Int))]])) (p.len [[(D.int .i64 (6 : Int)), (D.int .i64 (0 : Int))]])) (p.and Bool.true Bool.true)) (p.and Bool.true Bool.true))) <|
 opt.bnd T0 _ (g39 it p ((p.cut [[(D.int .i64 (0 : Int)), (D.int .i64 (0 : Int))], [(D.int .i64 (4 : Int)), (D.int .i64 (0 : Int))], [(D.int .i64 (0 : Int)), (D.int .i64 (4 : Int))]] 0 (p.len [[(D.int .i64 (0 : Int)), (D.int .i64 (0 : Int))], [(D.int .i64 (4 : Int)), (D.int .i64 (0 : Int))], [(D.int .i64 (0 : Int)), (D.int .i64 (4 : Int))]])), ((p.cut [[(D.list Bool.true 2 [[(D.int .i64 (0 : Int)), (D.int .i64 (0 : Int))], [(D.int .i64 (1 : Int)), (D.int .i64 (0 : Int))]])]] 0 (p.len [[(D.list Bool.true 2 [[(D.int .i64 (0 : Int)), (D.int .i64 (0 : Int))], [(D.int .i64 (1 : Int)), (D.int .i64 (0 : Int))]])]])), ((p.cut [[(D.int .i64 (6 : Int)), (D.int .i64 (0 : Int))]] 0 (p.len [[(D.int .i64 (6 : Int)), (D.int .i64 (0 : Int))]])), ([], ((1 : Int), ((0 : Int), ((5 : Int), ())))))))) fun d =>
 opt.need _ (p.and (p.and (p.leN (p.add 0 (p.len [[(D.int .i64 (0 : Int)), (D.int .i64 (0 : Int))], [(D.int .i64 (4 : Int)), (D.int .i64 (0 : Int))], [(D.int .i64 (0 : Int)), (D.int .i64 (4 : Int))]])) (p.len [[(D.int .i64 (0 : Int)), (D.int .i64 (0 : Int))], [(D.int .i64 (4 : Int)), (D.int .i64 (0 : Int))], [(D.int .i64 (0 : Int)), (D.int .i64 (4 : Int))]])) (p.and (p.leN (p.add 0 (p.len [[(D.list Bool.true 2 [[(D.int .i64 (0 : Int)), (D.int .i64 (0 : Int))], [(D.int .i64 (1 : Int)), (D.int .i64 (0 : Int))]])]])) (p.len [[(D.list Bool.true 2 [[(D.int .i64 (0 : Int)), (D.int .i64 (0 : Int))], [(D.int .i64 (1 : Int)), (D.int .i64 (0 : Int))]])]])) Bool.true)) (p.and (p.and (p.leN (p.add 0 (p.len [[(D.int .i64 (6 : Int)), (D.int .i64 (0 : Int))]])) (p.len [[(D.int .i64 (6 : Int)), (D.int .i64 (0 : Int))]])) (p.and Bool.true Bool.true)) (p.and Bool.true Bool.true))) <|
 opt.bnd T0 _ (g39 it p ((p.cut [[(D.int .i64 (0 : Int)), (D.int .i64 (0 : Int))], [(D.int .i64 (4 : Int)), (D.int .i64 (0 : Int))], [(D.int .i64 (0 : Int)), (D.int .i64 (4 : Int))]] 0 (p.len [[(D.int .i64 (0 : Int)), (D.int .i64 (0 : Int))], [(D.int .i64 (4 : Int)), (D.int .i64 (0 : Int))], [(D.int .i64 (0 : Int)), (D.int .i64 (4 : Int))]])), ((p.cut [[(D.list Bool.true 2 [[(D.int .i64 (0 : Int)), (D.int .i64 (0 : Int))], [(D.int .i64 (1 : Int)), (D.int .i64 (0 : Int))]])]] 0 (p.len [[(D.list Bool.true 2 [[(D.int .i64 (0 : Int)), (D.int .i64 (0 : Int))], [(D.int .i64 (1 : Int)), (D.int .i64 (0 : Int))]])]])), ((p.cut [[(D.int .i64 (6 : Int)), (D.int .i64 (0 : Int))]] 0 (p.len [[(D.int .i64 (6 : Int)), (D.int .i64 (0 : Int))]])), ([], ((1 : Int), ((0 : Int), ((6 : Int), ())))))))) fun e =>
 opt.need _ (p.and (p.and (p.leN (p.add 0 (p.len [[(D.int .i64 (0 : Int)), (D.int .i64 (0 : Int))], [(D.int .i64 (4 : Int)), (D.int .i64 (0 : Int))], [(D.int .i64 (0 : Int)), (D.int .i64 (4 : Int))]])) (p.len [[(D.int .i64 (0 : Int)), (D.int .i64 (0 : Int))], [(D.int .i64 (4 : Int)), (D.int .i64 (0 : Int))], [(D.int .i64 (0 : Int)), (D.int .i64 (4 : Int))]])) (p.and (p.leN (p.add 0 (p.len [[(D.list Bool.true 2 [[(D.int .i64 (0 : Int)), (D.int .i64 (0 : Int))], [(D.int .i64 (1 : Int)), (D.int .i64 (0 : Int))]])]])) (p.len [[(D.list Bool.true 2 [[(D.int .i64 (0 : Int)), (D.int .i64 (0 : Int))], [(D.int .i64 (1 : Int)), (D.int .i64 (0 : Int))]])]])) Bool.true)) (p.and (p.and (p.leN (p.add 0 (p.len [[(D.int .i64 (3 : Int)), (D.int .i64 (2 : Int))]])) (p.len [[(D.int .i64 (3 : Int)), (D.int .i64 (2 : Int))]])) (p.and Bool.true Bool.true)) Bool.true)) <|
 opt.bnd T9 _ (g32 it p ((p.cut [[(D.int .i64 (0 : Int)), (D.int .i64 (0 : Int))], [(D.int .i64 (4 : Int)), (D.int .i64 (0 : Int))], [(D.int .i64 (0 : Int)), (D.int .i64 (4 : Int))]] 0 (p.len [[(D.int .i64 (0 : Int)), (D.int .i64 (0 : Int))], [(D.int .i64 (4 : Int)), (D.int .i64 (0 : Int))], [(D.int .i64 (0 : Int)), (D.int .i64 (4 : Int))]])), ((p.cut [[(D.list Bool.true 2 [[(D.int .i64 (0 : Int)), (D.int .i64 (0 : Int))], [(D.int .i64 (1 : Int)), (D.int .i64 (0 : Int))]])]] 0 (p.len [[(D.list Bool.true 2 [[(D.int .i64 (0 : Int)), (D.int .i64 (0 : Int))], [(D.int .i64 (1 : Int)), (D.int .i64 (0 : Int))]])]])), ((p.cut [[(D.int .i64 (3 : Int)), (D.int .i64 (2 : Int))]] 0 (p.len [[(D.int .i64 (3 : Int)), (D.int .i64 (2 : Int))]])), ([], ()))))) fun f =>
 opt.need _ (p.and (p.and (p.leN (p.add 0 (p.len [[(D.int .i64 (0 : Int)), (D.int .i64 (0 : Int))], [(D.int .i64 (4 : Int)), (D.int .i64 (0 : Int))], [(D.int .i64 (0 : Int)), (D.int .i64 (4 : Int))]])) (p.len [[(D.int .i64 (0 : Int)), (D.int .i64 (0 : Int))], [(D.int .i64 (4 : Int)), (D.int .i64 (0 : Int))], [(D.int .i64 (0 : Int)), (D.int .i64 (4 : Int))]])) (p.and (p.leN (p.add 0 (p.len [[(D.list Bool.true 2 [[(D.int .i64 (0 : Int)), (D.int .i64 (0 : Int))], [(D.int .i64 (1 : Int)), (D.int .i64 (0 : Int))]])]])) (p.len [[(D.list Bool.true 2 [[(D.int .i64 (0 : Int)), (D.int .i64 (0 : Int))], [(D.int .i64 (1 : Int)), (D.int .i64 (0 : Int))]])]])) Bool.true)) (p.and (p.and (p.leN (p.add 0 (p.len [[(D.int .i64 (4 : Int)), (D.int .i64 (2 : Int))]])) (p.len [[(D.int .i64 (4 : Int)), (D.int .i64 (2 : Int))]])) (p.and Bool.true Bool.true)) Bool.true)) <|
 opt.bnd T9 _ (g32 it p ((p.cut [[(D.int .i64 (0 : Int)), (D.int .i64 (0 : Int))], [(D.int .i64 (4 : Int)), (D.int .i64 (0 : Int))], [(D.int .i64 (0 : Int)), (D.int .i64 (4 : Int))]] 0 (p.len [[(D.int .i64 (0 : Int)), (D.int .i64 (0 : Int))], [(D.int .i64 (4 : Int)), (D.int .i64 (0 : Int))], [(D.int .i64 (0 : Int)), (D.int .i64 (4 : Int))]])), ((p.cut [[(D.list Bool.true 2 [[(D.int .i64 (0 : Int)), (D.int .i64 (0 : Int))], [(D.int .i64 (1 : Int)), (D.int .i64 (0 : Int))]])]] 0 (p.len [[(D.list Bool.true 2 [[(D.int .i64 (0 : Int)), (D.int .i64 (0 : Int))], [(D.int .i64 (1 : Int)), (D.int .i64 (0 : Int))]])]])), ((p.cut [[(D.int .i64 (4 : Int)), (D.int .i64 (2 : Int))]] 0 (p.len [[(D.int .i64 (4 : Int)), (D.int .i64 (2 : Int))]])), ([], ()))))) fun g =>
 opt.need _ (p.and (p.and (p.leN (p.add 0 (p.len [[(D.int .i64 (0 : Int)), (D.int .i64 (0 : Int))], [(D.int .i64 (4 : Int)), (D.int .i64 (0 : Int))], [(D.int .i64 (0 : Int)), (D.int .i64 (4 : Int))]])) (p.len [[(D.int .i64 (0 : Int)), (D.int .i64 (0 : Int))], [(D.int .i64 (4 : Int)), (D.int .i64 (0 : Int))], [(D.int .i64 (0 : Int)), (D.int .i64 (4 : Int))]])) (p.and (p.leN (p.add 0 (p.len [[(D.list Bool.true 2 [[(D.int .i64 (0 : Int)), (D.int .i64 (0 : Int))], [(D.int .i64 (1 : Int)), (D.int .i64 (0 : Int))]])]])) (p.len [[(D.list Bool.true 2 [[(D.int .i64 (0 : Int)), (D.int .i64 (0 : Int))], [(D.int .i64 (1 : Int)), (D.int .i64 (0 : Int))]])]])) Bool.true)) (p.and (p.and (p.leN (p.add 0 (p.len [[(D.int .i64 (3 : Int)), (D.int .i64 (2 : Int))]])) (p.len [[(D.int .i64 (3 : Int)), (D.int .i64 (2 : Int))]])) (p.and Bool.true Bool.true)) Bool.true)) <|
 opt.bnd T9 _ (g37 it p ((p.cut [[(D.int .i64 (0 : Int)), (D.int .i64 (0 : Int))], [(D.int .i64 (4 : Int)), (D.int .i64 (0 : Int))], [(D.int .i64 (0 : Int)), (D.int .i64 (4 : Int))]] 0 (p.len [[(D.int .i64 (0 : Int)), (D.int .i64 (0 : Int))], [(D.int .i64 (4 : Int)), (D.int .i64 (0 : Int))], [(D.int .i64 (0 : Int)), (D.int .i64 (4 : Int))]])), ((p.cut [[(D.list Bool.true 2 [[(D.int .i64 (0 : Int)), (D.int .i64 (0 : Int))], [(D.int .i64 (1 : Int)), (D.int .i64 (0 : Int))]])]] 0 (p.len [[(D.list Bool.true 2 [[(D.int .i64 (0 : Int)), (D.int .i64 (0 : Int))], [(D.int .i64 (1 : Int)), (D.int .i64 (0 : Int))]])]])), ((p.cut [[(D.int .i64 (3 : Int)), (D.int .i64 (2 : Int))]] 0 (p.len [[(D.int .i64 (3 : Int)), (D.int .i64 (2 : Int))]])), ([], ()))))) fun h =>
 opt.need _ (p.and (p.and (p.leN (p.add 0 (p.len [[(D.int .i64 (0 : Int)), (D.int .i64 (0 : Int))], [(D.int .i64 (4 : Int)), (D.int .i64 (0 : Int))], [(D.int .i64 (0 : Int)), (D.int .i64 (4 : Int))]])) (p.len [[(D.int .i64 (0 : Int)), (D.int .i64 (0 : Int))], [(D.int .i64 (4 : Int)), (D.int .i64 (0 : Int))], [(D.int .i64 (0 : Int)), (D.int .i64 (4 : Int))]])) (p.and (p.leN (p.add 0 (p.len [[(D.list Bool.true 2 [[(D.int .i64 (0 : Int)), (D.int .i64 (0 : Int))], [(D.int .i64 (1 : Int)), (D.int .i64 (0 : Int))]])]])) (p.len [[(D.list Bool.true 2 [[(D.int .i64 (0 : Int)), (D.int .i64 (0 : Int))], [(D.int .i64 (1 : Int)), (D.int .i64 (0 : Int))]])]])) Bool.true)) (p.and (p.and (p.leN (p.add 0 (p.len [[(D.int .i64 (4 : Int)), (D.int .i64 (2 : Int))]])) (p.len [[(D.int .i64 (4 : Int)), (D.int .i64 (2 : Int))]])) (p.and Bool.true Bool.true)) Bool.true)) <|
 opt.bnd T6 _ (g25 it p ((p.cut [[(D.int .i64 (0 : Int)), (D.int .i64 (0 : Int))], [(D.int .i64 (4 : Int)), (D.int .i64 (0 : Int))], [(D.int .i64 (0 : Int)), (D.int .i64 (4 : Int))]] 0 (p.len [[(D.int .i64 (0 : Int)), (D.int .i64 (0 : Int))], [(D.int .i64 (4 : Int)), (D.int .i64 (0 : Int))], [(D.int .i64 (0 : Int)), (D.int .i64 (4 : Int))]])), ((p.cut [[(D.list Bool.true 2 [[(D.int .i64 (0 : Int)), (D.int .i64 (0 : Int))], [(D.int .i64 (1 : Int)), (D.int .i64 (0 : Int))]])]] 0 (p.len [[(D.list Bool.true 2 [[(D.int .i64 (0 : Int)), (D.int .i64 (0 : Int))], [(D.int .i64 (1 : Int)), (D.int .i64 (0 : Int))]])]])), ((p.cut [[(D.int .i64 (4 : Int)), (D.int .i64 (2 : Int))]] 0 (p.len [[(D.int .i64 (4 : Int)), (D.int .i64 (2 : Int))]])), ([], ()))))) fun i =>
 opt.need _ (p.and (bif (bif (p.leN (p.add 0 (p.len [[(D.int .i64 (0 : Int)), (D.int .i64 (0 : Int))], [(D.int .i64 (4 : Int)), (D.int .i64 (0 : Int))], [(D.int .i64 (0 : Int)), (D.int .i64 (4 : Int))]])) (p.len [[(D.int .i64 (0 : Int)), (D.int .i64 (0 : Int))], [(D.int .i64 (4 : Int)), (D.int .i64 (0 : Int))], [(D.int .i64 (0 : Int)), (D.int .i64 (4 : Int))]])) then (bif (p.leN (p.add 0 (p.len [[(D.list Bool.true 2 [[(D.int .i64 (0 : Int)), (D.int .i64 (0 : Int))], [(D.int .i64 (1 : Int)), (D.int .i64 (0 : Int))]])]])) (p.len [[(D.list Bool.true 2 [[(D.int .i64 (0 : Int)), (D.int .i64 (0 : Int))], [(D.int .i64 (1 : Int)), (D.int .i64 (0 : Int))]])]])) then Bool.true else Bool.false) else Bool.false) then (bif (bif (p.leN (p.add 0 (p.len [[(D.int .i64 (4 : Int)), (D.int .i64 (2 : Int))]])) (p.len [[(D.int .i64 (4 : Int)), (D.int .i64 (2 : Int))]])) then Bool.true else Bool.false) then (bif (bif (p.leN (p.add 0 (p.len [[(D.int .i64 (3 : Int)), (D.int .i64 (2 : Int))]])) (p.len [[(D.int .i64 (3 : Int)), (D.int .i64 (2 : Int))]])) then Bool.true else Bool.false) then Bool.true else Bool.false) else Bool.false) else Bool.false) Bool.true) <|
 opt.bnd T6 _ (g27 it p ([[(D.list Bool.false 2 (p.cut [[(D.int .i64 (0 : Int)), (D.int .i64 (0 : Int))], [(D.int .i64 (4 : Int)), (D.int .i64 (0 : Int))], [(D.int .i64 (0 : Int)), (D.int .i64 (4 : Int))]] 0 (p.len [[(D.int .i64 (0 : Int)), (D.int .i64 (0 : Int))], [(D.int .i64 (4 : Int)), (D.int .i64 (0 : Int))], [(D.int .i64 (0 : Int)), (D.int .i64 (4 : Int))]]))), (D.list Bool.false 1 (p.cut [[(D.list Bool.true 2 [[(D.int .i64 (0 : Int)), (D.int .i64 (0 : Int))], [(D.int .i64 (1 : Int)), (D.int .i64 (0 : Int))]])]] 0 (p.len [[(D.list Bool.true 2 [[(D.int .i64 (0 : Int)), (D.int .i64 (0 : Int))], [(D.int .i64 (1 : Int)), (D.int .i64 (0 : Int))]])]])))], [(D.list Bool.false 2 (p.cut [[(D.int .i64 (4 : Int)), (D.int .i64 (2 : Int))]] 0 (p.len [[(D.int .i64 (4 : Int)), (D.int .i64 (2 : Int))]]))), (D.list Bool.true 0 [])], [(D.list Bool.false 2 (p.cut [[(D.int .i64 (3 : Int)), (D.int .i64 (2 : Int))]] 0 (p.len [[(D.int .i64 (3 : Int)), (D.int .i64 (2 : Int))]]))), (D.list Bool.true 0 [])]], ())) fun j =>
 opt.bnd ((LD × (LD × (LD × (LD × (LD × T81)))))) _ (
 opt.run ((LD × (LD × (LD × (LD × (LD × T81)))))) (
 opt.ask _ (p.cmp .neq a.2.1 (0 : Int)) (
 opt.need _ (p.eqN 0 0) <|
 opt.need _ (p.eqN (p.len [[(D.int .i64 (0 : Int)), (D.int .i64 (0 : Int))], [(D.int .i64 (4 : Int)), (D.int .i64 (0 : Int))], [(D.int .i64 (0 : Int)), (D.int .i64 (4 : Int))]]) (p.len [[(D.int .i64 (0 : Int)), (D.int .i64 (0 : Int))], [(D.int .i64 (4 : Int)), (D.int .i64 (0 : Int))], [(D.int .i64 (0 : Int)), (D.int .i64 (4 : Int))]])) <|
 opt.need _ (p.eqN (p.len [[(D.int .i64 (0 : Int)), (D.int .i64 (0 : Int))], [(D.int .i64 (4 : Int)), (D.int .i64 (0 : Int))], [(D.int .i64 (0 : Int)), (D.int .i64 (4 : Int))]]) (p.len [[(D.int .i64 (0 : Int)), (D.int .i64 (0 : Int))], [(D.int .i64 (4 : Int)), (D.int .i64 (0 : Int))], [(D.int .i64 (0 : Int)), (D.int .i64 (4 : Int))]])) <|
 opt.need _ (p.eqN 0 0) <|
 opt.need _ (p.eqN (p.len [[(D.list Bool.true 2 [[(D.int .i64 (0 : Int)), (D.int .i64 (0 : Int))], [(D.int .i64 (1 : Int)), (D.int .i64 (0 : Int))]])]]) (p.len [[(D.list Bool.true 2 [[(D.int .i64 (0 : Int)), (D.int .i64 (0 : Int))], [(D.int .i64 (1 : Int)), (D.int .i64 (0 : Int))]])]])) <|
 opt.need _ (p.eqN (p.len [[(D.list Bool.true 2 [[(D.int .i64 (0 : Int)), (D.int .i64 (0 : Int))], [(D.int .i64 (1 : Int)), (D.int .i64 (0 : Int))]])]]) (p.len [[(D.list Bool.true 2 [[(D.int .i64 (0 : Int)), (D.int .i64 (0 : Int))], [(D.int .i64 (1 : Int)), (D.int .i64 (0 : Int))]])]])) <|
 opt.need _ (p.eqN 0 0) <|
 opt.need _ (p.eqN (p.len [[(D.int .i64 (4 : Int)), (D.int .i64 (2 : Int))]]) (p.len [[(D.int .i64 (4 : Int)), (D.int .i64 (2 : Int))]])) <|
 opt.need _ (p.eqN (p.len [[(D.int .i64 (4 : Int)), (D.int .i64 (2 : Int))]]) (p.len [[(D.int .i64 (4 : Int)), (D.int .i64 (2 : Int))]])) <|
 opt.need _ (p.eqN 0 0) <|
 opt.need _ (p.eqN (p.len [[(D.int .i64 (3 : Int)), (D.int .i64 (2 : Int))]]) (p.len [[(D.int .i64 (3 : Int)), (D.int .i64 (2 : Int))]])) <|
 opt.need _ (p.eqN (p.len [[(D.int .i64 (3 : Int)), (D.int .i64 (2 : Int))]]) (p.len [[(D.int .i64 (3 : Int)), (D.int .i64 (2 : Int))]])) <|
 opt.need _ (p.eqN 0 0) <|
 opt.need _ (p.eqN (p.len a.1) (p.len a.1)) <|
 opt.ret _ (a.1, ([[(D.int .i64 (0 : Int)), (D.int .i64 (0 : Int))], [(D.int .i64 (4 : Int)), (D.int .i64 (0 : Int))], [(D.int .i64 (0 : Int)), (D.int .i64 (4 : Int))]], ([[(D.list Bool.true 2 [[(D.int .i64 (0 : Int)), (D.int .i64 (0 : Int))], [(D.int .i64 (1 : Int)), (D.int .i64 (0 : Int))]])]], ([[(D.int .i64 (4 : Int)), (D.int .i64 (2 : Int))]], ([[(D.int .i64 (3 : Int)), (D.int .i64 (2 : Int))]], (c.1, (c.2.1, (g.1, (g.2.1, (g.2.2.1, (h.1, (h.2.1, (h.2.2.1, (i.1, (i.2.1, (b.1, (j.1, (j.2.1, (Bool.true, ())))))))))))))))))))) (
 opt.ask _ (p.cmp .neq b.2.1 (0 : Int)) (
 opt.need _ (p.eqN 0 0) <|
 opt.need _ (p.eqN (p.len [[(D.int .i64 (0 : Int)), (D.int .i64 (0 : Int))], [(D.int .i64 (4 : Int)), (D.int .i64 (0 : Int))], [(D.int .i64 (0 : Int)), (D.int .i64 (4 : Int))]]) (p.len [[(D.int .i64 (0 : Int)), (D.int .i64 (0 : Int))], [(D.int .i64 (4 : Int)), (D.int .i64 (0 : Int))], [(D.int .i64 (0 : Int)), (D.int .i64 (4 : Int))]])) <|
 opt.need _ (p.eqN (p.len [[(D.int .i64 (0 : Int)), (D.int .i64 (0 : Int))], [(D.int .i64 (4 : Int)), (D.int .i64 (0 : Int))], [(D.int .i64 (0 : Int)), (D.int .i64 (4 : Int))]]) (p.len [[(D.int .i64 (0 : Int)), (D.int .i64 (0 : Int))], [(D.int .i64 (4 : Int)), (D.int .i64 (0 : Int))], [(D.int .i64 (0 : Int)), (D.int .i64 (4 : Int))]])) <|
 opt.need _ (p.eqN 0 0) <|
 opt.need _ (p.eqN (p.len [[(D.list Bool.true 2 [[(D.int .i64 (0 : Int)), (D.int .i64 (0 : Int))], [(D.int .i64 (1 : Int)), (D.int .i64 (0 : Int))]])]]) (p.len [[(D.list Bool.true 2 [[(D.int .i64 (0 : Int)), (D.int .i64 (0 : Int))], [(D.int .i64 (1 : Int)), (D.int .i64 (0 : Int))]])]])) <|
 opt.need _ (p.eqN (p.len [[(D.list Bool.true 2 [[(D.int .i64 (0 : Int)), (D.int .i64 (0 : Int))], [(D.int .i64 (1 : Int)), (D.int .i64 (0 : Int))]])]]) (p.len [[(D.list Bool.true 2 [[(D.int .i64 (0 : Int)), (D.int .i64 (0 : Int))], [(D.int .i64 (1 : Int)), (D.int .i64 (0 : Int))]])]])) <|
 opt.need _ (p.eqN 0 0) <|
 opt.need _ (p.eqN (p.len [[(D.int .i64 (4 : Int)), (D.int .i64 (2 : Int))]]) (p.len [[(D.int .i64 (4 : Int)), (D.int .i64 (2 : Int))]])) <|
 opt.need _ (p.eqN (p.len [[(D.int .i64 (4 : Int)), (D.int .i64 (2 : Int))]]) (p.len [[(D.int .i64 (4 : Int)), (D.int .i64 (2 : Int))]])) <|
 opt.need _ (p.eqN 0 0) <|
 opt.need _ (p.eqN (p.len [[(D.int .i64 (3 : Int)), (D.int .i64 (2 : Int))]]) (p.len [[(D.int .i64 (3 : Int)), (D.int .i64 (2 : Int))]])) <|
 opt.need _ (p.eqN (p.len [[(D.int .i64 (3 : Int)), (D.int .i64 (2 : Int))]]) (p.len [[(D.int .i64 (3 : Int)), (D.int .i64 (2 : Int))]])) <|
 opt.need _ (p.eqN 0 0) <|
 opt.need _ (p.eqN (p.len a.1) (p.len a.1)) <|
 opt.ret _ (a.1, ([[(D.int .i64 (0 : Int)), (D.int .i64 (0 : Int))], [(D.int .i64 (4 : Int)), (D.int .i64 (0 : Int))], [(D.int .i64 (0 : Int)), (D.int .i64 (4 : Int))]], ([[(D.list Bool.true 2 [[(D.int .i64 (0 : Int)), (D.int .i64 (0 : Int))], [(D.int .i64 (1 : Int)), (D.int .i64 (0 : Int))]])]], ([[(D.int .i64 (4 : Int)), (D.int .i64 (2 : Int))]], ([[(D.int .i64 (3 : Int)), (D.int .i64 (2 : Int))]], (c.1, (c.2.1, (g.1, (g.2.1, (g.2.2.1, (h.1, (h.2.1, (h.2.2.1, (i.1, (i.2.1, (b.1, (j.1, (j.2.1, (Bool.true, ())))))))))))))))))))) (
 opt.ask _ (p.cmp .neq c.2.2.1 (0 : Int)) (
 opt.need _ (p.eqN 0 0) <|
 opt.need _ (p.eqN (p.len [[(D.int .i64 (0 : Int)), (D.int .i64 (0 : Int))], [(D.int .i64 (4 : Int)), (D.int .i64 (0 : Int))], [(D.int .i64 (0 : Int)), (D.int .i64 (4 : Int))]]) (p.len [[(D.int .i64 (0 : Int)), (D.int .i64 (0 : Int))], [(D.int .i64 (4 : Int)), (D.int .i64 (0 : Int))], [(D.int .i64 (0 : Int)), (D.int .i64 (4 : Int))]])) <|
 opt.need _ (p.eqN (p.len [[(D.int .i64 (0 : Int)), (D.int .i64 (0 : Int))], [(D.int .i64 (4 : Int)), (D.int .i64 (0 : Int))], [(D.int .i64 (0 : Int)), (D.int .i64 (4 : Int))]]) (p.len [[(D.int .i64 (0 : Int)), (D.int .i64 (0 : Int))], [(D.int .i64 (4 : Int)), (D.int .i64 (0 : Int))], [(D.int .i64 (0 : Int)), (D.int .i64 (4 : Int))]])) <|
 opt.need _ (p.eqN 0 0) <|
 opt.need _ (p.eqN (p.len [[(D.list Bool.true 2 [[(D.int .i64 (0 : Int)), (D.int .i64 (0 : Int))], [(D.int .i64 (1 : Int)), (D.int .i64 (0 : Int))]])]]) (p.len [[(D.list Bool.true 2 [[(D.int .i64 (0 : Int)), (D.int .i64 (0 : Int))], [(D.int .i64 (1 : Int)), (D.int .i64 (0 : Int))]])]])) <|
 opt.need _ (p.eqN (p.len [[(D.list Bool.true 2 [[(D.int .i64 (0 : Int)), (D.int .i64 (0 : Int))], [(D.int .i64 (1 : Int)), (D.int .i64 (0 : Int))]])]]) (p.len [[(D.list Bool.true 2 [[(D.int .i64 (0 : Int)), (D.int .i64 (0 : Int))], [(D.int .i64 (1 : Int)), (D.int .i64 (0 : Int))]])]])) <|
 opt.need _ (p.eqN 0 0) <|
 opt.need _ (p.eqN (p.len [[(D.int .i64 (4 : Int)), (D.int .i64 (2 : Int))]]) (p.len [[(D.int .i64 (4 : Int)), (D.int .i64 (2 : Int))]])) <|
 opt.need _ (p.eqN (p.len [[(D.int .i64 (4 : Int)), (D.int .i64 (2 : Int))]]) (p.len [[(D.int .i64 (4 : Int)), (D.int .i64 (2 : Int))]])) <|
 opt.need _ (p.eqN 0 0) <|
 opt.need _ (p.eqN (p.len [[(D.int .i64 (3 : Int)), (D.int .i64 (2 : Int))]]) (p.len [[(D.int .i64 (3 : Int)), (D.int .i64 (2 : Int))]])) <|
 opt.need _ (p.eqN (p.len [[(D.int .i64 (3 : Int)), (D.int .i64 (2 : Int))]]) (p.len [[(D.int .i64 (3 : Int)), (D.int .i64 (2 : Int))]])) <|
 opt.need _ (p.eqN 0 0) <|
 opt.need _ (p.eqN (p.len a.1) (p.len a.1)) <|
 opt.ret _ (a.1, ([[(D.int .i64 (0 : Int)), (D.int .i64 (0 : Int))], [(D.int .i64 (4 : Int)), (D.int .i64 (0 : Int))], [(D.int .i64 (0 : Int)), (D.int .i64 (4 : Int))]], ([[(D.list Bool.true 2 [[(D.int .i64 (0 : Int)), (D.int .i64 (0 : Int))], [(D.int .i64 (1 : Int)), (D.int .i64 (0 : Int))]])]], ([[(D.int .i64 (4 : Int)), (D.int .i64 (2 : Int))]], ([[(D.int .i64 (3 : Int)), (D.int .i64 (2 : Int))]], (c.1, (c.2.1, (g.1, (g.2.1, (g.2.2.1, (h.1, (h.2.1, (h.2.2.1, (i.1, (i.2.1, (b.1, (j.1, (j.2.1, (Bool.true, ())))))))))))))))))))) (
 opt.ask _ (p.cmp .neq d.1 (0 : Int)) (
 opt.need _ (p.eqN 0 0) <|
 opt.need _ (p.eqN (p.len [[(D.int .i64 (0 : Int)), (D.int .i64 (0 : Int))], [(D.int .i64 (4 : Int)), (D.int .i64 (0 : Int))], [(D.int .i64 (0 : Int)), (D.int .i64 (4 : Int))]]) (p.len [[(D.int .i64 (0 : Int)), (D.int .i64 (0 : Int))], [(D.int .i64 (4 : Int)), (D.int .i64 (0 : Int))], [(D.int .i64 (0 : Int)), (D.int .i64 (4 : Int))]])) <|
 opt.need _ (p.eqN (p.len [[(D.int .i64 (0 : Int)), (D.int .i64 (0 : Int))], [(D.int .i64 (4 : Int)), (D.int .i64 (0 : Int))], [(D.int .i64 (0 : Int)), (D.int .i64 (4 : Int))]]) (p.len [[(D.int .i64 (0 : Int)), (D.int .i64 (0 : Int))], [(D.int .i64 (4 : Int)), (D.int .i64 (0 : Int))], [(D.int .i64 (0 : Int)), (D.int .i64 (4 : Int))]])) <|
 opt.need _ (p.eqN 0 0) <|
 opt.need _ (p.eqN (p.len [[(D.list Bool.true 2 [[(D.int .i64 (0 : Int)), (D.int .i64 (0 : Int))], [(D.int .i64 (1 : Int)), (D.int .i64 (0 : Int))]])]]) (p.len [[(D.list Bool.true 2 [[(D.int .i64 (0 : Int)), (D.int .i64 (0 : Int))], [(D.int .i64 (1 : Int)), (D.int .i64 (0 : Int))]])]])) <|
 opt.need _ (p.eqN (p.len [[(D.list Bool.true 2 [[(D.int .i64 (0 : Int)), (D.int .i64 (0 : Int))], [(D.int .i64 (1 : Int)), (D.int .i64 (0 : Int))]])]]) (p.len [[(D.list Bool.true 2 [[(D.int .i64 (0 : Int)), (D.int .i64 (0 : Int))], [(D.int .i64 (1 : Int)), (D.int .i64 (0 : Int))]])]])) <|
 opt.need _ (p.eqN 0 0) <|
 opt.need _ (p.eqN (p.len [[(D.int .i64 (4 : Int)), (D.int .i64 (2 : Int))]]) (p.len [[(D.int .i64 (4 : Int)), (D.int .i64 (2 : Int))]])) <|
 opt.need _ (p.eqN (p.len [[(D.int .i64 (4 : Int)), (D.int .i64 (2 : Int))]]) (p.len [[(D.int .i64 (4 : Int)), (D.int .i64 (2 : Int))]])) <|
 opt.need _ (p.eqN 0 0) <|
 opt.need _ (p.eqN (p.len [[(D.int .i64 (3 : Int)), (D.int .i64 (2 : Int))]]) (p.len [[(D.int .i64 (3 : Int)), (D.int .i64 (2 : Int))]])) <|
 opt.need _ (p.eqN (p.len [[(D.int .i64 (3 : Int)), (D.int .i64 (2 : Int))]]) (p.len [[(D.int .i64 (3 : Int)), (D.int .i64 (2 : Int))]])) <|
 opt.need _ (p.eqN 0 0) <|
 opt.need _ (p.eqN (p.len a.1) (p.len a.1)) <|
 opt.ret _ (a.1, ([[(D.int .i64 (0 : Int)), (D.int .i64 (0 : Int))], [(D.int .i64 (4 : Int)), (D.int .i64 (0 : Int))], [(D.int .i64 (0 : Int)), (D.int .i64 (4 : Int))]], ([[(D.list Bool.true 2 [[(D.int .i64 (0 : Int)), (D.int .i64 (0 : Int))], [(D.int .i64 (1 : Int)), (D.int .i64 (0 : Int))]])]], ([[(D.int .i64 (4 : Int)), (D.int .i64 (2 : Int))]], ([[(D.int .i64 (3 : Int)), (D.int .i64 (2 : Int))]], (c.1, (c.2.1, (g.1, (g.2.1, (g.2.2.1, (h.1, (h.2.1, (h.2.2.1, (i.1, (i.2.1, (b.1, (j.1, (j.2.1, (Bool.true, ())))))))))))))))))))) (
 opt.ask _ (p.cmp .neq e.1 (14 : Int)) (
 opt.need _ (p.eqN 0 0) <|
 opt.need _ (p.eqN (p.len [[(D.int .i64 (0 : Int)), (D.int .i64 (0 : Int))], [(D.int .i64 (4 : Int)), (D.int .i64 (0 : Int))], [(D.int .i64 (0 : Int)), (D.int .i64 (4 : Int))]]) (p.len [[(D.int .i64 (0 : Int)), (D.int .i64 (0 : Int))], [(D.int .i64 (4 : Int)), (D.int .i64 (0 : Int))], [(D.int .i64 (0 : Int)), (D.int .i64 (4 : Int))]])) <|
 opt.need _ (p.eqN (p.len [[(D.int .i64 (0 : Int)), (D.int .i64 (0 : Int))], [(D.int .i64 (4 : Int)), (D.int .i64 (0 : Int))], [(D.int .i64 (0 : Int)), (D.int .i64 (4 : Int))]]) (p.len [[(D.int .i64 (0 : Int)), (D.int .i64 (0 : Int))], [(D.int .i64 (4 : Int)), (D.int .i64 (0 : Int))], [(D.int .i64 (0 : Int)), (D.int .i64 (4 : Int))]])) <|
 opt.need _ (p.eqN 0 0) <|
 opt.need _ (p.eqN (p.len [[(D.list Bool.true 2 [[(D.int .i64 (0 : Int)), (D.int .i64 (0 : Int))], [(D.int .i64 (1 : Int)), (D.int .i64 (0 : Int))]])]]) (p.len [[(D.list Bool.true 2 [[(D.int .i64 (0 : Int)), (D.int .i64 (0 : Int))], [(D.int .i64 (1 : Int)), (D.int .i64 (0 : Int))]])]])) <|
 opt.need _ (p.eqN (p.len [[(D.list Bool.true 2 [[(D.int .i64 (0 : Int)), (D.int .i64 (0 : Int))], [(D.int .i64 (1 : Int)), (D.int .i64 (0 : Int))]])]]) (p.len [[(D.list Bool.true 2 [[(D.int .i64 (0 : Int)), (D.int .i64 (0 : Int))], [(D.int .i64 (1 : Int)), (D.int .i64 (0 : Int))]])]])) <|
 opt.need _ (p.eqN 0 0) <|
 opt.need _ (p.eqN (p.len [[(D.int .i64 (4 : Int)), (D.int .i64 (2 : Int))]]) (p.len [[(D.int .i64 (4 : Int)), (D.int .i64 (2 : Int))]])) <|
 opt.need _ (p.eqN (p.len [[(D.int .i64 (4 : Int)), (D.int .i64 (2 : Int))]]) (p.len [[(D.int .i64 (4 : Int)), (D.int .i64 (2 : Int))]])) <|
 opt.need _ (p.eqN 0 0) <|
 opt.need _ (p.eqN (p.len [[(D.int .i64 (3 : Int)), (D.int .i64 (2 : Int))]]) (p.len [[(D.int .i64 (3 : Int)), (D.int .i64 (2 : Int))]])) <|
 opt.need _ (p.eqN (p.len [[(D.int .i64 (3 : Int)), (D.int .i64 (2 : Int))]]) (p.len [[(D.int .i64 (3 : Int)), (D.int .i64 (2 : Int))]])) <|
 opt.need _ (p.eqN 0 0) <|
 opt.need _ (p.eqN (p.len a.1) (p.len a.1)) <|
 opt.ret _ (a.1, ([[(D.int .i64 (0 : Int)), (D.int .i64 (0 : Int))], [(D.int .i64 (4 : Int)), (D.int .i64 (0 : Int))], [(D.int .i64 (0 : Int)), (D.int .i64 (4 : Int))]], ([[(D.list Bool.true 2 [[(D.int .i64 (0 : Int)), (D.int .i64 (0 : Int))], [(D.int .i64 (1 : Int)), (D.int .i64 (0 : Int))]])]], ([[(D.int .i64 (4 : Int)), (D.int .i64 (2 : Int))]], ([[(D.int .i64 (3 : Int)), (D.int .i64 (2 : Int))]], (c.1, (c.2.1, (g.1, (g.2.1, (g.2.2.1, (h.1, (h.2.1, (h.2.2.1, (i.1, (i.2.1, (b.1, (j.1, (j.2.1, (Bool.true, ())))))))))))))))))))) (
 opt.ask _ (p.cmp .neq f.2.2.2.1 (21 : Int)) (
 opt.need _ (p.eqN 0 0) <|
 opt.need _ (p.eqN (p.len [[(D.int .i64 (0 : Int)), (D.int .i64 (0 : Int))], [(D.int .i64 (4 : Int)), (D.int .i64 (0 : Int))], [(D.int .i64 (0 : Int)), (D.int .i64 (4 : Int))]]) (p.len [[(D.int .i64 (0 : Int)), (D.int .i64 (0 : Int))], [(D.int .i64 (4 : Int)), (D.int .i64 (0 : Int))], [(D.int .i64 (0 : Int)), (D.int .i64 (4 : Int))]])) <|
 opt.need _ (p.eqN (p.len [[(D.int .i64 (0 : Int)), (D.int .i64 (0 : Int))], [(D.int .i64 (4 : Int)), (D.int .i64 (0 : Int))], [(D.int .i64 (0 : Int)), (D.int .i64 (4 : Int))]]) (p.len [[(D.int .i64 (0 : Int)), (D.int .i64 (0 : Int))], [(D.int .i64 (4 : Int)), (D.int .i64 (0 : Int))], [(D.int .i64 (0 : Int)), (D.int .i64 (4 : Int))]])) <|
 opt.need _ (p.eqN 0 0) <|
 opt.need _ (p.eqN (p.len [[(D.list Bool.true 2 [[(D.int .i64 (0 : Int)), (D.int .i64 (0 : Int))], [(D.int .i64 (1 : Int)), (D.int .i64 (0 : Int))]])]]) (p.len [[(D.list Bool.true 2 [[(D.int .i64 (0 : Int)), (D.int .i64 (0 : Int))], [(D.int .i64 (1 : Int)), (D.int .i64 (0 : Int))]])]])) <|
 opt.need _ (p.eqN (p.len [[(D.list Bool.true 2 [[(D.int .i64 (0 : Int)), (D.int .i64 (0 : Int))], [(D.int .i64 (1 : Int)), (D.int .i64 (0 : Int))]])]]) (p.len [[(D.list Bool.true 2 [[(D.int .i64 (0 : Int)), (D.int .i64 (0 : Int))], [(D.int .i64 (1 : Int)), (D.int .i64 (0 : Int))]])]])) <|
 opt.need _ (p.eqN 0 0) <|
 opt.need _ (p.eqN (p.len [[(D.int .i64 (4 : Int)), (D.int .i64 (2 : Int))]]) (p.len [[(D.int .i64 (4 : Int)), (D.int .i64 (2 : Int))]])) <|
 opt.need _ (p.eqN (p.len [[(D.int .i64 (4 : Int)), (D.int .i64 (2 : Int))]]) (p.len [[(D.int .i64 (4 : Int)), (D.int .i64 (2 : Int))]])) <|
 opt.need _ (p.eqN 0 0) <|
 opt.need _ (p.eqN (p.len [[(D.int .i64 (3 : Int)), (D.int .i64 (2 : Int))]]) (p.len [[(D.int .i64 (3 : Int)), (D.int .i64 (2 : Int))]])) <|
 opt.need _ (p.eqN (p.len [[(D.int .i64 (3 : Int)), (D.int .i64 (2 : Int))]]) (p.len [[(D.int .i64 (3 : Int)), (D.int .i64 (2 : Int))]])) <|
 opt.need _ (p.eqN 0 0) <|
 opt.need _ (p.eqN (p.len a.1) (p.len a.1)) <|
 opt.ret _ (a.1, ([[(D.int .i64 (0 : Int)), (D.int .i64 (0 : Int))], [(D.int .i64 (4 : Int)), (D.int .i64 (0 : Int))], [(D.int .i64 (0 : Int)), (D.int .i64 (4 : Int))]], ([[(D.list Bool.true 2 [[(D.int .i64 (0 : Int)), (D.int .i64 (0 : Int))], [(D.int .i64 (1 : Int)), (D.int .i64 (0 : Int))]])]], ([[(D.int .i64 (4 : Int)), (D.int .i64 (2 : Int))]], ([[(D.int .i64 (3 : Int)), (D.int .i64 (2 : Int))]], (c.1, (c.2.1, (g.1, (g.2.1, (g.2.2.1, (h.1, (h.2.1, (h.2.2.1, (i.1, (i.2.1, (b.1, (j.1, (j.2.1, (Bool.true, ())))))))))))))))))))) (
 opt.ask _ (p.cmp .neq g.2.2.2.1 (0 : Int)) (
 opt.need _ (p.eqN 0 0) <|
 opt.need _ (p.eqN (p.len [[(D.int .i64 (0 : Int)), (D.int .i64 (0 : Int))], [(D.int .i64 (4 : Int)), (D.int .i64 (0 : Int))], [(D.int .i64 (0 : Int)), (D.int .i64 (4 : Int))]]) (p.len [[(D.int .i64 (0 : Int)), (D.int .i64 (0 : Int))], [(D.int .i64 (4 : Int)), (D.int .i64 (0 : Int))], [(D.int .i64 (0 : Int)), (D.int .i64 (4 : Int))]])) <|
 opt.need _ (p.eqN (p.len [[(D.int .i64 (0 : Int)), (D.int .i64 (0 : Int))], [(D.int .i64 (4 : Int)), (D.int .i64 (0 : Int))], [(D.int .i64 (0 : Int)), (D.int .i64 (4 : Int))]]) (p.len [[(D.int .i64 (0 : Int)), (D.int .i64 (0 : Int))], [(D.int .i64 (4 : Int)), (D.int .i64 (0 : Int))], [(D.int .i64 (0 : Int)), (D.int .i64 (4 : Int))]])) <|
 opt.need _ (p.eqN 0 0) <|
 opt.need _ (p.eqN (p.len [[(D.list Bool.true 2 [[(D.int .i64 (0 : Int)), (D.int .i64 (0 : Int))], [(D.int .i64 (1 : Int)), (D.int .i64 (0 : Int))]])]]) (p.len [[(D.list Bool.true 2 [[(D.int .i64 (0 : Int)), (D.int .i64 (0 : Int))], [(D.int .i64 (1 : Int)), (D.int .i64 (0 : Int))]])]])) <|
 opt.need _ (p.eqN (p.len [[(D.list Bool.true 2 [[(D.int .i64 (0 : Int)), (D.int .i64 (0 : Int))], [(D.int .i64 (1 : Int)), (D.int .i64 (0 : Int))]])]]) (p.len [[(D.list Bool.true 2 [[(D.int .i64 (0 : Int)), (D.int .i64 (0 : Int))], [(D.int .i64 (1 : Int)), (D.int .i64 (0 : Int))]])]])) <|
 opt.need _ (p.eqN 0 0) <|
 opt.need _ (p.eqN (p.len [[(D.int .i64 (4 : Int)), (D.int .i64 (2 : Int))]]) (p.len [[(D.int .i64 (4 : Int)), (D.int .i64 (2 : Int))]])) <|
 opt.need _ (p.eqN (p.len [[(D.int .i64 (4 : Int)), (D.int .i64 (2 : Int))]]) (p.len [[(D.int .i64 (4 : Int)), (D.int .i64 (2 : Int))]])) <|
 opt.need _ (p.eqN 0 0) <|
 opt.need _ (p.eqN (p.len [[(D.int .i64 (3 : Int)), (D.int .i64 (2 : Int))]]) (p.len [[(D.int .i64 (3 : Int)), (D.int .i64 (2 : Int))]])) <|
 opt.need _ (p.eqN (p.len [[(D.int .i64 (3 : Int)), (D.int .i64 (2 : Int))]]) (p.len [[(D.int .i64 (3 : Int)), (D.int .i64 (2 : Int))]])) <|
 opt.need _ (p.eqN 0 0) <|
 opt.need _ (p.eqN (p.len a.1) (p.len a.1)) <|
 opt.ret _ (a.1, ([[(D.int .i64 (0 : Int)), (D.int .i64 (0 : Int))], [(D.int .i64 (4 : Int)), (D.int .i64 (0 : Int))], [(D.int .i64 (0 : Int)), (D.int .i64 (4 : Int))]], ([[(D.list Bool.true 2 [[(D.int .i64 (0 : Int)), (D.int .i64 (0 : Int))], [(D.int .i64 (1 : Int)), (D.int .i64 (0 : Int))]])]], ([[(D.int .i64 (4 : Int)), (D.int .i64 (2 : Int))]], ([[(D.int .i64 (3 : Int)), (D.int .i64 (2 : Int))]], (c.1, (c.2.1, (g.1, (g.2.1, (g.2.2.1, (h.1, (h.2.1, (h.2.2.1, (i.1, (i.2.1, (b.1, (j.1, (j.2.1, (Bool.true, ())))))))))))))))))))) (
 opt.ask _ (p.cmp .neq h.2.2.2.1 (0 : Int)) (
 opt.need _ (p.eqN 0 0) <|
 opt.need _ (p.eqN (p.len [[(D.int .i64 (0 : Int)), (D.int .i64 (0 : Int))], [(D.int .i64 (4 : Int)), (D.int .i64 (0 : Int))], [(D.int .i64 (0 : Int)), (D.int .i64 (4 : Int))]]) (p.len [[(D.int .i64 (0 : Int)), (D.int .i64 (0 : Int))], [(D.int .i64 (4 : Int)), (D.int .i64 (0 : Int))], [(D.int .i64 (0 : Int)), (D.int .i64 (4 : Int))]])) <|
 opt.need _ (p.eqN (p.len [[(D.int .i64 (0 : Int)), (D.int .i64 (0 : Int))], [(D.int .i64 (4 : Int)), (D.int .i64 (0 : Int))], [(D.int .i64 (0 : Int)), (D.int .i64 (4 : Int))]]) (p.len [[(D.int .i64 (0 : Int)), (D.int .i64 (0 : Int))], [(D.int .i64 (4 : Int)), (D.int .i64 (0 : Int))], [(D.int .i64 (0 : Int)), (D.int .i64 (4 : Int))]])) <|
 opt.need _ (p.eqN 0 0) <|
 opt.need _ (p.eqN (p.len [[(D.list Bool.true 2 [[(D.int .i64 (0 : Int)), (D.int .i64 (0 : Int))], [(D.int .i64 (1 : Int)), (D.int .i64 (0 : Int))]])]]) (p.len [[(D.list Bool.true 2 [[(D.int .i64 (0 : Int)), (D.int .i64 (0 : Int))], [(D.int .i64 (1 : Int)), (D.int .i64 (0 : Int))]])]])) <|
 opt.need _ (p.eqN (p.len [[(D.list Bool.true 2 [[(D.int .i64 (0 : Int)), (D.int .i64 (0 : Int))], [(D.int .i64 (1 : Int)), (D.int .i64 (0 : Int))]])]]) (p.len [[(D.list Bool.true 2 [[(D.int .i64 (0 : Int)), (D.int .i64 (0 : Int))], [(D.int .i64 (1 : Int)), (D.int .i64 (0 : Int))]])]])) <|
 opt.need _ (p.eqN 0 0) <|
 opt.need _ (p.eqN (p.len [[(D.int .i64 (4 : Int)), (D.int .i64 (2 : Int))]]) (p.len [[(D.int .i64 (4 : Int)), (D.int .i64 (2 : Int))]])) <|
 opt.need _ (p.eqN (p.len [[(D.int .i64 (4 : Int)), (D.int .i64 (2 : Int))]]) (p.len [[(D.int .i64 (4 : Int)), (D.int .i64 (2 : Int))]])) <|
 opt.need _ (p.eqN 0 0) <|
 opt.need _ (p.eqN (p.len [[(D.int .i64 (3 : Int)), (D.int .i64 (2 : Int))]]) (p.len [[(D.int .i64 (3 : Int)), (D.int .i64 (2 : Int))]])) <|
 opt.need _ (p.eqN (p.len [[(D.int .i64 (3 : Int)), (D.int .i64 (2 : Int))]]) (p.len [[(D.int .i64 (3 : Int)), (D.int .i64 (2 : Int))]])) <|
 opt.need _ (p.eqN 0 0) <|
 opt.need _ (p.eqN (p.len a.1) (p.len a.1)) <|
 opt.ret _ (a.1, ([[(D.int .i64 (0 : Int)), (D.int .i64 (0 : Int))], [(D.int .i64 (4 : Int)), (D.int .i64 (0 : Int))], [(D.int .i64 (0 : Int)), (D.int .i64 (4 : Int))]], ([[(D.list Bool.true 2 [[(D.int .i64 (0 : Int)), (D.int .i64 (0 : Int))], [(D.int .i64 (1 : Int)), (D.int .i64 (0 : Int))]])]], ([[(D.int .i64 (4 : Int)), (D.int .i64 (2 : Int))]], ([[(D.int .i64 (3 : Int)), (D.int .i64 (2 : Int))]], (c.1, (c.2.1, (g.1, (g.2.1, (g.2.2.1, (h.1, (h.2.1, (h.2.2.1, (i.1, (i.2.1, (b.1, (j.1, (j.2.1, (Bool.true, ())))))))))))))))))))) (
 opt.ask _ (p.cmp .neq i.2.2.1 (0 : Int)) (
 opt.need _ (p.eqN 0 0) <|
 opt.need _ (p.eqN (p.len [[(D.int .i64 (0 : Int)), (D.int .i64 (0 : Int))], [(D.int .i64 (4 : Int)), (D.int .i64 (0 : Int))], [(D.int .i64 (0 : Int)), (D.int .i64 (4 : Int))]]) (p.len [[(D.int .i64 (0 : Int)), (D.int .i64 (0 : Int))], [(D.int .i64 (4 : Int)), (D.int .i64 (0 : Int))], [(D.int .i64 (0 : Int)), (D.int .i64 (4 : Int))]])) <|
 opt.need _ (p.eqN (p.len [[(D.int .i64 (0 : Int)), (D.int .i64 (0 : Int))], [(D.int .i64 (4 : Int)), (D.int .i64 (0 : Int))], [(D.int .i64 (0 : Int)), (D.int .i64 (4 : Int))]]) (p.len [[(D.int .i64 (0 : Int)), (D.int .i64 (0 : Int))], [(D.int .i64 (4 : Int)), (D.int .i64 (0 : Int))], [(D.int .i64 (0 : Int)), (D.int .i64 (4 : Int))]])) <|
 opt.need _ (p.eqN 0 0) <|
 opt.need _ (p.eqN (p.len [[(D.list Bool.true 2 [[(D.int .i64 (0 : Int)), (D.int .i64 (0 : Int))], [(D.int .i64 (1 : Int)), (D.int .i64 (0 : Int))]])]]) (p.len [[(D.list Bool.true 2 [[(D.int .i64 (0 : Int)), (D.int .i64 (0 : Int))], [(D.int .i64 (1 : Int)), (D.int .i64 (0 : Int))]])]])) <|
 opt.need _ (p.eqN (p.len [[(D.list Bool.true 2 [[(D.int .i64 (0 : Int)), (D.int .i64 (0 : Int))], [(D.int .i64 (1 : Int)), (D.int .i64 (0 : Int))]])]]) (p.len [[(D.list Bool.true 2 [[(D.int .i64 (0 : Int)), (D.int .i64 (0 : Int))], [(D.int .i64 (1 : Int)), (D.int .i64 (0 : Int))]])]])) <|
 opt.need _ (p.eqN 0 0) <|
 opt.need _ (p.eqN (p.len [[(D.int .i64 (4 : Int)), (D.int .i64 (2 : Int))]]) (p.len [[(D.int .i64 (4 : Int)), (D.int .i64 (2 : Int))]])) <|
 opt.need _ (p.eqN (p.len [[(D.int .i64 (4 : Int)), (D.int .i64 (2 : Int))]]) (p.len [[(D.int .i64 (4 : Int)), (D.int .i64 (2 : Int))]])) <|
 opt.need _ (p.eqN 0 0) <|
 opt.need _ (p.eqN (p.len [[(D.int .i64 (3 : Int)), (D.int .i64 (2 : Int))]]) (p.len [[(D.int .i64 (3 : Int)), (D.int .i64 (2 : Int))]])) <|
 opt.need _ (p.eqN (p.len [[(D.int .i64 (3 : Int)), (D.int .i64 (2 : Int))]]) (p.len [[(D.int .i64 (3 : Int)), (D.int .i64 (2 : Int))]])) <|
 opt.need _ (p.eqN 0 0) <|
 opt.need _ (p.eqN (p.len a.1) (p.len a.1)) <|
 opt.ret _ (a.1, ([[(D.int .i64 (0 : Int)), (D.int .i64 (0 : Int))], [(D.int .i64 (4 : Int)), (D.int .i64 (0 : Int))], [(D.int .i64 (0 : Int)), (D.int .i64 (4 : Int))]], ([[(D.list Bool.true 2 [[(D.int .i64 (0 : Int)), (D.int .i64 (0 : Int))], [(D.int .i64 (1 : Int)), (D.int .i64 (0 : Int))]])]], ([[(D.int .i64 (4 : Int)), (D.int .i64 (2 : Int))]], ([[(D.int .i64 (3 : Int)), (D.int .i64 (2 : Int))]], (c.1, (c.2.1, (g.1, (g.2.1, (g.2.2.1, (h.1, (h.2.1, (h.2.2.1, (i.1, (i.2.1, (b.1, (j.1, (j.2.1, (Bool.true, ())))))))))))))))))))) (
 opt.need _ (p.eqN 0 0) <|
 opt.need _ (p.eqN (p.len [[(D.int .i64 (0 : Int)), (D.int .i64 (0 : Int))], [(D.int .i64 (4 : Int)), (D.int .i64 (0 : Int))], [(D.int .i64 (0 : Int)), (D.int .i64 (4 : Int))]]) (p.len [[(D.int .i64 (0 : Int)), (D.int .i64 (0 : Int))], [(D.int .i64 (4 : Int)), (D.int .i64 (0 : Int))], [(D.int .i64 (0 : Int)), (D.int .i64 (4 : Int))]])) <|
 opt.need _ (p.eqN (p.len [[(D.int .i64 (0 : Int)), (D.int .i64 (0 : Int))], [(D.int .i64 (4 : Int)), (D.int .i64 (0 : Int))], [(D.int .i64 (0 : Int)), (D.int .i64 (4 : Int))]]) (p.len [[(D.int .i64 (0 : Int)), (D.int .i64 (0 : Int))], [(D.int .i64 (4 : Int)), (D.int .i64 (0 : Int))], [(D.int .i64 (0 : Int)), (D.int .i64 (4 : Int))]])) <|
 opt.need _ (p.eqN 0 0) <|
 opt.need _ (p.eqN (p.len [[(D.list Bool.true 2 [[(D.int .i64 (0 : Int)), (D.int .i64 (0 : Int))], [(D.int .i64 (1 : Int)), (D.int .i64 (0 : Int))]])]]) (p.len [[(D.list Bool.true 2 [[(D.int .i64 (0 : Int)), (D.int .i64 (0 : Int))], [(D.int .i64 (1 : Int)), (D.int .i64 (0 : Int))]])]])) <|
 opt.need _ (p.eqN (p.len [[(D.list Bool.true 2 [[(D.int .i64 (0 : Int)), (D.int .i64 (0 : Int))], [(D.int .i64 (1 : Int)), (D.int .i64 (0 : Int))]])]]) (p.len [[(D.list Bool.true 2 [[(D.int .i64 (0 : Int)), (D.int .i64 (0 : Int))], [(D.int .i64 (1 : Int)), (D.int .i64 (0 : Int))]])]])) <|
 opt.need _ (p.eqN 0 0) <|
 opt.need _ (p.eqN (p.len [[(D.int .i64 (4 : Int)), (D.int .i64 (2 : Int))]]) (p.len [[(D.int .i64 (4 : Int)), (D.int .i64 (2 : Int))]])) <|
 opt.need _ (p.eqN (p.len [[(D.int .i64 (4 : Int)), (D.int .i64 (2 : Int))]]) (p.len [[(D.int .i64 (4 : Int)), (D.int .i64 (2 : Int))]])) <|
 opt.need _ (p.eqN 0 0) <|
 opt.need _ (p.eqN (p.len [[(D.int .i64 (3 : Int)), (D.int .i64 (2 : Int))]]) (p.len [[(D.int .i64 (3 : Int)), (D.int .i64 (2 : Int))]])) <|
 opt.need _ (p.eqN (p.len [[(D.int .i64 (3 : Int)), (D.int .i64 (2 : Int))]]) (p.len [[(D.int .i64 (3 : Int)), (D.int .i64 (2 : Int))]])) <|
 opt.need _ (p.eqN 0 0) <|
 opt.need _ (p.eqN (p.len a.1) (p.len a.1)) <|
 opt.ret _ (a.1, ([[(D.int .i64 (0 : Int)), (D.int .i64 (0 : Int))], [(D.int .i64 (4 : Int)), (D.int .i64 (0 : Int))], [(D.int .i64 (0 : Int)), (D.int .i64 (4 : Int))]], ([[(D.list Bool.true 2 [[(D.int .i64 (0 : Int)), (D.int .i64 (0 : Int))], [(D.int .i64 (1 : Int)), (D.int .i64 (0 : Int))]])]], ([[(D.int .i64 (4 : Int)), (D.int .i64 (2 : Int))]], ([[(D.int .i64 (3 : Int)), (D.int .i64 (2 : Int))]], (c.1, (c.2.1, (g.1, (g.2.1, (g.2.2.1, (h.1, (h.2.1, (h.2.2.1, (i.1, (i.2.1, (b.1, (j.1, (j.2.1, ((p.cmp .neq j.2.2.1 (0 : Int)), ())))))))))))))))))))))))))))))) fun k =>
 opt.ask _ k.2.2.2.2.2.2.2.2.2.2.2.2.2.2.2.2.2.2.1 (
 opt.ret _ (Bool.false, ())) (
 opt.need _ (p.and (p.leN (p.add 0 (p.len k.1)) (p.len k.1)) (p.and (p.leN (p.add 0 4) (p.len [[(D.int .i64 (0 : Int)), (D.int .i64 (0 : Int))], [(D.int .i64 (5 : Int)), (D.int .i64 (0 : Int))], [(D.int .i64 (1 : Int)), (D.int .i64 (4 : Int))], [(D.int .i64 (0 : Int)), (D.int .i64 (4 : Int))]])) Bool.true)) <|
 opt.bnd T2 _ (g20 it p ((p.cut k.1 0 (p.len k.1)), ((p.cut [[(D.int .i64 (0 : Int)), (D.int .i64 (0 : Int))], [(D.int .i64 (5 : Int)), (D.int .i64 (0 : Int))], [(D.int .i64 (1 : Int)), (D.int .i64 (4 : Int))], [(D.int .i64 (0 : Int)), (D.int .i64 (4 : Int))]] 0 4), ()))) fun l =>
 opt.ask _ l.1 (
 opt.ask _ k.2.2.2.2.2.2.2.2.2.2.2.2.2.2.2.1 (
 opt.ask _ (bif (p.cmp .eql k.2.2.2.2.2.1 (5 : Int)) then (bif (p.cmp .eql k.2.2.2.2.2.2.1 (0 : Int)) then Bool.true else Bool.false) else Bool.false) (
 opt.need _ (p.and (p.and (p.leN (p.add 0 (p.len k.2.1)) (p.len k.2.1)) (p.and (p.leN (p.add 0 (p.len k.2.2.1)) (p.len k.2.2.1)) Bool.true)) (p.and (p.and (p.leN (p.add 0 (p.len k.2.2.2.1)) (p.len k.2.2.2.1)) (p.and Bool.true Bool.true)) (p.and Bool.true Bool.true))) <|
 opt.bnd T0 _ (g36 it p ((p.cut k.2.1 0 (p.len k.2.1)), ((p.cut k.2.2.1 0 (p.len k.2.2.1)), ((p.cut k.2.2.2.1 0 (p.len k.2.2.2.1)), ([], (k.2.2.2.2.2.2.2.1, (k.2.2.2.2.2.2.2.2.1, (k.2.2.2.2.2.2.2.2.2.1, ())))))))) fun m =>
 opt.ask _ (p.cmp .eql m.1 (0 : Int)) (
 opt.need _ (p.and (p.and (p.leN (p.add 0 (p.len k.2.1)) (p.len k.2.1)) (p.and (p.leN (p.add 0 (p.len k.2.2.1)) (p.len k.2.2.1)) Bool.true)) (p.and (p.and (p.leN (p.add 0 (p.len k.2.2.2.2.1)) (p.len k.2.2.2.2.1)) (p.and Bool.true Bool.true)) (p.and Bool.true Bool.true))) <|
 opt.bnd T0 _ (g38 it p ((p.cut k.2.1 0 (p.len k.2.1)), ((p.cut k.2.2.1 0 (p.len k.2.2.1)), ((p.cut k.2.2.2.2.1 0 (p.len k.2.2.2.2.1)), ([], (k.2.2.2.2.2.2.2.2.2.2.1, (k.2.2.2.2.2.2.2.2.2.2.2.1, (k.2.2.2.2.2.2.2.2.2.2.2.2.1, ())))))))) fun n =>
 opt.ask _ (p.cmp .eql n.1 (0 : Int)) (
 opt.ask _ (bif (p.cmp .eql k.2.2.2.2.2.2.2.2.2.2.2.2.2.1 (1 : Int)) then (bif (p.cmp .eql k.2.2.2.2.2.2.2.2.2.2.2.2.2.2.1 (2 : Int)) then Bool.true else Bool.false) else Bool.false) (
 opt.ask _ (p.cmp .eql k.2.2.2.2.2.2.2.2.2.2.2.2.2.2.2.2.1 (0 : Int)) (
 opt.ret _ ((p.cmp .eql k.2.2.2.2.2.2.2.2.2.2.2.2.2.2.2.2.2.1 (2 : Int)), ())) (
 opt.ret _ (Bool.false, ()))) (
 opt.ret _ (Bool.false, ()))) (
 opt.ret _ (Bool.false, ()))) (
 opt.ret _ (Bool.false, ()))) (
 opt.ret _ (Bool.false, ()))) (
 opt.ret _ (Bool.false, ()))) (
 opt.ret _ (Bool.false, ())))
def G15 := g15 it0
theorem ok15 : CtrOk PG ctr15 (G15 std) := okF (a := an15) (l := la15) (gC ok38 (gC ok36 (gC ok20 (gC ok27 (gC ok25 (gC ok37 (gC ok32 (gC ok39 (gC ok23 (gC ok21 (gC ok16 (gN)))))))))))) (by kernel_rfl) fun _ _ => by kernel_rfl
end Go.Am
end
section
namespace Go.Am
theorem mg102 {i j : It} (h : i.Le j) : ∀ s, le (g102 i std s) (g102 j std s) := fun _ => le_alt (h _ _ _ _ _ (fun _ => le_refl _)) (fun _ => le_refl _) (fun _ => le_refl _)
theorem mg87 {i j : It} (h : i.Le j) : ∀ s, le (g87 i std s) (g87 j std s) := fun _ => le_bnd (le_refl _) (fun _ => le_bnd (le_refl _) (fun _ => le_need (le_bnd (mg102 h _) (fun _ => le_refl _))))
theorem mc99_1 {i j : It} (h : i.Le j) : ∀ s, le (c99_1 i std s) (c99_1 j std s) := fun _ => le_run (le_ask (le_need (le_need (le_bnd (h _ _ _ _ _ (fun _ => le_refl _)) (fun _ => le_refl _)))) (le_refl _))
theorem mg99 {i j : It} (h : i.Le j) : ∀ s, le (g99 i std s) (g99 j std s) := fun _ => le_bnd (h _ _ _ _ _ (mc99_1 h)) (fun _ => le_refl _)
theorem mg53 {i j : It} (h : i.Le j) : ∀ s, le (g53 i std s) (g53 j std s) := fun _ => le_alt (h _ _ _ _ _ (fun _ => le_refl _)) (fun _ => le_refl _) (fun _ => le_refl _)
theorem mg60 {i j : It} (h : i.Le j) : ∀ s, le (g60 i std s) (g60 j std s) := fun _ => le_need (le_need (le_need (le_need (le_bnd (h _ _ _ _ _ (fun _ => le_refl _)) (fun _ => le_refl _)))))
theorem mg20 {i j : It} (h : i.Le j) : ∀ s, le (g20 i std s) (g20 j std s) := fun _ => le_ask (le_refl _) (le_alt (h _ _ _ _ _ (fun _ => le_refl _)) (fun _ => le_refl _) (fun _ => le_refl _))
theorem mc18_2 {i j : It} (h : i.Le j) : ∀ s, le (c18_2 i std s) (c18_2 j std s) := fun _ => le_run (le_ask (le_need (le_need (le_bnd (mg53 h _) (fun _ => le_refl _)))) (le_refl _))
theorem mg18 {i j : It} (h : i.Le j) : ∀ s, le (g18 i std s) (g18 j std s) := fun _ => le_bnd (le_run (le_bnd (le_refl _) (fun _ => le_ask (le_refl _) (le_ask (le_refl _) (le_alt (h _ _ _ _ _ (fun _ => le_refl _)) (fun _ => le_refl _) (fun _ => le_refl _)))))) (fun _ => le_ask (le_refl _) (le_bnd (le_run (le_bnd (mg53 h _) (fun _ => le_ask (le_refl _) (le_alt (h _ _ _ _ _ (mc18_2 h)) (fun _ => le_refl _) (fun _ => le_refl _))))) (fun _ => le_refl _)))
theorem mg57 {i j : It} (h : i.Le j) : ∀ s, le (g57 i std s) (g57 j std s) := fun _ => le_ask (le_refl _) (le_alt (le_run (le_alt (h _ _ _ _ _ (fun _ => le_refl _)) (fun _ => le_refl _) (fun _ => le_refl _))) (fun _ => le_refl _) (fun _ => le_refl _))
theorem mc93_1 {i j : It} (h : i.Le j) : ∀ s, le (c93_1 i std s) (c93_1 j std s) := fun _ => le_run (le_ask (le_need (le_need (le_bnd (le_refl _) (fun _ => le_bnd (h _ _ _ _ _ (fun _ => le_refl _)) (fun _ => le_refl _))))) (le_refl _))
theorem mg93 {i j : It} (h : i.Le j) : ∀ s, le (g93 i std s) (g93 j std s) := fun _ => le_bnd (h _ _ _ _ _ (mc93_1 h)) (fun _ => le_refl _)
theorem mg65 {i j : It} (h : i.Le j) : ∀ s, le (g65 i std s) (g65 j std s) := fun _ => le_need (le_bnd (mg93 h _) (fun _ => le_refl _))
theorem mg76 {i j : It} (h : i.Le j) : ∀ s, le (g76 i std s) (g76 j std s) := fun _ => le_bnd (le_refl _) (fun _ => le_bnd (le_refl _) (fun _ => le_ask (le_refl _) (le_need (le_bnd (mg93 h _) (fun _ => le_refl _)))))
theorem mg68 {i j : It} (h : i.Le j) : ∀ s, le (g68 i std s) (g68 j std s) := fun _ => le_bnd (le_refl _) (fun _ => le_ask (le_refl _) (le_bnd (mg65 h _) (fun _ => le_refl _)))
theorem mg78 {i j : It} (h : i.Le j) : ∀ s, le (g78 i std s) (g78 j std s) := fun _ => le_need (le_bnd (h _ _ _ _ _ (fun _ => le_refl _)) (fun _ => le_refl _))
theorem mg92 {i j : It} (h : i.Le j) : ∀ s, le (g92 i std s) (g92 j std s) := fun _ => le_bnd (mg78 h _) (fun _ => le_bnd (mg78 h _) (fun _ => le_refl _))
theorem mc63_5 {i j : It} (h : i.Le j) : ∀ s, le (c63_5 i std s) (c63_5 j std s) := fun _ => le_run (le_ask (le_need (le_need (le_bnd (mg92 h _) (fun _ => le_refl _)))) (le_refl _))
theorem mc63_3 {i j : It} (h : i.Le j) : ∀ s, le (c63_3 i std s) (c63_3 j std s) := fun _ => le_run (le_ask (le_need (le_need (le_bnd (le_run (le_need (le_need (le_need (le_need (le_need (le_alt (h _ _ _ _ _ (fun _ => le_refl _)) (fun _ => le_refl _) (fun _ => le_refl _)))))))) (fun _ => le_refl _)))) (le_refl _))
theorem mc63_1 {i j : It} (h : i.Le j) : ∀ s, le (c63_1 i std s) (c63_1 j std s) := fun _ => le_run (le_ask (le_need (le_need (le_need (le_need (le_bnd (h _ _ _ _ _ (fun _ => le_refl _)) (fun _ => le_refl _)))))) (le_refl _))
theorem mg63 {i j : It} (h : i.Le j) : ∀ s, le (g63 i std s) (g63 j std s) := fun _ => le_bnd (h _ _ _ _ _ (mc63_1 h)) (fun _ => le_need (le_need (le_need (le_need (le_need (le_bnd (h _ _ _ _ _ (mc63_3 h)) (fun _ => le_need (le_need (le_bnd (h _ _ _ _ _ (mc63_5 h)) (fun _ => le_refl _))))))))))
theorem mc108o_2 {i j : It} (h : i.Le j) : ∀ s, le (c108o_2 i std s) (c108o_2 j std s) := fun _ => le_run (le_ask (le_need (le_need (le_need (le_need (le_bnd (mg87 h _) (fun _ => le_refl _)))))) (le_refl _))
theorem mc108o_1 {i j : It} (h : i.Le j) : ∀ s, le (c108o_1 i std s) (c108o_1 j std s) := fun _ => le_run (le_ask (le_need (le_need (le_need (le_bnd (h _ _ _ _ _ (mc108o_2 h)) (fun _ => le_refl _))))) (le_refl _))
theorem mg108o {i j : It} (h : i.Le j) : ∀ s, le (g108o i std s) (g108o j std s) := fun _ => le_need (le_need (le_need (le_bnd (h _ _ _ _ _ (mc108o_1 h)) (fun _ => le_refl _))))
theorem mc104o_1 {i j : It} (h : i.Le j) : ∀ s, le (c104o_1 i std s) (c104o_1 j std s) := fun _ => le_run (le_ask (le_need (le_need (le_need (le_bnd (mg108o h _) (fun _ => le_refl _))))) (le_refl _))
theorem mg104o {i j : It} (h : i.Le j) : ∀ s, le (g104o i std s) (g104o j std s) := fun _ => le_need (le_need (le_need (le_bnd (h _ _ _ _ _ (mc104o_1 h)) (fun _ => le_refl _))))
theorem mg97op {i j : It} (h : i.Le j) : ∀ s, le (g97op i std s) (g97op j std s) := fun _ => le_bnd (le_refl _) (fun _ => le_need (le_need (le_need (le_bnd (mg104o h _) (fun _ => le_refl _)))))
theorem mc108t_1 {i j : It} (h : i.Le j) : ∀ s, le (c108t_1 i std s) (c108t_1 j std s) := fun _ => le_run (le_ask (le_need (le_need (le_bnd (h _ _ _ _ _ (fun _ => le_refl _)) (fun _ => le_refl _)))) (le_refl _))
theorem mg108t {i j : It} (h : i.Le j) : ∀ s, le (g108t i std s) (g108t j std s) := fun _ => le_need (le_need (le_bnd (h _ _ _ _ _ (mc108t_1 h)) (fun _ => le_refl _)))
theorem mc104t_1 {i j : It} (h : i.Le j) : ∀ s, le (c104t_1 i std s) (c104t_1 j std s) := fun _ => le_run (le_ask (le_need (le_need (le_bnd (mg108t h _) (fun _ => le_refl _)))) (le_refl _))
theorem mg104t {i j : It} (h : i.Le j) : ∀ s, le (g104t i std s) (g104t j std s) := fun _ => le_need (le_need (le_bnd (h _ _ _ _ _ (mc104t_1 h)) (fun _ => le_refl _)))
theorem mg97tp {i j : It} (h : i.Le j) : ∀ s, le (g97tp i std s) (g97tp j std s) := fun _ => le_bnd (le_refl _) (fun _ => le_need (le_need (le_bnd (mg104t h _) (fun _ => le_refl _))))
theorem mg97o {i j : It} (h : i.Le j) : ∀ s, le (g97o i std s) (g97o j std s) := fun _ => le_cond (mg97op h _) (le_refl _)
theorem mg97t {i j : It} (h : i.Le j) : ∀ s, le (g97t i std s) (g97t j std s) := fun _ => le_cond (mg97tp h _) (le_refl _)
theorem mc88_1 {i j : It} (h : i.Le j) : ∀ s, le (c88_1 i std s) (c88_1 j std s) := fun _ => le_run (le_ask (le_need (le_need (le_bnd (h _ _ _ _ _ (fun _ => le_refl _)) (fun _ => le_refl _)))) (le_refl _))
theorem mg88 {i j : It} (h : i.Le j) : ∀ s, le (g88 i std s) (g88 j std s) := fun _ => le_bnd (h _ _ _ _ _ (mc88_1 h)) (fun _ => le_refl _)
theorem mc101_1 {i j : It} (h : i.Le j) : ∀ s, le (c101_1 i std s) (c101_1 j std s) := fun _ => le_run (le_ask (le_need (le_need (le_need (le_need (le_ask (le_need (le_bnd (h _ _ _ _ _ (fun _ => le_refl _)) (fun _ => le_refl _))) (le_refl _)))))) (le_refl _))
theorem mg101 {i j : It} (h : i.Le j) : ∀ s, le (g101 i std s) (g101 j std s) := fun _ => le_ask (le_refl _) (le_alt (h _ _ _ _ _ (mc101_1 h)) (fun _ => le_refl _) (fun _ => le_refl _))
theorem mg86 {i j : It} (h : i.Le j) : ∀ s, le (g86 i std s) (g86 j std s) := fun _ => le_need (le_need (le_need (le_need (le_need (le_bnd (mg97o h _) (fun _ => le_bnd (mg101 h _) (fun _ => le_refl _)))))))
theorem mg89 {i j : It} (h : i.Le j) : ∀ s, le (g89 i std s) (g89 j std s) := fun _ => le_bnd (h _ _ _ _ _ (fun _ => le_refl _)) (fun _ => le_refl _)
theorem mg59 {i j : It} (h : i.Le j) : ∀ s, le (g59 i std s) (g59 j std s) := fun _ => le_bnd (mg86 h _) (fun _ => le_ask (le_refl _) (le_need (le_bnd (mg88 h _) (fun _ => le_need (le_bnd (mg89 h _) (fun _ => le_need (le_bnd (mg88 h _) (fun _ => le_refl _))))))))
theorem mc80_3 {i j : It} (h : i.Le j) : ∀ s, le (c80_3 i std s) (c80_3 j std s) := fun _ => le_run (le_ask (le_bnd (le_run (le_need (le_need (le_need (le_bnd (mg99 h _) (fun _ => le_refl _)))))) (fun _ => le_refl _)) (le_refl _))
theorem mc80_1 {i j : It} (h : i.Le j) : ∀ s, le (c80_1 i std s) (c80_1 j std s) := fun _ => le_run (le_ask (le_need (le_need (le_bnd (le_run (le_need (le_need (le_need (le_need (le_need (le_alt (h _ _ _ _ _ (fun _ => le_refl _)) (fun _ => le_refl _) (fun _ => le_refl _)))))))) (fun _ => le_refl _)))) (le_refl _))
theorem mg80 {i j : It} (h : i.Le j) : ∀ s, le (g80 i std s) (g80 j std s) := fun _ => le_need (le_need (le_need (le_bnd (h _ _ _ _ _ (mc80_1 h)) (fun _ => le_need (le_need (le_bnd (mg97t h _) (fun _ => le_need (le_need (le_need (le_bnd (mg99 h _) (fun _ => le_need (le_need (le_need (le_need (le_need (le_bnd (h _ _ _ _ _ (mc80_3 h)) (fun _ => le_refl _)))))))))))))))))
theorem mc48_1 {i j : It} (h : i.Le j) : ∀ s, le (c48_1 i std s) (c48_1 j std s) := fun _ => le_run (le_ask (le_need (le_need (le_bnd (mg60 h _) (fun _ => le_bnd (mg59 h _) (fun _ => le_bnd (mg80 h _) (fun _ => le_refl _)))))) (le_refl _))
theorem mg48 {i j : It} (h : i.Le j) : ∀ s, le (g48 i std s) (g48 j std s) := fun _ => le_bnd (mg18 h _) (fun _ => le_ask (le_refl _) (le_bnd (mg60 h _) (fun _ => le_bnd (mg59 h _) (fun _ => le_bnd (h _ _ _ _ _ (mc48_1 h)) (fun _ => le_refl _)))))
theorem mg16 {i j : It} (h : i.Le j) : ∀ s, le (g16 i std s) (g16 j std s) := fun _ => le_alt (mg48 h _) (fun _ => le_refl _) (fun _ => le_bnd (le_refl _) (fun _ => le_ask (le_refl _) (le_bnd (h _ _ _ _ _ (fun _ => le_refl _)) (fun _ => le_refl _))))
theorem mg62 {i j : It} (h : i.Le j) : ∀ s, le (g62 i std s) (g62 j std s) := fun _ => le_alt (mg48 h _) (fun _ => le_ask (le_refl _) (le_alt (mg48 h _) (fun _ => le_refl _) (fun _ => le_refl _))) (fun _ => le_bnd (le_refl _) (fun _ => le_ask (le_refl _) (le_alt (mg48 h _) (fun _ => le_refl _) (fun _ => le_refl _))))
theorem mg21 {i j : It} (h : i.Le j) : ∀ s, le (g21 i std s) (g21 j std s) := fun _ => le_alt (mg48 h _) (fun _ => le_ask (le_refl _) (le_need (le_bnd (mg53 h _) (fun _ => le_refl _)))) (fun _ => le_bnd (le_refl _) (fun _ => le_ask (le_refl _) (le_need (le_bnd (mg53 h _) (fun _ => le_ask (le_refl _) (le_bnd (mg57 h _) (fun _ => le_refl _)))))))
theorem mc23_2 {i j : It} (h : i.Le j) : ∀ s, le (c23_2 i std s) (c23_2 j std s) := fun _ => le_run (le_ask (le_need (le_need (le_bnd (mg57 h _) (fun _ => le_refl _)))) (le_refl _))
theorem mc23_1 {i j : It} (h : i.Le j) : ∀ s, le (c23_1 i std s) (c23_1 j std s) := fun _ => le_run (le_ask (le_need (le_need (le_bnd (mg57 h _) (fun _ => le_refl _)))) (le_refl _))
theorem mg23 {i j : It} (h : i.Le j) : ∀ s, le (g23 i std s) (g23 j std s) := fun _ => le_alt (mg48 h _) (fun _ => le_alt (le_run (le_ask (le_refl _) (le_bnd (le_refl _) (fun _ => le_alt (le_run (le_ask (le_refl _) (le_bnd (mg53 h _) (fun _ => le_refl _)))) (fun _ => le_refl _) (fun _ => le_refl _))))) (fun _ => le_refl _) (fun _ => le_alt (le_refl _) (fun _ => le_bnd (mg60 h _) (fun _ => le_bnd (mg59 h _) (fun _ => le_refl _))) (fun _ => le_bnd (le_refl _) (fun _ => le_bnd (mg60 h _) (fun _ => le_bnd (mg59 h _) (fun _ => le_alt (h _ _ _ _ _ (mc23_1 h)) (fun _ => le_refl _) (fun _ => le_refl _))))))) (fun _ => le_bnd (le_refl _) (fun _ => le_alt (le_run (le_ask (le_refl _) (le_bnd (le_refl _) (fun _ => le_alt (le_run (le_ask (le_refl _) (le_bnd (mg53 h _) (fun _ => le_refl _)))) (fun _ => le_refl _) (fun _ => le_refl _))))) (fun _ => le_refl _) (fun _ => le_alt (le_refl _) (fun _ => le_bnd (mg60 h _) (fun _ => le_bnd (mg59 h _) (fun _ => le_refl _))) (fun _ => le_bnd (le_refl _) (fun _ => le_bnd (mg60 h _) (fun _ => le_bnd (mg59 h _) (fun _ => le_alt (h _ _ _ _ _ (mc23_2 h)) (fun _ => le_refl _) (fun _ => le_refl _))))))))
theorem mg32 {i j : It} (h : i.Le j) : ∀ s, le (g32 i std s) (g32 j std s) := fun _ => le_alt (mg62 h _) (fun _ => le_refl _) (fun _ => le_alt (le_refl _) (fun _ => le_refl _) (fun _ => le_alt (le_refl _) (fun _ => le_refl _) (fun _ => le_bnd (le_refl _) (fun _ => le_ask (le_refl _) (le_bnd (mg63 h _) (fun _ => le_refl _))))))
theorem mc27_4 {i j : It} (h : i.Le j) : ∀ s, le (c27_4 i std s) (c27_4 j std s) := fun _ => le_run (le_ask (le_need (le_need (le_alt (h _ _ _ _ _ (fun _ => le_refl _)) (fun _ => le_refl _) (fun _ => le_refl _)))) (le_refl _))
theorem mc27_3 {i j : It} (h : i.Le j) : ∀ s, le (c27_3 i std s) (c27_3 j std s) := fun _ => le_run (le_ask (le_need (le_need (le_bnd (mg63 h _) (fun _ => le_refl _)))) (le_refl _))
theorem mc27_2 {i j : It} (h : i.Le j) : ∀ s, le (c27_2 i std s) (c27_2 j std s) := fun _ => le_run (le_ask (le_need (le_need (le_need (le_need (le_need (le_need (le_need (le_bnd (h _ _ _ _ _ (mc27_3 h)) (fun _ => le_refl _))))))))) (le_refl _))
theorem mc27_1 {i j : It} (h : i.Le j) : ∀ s, le (c27_1 i std s) (c27_1 j std s) := fun _ => le_run (le_ask (le_alt (le_run (le_need (le_need (le_alt (mg48 h _) (fun _ => le_refl _) (fun _ => le_refl _))))) (fun _ => le_refl _) (fun _ => le_refl _)) (le_refl _))
theorem mg27 {i j : It} (h : i.Le j) : ∀ s, le (g27 i std s) (g27 j std s) := fun _ => le_ask (le_refl _) (le_alt (h _ _ _ _ _ (mc27_1 h)) (fun _ => le_refl _) (fun _ => le_bnd (le_refl _) (fun _ => le_need (le_need (le_need (le_need (le_bnd (h _ _ _ _ _ (mc27_2 h)) (fun _ => le_need (le_need (le_alt (h _ _ _ _ _ (mc27_4 h)) (fun _ => le_refl _) (fun _ => le_refl _)))))))))))
theorem mg78m {i j : It} (h : i.Le j) : ∀ s, le (g78m i std s) (g78m j std s) := fun _ => le_need (le_bnd (h _ _ _ _ _ (fun _ => le_refl _)) (fun _ => le_refl _))
theorem mg39 {i j : It} (h : i.Le j) : ∀ s, le (g39 i std s) (g39 j std s) := fun _ => le_alt (mg62 h _) (fun _ => le_refl _) (fun _ => le_alt (le_refl _) (fun _ => le_refl _) (fun _ => le_alt (le_refl _) (fun _ => le_alt (le_run (le_ask (le_refl _) (le_ask (le_refl _) (le_bnd (le_refl _) (fun _ => le_bnd (le_refl _) (fun _ => le_ask (le_refl _) (le_bnd (le_refl _) (fun _ => le_ask (le_refl _) (le_ask (le_refl _) (le_alt (le_run (le_ask (le_refl _) (le_bnd (mg78m h _) (fun _ => le_refl _)))) (fun _ => le_refl _) (fun _ => le_refl _))))))))))) (fun _ => le_refl _) (fun _ => le_refl _)) (fun _ => le_bnd (le_refl _) (fun _ => le_alt (le_run (le_ask (le_refl _) (le_ask (le_refl _) (le_bnd (le_refl _) (fun _ => le_bnd (le_refl _) (fun _ => le_ask (le_refl _) (le_bnd (le_refl _) (fun _ => le_ask (le_refl _) (le_ask (le_refl _) (le_alt (le_run (le_ask (le_refl _) (le_bnd (mg78m h _) (fun _ => le_ask (le_refl _) (le_bnd (mg78m h _) (fun _ => le_refl _)))))) (fun _ => le_refl _) (fun _ => le_refl _))))))))))) (fun _ => le_refl _) (fun _ => le_refl _)))))
theorem mc37_4 {i j : It} (h : i.Le j) : ∀ s, le (c37_4 i std s) (c37_4 j std s) := fun _ => le_run (le_ask (le_need (le_need (le_need (le_need (le_need (le_ask (le_refl _) (le_bnd (mg76 h _) (fun _ => le_refl _)))))))) (le_refl _))
theorem mc37_3 {i j : It} (h : i.Le j) : ∀ s, le (c37_3 i std s) (c37_3 j std s) := fun _ => le_run (le_ask (le_need (le_need (le_need (le_need (le_need (le_ask (le_refl _) (le_alt (le_run (le_alt (h _ _ _ _ _ (mc37_4 h)) (fun _ => le_refl _) (fun _ => le_refl _))) (fun _ => le_refl _) (fun _ => le_refl _)))))))) (le_refl _))
theorem mc37_2 {i j : It} (h : i.Le j) : ∀ s, le (c37_2 i std s) (c37_2 j std s) := fun _ => le_run (le_ask (le_need (le_need (le_bnd (mg57 h _) (fun _ => le_refl _)))) (le_refl _))
theorem mc37_1 {i j : It} (h : i.Le j) : ∀ s, le (c37_1 i std s) (c37_1 j std s) := fun _ => le_run (le_ask (le_bnd (le_refl _) (fun _ => le_alt (h _ _ _ _ _ (mc37_2 h)) (fun _ => le_refl _) (fun _ => le_refl _))) (le_refl _))
theorem mg37 {i j : It} (h : i.Le j) : ∀ s, le (g37 i std s) (g37 j std s) := fun _ => le_alt (mg62 h _) (fun _ => le_refl _) (fun _ => le_alt (le_refl _) (fun _ => le_refl _) (fun _ => le_alt (le_refl _) (fun _ => le_refl _) (fun _ => le_bnd (le_refl _) (fun _ => le_ask (le_refl _) (le_alt (h _ _ _ _ _ (mc37_1 h)) (fun _ => le_refl _) (fun _ => le_bnd (le_refl _) (fun _ => le_alt (le_run (le_alt (h _ _ _ _ _ (mc37_3 h)) (fun _ => le_refl _) (fun _ => le_refl _))) (fun _ => le_refl _) (fun _ => le_refl _))))))))
theorem mg69 {i j : It} (h : i.Le j) : ∀ s, le (g69 i std s) (g69 j std s) := fun _ => le_ask (le_refl _) (le_need (le_need (le_bnd (h _ _ _ _ _ (fun _ => le_refl _)) (fun _ => le_refl _))))
theorem mc25_4 {i j : It} (h : i.Le j) : ∀ s, le (c25_4 i std s) (c25_4 j std s) := fun _ => le_run (le_ask (le_need (le_need (le_need (le_need (le_need (le_ask (le_refl _) (le_bnd (mg68 h _) (fun _ => le_refl _)))))))) (le_refl _))
theorem mc25_3 {i j : It} (h : i.Le j) : ∀ s, le (c25_3 i std s) (c25_3 j std s) := fun _ => le_run (le_ask (le_need (le_need (le_bnd (mg65 h _) (fun _ => le_refl _)))) (le_refl _))
theorem mc25_2 {i j : It} (h : i.Le j) : ∀ s, le (c25_2 i std s) (c25_2 j std s) := fun _ => le_run (le_ask (le_need (le_need (le_bnd (h _ _ _ _ _ (mc25_3 h)) (fun _ => le_bnd (le_run (le_alt (h _ _ _ _ _ (mc25_4 h)) (fun _ => le_refl _) (fun _ => le_refl _))) (fun _ => le_refl _))))) (le_refl _))
theorem mc25_1 {i j : It} (h : i.Le j) : ∀ s, le (c25_1 i std s) (c25_1 j std s) := fun _ => le_run (le_ask (le_bnd (le_refl _) (fun _ => le_bnd (h _ _ _ _ _ (mc25_2 h)) (fun _ => le_refl _))) (le_refl _))
theorem mg25 {i j : It} (h : i.Le j) : ∀ s, le (g25 i std s) (g25 j std s) := fun _ => le_alt (mg62 h _) (fun _ => le_refl _) (fun _ => le_alt (le_refl _) (fun _ => le_refl _) (fun _ => le_alt (le_refl _) (fun _ => le_refl _) (fun _ => le_bnd (le_refl _) (fun _ => le_ask (le_refl _) (le_bnd (mg63 h _) (fun _ => le_ask (le_refl _) (le_need (le_bnd (h _ _ _ _ _ (mc25_1 h)) (fun _ => le_bnd (mg69 h _) (fun _ => le_refl _))))))))))
theorem mg56 {i j : It} (h : i.Le j) : ∀ s, le (g56 i std s) (g56 j std s) := fun _ => le_alt (h _ _ _ _ _ (fun _ => le_refl _)) (fun _ => le_refl _) (fun _ => le_refl _)
theorem mc61_2 {i j : It} (h : i.Le j) : ∀ s, le (c61_2 i std s) (c61_2 j std s) := fun _ => le_run (le_need (le_need (le_bnd (h _ _ _ _ _ (fun _ => le_refl _)) (fun _ => le_refl _))))
theorem mg61 {i j : It} (h : i.Le j) : ∀ s, le (g61 i std s) (g61 j std s) := fun _ => le_need (le_bnd (h _ _ _ _ _ (fun _ => le_refl _)) (fun _ => le_need (le_bnd (h _ _ _ _ _ (mc61_2 h)) (fun _ => le_refl _))))
theorem mc19_2 {i j : It} (h : i.Le j) : ∀ s, le (c19_2 i std s) (c19_2 j std s) := fun _ => le_run (le_ask (le_need (le_need (le_bnd (mg56 h _) (fun _ => le_refl _)))) (le_refl _))
theorem mg19 {i j : It} (h : i.Le j) : ∀ s, le (g19 i std s) (g19 j std s) := fun _ => le_bnd (le_refl _) (fun _ => le_ask (le_refl _) (le_alt (h _ _ _ _ _ (fun _ => le_refl _)) (fun _ => le_refl _) (fun _ => le_bnd (le_refl _) (fun _ => le_bnd (mg56 h _) (fun _ => le_ask (le_refl _) (le_alt (h _ _ _ _ _ (mc19_2 h)) (fun _ => le_refl _) (fun _ => le_refl _)))))))
theorem mg43 {i j : It} (h : i.Le j) : ∀ s, le (g43 i std s) (g43 j std s) := fun _ => le_alt (h _ _ _ _ _ (fun _ => le_refl _)) (fun _ => le_refl _) (fun _ => le_refl _)
theorem mc49_3 {i j : It} (h : i.Le j) : ∀ s, le (c49_3 i std s) (c49_3 j std s) := fun _ => le_run (le_ask (le_need (le_need (le_need (le_need (le_need (le_bnd (h _ _ _ _ _ (fun _ => le_refl _)) (fun _ => le_refl _))))))) (le_refl _))
theorem mc49_2 {i j : It} (h : i.Le j) : ∀ s, le (c49_2 i std s) (c49_2 j std s) := fun _ => le_run (le_ask (le_need (le_need (le_need (le_bnd (h _ _ _ _ _ (mc49_3 h)) (fun _ => le_refl _))))) (le_refl _))
theorem mc49_1 {i j : It} (h : i.Le j) : ∀ s, le (c49_1 i std s) (c49_1 j std s) := fun _ => le_run (le_ask (le_need (le_need (le_bnd (mg61 h _) (fun _ => le_need (le_need (le_need (le_bnd (h _ _ _ _ _ (mc49_2 h)) (fun _ => le_bnd (mg61 h _) (fun _ => le_refl _))))))))) (le_refl _))
theorem mg49 {i j : It} (h : i.Le j) : ∀ s, le (g49 i std s) (g49 j std s) := fun _ => le_bnd (mg61 h _) (fun _ => le_bnd (h _ _ _ _ _ (mc49_1 h)) (fun _ => le_refl _))
theorem mg72 {i j : It} (h : i.Le j) : ∀ s, le (g72 i std s) (g72 j std s) := fun _ => le_bnd (mg19 h _) (fun _ => le_ask (le_bnd (mg19 h _) (fun _ => le_refl _)) (le_bnd (mg19 h _) (fun _ => le_refl _)))
theorem mg36 {i j : It} (h : i.Le j) : ∀ s, le (g36 i std s) (g36 j std s) := fun _ => le_bnd (mg72 h _) (fun _ => le_ask (le_bnd (mg72 h _) (fun _ => le_refl _)) (le_bnd (le_refl _) (fun _ => le_ask (le_refl _) (le_bnd (mg49 h _) (fun _ => le_bnd (mg49 h _) (fun _ => le_alt (h _ _ _ _ _ (fun _ => le_refl _)) (fun _ => le_refl _) (fun _ => le_bnd (le_refl _) (fun _ => le_alt (h _ _ _ _ _ (fun _ => le_refl _)) (fun _ => le_refl _) (fun _ => le_refl _)))))))))
theorem mg38 {i j : It} (h : i.Le j) : ∀ s, le (g38 i std s) (g38 j std s) := fun _ => le_bnd (mg72 h _) (fun _ => le_ask (le_bnd (mg72 h _) (fun _ => le_refl _)) (le_bnd (le_refl _) (fun _ => le_ask (le_refl _) (le_bnd (mg49 h _) (fun _ => le_bnd (mg43 h _) (fun _ => le_ask (le_refl _) (le_bnd (mg49 h _) (fun _ => le_bnd (mg43 h _) (fun _ => le_refl _)))))))))
theorem mg15 {i j : It} (h : i.Le j) : ∀ s, le (g15 i std s) (g15 j std s) := fun _ => le_need (le_need (le_need (le_need (le_need (le_need (le_need (le_need (le_need (le_need (le_need (le_need (le_need (le_need (le_need (le_need (le_bnd (mg16 h _) (fun _ => le_need (le_need (le_bnd (mg21 h _) (fun _ => le_need (le_bnd (mg23 h _) (fun _ => le_need (le_bnd (mg39 h _) (fun _ => le_need (le_bnd (mg39 h _) (fun _ => le_need (le_bnd (mg32 h _) (fun _ => le_need (le_bnd (mg32 h _) (fun _ => le_need (le_bnd (mg37 h _) (fun _ => le_need (le_bnd (mg25 h _) (fun _ => le_need (le_bnd (mg27 h _) (fun _ => le_bnd (le_refl _) (fun _ => le_ask (le_refl _) (le_need (le_bnd (mg20 h _) (fun _ => le_ask (le_ask (le_ask (le_need (le_bnd (mg36 h _) (fun _ => le_ask (le_need (le_bnd (mg38 h _) (fun _ => le_refl _))) (le_refl _)))) (le_refl _)) (le_refl _)) (le_refl _)))))))))))))))))))))))))))))))))))))))))
end Go.Am
end
section
namespace Go.Am
theorem g15_ev : g15 (itN 200) std () = some (true, ()) := by kernel_rfl
theorem G15_ok : G15 std () = some (true, ()) := mg15 (itN_le 200) () _ g15_ev
end Go.Am
end
section
namespace Go.Am
open M06
def fineG (l : List Pt) (hs : List (List Pt)) : Prop := ¬ greatG l hs ∧ chkG l hs = 0
instance (l : List Pt) (hs : List (List Pt)) : Decidable (fineG l hs) := by unfold fineG; infer_instance
theorem fineG_iff {l : List Pt} {hs : List (List Pt)} : fineG l hs ↔ Fine l hs := by
 unfold fineG
 rw [chk_fine]
 refine ⟨fun h => h.2, fun h => ⟨?_, h⟩⟩
 rintro (k | k | ⟨x, hx, k⟩)
 ·have := h.many.2; omega
 ·have := h.few; omega
 ·have := (h.manyH x hx).2; omega
instance (l : List Pt) (hs : List (List Pt)) : Decidable (Fine l hs) := decidable_of_iff _ fineG_iff
instance (p : Pt) : Decidable (Big p) := by unfold Big; infer_instance
theorem one_enc (p : Pt) : [[D.int IntKind.i64 p.1, D.int IntKind.i64 p.2]] = encP [p] := rfl
theorem one_take (p : Pt) : (encP [p]).take 1 = encP [p] := rfl
theorem Fine.cbox' {l : List Pt} {hs : List (List Pt)} (h : Fine l hs) : ∀ p ∈ corn (allS l hs), inBox (-10000) 10000 p := fun p hp => by
 obtain ⟨h1, h2, h3, h4⟩ := h.cbox p hp
 exact ⟨by omega, by omega, by omega, by omega⟩
end Go.Am
end
noncomputable section
namespace Go.Am
def ctr4 : Ctr :=
 ⟨4, [.agg [.list 2, .list 1], .agg [.int .i64, .int .i64], .list 2], [], [(.ret, ⟨[(0, .bool)], [], 1⟩)]⟩
def la4 : List LA :=
 []
def ja4 : List JA :=
 [⟨4, [false, false, true], 0, [(AX.normal, ⟨[(2, .list 2), (3, .bptr 0 0), (4, .bptr 1 0), (21, .bool)], [.box [.list 2, .list 1], .box [.int .i64, .int .i64]], 68⟩)]⟩,
 ⟨4, [false, true, true, true, true, true, true], 0, [(AX.normal, ⟨[(6, .bool)], [], 68⟩)]⟩]
def gam4 : List CF :=
 [⟨ctr24, G24⟩, ⟨ctr23, G23⟩, ⟨ctr22, G22⟩, ⟨ctr21, G21⟩, ⟨ctr15, G15⟩, ⟨ctr14, G14⟩]
def an4 : Anns :=
 ⟨gam4, ja4, []⟩
def G4 : (p : Prim) → (LD × (LD × (Int × (Int × (LD × Unit))))) → Option T2 :=
 fun p x =>
 opt.bnd ((LD × (LD × T82))) _ (
 opt.run ((LD × (LD × T82))) (
 opt.bnd T2 _ (G14 p (x.1, (x.2.1, ()))) fun a =>
 opt.ask _ a.1 (
 opt.ret _ (x.1, (x.2.1, (x.2.2.1, (x.2.2.2.1, (x.2.2.2.2.1, (Bool.true, ()))))))) (
 opt.ret _ (x.1, (x.2.1, (x.2.2.1, (x.2.2.2.1, (x.2.2.2.2.1, ((p.cmp .gtr (p.ofNat (p.len x.2.2.2.2.1)) (20 : Int)), ()))))))))) fun b =>
 opt.ask _ b.2.2.2.2.2.1 (
 opt.bnd T2 _ (G15 p ()) fun c =>
 opt.ret _ (c.1, ())) (
 opt.bnd T22 _ (G21 p (b.1, (b.2.1, (b.2.2.1, (b.2.2.2.1, ()))))) fun d =>
 opt.bnd T22 _ (G22 p (b.1, (b.2.1, (b.2.2.1, (b.2.2.2.1, ()))))) fun e =>
 opt.bnd T6 _ (G23 p (b.1, (b.2.1, (b.2.2.2.2.1, ())))) fun f =>
 opt.bnd T6 _ (G24 p (b.1, (b.2.1, (b.2.2.2.2.1, ())))) fun g =>
 opt.bnd T2 _ (
 opt.run T2 (
 opt.ask _ (bif (p.bEq d.1 e.1) then Bool.true else Bool.false) (
 opt.ask _ (p.cmp .eql d.2.1 e.2.1) (
 opt.ask _ (bif (p.cmp .eql f.1 g.1) then (bif (p.cmp .eql f.2.1 g.2.1) then Bool.true else Bool.false) else Bool.false) (
 opt.ask _ (p.cmp .eql f.2.2.1 g.2.2.1) (
 opt.bnd T2 _ (G15 p ()) fun h =>
 opt.ret _ (h.1, ())) (
 opt.ret _ (Bool.false, ()))) (
 opt.ret _ (Bool.false, ()))) (
 opt.ret _ (Bool.false, ()))) (
 opt.ret _ (Bool.false, ())))) fun i =>
 opt.ret _ (i.1, ()))
theorem ok4 : CtrOk PG ctr4 (G4 std) := okF (a := an4) (l := la4) (gC ok24 (gC ok23 (gC ok22 (gC ok21 (gC ok15 (gC ok14 (gN))))))) (by kernel_rfl) fun _ _ => by kernel_rfl
end Go.Am
end
section
namespace Go.Am
open M06
theorem find_some {α : Type} {l : List α} {P : α → Bool} {d : α} : ∀ {i : Nat}, i < l.length → P (l.getD i d) = true → (∀ j, j < i → P (l.getD j d) = false) → l.find? P = some (l.getD i d) := by
 induction l with
 | nil => intro i hi; simp at hi
 | cons a l ih =>
  intro i hi h hm
  cases i with
  | zero =>
   have h : P a = true := by simpa using h
   rw [List.find?_cons_of_pos h]; simp
  | succ i =>
   have h0 : P a = false := by simpa using hm 0 (by omega)
   rw [List.find?_cons_of_neg (by rw [h0]; simp)]
   have := ih (i := i) (by simpa using hi) (by simpa using h) (fun j hj => by simpa using hm (j + 1) (by omega))
   simpa using this
theorem find_none {α : Type} {l : List α} {P : α → Bool} {d : α} (h : ∀ i, i < l.length → P (l.getD i d) = false) : l.find? P = none := by
 rw [List.find?_eq_none]
 intro x hx
 obtain ⟨i, hi⟩ := List.getElem?_of_mem hx
 have := h i (List.getElem?_eq_some_iff.1 hi).1
 rw [lgetD hi] at this
 rw [this]; simp
noncomputable def holdsV (l : List Pt) (hs : List (List Pt)) (p : Pt) : Bool × Int :=
 if chkG l hs ≠ 0 then (false, chkG l hs) else if ¬ Big p then (false, 3) else (inC (corn (allS l hs)) p 1, 0)
theorem G21_ok (l : List Pt) (hs : List (List Pt)) (p : Pt) : G21 std (encP l, encH hs, p.1, p.2, ()) = some ((holdsV l hs p).1, (holdsV l hs p).2, ()) := by
 unfold G21 holdsV
 have h53 : g53 it0 std (-1099511627776, 1099511627776, encP [p], ()) = some (decide (∀ x ∈ [p], inBox (-1099511627776) 1099511627776 x), ()) := G53_ok _ _ [p] (by simp)
 have e1 : decide (∀ x ∈ [p], inBox (-1099511627776) 1099511627776 x) = decide (Big p) := by
  rw [decide_eq_decide]; simp [Big]
 rw [e1] at h53
 by_cases h : chkG l hs = 0
 ·have hf := chk_fine.1 h
  have h48 : g48 it0 std (encP l, encH hs, ()) = _ := G48_ok hf
  by_cases hb : Big p
  ·have h57 : g57 it0 std (encP (corn (allS l hs)), p.1, p.2, 1, ()) = _ := G57_ok hf.cyc hf.cbox' (by have := corn_len hf; omega) hb (by omega) (by omega)
   simp only [g21, stdS, stdL, h48, h, not_true, List.drop_zero, List.take_succ_cons, List.take_zero, one_enc, one_take, h53, hb, h57, Nat.le_refl, encP_len, ne_eq]
  ·simp only [g21, stdS, stdL, h48, h, not_true, List.drop_zero, List.take_succ_cons, List.take_zero, one_enc, one_take, h53, hb, Nat.le_refl, encP_len, ne_eq, not_false_eq_true]
 ·have h48 : g48 it0 std (encP l, encH hs, ()) = _ := G48_bad h
  simp only [g21, stdS, stdL, h48, h, not_false_eq_true, ne_eq]
theorem G22_ok (l : List Pt) (hs : List (List Pt)) (p : Pt) : G22 std (encP l, encH hs, p.1, p.2, ()) = some ((holdsV l hs p).1, (holdsV l hs p).2, ()) := by
 unfold G22 holdsV
 have h53 : g56 it0 std (encP [p], -1099511627776, 1099511627776, ()) = some (decide (∀ x ∈ [p], inBox (-1099511627776) 1099511627776 x), ()) := G56_ok _ _ [p] (by simp)
 have e1 : decide (∀ x ∈ [p], inBox (-1099511627776) 1099511627776 x) = decide (Big p) := by
  rw [decide_eq_decide]; simp [Big]
 rw [e1] at h53
 have h19 : g19 it0 std (encP l, encH hs, ()) = some (chkG l hs, ()) := G19_ok l hs
 by_cases h : chkG l hs = 0
 ·have hf := chk_fine.1 h
  have h49 : g49 it0 std (encP l, encH hs, ()) = _ := G49_ok hf
  by_cases hb : Big p
  ·have h57 : g43 it0 std (encP (corn (allS l hs)), p.1, p.2, 1, ()) = _ := G43_ok hf.cyc hf.cbox' (by have := corn_len hf; omega) hb (by omega) (by omega)
   simp only [g22, g58, stdS, stdL, h19, h49, h, not_true, List.drop_zero, List.take_succ_cons, List.take_zero, one_enc, one_take, h53, hb, h57, Nat.le_refl, encP_len, ne_eq]
  ·simp only [g22, stdS, stdL, h19, h49, h, not_true, List.drop_zero, List.take_succ_cons, List.take_zero, one_enc, one_take, h53, hb, Nat.le_refl, encP_len, ne_eq, not_false_eq_true]
 ·simp only [g22, stdS, stdL, h19, h, not_false_eq_true, ne_eq]
noncomputable def outV (l : List Pt) (hs : List (List Pt)) (rule : List Pt) : Pt × Int :=
 if chkG l hs ≠ 0 then ((0, 0), chkG l hs) else if ¬ manyP rule then ((0, 0), 6) else if ¬ ∀ p ∈ rule, inBox (-10000) 10000 p then ((0, 0), 3) else
 match (corn (allS l hs)).find? (fun p => !inC (corn rule) p 1) with
 | some p => (p, 0)
 | none => ((0, 0), 5)
theorem G24_ok (l : List Pt) (hs : List (List Pt)) (rule : List Pt) : G24 std (encP l, encH hs, encP rule, ()) = some ((outV l hs rule).1.1, (outV l hs rule).1.2, (outV l hs rule).2, ()) := by
 unfold G24 outV
 have h19 : g19 it0 std (encP l, encH hs, ()) = some (chkG l hs, ()) := G19_ok l hs
 by_cases h : chkG l hs = 0
 case neg => simp only [g24, stdS, stdL, h19, h, not_false_eq_true, ne_eq]
 have hf := chk_fine.1 h
 by_cases hm : manyP rule
 case neg => simp only [g24, stdS, stdL, h19, h, G55_ok, hm, not_false_eq_true, ne_eq, not_true]
 have h56 : g56 it0 std (encP rule, -10000, 10000, ()) = some (decide (∀ x ∈ rule, inBox (-10000) 10000 x), ()) := G56_ok _ _ rule (by have := hm.2; omega)
 by_cases hb : ∀ p ∈ rule, inBox (-10000) 10000 p
 case neg =>
  rw [decide_eq_false hb] at h56
  simp only [g24, stdS, stdL, h19, h, G55_ok, hm, h56, not_false_eq_true, ne_eq, not_true]
  rw [if_pos hb]
 rw [decide_eq_true hb] at h56
 have hrn : rule ≠ [] := by rintro rfl; have := hm.1; simp at this
 have hrc := corn_spec hrn
 have h61 : g61 it0 std (encP rule, ()) = _ := G61_ok (by have := hm.2; omega) hrn (fun x hx => small_box' (k := 10000) (by omega) (hb x hx))
 have h49 : g49 it0 std (encP l, encH hs, ()) = _ := G49_ok hf
 have hlen := corn_len hf
 have hcb := hf.cbox
 generalize hc : corn (allS l hs) = c at h49 hlen hcb
 have key := iter_find (b := c24_1 it0 std) c.length (fun i => ((0 : Int), (0 : Int), encP (corn rule), encP c, (i : Int), ())) (fun i => !inC (corn rule) (c.getD i (0, 0)) 1) (fun i => .inl ((c.getD i (0, 0)).1, (c.getD i (0, 0)).2, 0, ())) (.inr (0, 0, ())) (fun i hi => by
  obtain ⟨a, ha⟩ := get_some hi
  have ga := encP_get ha
  rw [lgetD ha]
  have hab := hcb a (List.mem_of_getElem? ha)
  have h57 : g43 it0 std (encP (corn rule), a.1, a.2, 1, ()) = _ := G43_ok hrc (fun x hx => hb x (cyc_mem hrc x hx)) (by have := cyc_len hrc; have := hm.2; omega) (p := a) (by simp only [Big, inBox] at *; omega) (by omega) (by omega)
  have c1 : (i : Int) < (c.length : Int) := by omega
  have c2 : (i : Int) ≥ 0 := by omega
  have hw := wrap_nat (i := i) (by omega)
  by_cases hin : inC (corn rule) a 1 = true
  ·simp only [c24_1, g58, stdS, stdL, cells_eP, dI_eP0, dI_eP1, eP_eq, encP_set, encP_len, std_ar_add, hw, c1, c2, ga, h57, hin]
  ·have hin : inC (corn rule) a 1 = false := by simpa using hin
   simp only [c24_1, g58, stdS, stdL, cells_eP, dI_eP0, dI_eP1, eP_eq, encP_set, encP_len, std_ar_add, hw, c1, c2, ga, h57, hin]) (by
  have hn : ¬ ((c.length : Int) < (c.length : Int)) := by omega
  simp only [c24_1, stdS, stdL, encP_len, hn])
 have e0 : ((0 : Int), (0 : Int), encP (corn rule), encP c, ((0 : Nat) : Int), ()) = ((0 : Int), (0 : Int), encP (corn rule), encP c, (0 : Int), ()) := rfl
 rw [e0] at key
 rw [if_neg (by simp [h]), if_neg (by simp [hm]), if_neg (by simp only [Classical.not_not]; exact hb)]
 rcases key with ⟨i, i1, i2, i3, i4⟩ | ⟨i1, i2⟩
 ·rw [find_some (d := (0, 0)) i1 i2 i3]
  simp only [g24, it0_eq, stdS, stdL, h19, h, G55_ok, hm, h56, h61, h49, i4, not_true]
 ·rw [find_none (d := (0, 0)) i1]
  simp only [g24, it0_eq, stdS, stdL, h19, h, G55_ok, hm, h56, h61, h49, i2, not_true]
theorem rule_loop {rule c : List Pt} (hm : manyP rule) (hb : ∀ p ∈ rule, inBox (-10000) 10000 p) (hlen : c.length ≤ 60) (hcb : ∀ p ∈ c, inBox (-5000) 5000 p) :
  iter (c23_2 it0 std) ((0 : Int), (0 : Int), encP (corn rule), encP c, (c.length : Int), (0 : Int), ()) = match c.find? (fun p => !inC (corn rule) p 1) with
   | some p => some (.inl (p.1, p.2, 0, ()))
   | none => some (.inr (0, 0, ())) := by
 have hrn : rule ≠ [] := by rintro rfl; have := hm.1; simp at this
 have hrc := corn_spec hrn
 have key := iter_find (b := c23_2 it0 std) c.length (fun i => ((0 : Int), (0 : Int), encP (corn rule), encP c, (c.length : Int), (i : Int), ())) (fun i => !inC (corn rule) (c.getD i (0, 0)) 1) (fun i => .inl ((c.getD i (0, 0)).1, (c.getD i (0, 0)).2, 0, ())) (.inr (0, 0, ())) (fun i hi => by
  obtain ⟨a, ha⟩ := get_some hi
  have ga := encP_get ha
  rw [lgetD ha]
  have hab := hcb a (List.mem_of_getElem? ha)
  have h57 : g57 it0 std (encP (corn rule), a.1, a.2, 1, ()) = _ := G57_ok hrc (fun x hx => hb x (cyc_mem hrc x hx)) (by have := cyc_len hrc; have := hm.2; omega) (p := a) (by simp only [Big, inBox] at *; omega) (by omega) (by omega)
  have c1 : (i : Int) < (c.length : Int) := by omega
  have c2 : (i : Int) ≥ 0 := by omega
  have hw := wrap_nat (i := i) (by omega)
  by_cases hin : inC (corn rule) a 1 = true
  ·simp only [c23_2, stdS, stdL, cells_eP, dI_eP0, dI_eP1, eP_eq, encP_set, encP_len, std_ar_add, hw, c1, c2, ga, h57, hin]
  ·have hin : inC (corn rule) a 1 = false := by simpa using hin
   simp only [c23_2, stdS, stdL, cells_eP, dI_eP0, dI_eP1, eP_eq, encP_set, encP_len, std_ar_add, hw, c1, c2, ga, h57, hin]) (by
  have hn : ¬ ((c.length : Int) < (c.length : Int)) := by omega
  simp only [c23_2, stdS, stdL, encP_len, hn])
 have e0 : ((0 : Int), (0 : Int), encP (corn rule), encP c, (c.length : Int), ((0 : Nat) : Int), ()) = ((0 : Int), (0 : Int), encP (corn rule), encP c, (c.length : Int), (0 : Int), ()) := rfl
 rw [e0] at key
 rcases key with ⟨i, i1, i2, i3, i4⟩ | ⟨i1, i2⟩
 ·rw [find_some (d := (0, 0)) i1 i2 i3]; exact i4
 ·rw [find_none (d := (0, 0)) i1]; exact i2
theorem G23_ok (l : List Pt) (hs : List (List Pt)) (rule : List Pt) : G23 std (encP l, encH hs, encP rule, ()) = some ((outV l hs rule).1.1, (outV l hs rule).1.2, (outV l hs rule).2, ()) := by
 unfold G23 outV
 by_cases h : chkG l hs = 0
 case neg =>
  have h48 : g48 it0 std (encP l, encH hs, ()) = _ := G48_bad h
  simp only [g23, stdS, stdL, h48, h, not_false_eq_true, ne_eq]
 have hf := chk_fine.1 h
 have h48 : g48 it0 std (encP l, encH hs, ()) = _ := G48_ok hf
 by_cases hm : manyP rule
 case neg => simp only [g23, stdS, stdL, h48, h, G50_ok, hm, not_false_eq_true, ne_eq, not_true]
 have h53 : g53 it0 std (-10000, 10000, encP rule, ()) = some (decide (∀ x ∈ rule, inBox (-10000) 10000 x), ()) := G53_ok _ _ rule (by have := hm.2; omega)
 by_cases hb : ∀ p ∈ rule, inBox (-10000) 10000 p
 case neg =>
  rw [decide_eq_false hb] at h53
  simp only [g23, stdS, stdL, h48, h, G50_ok, hm, h53, not_false_eq_true, ne_eq, not_true]
  rw [if_pos hb]
 rw [decide_eq_true hb] at h53
 have hrn : rule ≠ [] := by rintro rfl; have := hm.1; simp at this
 obtain ⟨b, hb1, hb2⟩ := G59_ok (l := rule) hm.1 hm.2 (fun x hx => small_box' (k := 10000) (by omega) (hb x hx))
 rw [← corn_eq hb2] at hb1
 have h59 : g59 it0 std (encP rule, ()) = _ := hb1
 have h60 : g60 it0 std (encP rule, ()) = _ := G60_ok (l := rule) (by have := hm.2; omega)
 have hl := rule_loop hm hb (corn_len hf) hf.cbox
 rw [if_neg (by simp [h]), if_neg (by simp [hm]), if_neg (by simp only [Classical.not_not]; exact hb)]
 cases hfd : (corn (allS l hs)).find? (fun p => !inC (corn rule) p 1) with
 | none =>
  rw [hfd] at hl
  simp only [g23, it0_eq, stdS, stdL, h48, h, G50_ok, hm, h53, h59, h60, hl, encP_len, not_true]
 | some q =>
  rw [hfd] at hl
  simp only [g23, it0_eq, stdS, stdL, h48, h, G50_ok, hm, h53, h59, h60, hl, encP_len, not_true]
theorem G4_ok (l : List Pt) (hs : List (List Pt)) (a b : Int) (rule : List Pt) : G4 std (encP l, encH hs, a, b, encP rule, ()) = some (true, ()) := by
 unfold G4
 have h21 := G21_ok l hs (a, b)
 have h22 := G22_ok l hs (a, b)
 have h23 := G23_ok l hs rule
 have h24 := G24_ok l hs rule
 by_cases hg : greatG l hs
 ·simp only [stdS, stdL, G14_ok, hg, G15_ok]
 ·by_cases hr : (rule.length : Int) > 20
  ·simp only [stdS, stdL, G14_ok, hg, G15_ok, encP_len, hr]
  ·simp only [stdS, stdL, G14_ok, hg, G15_ok, encP_len, hr, h21, h22, h23, h24, std_bEq, beq_self_eq_true]
end Go.Am
end
section
namespace Go.Proofs.Ytolfgnbldofcjaa
open Go.ChangeShapes Go.WideShapes Go.ChangeAt Go.RowKit Go.Am
theorem walk4 {e0 : List (List D)} {e1 : List (List D)} {e2 : Int} {e3 : Int} {e4 : List (List D)} (h : G4 std (e0, e1, e2, e3, e4, ()) = some (true, ())) : ∃ h', ARet Try.prog 4 (toA [.agg [.list false 2 e0, .list false 1 e1], .agg [.int .i64 e2, .int .i64 e3], .list false 2 e4]) [] (.d (.bool true)) h' := by
 have := (ok4.2 (e0, e1, e2, e3, e4, ()) (true, ()) h).2
 exact ⟨_, this⟩
theorem shp4 : shps Try.prog 6 Try.f4.params.toList = true := by kernel_rfl
theorem rt4 : Try.f4.resultTypes = #[Try.f4.resultTypes.getD 0 0] := by kernel_rfl
theorem rb4 : Try.prog.underlying (Try.f4.resultTypes.getD 0 0) = some .bool := by kernel_rfl
theorem bools4 : Try.f4.params.toList.all (fun t => decide (t < Try.prog.types.size)) = true := by kernel_rfl
set_option maxRecDepth 100000 in
theorem contract4 (H : Type) (enc : TypeId × Value → H) (W : World) (base : Nat) (args : Array Value) (ds gs : List (DataW H)) (before : List MemPlace)
  (hval : ∀ (j : Nat) t v, Try.f4.params[j]? = some t → args[j]? = some v → Value.okWide Try.prog W .any base t v)
  (hW : DataW.Whole enc Try.prog Try.f4.params.toList Rows.signalHoldsSpec.vars false W args.toList ds gs before) :
  Calls Try.prog 4 args W fun e W' => ∃ v, e = .returned v ∧ Rows.signalHoldsSpec.post enc Try.prog Try.f4 false true false false W args v W' := by
 have hW' := hW
 obtain ⟨p, q, hA0, hV, rfl, hfz, hnd⟩ := hW
 have hA : DataW.TrodAll enc Try.prog W 0 (fun _ => true) true Try.f4.params.toList args.toList ds p := hA0
 obtain ⟨xs, h1, h2, h3⟩ := args_ok (O := fun _ => False) (fun _ h => h) shp4 (hval_list hval) hA
 have hd : ∃ x0 x1 x2, xs = [x0, x1, x2] ∧ (∃ ds, x0 = .agg ds ∧ DKs [.list [.int .i64, .int .i64], .list [.list [.int .i64, .int .i64]]] ds) ∧ (∃ ds, x1 = .agg ds ∧ DKs [.int .i64, .int .i64] ds) ∧ (DK (.list [.int .i64, .int .i64]) x2) := by
  match xs, h1 with
  | [x0, x1, x2], h1 => exact ⟨x0, x1, x2, rfl, h1.1, h1.2.1, h1.2.2.1⟩
 obtain ⟨x0, x1, x2, rfl, k0, k1, k2⟩ := hd
 obtain ⟨l0, h0, rfl⟩ := glass_of k0
 obtain ⟨a1, b1, rfl, wa1, wb1⟩ := place_of k1
 obtain ⟨l2, rfl⟩ := places_of k2
 obtain ⟨h', hr⟩ := walk4 (G4_ok l0 h0 a1 b1 l2)
 exact (calls_of_aret hr h2 h3).mono fun e W' ⟨he, hs⟩ => ⟨_, he, law_post laid rowed sized bools4 rfl rt4 rb4 (fun ds hd => by
  match ds, hd with
  | [d0, d1, d2], _ => exact ⟨rfl, rfl, rfl⟩) hW' hs⟩
set_option maxRecDepth 100000 in
theorem lifted4 (os : Os) (started : os.Started) (H : Type) (enc : TypeId × Value → H) :
  ReturnsInHanded {} Try.checked os 4 .any (Rows.signalHoldsSpec.pre6 enc Try.prog Try.f4 Rows.signalHoldsRow.domain false) (Rows.signalHoldsSpec.post enc Try.prog Try.f4 false true false false) := by
 refine returnsInHanded_of_change (C := Try.checked) own started (by kernel_rfl) Try.func4
  (ChangeSpec.witness6 (enc := enc) (C := Try.checked) false ⟨#[], #[.agg #[.slice none 0 0, .slice none 0 0], .agg #[.int .i64 0, .int .i64 0], .slice none 0 0], []⟩ 8 (by kernel_rfl) (by kernel_rfl) (by kernel_rfl) (by kernel_rfl)) ?_
 intro W base args ds gs before hval hW _ _
 exact contract4 H enc W base args ds gs before hval hW
set_option maxRecDepth 100000 in
theorem signalHolds_over : Rows.signalHoldsRow.holds Try.pinned (OpenSpec.ofChange Rows.signalHoldsSpec) :=
 OpenClaim.holds_of_wide 4 Try.f4 rfl rfl rfl rfl rfl rfl rfl ⟨rfl, rfl, rfl, rfl, rfl⟩ rfl rfl rfl rfl rfl (by kernel_rfl) Try.func4 (by kernel_rfl)
  (of_decide_eq_true (by kernel_rfl)) (by unfold Func.isWrapper; first | (rw [if_pos (by decide +kernel)]; kernel_rfl) | (rw [if_neg (by decide +kernel)]; exact ⟨rfl, rfl⟩))
  (fun os started H enc _ => lifted4 os started H enc)
theorem signalHolds_holds : Rows.SignalHoldsSaid := signalHolds_over
end Go.Proofs.Ytolfgnbldofcjaa
end
