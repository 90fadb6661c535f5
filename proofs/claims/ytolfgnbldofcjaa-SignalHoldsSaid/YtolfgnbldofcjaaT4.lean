/- Texts of this claim. -/
import Derived.Test.YtolfgnbldofcjaaT3
import Derived.Test.YtolfgnbldofcjaaProg
import Derived.KernelRfl
import Derived.Shelf.SlSortCmp.WholeK
set_option linter.unusedVariables false
set_option linter.unusedSimpArgs false
set_option linter.unusedSectionVars false
set_option maxRecDepth 100000
set_option maxHeartbeats 0
noncomputable section
namespace Go.Am
def ctr103 : Ctr :=
 ⟨103, [.int .i64, .int .i64], [], [(.ret, ⟨[(0, .int .i64)], [], 1⟩)]⟩
def la103 : List LA :=
 []
def ja103 : List JA :=
 [⟨103, [true, false, true, true, true], 0, [(AX.ret, ⟨[(4, .int .i64)], [], 20⟩), (AX.normal, ⟨[(0, .int .i64), (1, .int .i64), (6, .bool)], [], 20⟩)]⟩]
def gam103 : List CF :=
 []
def an103 : Anns :=
 ⟨gam103, ja103, []⟩
def G103 : (p : Prim) → T3 → Option T0 :=
 fun p x =>
 opt.alt T0 T17 _ (
 opt.run (((Int × Unit) ⊕ (Int × (Int × (Bool × Unit))))) (
 opt.ask _ (p.cmp .neq x.1 x.1) (
 opt.ask _ (p.cmp .neq x.2.1 x.2.1) (
 opt.ret _ (Sum.inl ((0 : Int), ()))) (
 opt.ret _ (Sum.inl ((-1 : Int), ())))) (
 opt.ret _ (Sum.inr (x.1, (x.2.1, ((p.cmp .neq x.2.1 x.2.1), ()))))))) (fun a =>
 opt.ret _ (a.1, ())) (fun b =>
 opt.bnd T17 _ (some b) fun c =>
 opt.ask _ c.2.2.1 (
 opt.ret _ ((1 : Int), ())) (
 opt.ask _ (p.cmp .lss c.1 c.2.1) (
 opt.ret _ ((-1 : Int), ())) (
 opt.ask _ (p.cmp .gtr c.1 c.2.1) (
 opt.ret _ ((1 : Int), ())) (
 opt.ret _ ((0 : Int), ())))))
theorem ok103 : CtrOk PG ctr103 (G103 std) := okF (a := an103) (l := la103) (gN) (by kernel_rfl) fun _ _ => by kernel_rfl
def ctr102 : Ctr :=
 ⟨102, [.list 1], [], [(.ret, ⟨[(0, .int .i64)], [], 1⟩)]⟩
def la102 : List LA :=
 [⟨102, [false, true, false, true, true], 0, ⟨⟨[(3, .int .i64), (6, .list 1), (7, .int .i64), (8, .int .i64)], [], 18⟩, [(AX.ret, ⟨[(2, .int .i64)], [], 18⟩), ((AX.exit 0), ⟨[(3, .int .i64)], [], 18⟩)]⟩⟩]
def ja102 : List JA :=
 []
def gam102 : List CF :=
 []
def an102 : Anns :=
 ⟨gam102, ja102, []⟩
def b102_1 (p : Prim) : T48 → Option ((Int × (LD × (Int × (Int × Unit)))) ⊕ ((Int × Unit) ⊕ (Int × Unit))) :=
 fun a => opt.run _ (
 opt.ask _ (p.cmp .lss a.2.2.2.1 a.2.2.1) (
 opt.need _ (p.rowOk a.2.1 (p.nat a.2.2.2.1) [ci]) <|
 opt.need _ (p.cmp .geq a.2.2.2.1 (0 : Int)) <|
 opt.ask _ (p.cmp .neq (p.rdI a.2.1 (p.nat a.2.2.2.1) 0) a.1) (
 opt.ret _ (Sum.inr (Sum.inl ((p.rdI a.2.1 (p.nat a.2.2.2.1) 0), ())))) (
 opt.ret _ (Sum.inl (a.1, (a.2.1, (a.2.2.1, ((p.ar .add .i64 a.2.2.2.1 (1 : Int)), ()))))))) (
 opt.ret _ (Sum.inr (Sum.inr (a.1, ())))))
def g102 (it : It) : (p : Prim) → (LD × Unit) → Option T0 :=
 fun p x =>
 opt.alt T0 T0 _ (
 it _ _ (b102_1 p) ((0 : Int), (x.1, ((p.ofNat (p.len x.1)), ((0 : Int), ()))))) (fun a =>
 opt.ret _ (a.1, ())) (fun b =>
 opt.bnd T0 _ (some b) fun c =>
 opt.ret _ (c.1, ()))
def G102 := g102 it0
theorem ok102 : CtrOk PG ctr102 (G102 std) := okF (a := an102) (l := la102) (gN) (by kernel_rfl) fun _ _ => by kernel_rfl
def ctr87 : Ctr :=
 ⟨87, [.agg [.int .i64, .int .i64], .agg [.int .i64, .int .i64]], [], [(.ret, ⟨[(0, .int .i64)], [], 1⟩)]⟩
def la87 : List LA :=
 []
def ja87 : List JA :=
 []
def gam87 : List CF :=
 [⟨ctr102, G102⟩, ⟨ctr103, G103⟩]
def an87 : Anns :=
 ⟨gam87, ja87, []⟩
def g87 (it : It) : (p : Prim) → T11 → Option T0 :=
 fun p x =>
 opt.bnd T0 _ (G103 p (x.1, (x.2.2.1, ()))) fun a =>
 opt.bnd T0 _ (G103 p (x.2.1, (x.2.2.2.1, ()))) fun b =>
 opt.need _ (p.and (p.leN (p.add 0 2) (p.len [[(D.int .i64 a.1)], [(D.int .i64 b.1)]])) Bool.true) <|
 opt.bnd T0 _ (g102 it p ((p.cut [[(D.int .i64 a.1)], [(D.int .i64 b.1)]] 0 2), ())) fun c =>
 opt.ret _ (c.1, ())
def G87 := g87 it0
theorem enters87 : Enters Go.Proofs.Try.prog 87 := enters_auto (b := _) rfl (by kernel_rfl)
theorem ok87 : CtrOk PG ctr87 (G87 std) := okF (a := an87) (l := la87) (gC ok102 (gC ok103 (gN))) (by kernel_rfl) fun _ _ => by kernel_rfl
def ctr106 : Ctr :=
 ⟨106, [.agg [.int .i64, .int .i64]], [], [(.ret, ⟨[(0, .bool)], [], 1⟩)]⟩
def la106 : List LA :=
 []
def ja106 : List JA :=
 [⟨106, [false, true], 0, [(AX.normal, ⟨[(2, .bool)], [], 16⟩)]⟩]
def gam106 : List CF :=
 []
def an106 : Anns :=
 ⟨gam106, ja106, []⟩
def G106 : (p : Prim) → T3 → Option T2 :=
 fun p x =>
 opt.bnd T2 _ (
 opt.run T2 (
 opt.ask _ (p.cmp .lss x.1 (0 : Int)) (
 opt.ret _ (Bool.true, ())) (
 opt.ask _ (p.cmp .eql x.1 (0 : Int)) (
 opt.ret _ ((p.cmp .lss x.2.1 (0 : Int)), ())) (
 opt.ret _ (Bool.false, ()))))) fun a =>
 opt.ret _ (a.1, ())
theorem ok106 : CtrOk PG ctr106 (G106 std) := okF (a := an106) (l := la106) (gN) (by kernel_rfl) fun _ _ => by kernel_rfl
def ctr98 : Ctr :=
 ⟨98, [.agg [.int .i64, .int .i64], .agg [.int .i64, .int .i64]], [], [(.ret, ⟨[(0, .int .i64)], [], 1⟩)]⟩
def la98 : List LA :=
 []
def ja98 : List JA :=
 [⟨98, [false, false, true, false, true], 0, [(AX.normal, ⟨[(2, .bptr 0 0), (3, .bptr 1 0), (5, .bool), (6, .bool), (11, .bool)], [.box [.int .i64, .int .i64], .box [.int .i64, .int .i64]], 27⟩)]⟩,
 ⟨98, [true, false, true, false, true], 0, [(AX.ret, ⟨[(4, .int .i64)], [], 27⟩), (AX.normal, ⟨[(2, .bptr 0 0), (3, .bptr 1 0)], [.box [.int .i64, .int .i64], .box [.int .i64, .int .i64]], 27⟩)]⟩,
 ⟨98, [false, true, true, false, true, false, true], 0, [(AX.normal, ⟨[(2, .bptr 0 0), (3, .bptr 1 0), (17, .bool)], [.box [.int .i64, .int .i64], .box [.int .i64, .int .i64]], 27⟩)]⟩]
def gam98 : List CF :=
 [⟨ctr103, G103⟩, ⟨ctr106, G106⟩]
def an98 : Anns :=
 ⟨gam98, ja98, []⟩
def G98 : (p : Prim) → T11 → Option T0 :=
 fun p x =>
 opt.bnd T2 _ (G106 p (x.1, (x.2.1, ()))) fun a =>
 opt.bnd T2 _ (G106 p (x.2.2.1, (x.2.2.2.1, ()))) fun b =>
 opt.bnd T49 _ (
 opt.run T49 (
 opt.ask _ a.1 (
 opt.ret _ (x.1, (x.2.1, (x.2.2.1, (x.2.2.2.1, (a.1, (b.1, ((bif b.1 then Bool.false else Bool.true), ())))))))) (
 opt.ret _ (x.1, (x.2.1, (x.2.2.1, (x.2.2.2.1, (a.1, (b.1, (Bool.false, ())))))))))) fun c =>
 opt.alt T0 T9 _ (
 opt.run (((Int × Unit) ⊕ (Int × (Int × (Int × (Int × Unit)))))) (
 opt.ask _ c.2.2.2.2.2.2.1 (
 opt.ret _ (Sum.inl ((1 : Int), ()))) (
 opt.bnd T50 _ (
 opt.run T50 (
 opt.ask _ c.2.2.2.2.2.1 (
 opt.ret _ (c.1, (c.2.1, (c.2.2.1, (c.2.2.2.1, ((bif c.2.2.2.2.1 then Bool.false else Bool.true), ())))))) (
 opt.ret _ (c.1, (c.2.1, (c.2.2.1, (c.2.2.2.1, (Bool.false, ())))))))) fun d =>
 opt.ask _ d.2.2.2.2.1 (
 opt.ret _ (Sum.inl ((-1 : Int), ()))) (
 opt.ret _ (Sum.inr (d.1, (d.2.1, (d.2.2.1, (d.2.2.2.1, ()))))))))) (fun e =>
 opt.ret _ (e.1, ())) (fun f =>
 opt.bnd T9 _ (some f) fun g =>
 opt.bnd T0 _ (G103 p ((0 : Int), ((p.ar .sub .i64 (p.ar .mul .i64 g.1 g.2.2.2.1) (p.ar .mul .i64 g.2.1 g.2.2.1)), ()))) fun h =>
 opt.ret _ (h.1, ()))
theorem enters98 : Enters Go.Proofs.Try.prog 98 := enters_auto (b := _) rfl (by kernel_rfl)
theorem ok98 : CtrOk PG ctr98 (G98 std) := okF (a := an98) (l := la98) (gC ok103 (gC ok106 (gN))) (by kernel_rfl) fun _ _ => by kernel_rfl
def ctr99 : Ctr :=
 ⟨99, [.list 2], [], [(.ret, ⟨[(0, .agg [.int .i64, .int .i64])], [], 1⟩)]⟩
def la99 : List LA :=
 [⟨99, [false, true, false, true, true], 0, ⟨⟨[(2, .bptr 0 0), (3, .bptr 1 0), (8, .list 2), (9, .int .i64), (10, .int .i64)], [.box [.int .i64, .int .i64], .box [.int .i64, .int .i64]], 28⟩, [((AX.exit 0), ⟨[(2, .bptr 0 0), (3, .bptr 1 0)], [.box [.int .i64, .int .i64], .box [.int .i64, .int .i64]], 28⟩)]⟩⟩,
 ⟨99, [false, true, true, false, false, true, true, false, false, true, false, true, true], 0, ⟨⟨[(2, .bptr 0 0), (3, .bptr 1 0), (8, .list 2), (9, .int .i64), (10, .int .i64), (14, .agg [.int .i64, .int .i64]), (15, .int .i64)], [.box [.int .i64, .int .i64], .box [.int .i64, .int .i64]], 28⟩, [((AX.exit 2), ⟨[(2, .bptr 0 0), (3, .bptr 1 0), (8, .list 2), (9, .int .i64), (10, .int .i64)], [.box [.int .i64, .int .i64], .box [.int .i64, .int .i64]], 28⟩)]⟩⟩]
def ja99 : List JA :=
 [⟨99, [false, false, false, true, true, false, false, true, true, false, false, true, true, false, false, true, false, true, true], 0, [(AX.normal, ⟨[(2, .bptr 0 0), (3, .bptr 1 0), (6, .int .i64), (7, .int .i64), (8, .list 2), (9, .int .i64), (10, .int .i64), (14, .agg [.int .i64, .int .i64]), (15, .int .i64)], [.box [.int .i64, .int .i64], .box [.int .i64, .int .i64]], 28⟩)]⟩,
 ⟨99, [true, false, false, true, true, false, false, true, true, false, false, true, true, false, false, true, false, true, true], 0, [(AX.normal, ⟨[(2, .bptr 0 0), (3, .bptr 1 0), (8, .list 2), (9, .int .i64), (10, .int .i64), (14, .agg [.int .i64, .int .i64]), (15, .int .i64)], [.box [.int .i64, .int .i64], .box [.int .i64, .int .i64]], 28⟩)]⟩]
def gam99 : List CF :=
 []
def an99 : Anns :=
 ⟨gam99, ja99, []⟩
def b99_2 (p : Prim) : (Int × (Int × (Int × (Int × (LD × (Int × (Int × (Int × (Int × (Int × Unit)))))))))) → Option ((Int × (Int × (Int × (Int × (LD × (Int × (Int × (Int × (Int × (Int × Unit)))))))))) ⊕ (Int × (Int × (Int × (Int × (LD × (Int × (Int × Unit)))))))) :=
 fun a => opt.run _ (
 opt.ask _ (p.cmp .lss a.2.2.2.2.2.2.2.2.2.1 (2 : Int)) (
 opt.bnd T51 _ (
 opt.run T51 (
 opt.ask _ (p.cmp .eql a.2.2.2.2.2.2.2.2.2.1 (0 : Int)) (
 opt.need _ (bif (p.cmp .geq (0 : Int) (0 : Int)) then (p.cmp .lss (0 : Int) (p.ofNat 2)) else Bool.false) <|
 opt.ret _ (a.1, (a.2.1, (a.2.2.1, (a.2.2.2.1, (a.2.2.2.2.2.2.2.2.2.1, (a.2.2.2.2.2.2.2.1, (a.2.2.2.2.1, (a.2.2.2.2.2.1, (a.2.2.2.2.2.2.1, (a.2.2.2.2.2.2.2.1, (a.2.2.2.2.2.2.2.2.1, ((0 : Int), ()))))))))))))) (
 opt.need _ (p.cmp .eql a.2.2.2.2.2.2.2.2.2.1 (1 : Int)) <|
 opt.need _ (bif (p.cmp .geq (1 : Int) (0 : Int)) then (p.cmp .lss (1 : Int) (p.ofNat 2)) else Bool.false) <|
 opt.ret _ (a.1, (a.2.1, (a.2.2.1, (a.2.2.2.1, (a.2.2.2.2.2.2.2.2.2.1, (a.2.2.2.2.2.2.2.2.1, (a.2.2.2.2.1, (a.2.2.2.2.2.1, (a.2.2.2.2.2.2.1, (a.2.2.2.2.2.2.2.1, (a.2.2.2.2.2.2.2.2.1, ((1 : Int), ()))))))))))))))) fun b =>
 opt.bnd T52 _ (
 opt.run T52 (
 opt.ask _ (p.cmp .eql b.2.2.2.2.1 (0 : Int)) (
 opt.need _ (bif (p.cmp .geq (0 : Int) (0 : Int)) then (p.cmp .lss (0 : Int) (p.ofNat 2)) else Bool.false) <|
 opt.ask _ (p.cmp .eql (0 : Int) (0 : Int)) (
 opt.need _ (bif (p.cmp .geq (0 : Int) (0 : Int)) then (p.cmp .lss (0 : Int) (p.ofNat 2)) else Bool.false) <|
 opt.ret _ (b.1, (b.2.1, ((p.ar .add .i64 b.2.2.1 b.2.2.2.2.2.1), (b.2.2.2.1, (b.2.2.2.2.2.2.1, (b.2.2.2.2.2.2.2.1, (b.2.2.2.2.2.2.2.2.1, (b.2.2.2.2.2.2.2.2.2.1, (b.2.2.2.2.2.2.2.2.2.2.1, (b.2.2.2.2.2.2.2.2.2.2.2.1, ()))))))))))) (
 opt.need _ (p.cmp .eql (0 : Int) (1 : Int)) <|
 opt.need _ (bif (p.cmp .geq (1 : Int) (0 : Int)) then (p.cmp .lss (1 : Int) (p.ofNat 2)) else Bool.false) <|
 opt.ret _ (b.1, (b.2.1, (b.2.2.1, ((p.ar .add .i64 b.2.2.1 b.2.2.2.2.2.1), (b.2.2.2.2.2.2.1, (b.2.2.2.2.2.2.2.1, (b.2.2.2.2.2.2.2.2.1, (b.2.2.2.2.2.2.2.2.2.1, (b.2.2.2.2.2.2.2.2.2.2.1, (b.2.2.2.2.2.2.2.2.2.2.2.1, ())))))))))))) (
 opt.need _ (p.cmp .eql b.2.2.2.2.1 (1 : Int)) <|
 opt.need _ (bif (p.cmp .geq (1 : Int) (0 : Int)) then (p.cmp .lss (1 : Int) (p.ofNat 2)) else Bool.false) <|
 opt.ask _ (p.cmp .eql (1 : Int) (0 : Int)) (
 opt.need _ (bif (p.cmp .geq (0 : Int) (0 : Int)) then (p.cmp .lss (0 : Int) (p.ofNat 2)) else Bool.false) <|
 opt.ret _ (b.1, (b.2.1, ((p.ar .add .i64 b.2.2.2.1 b.2.2.2.2.2.1), (b.2.2.2.1, (b.2.2.2.2.2.2.1, (b.2.2.2.2.2.2.2.1, (b.2.2.2.2.2.2.2.2.1, (b.2.2.2.2.2.2.2.2.2.1, (b.2.2.2.2.2.2.2.2.2.2.1, (b.2.2.2.2.2.2.2.2.2.2.2.1, ()))))))))))) (
 opt.need _ (p.cmp .eql (1 : Int) (1 : Int)) <|
 opt.need _ (bif (p.cmp .geq (1 : Int) (0 : Int)) then (p.cmp .lss (1 : Int) (p.ofNat 2)) else Bool.false) <|
 opt.ret _ (b.1, (b.2.1, (b.2.2.1, ((p.ar .add .i64 b.2.2.2.1 b.2.2.2.2.2.1), (b.2.2.2.2.2.2.1, (b.2.2.2.2.2.2.2.1, (b.2.2.2.2.2.2.2.2.1, (b.2.2.2.2.2.2.2.2.2.1, (b.2.2.2.2.2.2.2.2.2.2.1, (b.2.2.2.2.2.2.2.2.2.2.2.1, ())))))))))))))) fun c =>
 opt.ret _ (Sum.inl (c.1, (c.2.1, (c.2.2.1, (c.2.2.2.1, (c.2.2.2.2.1, (c.2.2.2.2.2.1, (c.2.2.2.2.2.2.1, (c.2.2.2.2.2.2.2.1, (c.2.2.2.2.2.2.2.2.1, ((p.ar .add .i64 c.2.2.2.2.2.2.2.2.2.1 (1 : Int)), ())))))))))))) (
 opt.ret _ (Sum.inr (a.1, (a.2.1, (a.2.2.1, (a.2.2.2.1, (a.2.2.2.2.1, (a.2.2.2.2.2.1, (a.2.2.2.2.2.2.1, ()))))))))))
def c99_1 (it : It) (p : Prim) : (Int × (Int × (Int × (Int × (LD × (Int × (Int × Unit))))))) → Option ((Int × (Int × (Int × (Int × (LD × (Int × (Int × Unit))))))) ⊕ (Int × (Int × (Int × (Int × Unit))))) :=
 fun a => opt.run _ (
 opt.ask _ (p.cmp .lss a.2.2.2.2.2.2.1 a.2.2.2.2.2.1) (
 opt.need _ (p.rowOk a.2.2.2.2.1 (p.nat a.2.2.2.2.2.2.1) [ci, ci]) <|
 opt.need _ (p.cmp .geq a.2.2.2.2.2.2.1 (0 : Int)) <|
 opt.bnd ((Int × (Int × (Int × (Int × (LD × (Int × (Int × Unit)))))))) _ (
 it _ _ (b99_2 p) (a.1, (a.2.1, (a.2.2.1, (a.2.2.2.1, (a.2.2.2.2.1, (a.2.2.2.2.2.1, (a.2.2.2.2.2.2.1, ((p.rdI a.2.2.2.2.1 (p.nat a.2.2.2.2.2.2.1) 0), ((p.rdI a.2.2.2.2.1 (p.nat a.2.2.2.2.2.2.1) 1), ((0 : Int), ()))))))))))) fun b =>
 opt.ret _ (Sum.inl (b.1, (b.2.1, (b.2.2.1, (b.2.2.2.1, (b.2.2.2.2.1, (b.2.2.2.2.2.1, ((p.ar .add .i64 b.2.2.2.2.2.2.1 (1 : Int)), ()))))))))) (
 opt.ret _ (Sum.inr (a.1, (a.2.1, (a.2.2.1, (a.2.2.2.1, ())))))))
def g99 (it : It) : (p : Prim) → (LD × Unit) → Option T4 :=
 fun p x =>
 opt.bnd T9 _ (
 it _ _ (c99_1 it p) ((0 : Int), ((0 : Int), ((0 : Int), ((0 : Int), (x.1, ((p.ofNat (p.len x.1)), ((0 : Int), ())))))))) fun a =>
 opt.ret _ (a.2.2.1, (a.2.2.2.1, ()))
def G99 := g99 it0
theorem ok99 : CtrOk PG ctr99 (G99 std) := okF (a := an99) (l := la99) (gN) (by kernel_rfl) fun _ _ => by kernel_rfl
def ctr50 : Ctr :=
 ⟨50, [.list 2], [], [(.ret, ⟨[(0, .bool)], [], 1⟩)]⟩
def la50 : List LA :=
 []
def ja50 : List JA :=
 [⟨50, [false, true], 0, [(AX.normal, ⟨[(2, .bool)], [], 11⟩)]⟩]
def gam50 : List CF :=
 []
def an50 : Anns :=
 ⟨gam50, ja50, []⟩
def G50 : (p : Prim) → (LD × Unit) → Option T2 :=
 fun p x =>
 opt.bnd T2 _ (
 opt.run T2 (
 opt.ask _ (p.cmp .gtr (p.ofNat (p.len x.1)) (0 : Int)) (
 opt.ret _ ((p.cmp .leq (p.ofNat (p.len x.1)) (12 : Int)), ())) (
 opt.ret _ (Bool.false, ())))) fun a =>
 opt.ret _ (a.1, ())
theorem ok50 : CtrOk PG ctr50 (G50 std) := okF (a := an50) (l := la50) (gN) (by kernel_rfl) fun _ _ => by kernel_rfl
def ctr53 : Ctr :=
 ⟨53, [.int .i64, .int .i64, .list 2], [], [(.ret, ⟨[(0, .bool)], [], 1⟩)]⟩
def la53 : List LA :=
 [⟨100, [false, true, false, true], 2, ⟨⟨[(0, .list 2), (1, .clo 83 [] [.bptr 0 0, .bptr 1 0]), (7, .int .i64), (8, .int .i64)], [.box [.int .i64], .box [.int .i64]], 19⟩, [(AX.ret, ⟨[(4, .int .i64)], [.box [.int .i64], .box [.int .i64]], 19⟩), ((AX.exit 0), ⟨[], [.box [.int .i64], .box [.int .i64]], 19⟩)]⟩⟩]
def ja53 : List JA :=
 [⟨83, [false, true], 2, [(AX.normal, ⟨[(4, .bool)], [.box [.int .i64], .box [.int .i64]], 21⟩)]⟩]
def gam53 : List CF :=
 []
def an53 : Anns :=
 ⟨gam53, ja53, []⟩
def b53_1 (p : Prim) : T53 → Option ((Int × (Int × (LD × (Int × (Int × Unit))))) ⊕ ((Int × (Int × (Int × Unit))) ⊕ (Int × (Int × Unit)))) :=
 fun a => opt.run _ (
 opt.ask _ (p.cmp .lss a.2.2.2.2.1 a.2.2.2.1) (
 opt.need _ (p.rowOk a.2.2.1 (p.nat a.2.2.2.2.1) [ci, ci]) <|
 opt.need _ (p.cmp .geq a.2.2.2.2.1 (0 : Int)) <|
 opt.bnd T17 _ (
 opt.run T17 (
 opt.ask _ (p.cmp .lss (p.mm .lss (p.rdI a.2.2.1 (p.nat a.2.2.2.2.1) 0) (p.rdI a.2.2.1 (p.nat a.2.2.2.2.1) 1)) a.1) (
 opt.ret _ (a.1, (a.2.1, (Bool.true, ())))) (
 opt.ret _ (a.1, (a.2.1, ((p.cmp .gtr (p.mm .gtr (p.rdI a.2.2.1 (p.nat a.2.2.2.2.1) 0) (p.rdI a.2.2.1 (p.nat a.2.2.2.2.1) 1)) a.2.1), ())))))) fun b =>
 opt.ask _ b.2.2.1 (
 opt.ret _ (Sum.inr (Sum.inl (b.1, (b.2.1, (a.2.2.2.2.1, ())))))) (
 opt.ret _ (Sum.inl (b.1, (b.2.1, (a.2.2.1, (a.2.2.2.1, ((p.ar .add .i64 a.2.2.2.2.1 (1 : Int)), ())))))))) (
 opt.ret _ (Sum.inr (Sum.inr (a.1, (a.2.1, ()))))))
def g53 (it : It) : (p : Prim) → (Int × (Int × (LD × Unit))) → Option T2 :=
 fun p x =>
 opt.alt T6 T4 _ (
 it _ _ (b53_1 p) (x.1, (x.2.1, (x.2.2.1, ((p.ofNat (p.len x.2.2.1)), ((0 : Int), ())))))) (fun a =>
 opt.ret _ ((bif (p.cmp .geq a.2.2.1 (0 : Int)) then Bool.false else Bool.true), ())) (fun b =>
 opt.bnd T4 _ (some b) fun c =>
 opt.ret _ ((bif (p.cmp .geq (-1 : Int) (0 : Int)) then Bool.false else Bool.true), ()))
def G53 := g53 it0
theorem ok53 : CtrOk PG ctr53 (G53 std) := okF (a := an53) (l := la53) (gN) (by kernel_rfl) fun _ _ => by kernel_rfl
def ctr60 : Ctr :=
 ⟨60, [.list 2], [], [(.ret, ⟨[(0, .list 2)], [], 1⟩)]⟩
def la60 : List LA :=
 [⟨60, [false, true, false, true, true], 0, ⟨⟨[(3, .full 0 2), (9, .list 2), (10, .int .i64), (11, .int .i64)], [.row [ci, ci]], 26⟩, [((AX.exit 0), ⟨[(3, .full 0 2)], [.row [ci, ci]], 26⟩)]⟩⟩]
def ja60 : List JA :=
 []
def gam60 : List CF :=
 []
def an60 : Anns :=
 ⟨gam60, ja60, []⟩
def b60_1 (p : Prim) : (LD × (LD × T3)) → Option ((LD × (LD × T3)) ⊕ (LD × Unit)) :=
 fun a => opt.run _ (
 opt.ask _ (p.cmp .lss a.2.2.2.1 a.2.2.1) (
 opt.need _ (p.rowOk a.2.1 (p.nat a.2.2.2.1) [ci, ci]) <|
 opt.need _ (p.cmp .geq a.2.2.2.1 (0 : Int)) <|
 opt.need _ (bif (p.cmp .geq a.2.2.2.1 (0 : Int)) then (p.cmp .lss a.2.2.2.1 (p.ofNat (p.len a.1))) else Bool.false) <|
 opt.need _ (p.rowOk a.1 (p.add 0 (p.nat a.2.2.2.1)) [ci, ci]) <|
 opt.need _ (p.eqN 0 0) <|
 opt.need _ (p.eqN (p.len a.1) (p.len (p.set a.1 (p.add 0 (p.nat a.2.2.2.1)) [(D.int .i64 (p.rdI a.2.1 (p.nat a.2.2.2.1) 0)), (D.int .i64 (p.rdI a.2.1 (p.nat a.2.2.2.1) 1))]))) <|
 opt.need _ (p.eqN (p.len a.1) (p.len (p.set a.1 (p.add 0 (p.nat a.2.2.2.1)) [(D.int .i64 (p.rdI a.2.1 (p.nat a.2.2.2.1) 0)), (D.int .i64 (p.rdI a.2.1 (p.nat a.2.2.2.1) 1))]))) <|
 opt.ret _ (Sum.inl ((p.set a.1 (p.add 0 (p.nat a.2.2.2.1)) [(D.int .i64 (p.rdI a.2.1 (p.nat a.2.2.2.1) 0)), (D.int .i64 (p.rdI a.2.1 (p.nat a.2.2.2.1) 1))]), (a.2.1, (a.2.2.1, ((p.ar .add .i64 a.2.2.2.1 (1 : Int)), ())))))) (
 opt.need _ (p.eqN 0 0) <|
 opt.need _ (p.eqN (p.len a.1) (p.len a.1)) <|
 opt.need _ (p.eqN (p.len a.1) (p.len a.1)) <|
 opt.ret _ (Sum.inr (a.1, ()))))
def g60 (it : It) : (p : Prim) → (LD × Unit) → Option ((LD × Unit)) :=
 fun p x =>
 opt.need _ (p.and (p.cmp .geq (p.ofNat (p.len x.1)) (0 : Int)) (p.and (p.cmp .leq (p.ofNat (p.len x.1)) (p.ofNat (p.len x.1))) (p.cmp .leq (p.ofNat (p.len x.1)) (1000000 : Int)))) <|
 opt.need _ (p.eqN 0 0) <|
 opt.need _ (p.eqN (p.nat (p.ofNat (p.len x.1))) (p.len (p.rep (p.nat (p.ofNat (p.len x.1))) [(D.int .i64 (0 : Int)), (D.int .i64 (0 : Int))]))) <|
 opt.need _ (p.eqN (p.nat (p.ofNat (p.len x.1))) (p.len (p.rep (p.nat (p.ofNat (p.len x.1))) [(D.int .i64 (0 : Int)), (D.int .i64 (0 : Int))]))) <|
 opt.bnd ((LD × Unit)) _ (
 it _ _ (b60_1 p) ((p.rep (p.nat (p.ofNat (p.len x.1))) [(D.int .i64 (0 : Int)), (D.int .i64 (0 : Int))]), (x.1, ((p.ofNat (p.len x.1)), ((0 : Int), ()))))) fun a =>
 opt.need _ (p.leN (p.add 0 (p.len a.1)) (p.len a.1)) <|
 opt.ret _ ((p.cut a.1 0 (p.len a.1)), ())
def G60 := g60 it0
theorem ok60 : CtrOk PG ctr60 (G60 std) := okF (a := an60) (l := la60) (gN) (by kernel_rfl) fun _ _ => by kernel_rfl
def ctr20 : Ctr :=
 ⟨20, [.list 2, .list 2], [], [(.ret, ⟨[(0, .bool)], [], 1⟩)]⟩
def la20 : List LA :=
 [⟨20, [false, true, false, true, true], 0, ⟨⟨[(0, .list 2), (1, .list 2), (5, .int .i64)], [], 26⟩, [(AX.ret, ⟨[(4, .bool)], [], 26⟩), ((AX.exit 0), ⟨[], [], 26⟩)]⟩⟩]
def ja20 : List JA :=
 []
def gam20 : List CF :=
 []
def an20 : Anns :=
 ⟨gam20, ja20, []⟩
def b20_1 (p : Prim) : (LD × (LD × T1)) → Option ((LD × (LD × T1)) ⊕ T44) :=
 fun a => opt.run _ (
 opt.ask _ (p.cmp .lss a.2.2.1 (p.ofNat (p.len a.1))) (
 opt.need _ (p.rowOk a.1 (p.nat a.2.2.1) [ci, ci]) <|
 opt.need _ (p.cmp .geq a.2.2.1 (0 : Int)) <|
 opt.need _ (p.rowOk a.2.1 (p.nat a.2.2.1) [ci, ci]) <|
 opt.need _ (p.cmp .geq a.2.2.1 (0 : Int)) <|
 opt.ask _ (bif (bif (p.cmp .eql (p.rdI a.1 (p.nat a.2.2.1) 0) (p.rdI a.2.1 (p.nat a.2.2.1) 0)) then (bif (p.cmp .eql (p.rdI a.1 (p.nat a.2.2.1) 1) (p.rdI a.2.1 (p.nat a.2.2.1) 1)) then Bool.true else Bool.false) else Bool.false) then Bool.false else Bool.true) (
 opt.ret _ (Sum.inr (Sum.inl (Bool.false, ())))) (
 opt.ret _ (Sum.inl (a.1, (a.2.1, ((p.ar .add .i64 a.2.2.1 (1 : Int)), ())))))) (
 opt.ret _ (Sum.inr (Sum.inr ()))))
def g20 (it : It) : (p : Prim) → (LD × (LD × Unit)) → Option T2 :=
 fun p x =>
 opt.ask _ (p.cmp .neq (p.ofNat (p.len x.1)) (p.ofNat (p.len x.2.1))) (
 opt.ret _ (Bool.false, ())) (
 opt.alt T2 (Unit) _ (
 it _ _ (b20_1 p) (x.1, (x.2.1, ((0 : Int), ())))) (fun a =>
 opt.ret _ (a.1, ())) (fun b =>
 opt.bnd (Unit) _ (some b) fun c =>
 opt.ret _ (Bool.true, ())))
def G20 := g20 it0
theorem ok20 : CtrOk PG ctr20 (G20 std) := okF (a := an20) (l := la20) (gN) (by kernel_rfl) fun _ _ => by kernel_rfl
def ctr14 : Ctr :=
 ⟨14, [.agg [.list 2, .list 1]], [], [(.ret, ⟨[(0, .bool)], [], 1⟩)]⟩
def la14 : List LA :=
 [⟨14, [false, true, false, true, true], 0, ⟨⟨[(1, .bptr 0 0), (3, .int .i64)], [.box [.list 2, .list 1]], 28⟩, [(AX.ret, ⟨[(2, .bool)], [], 28⟩), ((AX.exit 0), ⟨[], [], 28⟩)]⟩⟩]
def ja14 : List JA :=
 [⟨14, [false, false, true], 0, [(AX.normal, ⟨[(1, .bptr 0 0), (13, .bool)], [.box [.list 2, .list 1]], 28⟩)]⟩]
def gam14 : List CF :=
 []
def an14 : Anns :=
 ⟨gam14, ja14, []⟩
def b14_1 (p : Prim) : (LD × (LD × T1)) → Option ((LD × (LD × T1)) ⊕ T44) :=
 fun a => opt.run _ (
 opt.ask _ (p.cmp .lss a.2.2.1 (p.ofNat (p.len a.2.1))) (
 opt.need _ (p.rowOk a.2.1 (p.nat a.2.2.1) [(CK.list 2)]) <|
 opt.need _ (p.cmp .geq a.2.2.1 (0 : Int)) <|
 opt.ask _ (p.cmp .gtr (p.ofNat (p.len (p.rdL a.2.1 (p.nat a.2.2.1) 0))) (20 : Int)) (
 opt.ret _ (Sum.inr (Sum.inl (Bool.true, ())))) (
 opt.ret _ (Sum.inl (a.1, (a.2.1, ((p.ar .add .i64 a.2.2.1 (1 : Int)), ())))))) (
 opt.ret _ (Sum.inr (Sum.inr ()))))
def g14 (it : It) : (p : Prim) → (LD × (LD × Unit)) → Option T2 :=
 fun p x =>
 opt.bnd ((LD × (LD × T18))) _ (
 opt.run ((LD × (LD × T18))) (
 opt.ask _ (p.cmp .gtr (p.ofNat (p.len x.1)) (20 : Int)) (
 opt.ret _ (x.1, (x.2.1, (Bool.true, ())))) (
 opt.ret _ (x.1, (x.2.1, ((p.cmp .gtr (p.ofNat (p.len x.2.1)) (8 : Int)), ())))))) fun a =>
 opt.ask _ a.2.2.1 (
 opt.ret _ (Bool.true, ())) (
 opt.alt T2 (Unit) _ (
 it _ _ (b14_1 p) (a.1, (a.2.1, ((0 : Int), ())))) (fun b =>
 opt.ret _ (b.1, ())) (fun c =>
 opt.bnd (Unit) _ (some c) fun d =>
 opt.ret _ (Bool.false, ())))
def G14 := g14 it0
theorem ok14 : CtrOk PG ctr14 (G14 std) := okF (a := an14) (l := la14) (gN) (by kernel_rfl) fun _ _ => by kernel_rfl
end Go.Am
end
section
namespace Go.Am
theorem stdS : (∀ {β : Type} (c : Bool) (x : Option β), opt.need β c x = if c = true then x else none) ∧ (∀ {β : Type} (c : Bool) (x y : Option β), opt.ask β c x y = if c = true then x else y) ∧
    (∀ {β : Type} (x : β), opt.ret β x = some x) ∧ (∀ {β : Type} (n : Nat), opt.no β n = none) ∧ (∀ {α β : Type} (x : Option α) (f : α → Option β), opt.bnd α β x f = x.bind f) ∧ (∀ {β : Type} (x : Option β), opt.run β x = x) ∧
    (∀ {α β γ : Type} (x : Option (α ⊕ β)) (f : α → Option γ) (g : β → Option γ), opt.alt α β γ x f g = x.bind (Sum.elim f g)) ∧
    (∀ es, std.len es = es.length) ∧ (∀ n, std.ofNat n = (n : Int)) ∧ (∀ x, std.nat x = x.toNat) ∧ (∀ a b, std.add a b = a + b) ∧ (∀ a b, std.leN a b = decide (a ≤ b)) ∧ (∀ a b, std.eqN a b = decide (a = b)) ∧
    (∀ c d, std.and c d = (c && d)) ∧ (∀ es l, std.app es l = es ++ l) ∧ (∀ es a n, std.cut es a n = (es.drop a).take n) ∧
    (∀ x y, std.cmp .lss x y = decide (x < y)) ∧ (∀ x y, std.cmp .leq x y = decide (x ≤ y)) ∧ (∀ x y, std.cmp .gtr x y = decide (x > y)) ∧ (∀ x y, std.cmp .geq x y = decide (x ≥ y)) ∧ (∀ x y, std.cmp .eql x y = decide (x = y)) ∧ (∀ x y, std.cmp .neq x y = !decide (x = y)) ∧
    (∀ es i j, std.rdI es i j = dI (((es[i]?).bind (fun r => r[j]?)).getD .nilp)) ∧ (∀ es i j, std.rdL es i j = dL (((es[i]?).bind (fun r => r[j]?)).getD .nilp)) ∧
    (∀ es i ck, std.rowOk es i ck = match es[i]? with | some r => cellsOk ck r | none => false) ∧ (∀ k x, std.cvt k x = k.wrap x) ∧ (∀ a b, std.sub a b = a - b) ∧ (∀ a b, std.mul a b = a * b) ∧ (∀ a b, std.min a b = min a b) ∧
    (∀ x y, std.mm .lss x y = min x y) ∧ (∀ x y, std.mm .gtr x y = max x y) ∧ (∀ n r, std.rep n r = List.replicate n r) ∧ (∀ es i r, std.set es i r = es.set i r) ∧ (∀ es i l, std.splice es i l = es.take i ++ l ++ es.drop (i + l.length)) ∧
    (∀ n, Int.ofNat n = (n : Int)) ∧ (∀ {α : Type} (c : Bool) (u v : α), (bif c then u else v) = if c = true then u else v) ∧ (∀ es i j, rdD es i j = ((es[i]?).bind (fun r => r[j]?)).getD .nilp) :=
  ⟨need_eq, ask_eq, ret_eq, no_eq, bnd_eq, run_eq, alt_eq, fun _ => rfl, fun _ => rfl, fun _ => rfl, fun _ _ => rfl, std_leN, std_eqN, fun _ _ => rfl, fun _ _ => rfl, fun _ _ _ => rfl,
   fun _ _ => rfl, fun _ _ => rfl, fun _ _ => rfl, fun _ _ => rfl, fun _ _ => rfl, fun _ _ => rfl, fun _ _ _ => rfl, fun _ _ _ => rfl, fun _ _ _ => rfl, fun _ _ => rfl, fun _ _ => rfl, fun _ _ => rfl, fun _ _ => rfl,
   std_mmin, std_mmax, fun _ _ => rfl, fun _ _ _ => rfl, fun _ _ _ => rfl, fun _ => rfl, fun c u v => bif_eq c u v, fun _ _ _ => rfl⟩
theorem stdL : (∀ {α β : Type} (f : α → β) (l : List α) (i : Nat), (l.map f)[i]? = Option.map f l[i]?) ∧ (∀ {α β : Type} (x : α) (f : α → β), Option.map f (some x) = some (f x)) ∧ (∀ {α β : Type} (x : α) (f : α → Option β), (some x).bind f = f x) ∧
  (∀ {α β : Type} (f : α → Option β), (none : Option α).bind f = none) ∧ (∀ {α : Type} (a b : α), (some a).getD b = a) ∧ (∀ {α β γ : Type} (f : α → γ) (g : β → γ) (x : α), Sum.elim f g (.inl x) = f x) ∧ (∀ {α β γ : Type} (f : α → γ) (g : β → γ) (x : β), Sum.elim f g (.inr x) = g x) ∧
  (∀ {p : Prop} [Decidable p], (decide p = true) = p) ∧ (∀ h : Decidable True, @decide True h = true) ∧ (∀ h : Decidable False, @decide False h = false) ∧ (∀ b, (b && true) = b) ∧ (∀ b, (true && b) = b) ∧ ((!true) = false) ∧ ((!false) = true) ∧
  (∀ b, ((!b) = true) = (b = false)) ∧ (∀ {p : Prop} [Decidable p], (decide p = false) ↔ ¬ p) ∧ ((false = true) = False) ∧ (∀ {α : Type} {_ : Decidable True} (a b : α), (if True then a else b) = a) ∧ (∀ {α : Type} {_ : Decidable False} (a b : α), (if False then a else b) = b) ∧
  (∀ {α β : Type} (f : α → β) (l : List α), (l.map f).length = l.length) ∧ (∀ n : Nat, ((n : Int)).toNat = n) ∧ (∀ {α : Type} (a : α) (l : List α), (a :: l).length = l.length + 1) ∧ (∀ {α : Type}, ([] : List α).length = 0) ∧ (∀ n : Nat, 0 + n = n) :=
 ⟨by simp, by simp, by simp, by simp, by simp, by simp, by simp, by simp, by simp, by simp, by simp, by simp, rfl, rfl, by simp, by simp, by simp, by simp, by simp, by simp, by simp, by simp, by simp, by simp⟩
end Go.Am
end
section
namespace Go.Am
def cmpZ (a b : Int) : Int := if a < b then -1 else if a > b then 1 else 0
theorem G103_ok (a b : Int) : G103 std (a, b, ()) = some (cmpZ a b, ()) := by
 unfold G103 cmpZ
 simp only [stdS, stdL, not_true]
 by_cases h1 : a < b
 ·simp only [h1, if_true, Option.bind_some]
 ·by_cases h2 : a > b
  ·simp only [h1, h2, if_true, if_false, Option.bind_some]
  ·simp only [h1, h2, if_false, Option.bind_some]
def ordC (x y : Int × Int) : Int := if cmpZ x.1 y.1 ≠ 0 then cmpZ x.1 y.1 else cmpZ x.2 y.2
theorem G102_ok (a b : Int) : G102 std ([[.int .i64 a], [.int .i64 b]], ()) = some (if a ≠ 0 then a else b, ()) := by
 unfold G102
 simp only [g102, it0]
 rw [show (iter (b102_1 std) ((0 : Int), [[D.int IntKind.i64 a], [D.int IntKind.i64 b]], std.ofNat (std.len [[D.int IntKind.i64 a], [D.int IntKind.i64 b]]), (0 : Int), ()) : Option ((Int × Unit) ⊕ (Int × Unit))) = some (if a ≠ 0 then Sum.inl (a, ()) else if b ≠ 0 then Sum.inl (b, ()) else Sum.inr (0, ())) from ?_]
 ·by_cases ha : a = 0
  ·by_cases hb : b = 0
   ·simp only [ha, hb, stdS, stdL, ne_eq, not_true]
   ·simp only [ha, hb, stdS, stdL, ne_eq, not_true, not_false_eq_true]
  ·simp only [ha, stdS, stdL, ne_eq, not_true, not_false_eq_true]
 ·have w1 : IntKind.i64.wrap ((0 : Int) + 1) = 1 := by decide
  have w2 : IntKind.i64.wrap ((1 : Int) + 1) = 2 := by decide
  have s0 : b102_1 std ((0 : Int), [[D.int IntKind.i64 a], [D.int IntKind.i64 b]], std.ofNat (std.len [[D.int IntKind.i64 a], [D.int IntKind.i64 b]]), (0 : Int), ()) = if a ≠ 0 then some (.inr (.inl (a, ()))) else some (.inl ((0 : Int), [[D.int IntKind.i64 a], [D.int IntKind.i64 b]], std.ofNat (std.len [[D.int IntKind.i64 a], [D.int IntKind.i64 b]]), (1 : Int), ())) := by
   show opt.run _ _ = _
   by_cases ha : a = 0
   ·subst ha; rfl
   ·simp [stdS, stdL, cellsOk, cellOk, dI, std_ar_add, w1, ha]
  have s1 : b102_1 std ((0 : Int), [[D.int IntKind.i64 a], [D.int IntKind.i64 b]], std.ofNat (std.len [[D.int IntKind.i64 a], [D.int IntKind.i64 b]]), (1 : Int), ()) = if b ≠ 0 then some (.inr (.inl (b, ()))) else some (.inl ((0 : Int), [[D.int IntKind.i64 a], [D.int IntKind.i64 b]], std.ofNat (std.len [[D.int IntKind.i64 a], [D.int IntKind.i64 b]]), (2 : Int), ())) := by
   show opt.run _ _ = _
   by_cases hb : b = 0
   ·subst hb; rfl
   ·simp [stdS, stdL, cellsOk, cellOk, dI, std_ar_add, w2, hb]
  have s2 : b102_1 std ((0 : Int), [[D.int IntKind.i64 a], [D.int IntKind.i64 b]], std.ofNat (std.len [[D.int IntKind.i64 a], [D.int IntKind.i64 b]]), (2 : Int), ()) = some (.inr (.inr (0, ()))) := by
   show opt.run _ _ = _
   simp [stdS, stdL]
  rw [iter_unfold, s0]
  by_cases ha : a = 0
  ·simp only [ha, ne_eq, not_true, if_false]
   subst ha
   rw [iter_unfold, s1]
   by_cases hb : b = 0
   ·subst hb
    simp only [ne_eq, not_true, if_false]
    rw [iter_unfold, s2]
   ·simp only [hb, ne_eq, not_false_eq_true, if_true]
  ·simp only [ha, ne_eq, not_false_eq_true, if_true]
theorem G87_ok (x y : Int × Int) : G87 std (x.1, x.2, y.1, y.2, ()) = some (ordC x y, ()) := by
 have h := G102_ok (cmpZ x.1 y.1) (cmpZ x.2 y.2)
 unfold G102 at h
 unfold G87
 simp only [g87, stdS, stdL, G103_ok, List.drop_zero, List.take_succ_cons, List.take_zero, h]
 rfl
def backC (p : Int × Int) : Bool := decide (p.1 < 0 ∨ (p.1 = 0 ∧ p.2 < 0))
theorem G106_ok (p : Int × Int) : G106 std (p.1, p.2, ()) = some (backC p, ()) := by
 unfold G106 backC
 by_cases h1 : p.1 < 0
 ·simp only [stdS, stdL, h1, true_or]
 ·by_cases h2 : p.1 = 0
  ·simp [stdS, stdL, h1, h2]
  ·simp only [stdS, stdL, h1, h2, false_or, false_and]
def turnC (p q : Int × Int) : Int :=
 if backC p = true ∧ backC q = false then 1 else if backC q = true ∧ backC p = false then -1 else cmpZ 0 (p.1 * q.2 - p.2 * q.1)
def Small (p : Int × Int) : Prop := -1048576 ≤ p.1 ∧ p.1 ≤ 1048576 ∧ -1048576 ≤ p.2 ∧ p.2 ≤ 1048576
theorem mul_small {a b : Int} (h1 : -1048576 ≤ a) (h2 : a ≤ 1048576) (h3 : -1048576 ≤ b) (h4 : b ≤ 1048576) : -1099511627776 ≤ a * b ∧ a * b ≤ 1099511627776 := by
 have e1 := Int.mul_nonneg (show 0 ≤ 1048576 - a by omega) (show 0 ≤ 1048576 - b by omega)
 have e2 := Int.mul_nonneg (show 0 ≤ 1048576 + a by omega) (show 0 ≤ 1048576 + b by omega)
 have e3 := Int.mul_nonneg (show 0 ≤ 1048576 - a by omega) (show 0 ≤ 1048576 + b by omega)
 have e4 := Int.mul_nonneg (show 0 ≤ 1048576 + a by omega) (show 0 ≤ 1048576 - b by omega)
 simp only [Int.sub_mul, Int.add_mul, Int.mul_sub, Int.mul_add] at e1 e2 e3 e4
 omega
theorem G98_ok {p q : Int × Int} (hp : Small p) (hq : Small q) : G98 std (p.1, p.2, q.1, q.2, ()) = some (turnC p q, ()) := by
 obtain ⟨p1, p2, p3, p4⟩ := hp
 obtain ⟨q1, q2, q3, q4⟩ := hq
 have m1 := mul_small p1 p2 q3 q4
 have m2 := mul_small p3 p4 q1 q2
 have w1 : IntKind.i64.wrap (p.1 * q.2) = p.1 * q.2 := wrap64 _ (by omega) (by omega)
 have w2 : IntKind.i64.wrap (p.2 * q.1) = p.2 * q.1 := wrap64 _ (by omega) (by omega)
 have w3 : IntKind.i64.wrap (p.1 * q.2 - p.2 * q.1) = p.1 * q.2 - p.2 * q.1 := wrap64 _ (by omega) (by omega)
 unfold G98 turnC
 cases hbp : backC p <;> cases hbq : backC q <;> simp [stdS, stdL, G106_ok, G103_ok, hbp, hbq, std_ar_mul, std_ar_sub, w1, w2, w3]
end Go.Am
end
noncomputable section
namespace Go.Am
def ctr18 : Ctr :=
 ⟨18, [.agg [.list 2, .list 1]], [], [(.ret, ⟨[(0, .int .i64)], [], 1⟩)]⟩
def la18 : List LA :=
 [⟨81, [false, true, false, true], 1, ⟨⟨[(0, .list 1), (1, .clo 52 [] []), (7, .int .i64), (8, .int .i64)], [.box [.list 2, .list 1]], 19⟩, [(AX.ret, ⟨[(4, .int .i64)], [.box [.list 2, .list 1]], 19⟩), ((AX.exit 0), ⟨[], [.box [.list 2, .list 1]], 19⟩)]⟩⟩,
 ⟨81, [false, true, false, true], 1, ⟨⟨[(0, .list 1), (1, .clo 54 [] []), (7, .int .i64), (8, .int .i64)], [.box [.list 2, .list 1]], 19⟩, [(AX.ret, ⟨[(4, .int .i64)], [.box [.list 2, .list 1]], 19⟩), ((AX.exit 0), ⟨[], [.box [.list 2, .list 1]], 19⟩)]⟩⟩]
def ja18 : List JA :=
 [⟨18, [false, false, true, true], 0, [(AX.normal, ⟨[(26, .bool)], [], 27⟩)]⟩,
 ⟨18, [false, false, true], 0, [(AX.normal, ⟨[(1, .bptr 0 0), (17, .bool)], [.box [.list 2, .list 1]], 27⟩)]⟩]
def gam18 : List CF :=
 [⟨ctr53, G53⟩, ⟨ctr50, G50⟩]
def an18 : Anns :=
 ⟨gam18, ja18, []⟩
def c18_2 (it : It) (p : Prim) : (LD × (LD × (LD × T3))) → Option ((LD × (LD × (LD × T3))) ⊕ ((LD × (LD × T1)) ⊕ (LD × (LD × Unit)))) :=
 fun a => opt.run _ (
 opt.ask _ (p.cmp .lss a.2.2.2.2.1 a.2.2.2.1) (
 opt.need _ (p.rowOk a.2.2.1 (p.nat a.2.2.2.2.1) [(CK.list 2)]) <|
 opt.need _ (p.cmp .geq a.2.2.2.2.1 (0 : Int)) <|
 opt.bnd T2 _ (g53 it p ((-1000 : Int), ((1000 : Int), ((p.rdL a.2.2.1 (p.nat a.2.2.2.2.1) 0), ())))) fun b =>
 opt.ask _ (bif b.1 then Bool.false else Bool.true) (
 opt.ret _ (Sum.inr (Sum.inl (a.1, (a.2.1, (a.2.2.2.2.1, ())))))) (
 opt.ret _ (Sum.inl (a.1, (a.2.1, (a.2.2.1, (a.2.2.2.1, ((p.ar .add .i64 a.2.2.2.2.1 (1 : Int)), ())))))))) (
 opt.ret _ (Sum.inr (Sum.inr (a.1, (a.2.1, ()))))))
def b18_1 (p : Prim) : (LD × (LD × (LD × T3))) → Option ((LD × (LD × (LD × T3))) ⊕ ((LD × (LD × T1)) ⊕ (LD × (LD × Unit)))) :=
 fun a => opt.run _ (
 opt.ask _ (p.cmp .lss a.2.2.2.2.1 a.2.2.2.1) (
 opt.need _ (p.rowOk a.2.2.1 (p.nat a.2.2.2.2.1) [(CK.list 2)]) <|
 opt.need _ (p.cmp .geq a.2.2.2.2.1 (0 : Int)) <|
 opt.bnd T2 _ (G50 p ((p.rdL a.2.2.1 (p.nat a.2.2.2.2.1) 0), ())) fun b =>
 opt.ask _ (bif b.1 then Bool.false else Bool.true) (
 opt.ret _ (Sum.inr (Sum.inl (a.1, (a.2.1, (a.2.2.2.2.1, ())))))) (
 opt.ret _ (Sum.inl (a.1, (a.2.1, (a.2.2.1, (a.2.2.2.1, ((p.ar .add .i64 a.2.2.2.2.1 (1 : Int)), ())))))))) (
 opt.ret _ (Sum.inr (Sum.inr (a.1, (a.2.1, ()))))))
def g18 (it : It) : (p : Prim) → (LD × (LD × Unit)) → Option T0 :=
 fun p x =>
 opt.bnd ((LD × (LD × T18))) _ (
 opt.run ((LD × (LD × T18))) (
 opt.bnd T2 _ (G50 p (x.1, ())) fun a =>
 opt.ask _ (bif a.1 then Bool.false else Bool.true) (
 opt.ret _ (x.1, (x.2.1, (Bool.true, ())))) (
 opt.ask _ (p.cmp .gtr (p.ofNat (p.len x.2.1)) (4 : Int)) (
 opt.ret _ (x.1, (x.2.1, (Bool.true, ())))) (
 opt.alt ((LD × (LD × T1))) ((LD × (LD × Unit))) _ (
 it _ _ (b18_1 p) (x.1, (x.2.1, (x.2.1, ((p.ofNat (p.len x.2.1)), ((0 : Int), ())))))) (fun b =>
 opt.ret _ (b.1, (b.2.1, ((p.cmp .geq b.2.2.1 (0 : Int)), ())))) (fun c =>
 opt.bnd ((LD × (LD × Unit))) _ (some c) fun d =>
 opt.ret _ (d.1, (d.2.1, ((p.cmp .geq (-1 : Int) (0 : Int)), ())))))))) fun e =>
 opt.ask _ e.2.2.1 (
 opt.ret _ ((6 : Int), ())) (
 opt.bnd T2 _ (
 opt.run T2 (
 opt.bnd T2 _ (g53 it p ((0 : Int), ((1000 : Int), (e.1, ())))) fun f =>
 opt.ask _ (bif f.1 then Bool.false else Bool.true) (
 opt.ret _ (Bool.true, ())) (
 opt.alt ((LD × (LD × T1))) ((LD × (LD × Unit))) _ (
 it _ _ (c18_2 it p) (e.1, (e.2.1, (e.2.1, ((p.ofNat (p.len e.2.1)), ((0 : Int), ())))))) (fun g =>
 opt.ret _ ((p.cmp .geq g.2.2.1 (0 : Int)), ())) (fun h =>
 opt.bnd ((LD × (LD × Unit))) _ (some h) fun i =>
 opt.ret _ ((p.cmp .geq (-1 : Int) (0 : Int)), ()))))) fun j =>
 opt.ask _ j.1 (
 opt.ret _ ((3 : Int), ())) (
 opt.ret _ ((0 : Int), ())))
def G18 := g18 it0
theorem ok18 : CtrOk PG ctr18 (G18 std) := okF (a := an18) (l := la18) (gC ok53 (gC ok50 (gN))) (by kernel_rfl) fun _ _ => by kernel_rfl
end Go.Am
end
noncomputable section
namespace Go.Am
def ctr55 : Ctr :=
 ⟨55, [.list 2], [], [(.ret, ⟨[(0, .bool)], [], 1⟩)]⟩
def la55 : List LA :=
 []
def ja55 : List JA :=
 [⟨55, [false, true], 0, [(AX.normal, ⟨[(2, .bool)], [], 11⟩)]⟩]
def gam55 : List CF :=
 []
def an55 : Anns :=
 ⟨gam55, ja55, []⟩
def G55 : (p : Prim) → (LD × Unit) → Option T2 :=
 fun p x =>
 opt.bnd T2 _ (
 opt.run T2 (
 opt.ask _ (p.cmp .geq (p.ofNat (p.len x.1)) (1 : Int)) (
 opt.ret _ ((p.cmp .leq (p.ofNat (p.len x.1)) (12 : Int)), ())) (
 opt.ret _ (Bool.false, ())))) fun a =>
 opt.ret _ (a.1, ())
theorem ok55 : CtrOk PG ctr55 (G55 std) := okF (a := an55) (l := la55) (gN) (by kernel_rfl) fun _ _ => by kernel_rfl
def ctr56 : Ctr :=
 ⟨56, [.list 2, .int .i64, .int .i64], [], [(.ret, ⟨[(0, .bool)], [], 1⟩)]⟩
def la56 : List LA :=
 [⟨56, [false, true, false, true], 0, ⟨⟨[(0, .list 2), (1, .int .i64), (2, .int .i64), (7, .int .i64)], [], 48⟩, [(AX.ret, ⟨[(6, .bool)], [], 48⟩), ((AX.exit 0), ⟨[], [], 48⟩)]⟩⟩]
def ja56 : List JA :=
 [⟨56, [false, false, false, true, false, false, true, false, true], 0, [(AX.normal, ⟨[(0, .list 2), (1, .int .i64), (2, .int .i64), (7, .int .i64), (47, .bool)], [], 48⟩)]⟩]
def gam56 : List CF :=
 []
def an56 : Anns :=
 ⟨gam56, ja56, []⟩
def b56_1 (p : Prim) : (LD × T7) → Option ((LD × T7) ⊕ T44) :=
 fun a => opt.run _ (
 opt.ask _ (p.cmp .lss a.2.2.2.1 (p.ofNat (p.len a.1))) (
 opt.bnd ((LD × T19)) _ (
 opt.run ((LD × T19)) (
 opt.need _ (p.rowOk a.1 (p.nat a.2.2.2.1) [ci, ci]) <|
 opt.need _ (p.cmp .geq a.2.2.2.1 (0 : Int)) <|
 opt.ask _ (p.cmp .lss (p.rdI a.1 (p.nat a.2.2.2.1) 0) a.2.1) (
 opt.ret _ (a.1, (a.2.1, (a.2.2.1, (a.2.2.2.1, (Bool.true, ())))))) (
 opt.need _ (p.rowOk a.1 (p.nat a.2.2.2.1) [ci, ci]) <|
 opt.need _ (p.cmp .geq a.2.2.2.1 (0 : Int)) <|
 opt.ask _ (p.cmp .gtr (p.rdI a.1 (p.nat a.2.2.2.1) 0) a.2.2.1) (
 opt.ret _ (a.1, (a.2.1, (a.2.2.1, (a.2.2.2.1, (Bool.true, ())))))) (
 opt.need _ (p.rowOk a.1 (p.nat a.2.2.2.1) [ci, ci]) <|
 opt.need _ (p.cmp .geq a.2.2.2.1 (0 : Int)) <|
 opt.ask _ (p.cmp .lss (p.rdI a.1 (p.nat a.2.2.2.1) 1) a.2.1) (
 opt.ret _ (a.1, (a.2.1, (a.2.2.1, (a.2.2.2.1, (Bool.true, ())))))) (
 opt.need _ (p.rowOk a.1 (p.nat a.2.2.2.1) [ci, ci]) <|
 opt.need _ (p.cmp .geq a.2.2.2.1 (0 : Int)) <|
 opt.ret _ (a.1, (a.2.1, (a.2.2.1, (a.2.2.2.1, ((p.cmp .gtr (p.rdI a.1 (p.nat a.2.2.2.1) 1) a.2.2.1), ())))))))))) fun b =>
 opt.ask _ b.2.2.2.2.1 (
 opt.ret _ (Sum.inr (Sum.inl (Bool.false, ())))) (
 opt.ret _ (Sum.inl (b.1, (b.2.1, (b.2.2.1, ((p.ar .add .i64 b.2.2.2.1 (1 : Int)), ()))))))) (
 opt.ret _ (Sum.inr (Sum.inr ()))))
def g56 (it : It) : (p : Prim) → (LD × T3) → Option T2 :=
 fun p x =>
 opt.alt T2 (Unit) _ (
 it _ _ (b56_1 p) (x.1, (x.2.1, (x.2.2.1, ((0 : Int), ()))))) (fun a =>
 opt.ret _ (a.1, ())) (fun b =>
 opt.bnd (Unit) _ (some b) fun c =>
 opt.ret _ (Bool.true, ()))
def G56 := g56 it0
theorem ok56 : CtrOk PG ctr56 (G56 std) := okF (a := an56) (l := la56) (gN) (by kernel_rfl) fun _ _ => by kernel_rfl
def ctr90 : Ctr :=
 ⟨90, [.agg [.int .i64, .int .i64], .agg [.int .i64, .int .i64], .agg [.int .i64, .int .i64]], [], [(.ret, ⟨[(0, .int .i64)], [], 1⟩)]⟩
def la90 : List LA :=
 []
def ja90 : List JA :=
 []
def gam90 : List CF :=
 []
def an90 : Anns :=
 ⟨gam90, ja90, []⟩
def G90 : (p : Prim) → T54 → Option T0 :=
 fun p x =>
 opt.ret _ ((p.ar .sub .i64 (p.ar .mul .i64 (p.ar .sub .i64 x.2.2.1 x.1) (p.ar .sub .i64 x.2.2.2.2.2.1 x.2.1)) (p.ar .mul .i64 (p.ar .sub .i64 x.2.2.2.1 x.2.1) (p.ar .sub .i64 x.2.2.2.2.1 x.1))), ())
theorem ok90 : CtrOk PG ctr90 (G90 std) := okF (a := an90) (l := la90) (gN) (by kernel_rfl) fun _ _ => by kernel_rfl
def ctr91 : Ctr :=
 ⟨91, [.agg [.int .i64, .int .i64], .agg [.int .i64, .int .i64]], [], [(.ret, ⟨[(0, .int .i64)], [], 1⟩)]⟩
def la91 : List LA :=
 []
def ja91 : List JA :=
 []
def gam91 : List CF :=
 []
def an91 : Anns :=
 ⟨gam91, ja91, []⟩
def G91 : (p : Prim) → T11 → Option T0 :=
 fun p x =>
 opt.ret _ ((p.ar .add .i64 (p.ar .mul .i64 (p.ar .sub .i64 x.1 x.2.2.1) (p.ar .sub .i64 x.1 x.2.2.1)) (p.ar .mul .i64 (p.ar .sub .i64 x.2.1 x.2.2.2.1) (p.ar .sub .i64 x.2.1 x.2.2.2.1))), ())
theorem ok91 : CtrOk PG ctr91 (G91 std) := okF (a := an91) (l := la91) (gN) (by kernel_rfl) fun _ _ => by kernel_rfl
def ctr61 : Ctr :=
 ⟨61, [.list 2], [], [(.ret, ⟨[(0, .list 2)], [], 1⟩)]⟩
def la61 : List LA :=
 [⟨61, [false, true, false, true, true], 0, ⟨⟨[(0, .list 2), (3, .bptr 0 0), (4, .int .i64)], [.box [.int .i64, .int .i64]], 119⟩, [((AX.exit 0), ⟨[(0, .list 2), (3, .bptr 0 0)], [.box [.int .i64, .int .i64]], 119⟩)]⟩⟩,
 ⟨61, [false, true, true, true, true], 0, ⟨⟨[(0, .list 2), (3, .bptr 0 0), (5, .sl 1 2)], [.box [.int .i64, .int .i64], .row [ci, ci]], 119⟩, [(AX.ret, ⟨[(2, .sl 0 2)], [.row [ci, ci]], 119⟩)]⟩⟩,
 ⟨61, [false, true, false, true, true, false, false, false, true, true, true, true], 0, ⟨⟨[(0, .list 2), (3, .bptr 0 0), (5, .sl 1 2), (6, .bptr 2 0), (7, .bptr 3 0), (8, .int .i64)], [.box [.int .i64, .int .i64], .row [ci, ci], .box [.int .i64, .int .i64], .box [.int .i64, .int .i64]], 119⟩, [((AX.exit 4), ⟨[(0, .list 2), (3, .bptr 0 0), (5, .sl 1 2), (6, .bptr 2 0), (7, .bptr 3 0)], [.box [.int .i64, .int .i64], .row [ci, ci], .box [.int .i64, .int .i64], .box [.int .i64, .int .i64]], 119⟩)]⟩⟩]
def ja61 : List JA :=
 [⟨61, [false, true, false, false, true, false, true, true], 0, [(AX.normal, ⟨[(0, .list 2), (3, .bptr 0 0), (4, .int .i64)], [.box [.int .i64, .int .i64]], 119⟩)]⟩,
 ⟨61, [false, false, true, true, true, false, false, false, true, true, true, true], 0, [(AX.normal, ⟨[(0, .list 2), (3, .bptr 0 0), (5, .sl 1 2), (7, .bptr 2 0), (113, .bool)], [.box [.int .i64, .int .i64], .row [ci, ci], .box [.int .i64, .int .i64]], 119⟩)]⟩,
 ⟨61, [true, false, false, true, false, false, true, false, true, true], 0, [(AX.normal, ⟨[(0, .list 2), (3, .bptr 0 0), (4, .int .i64)], [.box [.int .i64, .int .i64]], 119⟩)]⟩,
 ⟨61, [false, true, false, false, true, false, true, true, false, false, false, true, true, true, true], 0, [(AX.normal, ⟨[(0, .list 2), (3, .bptr 0 0), (5, .sl 1 2), (6, .bptr 2 0), (7, .bptr 3 0), (8, .int .i64)], [.box [.int .i64, .int .i64], .row [ci, ci], .box [.int .i64, .int .i64], .box [.int .i64, .int .i64]], 119⟩)]⟩,
 ⟨61, [true, true, true, false, false, true, false, false, true, false, true, true, false, false, false, true, true, true, true], 0, [(AX.normal, ⟨[(0, .list 2), (3, .bptr 0 0), (5, .sl 1 2), (6, .bptr 2 0), (7, .bptr 3 0), (8, .int .i64)], [.box [.int .i64, .int .i64], .row [ci, ci], .box [.int .i64, .int .i64], .box [.int .i64, .int .i64]], 119⟩)]⟩]
def gam61 : List CF :=
 [⟨ctr91, G91⟩, ⟨ctr90, G90⟩]
def an61 : Anns :=
 ⟨gam61, ja61, []⟩
def b61_3 (p : Prim) : (LD × T10) → Option ((LD × T10) ⊕ (LD × T55)) :=
 fun a => opt.run _ (
 opt.ask _ (p.cmp .lss a.2.2.2.2.2.2.2.2.2.2.1 (p.ofNat (p.len a.2.2.2.2.2.2.2.1))) (
 opt.bnd ((LD × T10)) _ (
 opt.run ((LD × T10)) (
 opt.need _ (p.rowOk a.2.2.2.2.2.2.2.1 (p.nat a.2.2.2.2.2.2.2.2.2.2.1) [ci, ci]) <|
 opt.need _ (p.cmp .geq a.2.2.2.2.2.2.2.2.2.2.1 (0 : Int)) <|
 opt.ask _ (bif (p.cmp .eql (p.rdI a.2.2.2.2.2.2.2.1 (p.nat a.2.2.2.2.2.2.2.2.2.2.1) 0) a.2.2.2.1) then (bif (p.cmp .eql (p.rdI a.2.2.2.2.2.2.2.1 (p.nat a.2.2.2.2.2.2.2.2.2.2.1) 1) a.2.2.2.2.1) then Bool.true else Bool.false) else Bool.false) (
 opt.ret _ (a.1, (a.2.1, (a.2.2.1, (a.2.2.2.1, (a.2.2.2.2.1, (a.2.2.2.2.2.1, (a.2.2.2.2.2.2.1, (a.2.2.2.2.2.2.2.1, (a.2.2.2.2.2.2.2.2.1, (a.2.2.2.2.2.2.2.2.2.1, (a.2.2.2.2.2.2.2.2.2.2.1, ())))))))))))) (
 opt.need _ (p.rowOk a.2.2.2.2.2.2.2.1 (p.nat a.2.2.2.2.2.2.2.2.2.2.1) [ci, ci]) <|
 opt.need _ (p.cmp .geq a.2.2.2.2.2.2.2.2.2.2.1 (0 : Int)) <|
 opt.bnd T0 _ (G90 p (a.2.2.2.1, (a.2.2.2.2.1, (a.2.2.2.2.2.1, (a.2.2.2.2.2.2.1, ((p.rdI a.2.2.2.2.2.2.2.1 (p.nat a.2.2.2.2.2.2.2.2.2.2.1) 0), ((p.rdI a.2.2.2.2.2.2.2.1 (p.nat a.2.2.2.2.2.2.2.2.2.2.1) 1), ()))))))) fun b =>
 opt.ask _ (bif (p.cmp .eql a.2.2.2.2.2.1 a.2.2.2.1) then (bif (p.cmp .eql a.2.2.2.2.2.2.1 a.2.2.2.2.1) then Bool.true else Bool.false) else Bool.false) (
 opt.bnd ((LD × T10)) _ (
 opt.run ((LD × T10)) (
 opt.need _ (p.rowOk a.2.2.2.2.2.2.2.1 (p.nat a.2.2.2.2.2.2.2.2.2.2.1) [ci, ci]) <|
 opt.need _ (p.cmp .geq a.2.2.2.2.2.2.2.2.2.2.1 (0 : Int)) <|
 opt.ret _ (a.1, (a.2.1, (a.2.2.1, (a.2.2.2.1, (a.2.2.2.2.1, ((p.rdI a.2.2.2.2.2.2.2.1 (p.nat a.2.2.2.2.2.2.2.2.2.2.1) 0), ((p.rdI a.2.2.2.2.2.2.2.1 (p.nat a.2.2.2.2.2.2.2.2.2.2.1) 1), (a.2.2.2.2.2.2.2.1, (a.2.2.2.2.2.2.2.2.1, (a.2.2.2.2.2.2.2.2.2.1, (a.2.2.2.2.2.2.2.2.2.2.1, ()))))))))))))) fun c =>
 opt.ret _ (c.1, (c.2.1, (c.2.2.1, (c.2.2.2.1, (c.2.2.2.2.1, (c.2.2.2.2.2.1, (c.2.2.2.2.2.2.1, (c.2.2.2.2.2.2.2.1, (c.2.2.2.2.2.2.2.2.1, (c.2.2.2.2.2.2.2.2.2.1, (c.2.2.2.2.2.2.2.2.2.2.1, ())))))))))))) (
 opt.ask _ (p.cmp .lss b.1 (0 : Int)) (
 opt.bnd ((LD × T10)) _ (
 opt.run ((LD × T10)) (
 opt.need _ (p.rowOk a.2.2.2.2.2.2.2.1 (p.nat a.2.2.2.2.2.2.2.2.2.2.1) [ci, ci]) <|
 opt.need _ (p.cmp .geq a.2.2.2.2.2.2.2.2.2.2.1 (0 : Int)) <|
 opt.ret _ (a.1, (a.2.1, (a.2.2.1, (a.2.2.2.1, (a.2.2.2.2.1, ((p.rdI a.2.2.2.2.2.2.2.1 (p.nat a.2.2.2.2.2.2.2.2.2.2.1) 0), ((p.rdI a.2.2.2.2.2.2.2.1 (p.nat a.2.2.2.2.2.2.2.2.2.2.1) 1), (a.2.2.2.2.2.2.2.1, (a.2.2.2.2.2.2.2.2.1, (a.2.2.2.2.2.2.2.2.2.1, (a.2.2.2.2.2.2.2.2.2.2.1, ()))))))))))))) fun d =>
 opt.ret _ (d.1, (d.2.1, (d.2.2.1, (d.2.2.2.1, (d.2.2.2.2.1, (d.2.2.2.2.2.1, (d.2.2.2.2.2.2.1, (d.2.2.2.2.2.2.2.1, (d.2.2.2.2.2.2.2.2.1, (d.2.2.2.2.2.2.2.2.2.1, (d.2.2.2.2.2.2.2.2.2.2.1, ())))))))))))) (
 opt.ask _ (p.cmp .eql b.1 (0 : Int)) (
 opt.need _ (p.rowOk a.2.2.2.2.2.2.2.1 (p.nat a.2.2.2.2.2.2.2.2.2.2.1) [ci, ci]) <|
 opt.need _ (p.cmp .geq a.2.2.2.2.2.2.2.2.2.2.1 (0 : Int)) <|
 opt.bnd T0 _ (G91 p (a.2.2.2.1, (a.2.2.2.2.1, ((p.rdI a.2.2.2.2.2.2.2.1 (p.nat a.2.2.2.2.2.2.2.2.2.2.1) 0), ((p.rdI a.2.2.2.2.2.2.2.1 (p.nat a.2.2.2.2.2.2.2.2.2.2.1) 1), ()))))) fun e =>
 opt.bnd T0 _ (G91 p (a.2.2.2.1, (a.2.2.2.2.1, (a.2.2.2.2.2.1, (a.2.2.2.2.2.2.1, ()))))) fun f =>
 opt.bnd ((LD × T10)) _ (
 opt.run ((LD × T10)) (
 opt.ask _ (p.cmp .gtr e.1 f.1) (
 opt.need _ (p.rowOk a.2.2.2.2.2.2.2.1 (p.nat a.2.2.2.2.2.2.2.2.2.2.1) [ci, ci]) <|
 opt.need _ (p.cmp .geq a.2.2.2.2.2.2.2.2.2.2.1 (0 : Int)) <|
 opt.ret _ (a.1, (a.2.1, (a.2.2.1, (a.2.2.2.1, (a.2.2.2.2.1, ((p.rdI a.2.2.2.2.2.2.2.1 (p.nat a.2.2.2.2.2.2.2.2.2.2.1) 0), ((p.rdI a.2.2.2.2.2.2.2.1 (p.nat a.2.2.2.2.2.2.2.2.2.2.1) 1), (a.2.2.2.2.2.2.2.1, (a.2.2.2.2.2.2.2.2.1, (a.2.2.2.2.2.2.2.2.2.1, (a.2.2.2.2.2.2.2.2.2.2.1, ())))))))))))) (
 opt.ret _ (a.1, (a.2.1, (a.2.2.1, (a.2.2.2.1, (a.2.2.2.2.1, (a.2.2.2.2.2.1, (a.2.2.2.2.2.2.1, (a.2.2.2.2.2.2.2.1, (a.2.2.2.2.2.2.2.2.1, (a.2.2.2.2.2.2.2.2.2.1, (a.2.2.2.2.2.2.2.2.2.2.1, ())))))))))))))) fun g =>
 opt.ret _ (g.1, (g.2.1, (g.2.2.1, (g.2.2.2.1, (g.2.2.2.2.1, (g.2.2.2.2.2.1, (g.2.2.2.2.2.2.1, (g.2.2.2.2.2.2.2.1, (g.2.2.2.2.2.2.2.2.1, (g.2.2.2.2.2.2.2.2.2.1, (g.2.2.2.2.2.2.2.2.2.2.1, ())))))))))))) (
 opt.bnd ((LD × T10)) _ (
 opt.run ((LD × T10)) (
 opt.ret _ (a.1, (a.2.1, (a.2.2.1, (a.2.2.2.1, (a.2.2.2.2.1, (a.2.2.2.2.2.1, (a.2.2.2.2.2.2.1, (a.2.2.2.2.2.2.2.1, (a.2.2.2.2.2.2.2.2.1, (a.2.2.2.2.2.2.2.2.2.1, (a.2.2.2.2.2.2.2.2.2.2.1, ()))))))))))))) fun h =>
 opt.ret _ (h.1, (h.2.1, (h.2.2.1, (h.2.2.2.1, (h.2.2.2.2.1, (h.2.2.2.2.2.1, (h.2.2.2.2.2.2.1, (h.2.2.2.2.2.2.2.1, (h.2.2.2.2.2.2.2.2.1, (h.2.2.2.2.2.2.2.2.2.1, (h.2.2.2.2.2.2.2.2.2.2.1, ()))))))))))))))))) fun i =>
 opt.ret _ (Sum.inl (i.1, (i.2.1, (i.2.2.1, (i.2.2.2.1, (i.2.2.2.2.1, (i.2.2.2.2.2.1, (i.2.2.2.2.2.2.1, (i.2.2.2.2.2.2.2.1, (i.2.2.2.2.2.2.2.2.1, (i.2.2.2.2.2.2.2.2.2.1, ((p.ar .add .i64 i.2.2.2.2.2.2.2.2.2.2.1 (1 : Int)), ()))))))))))))) (
 opt.ret _ (Sum.inr (a.1, (a.2.1, (a.2.2.1, (a.2.2.2.1, (a.2.2.2.2.1, (a.2.2.2.2.2.1, (a.2.2.2.2.2.2.1, (a.2.2.2.2.2.2.2.1, (a.2.2.2.2.2.2.2.2.1, (a.2.2.2.2.2.2.2.2.2.1, ())))))))))))))
def c61_2 (it : It) (p : Prim) : (LD × T56) → Option ((LD × T56) ⊕ (LD × T16)) :=
 fun a => opt.run _ (
 opt.need _ (bif (p.cmp .geq (p.ar .sub .i64 (p.ofNat a.2.2.2.2.2.1) (1 : Int)) (0 : Int)) then (p.cmp .lss (p.ar .sub .i64 (p.ofNat a.2.2.2.2.2.1) (1 : Int)) (p.ofNat a.2.2.2.2.2.1)) else Bool.false) <|
 opt.need _ (p.rowOk a.1 (p.add a.2.2.2.2.1 (p.nat (p.ar .sub .i64 (p.ofNat a.2.2.2.2.2.1) (1 : Int)))) [ci, ci]) <|
 opt.bnd ((LD × T55)) _ (
 it _ _ (b61_3 p) (a.1, (a.2.1, (a.2.2.1, ((p.rdI a.1 (p.add a.2.2.2.2.1 (p.nat (p.ar .sub .i64 (p.ofNat a.2.2.2.2.2.1) (1 : Int)))) 0), ((p.rdI a.1 (p.add a.2.2.2.2.1 (p.nat (p.ar .sub .i64 (p.ofNat a.2.2.2.2.2.1) (1 : Int)))) 1), ((p.rdI a.1 (p.add a.2.2.2.2.1 (p.nat (p.ar .sub .i64 (p.ofNat a.2.2.2.2.2.1) (1 : Int)))) 0), ((p.rdI a.1 (p.add a.2.2.2.2.1 (p.nat (p.ar .sub .i64 (p.ofNat a.2.2.2.2.2.1) (1 : Int)))) 1), (a.2.2.2.1, (a.2.2.2.2.1, (a.2.2.2.2.2.1, ((0 : Int), ())))))))))))) fun b =>
 opt.bnd ((LD × T57)) _ (
 opt.run ((LD × T57)) (
 opt.ask _ (bif (p.cmp .eql b.2.2.2.2.2.1 b.2.1) then (bif (p.cmp .eql b.2.2.2.2.2.2.1 b.2.2.1) then Bool.true else Bool.false) else Bool.false) (
 opt.ret _ (b.1, (b.2.1, (b.2.2.1, (b.2.2.2.2.2.1, (b.2.2.2.2.2.2.1, (b.2.2.2.2.2.2.2.1, (b.2.2.2.2.2.2.2.2.1, (b.2.2.2.2.2.2.2.2.2.1, (Bool.true, ())))))))))) (
 opt.ret _ (b.1, (b.2.1, (b.2.2.1, (b.2.2.2.2.2.1, (b.2.2.2.2.2.2.1, (b.2.2.2.2.2.2.2.1, (b.2.2.2.2.2.2.2.2.1, (b.2.2.2.2.2.2.2.2.2.1, ((bif (p.cmp .eql b.2.2.2.2.2.1 b.2.2.2.1) then (bif (p.cmp .eql b.2.2.2.2.2.2.1 b.2.2.2.2.1) then Bool.true else Bool.false) else Bool.false), ())))))))))))) fun c =>
 opt.ask _ c.2.2.2.2.2.2.2.2.1 (
 opt.ret _ (Sum.inr (c.1, (c.2.2.2.2.2.2.1, (c.2.2.2.2.2.2.2.1, ()))))) (
 opt.need _ (p.and (p.leN (p.add 0 1) (p.len [[(D.int .i64 c.2.2.2.1), (D.int .i64 c.2.2.2.2.1)]])) (p.and (p.leN (p.add c.2.2.2.2.2.2.1 c.2.2.2.2.2.2.2.1) (p.len c.1)) (p.and (p.leN 1 1) (p.leN (p.add c.2.2.2.2.2.2.2.1 1) 1000000)))) <|
 opt.ret _ (Sum.inl ((p.app (p.cut c.1 c.2.2.2.2.2.2.1 c.2.2.2.2.2.2.2.1) (p.cut [[(D.int .i64 c.2.2.2.1), (D.int .i64 c.2.2.2.2.1)]] 0 1)), (c.2.1, (c.2.2.1, (c.2.2.2.2.2.1, (0, ((p.add c.2.2.2.2.2.2.2.1 1), ())))))))))
def b61_1 (p : Prim) : (Int × (Int × (LD × (Int × Unit)))) → Option ((Int × (Int × (LD × (Int × Unit)))) ⊕ (Int × (Int × (LD × Unit)))) :=
 fun a => opt.run _ (
 opt.ask _ (p.cmp .lss a.2.2.2.1 (p.ofNat (p.len a.2.2.1))) (
 opt.bnd T13 _ (
 opt.run T13 (
 opt.need _ (p.rowOk a.2.2.1 (p.nat a.2.2.2.1) [ci, ci]) <|
 opt.need _ (p.cmp .geq a.2.2.2.1 (0 : Int)) <|
 opt.ask _ (p.cmp .lss (p.rdI a.2.2.1 (p.nat a.2.2.2.1) 0) a.1) (
 opt.bnd T13 _ (
 opt.run T13 (
 opt.need _ (p.rowOk a.2.2.1 (p.nat a.2.2.2.1) [ci, ci]) <|
 opt.need _ (p.cmp .geq a.2.2.2.1 (0 : Int)) <|
 opt.ret _ ((p.rdI a.2.2.1 (p.nat a.2.2.2.1) 0), ((p.rdI a.2.2.1 (p.nat a.2.2.2.1) 1), (a.2.2.1, (a.2.2.2.1, ())))))) fun b =>
 opt.ret _ (b.1, (b.2.1, (b.2.2.1, (b.2.2.2.1, ()))))) (
 opt.need _ (p.rowOk a.2.2.1 (p.nat a.2.2.2.1) [ci, ci]) <|
 opt.need _ (p.cmp .geq a.2.2.2.1 (0 : Int)) <|
 opt.ask _ (p.cmp .eql (p.rdI a.2.2.1 (p.nat a.2.2.2.1) 0) a.1) (
 opt.need _ (p.rowOk a.2.2.1 (p.nat a.2.2.2.1) [ci, ci]) <|
 opt.need _ (p.cmp .geq a.2.2.2.1 (0 : Int)) <|
 opt.bnd T13 _ (
 opt.run T13 (
 opt.ask _ (p.cmp .lss (p.rdI a.2.2.1 (p.nat a.2.2.2.1) 1) a.2.1) (
 opt.need _ (p.rowOk a.2.2.1 (p.nat a.2.2.2.1) [ci, ci]) <|
 opt.need _ (p.cmp .geq a.2.2.2.1 (0 : Int)) <|
 opt.ret _ ((p.rdI a.2.2.1 (p.nat a.2.2.2.1) 0), ((p.rdI a.2.2.1 (p.nat a.2.2.2.1) 1), (a.2.2.1, (a.2.2.2.1, ()))))) (
 opt.ret _ (a.1, (a.2.1, (a.2.2.1, (a.2.2.2.1, ()))))))) fun c =>
 opt.ret _ (c.1, (c.2.1, (c.2.2.1, (c.2.2.2.1, ()))))) (
 opt.bnd T13 _ (
 opt.run T13 (
 opt.ret _ (a.1, (a.2.1, (a.2.2.1, (a.2.2.2.1, ())))))) fun d =>
 opt.ret _ (d.1, (d.2.1, (d.2.2.1, (d.2.2.2.1, ())))))))) fun e =>
 opt.ret _ (Sum.inl (e.1, (e.2.1, (e.2.2.1, ((p.ar .add .i64 e.2.2.2.1 (1 : Int)), ())))))) (
 opt.ret _ (Sum.inr (a.1, (a.2.1, (a.2.2.1, ()))))))
def g61 (it : It) : (p : Prim) → (LD × Unit) → Option ((LD × Unit)) :=
 fun p x =>
 opt.need _ (p.rowOk x.1 (p.nat (0 : Int)) [ci, ci]) <|
 opt.bnd T21 _ (
 it _ _ (b61_1 p) ((p.rdI x.1 (p.nat (0 : Int)) 0), ((p.rdI x.1 (p.nat (0 : Int)) 1), (x.1, ((1 : Int), ()))))) fun a =>
 opt.need _ (p.leN (p.add 0 1) (p.len [[(D.int .i64 a.1), (D.int .i64 a.2.1)]])) <|
 opt.bnd ((LD × T16)) _ (
 it _ _ (c61_2 it p) ([[(D.int .i64 a.1), (D.int .i64 a.2.1)]], (a.1, (a.2.1, (a.2.2.1, (0, (1, ()))))))) fun b =>
 opt.need _ (p.leN (p.add b.2.1 b.2.2.1) (p.len b.1)) <|
 opt.ret _ ((p.cut b.1 b.2.1 b.2.2.1), ())
def G61 := g61 it0
theorem ok61 : CtrOk PG ctr61 (G61 std) := okF (a := an61) (l := la61) (gC ok91 (gC ok90 (gN))) (by kernel_rfl) fun _ _ => by kernel_rfl
def ctr19 : Ctr :=
 ⟨19, [.agg [.list 2, .list 1]], [], [(.ret, ⟨[(0, .int .i64)], [], 1⟩)]⟩
def la19 : List LA :=
 [⟨19, [false, true, false, true, true], 0, ⟨⟨[(1, .bptr 0 0), (3, .int .i64)], [.box [.list 2, .list 1]], 47⟩, [(AX.ret, ⟨[(2, .int .i64)], [], 47⟩), ((AX.exit 0), ⟨[(1, .bptr 0 0)], [.box [.list 2, .list 1]], 47⟩)]⟩⟩,
 ⟨19, [false, true, false, true, true, true, true], 0, ⟨⟨[(1, .bptr 0 0), (4, .int .i64)], [.box [.list 2, .list 1]], 47⟩, [(AX.ret, ⟨[(2, .int .i64)], [], 47⟩), ((AX.exit 2), ⟨[], [], 47⟩)]⟩⟩]
def ja19 : List JA :=
 [⟨19, [false, false, true], 0, [(AX.normal, ⟨[(1, .bptr 0 0), (14, .bool)], [.box [.list 2, .list 1]], 47⟩)]⟩]
def gam19 : List CF :=
 [⟨ctr56, G56⟩, ⟨ctr55, G55⟩]
def an19 : Anns :=
 ⟨gam19, ja19, []⟩
def c19_2 (it : It) (p : Prim) : (LD × (LD × T1)) → Option ((LD × (LD × T1)) ⊕ ((Int × Unit) ⊕ Unit)) :=
 fun a => opt.run _ (
 opt.ask _ (p.cmp .lss a.2.2.1 (p.ofNat (p.len a.2.1))) (
 opt.need _ (p.rowOk a.2.1 (p.nat a.2.2.1) [(CK.list 2)]) <|
 opt.need _ (p.cmp .geq a.2.2.1 (0 : Int)) <|
 opt.bnd T2 _ (g56 it p ((p.rdL a.2.1 (p.nat a.2.2.1) 0), ((-1000 : Int), ((1000 : Int), ())))) fun b =>
 opt.ask _ (bif b.1 then Bool.false else Bool.true) (
 opt.ret _ (Sum.inr (Sum.inl ((3 : Int), ())))) (
 opt.ret _ (Sum.inl (a.1, (a.2.1, ((p.ar .add .i64 a.2.2.1 (1 : Int)), ())))))) (
 opt.ret _ (Sum.inr (Sum.inr ()))))
def b19_1 (p : Prim) : (LD × (LD × T1)) → Option ((LD × (LD × T1)) ⊕ ((Int × Unit) ⊕ (LD × (LD × Unit)))) :=
 fun a => opt.run _ (
 opt.ask _ (p.cmp .lss a.2.2.1 (p.ofNat (p.len a.2.1))) (
 opt.need _ (p.rowOk a.2.1 (p.nat a.2.2.1) [(CK.list 2)]) <|
 opt.need _ (p.cmp .geq a.2.2.1 (0 : Int)) <|
 opt.bnd T2 _ (G55 p ((p.rdL a.2.1 (p.nat a.2.2.1) 0), ())) fun b =>
 opt.ask _ (bif b.1 then Bool.false else Bool.true) (
 opt.ret _ (Sum.inr (Sum.inl ((6 : Int), ())))) (
 opt.ret _ (Sum.inl (a.1, (a.2.1, ((p.ar .add .i64 a.2.2.1 (1 : Int)), ())))))) (
 opt.ret _ (Sum.inr (Sum.inr (a.1, (a.2.1, ()))))))
def g19 (it : It) : (p : Prim) → (LD × (LD × Unit)) → Option T0 :=
 fun p x =>
 opt.bnd ((LD × (LD × T18))) _ (
 opt.run ((LD × (LD × T18))) (
 opt.bnd T2 _ (G55 p (x.1, ())) fun a =>
 opt.ask _ (bif a.1 then Bool.false else Bool.true) (
 opt.ret _ (x.1, (x.2.1, (Bool.true, ())))) (
 opt.ret _ (x.1, (x.2.1, ((p.cmp .gtr (p.ofNat (p.len x.2.1)) (4 : Int)), ())))))) fun b =>
 opt.ask _ b.2.2.1 (
 opt.ret _ ((6 : Int), ())) (
 opt.alt T0 ((LD × (LD × Unit))) _ (
 it _ _ (b19_1 p) (b.1, (b.2.1, ((0 : Int), ())))) (fun c =>
 opt.ret _ (c.1, ())) (fun d =>
 opt.bnd ((LD × (LD × Unit))) _ (some d) fun e =>
 opt.bnd T2 _ (g56 it p (e.1, ((0 : Int), ((1000 : Int), ())))) fun f =>
 opt.ask _ (bif f.1 then Bool.false else Bool.true) (
 opt.ret _ ((3 : Int), ())) (
 opt.alt T0 (Unit) _ (
 it _ _ (c19_2 it p) (e.1, (e.2.1, ((0 : Int), ())))) (fun g =>
 opt.ret _ (g.1, ())) (fun h =>
 opt.bnd (Unit) _ (some h) fun i =>
 opt.ret _ ((0 : Int), ())))))
def G19 := g19 it0
theorem ok19 : CtrOk PG ctr19 (G19 std) := okF (a := an19) (l := la19) (gC ok56 (gC ok55 (gN))) (by kernel_rfl) fun _ _ => by kernel_rfl
def ctr43 : Ctr :=
 ⟨43, [.list 2, .agg [.int .i64, .int .i64, .int .i64]], [], [(.ret, ⟨[(0, .bool)], [], 1⟩)]⟩
def la43 : List LA :=
 [⟨43, [false, true, false, true, true], 0, ⟨⟨[(0, .list 2), (3, .bptr 0 0), (5, .int .i64), (6, .int .i64)], [.box [.int .i64, .int .i64, .int .i64]], 91⟩, [(AX.ret, ⟨[(4, .bool)], [], 91⟩), ((AX.exit 0), ⟨[], [], 91⟩)]⟩⟩]
def ja43 : List JA :=
 [⟨43, [false, true, false, false, true, false, true, true], 0, [(AX.ret, ⟨[(4, .bool)], [], 91⟩), (AX.normal, ⟨[(0, .list 2), (3, .bptr 0 0), (5, .int .i64), (6, .int .i64)], [.box [.int .i64, .int .i64, .int .i64]], 91⟩)]⟩,
 ⟨43, [false, false, true, false, true, true, false, false, true, false, false, true, false, true, true], 0, [(AX.normal, ⟨[(4, .bool)], [], 91⟩)]⟩,
 ⟨43, [false, true, true, true, true, true, false, false, true, false, false, true, false, true, true], 0, [(AX.normal, ⟨[(0, .list 2), (3, .bptr 0 0), (5, .int .i64), (6, .int .i64), (90, .bool)], [.box [.int .i64, .int .i64, .int .i64]], 91⟩)]⟩]
def gam43 : List CF :=
 []
def an43 : Anns :=
 ⟨gam43, ja43, []⟩
def b43_1 (p : Prim) : T45 → Option ((Int × (Int × (Int × (LD × (Int × (Int × Unit)))))) ⊕ ((Bool × Unit) ⊕ Unit)) :=
 fun a => opt.run _ (
 opt.ask _ (p.cmp .lss a.2.2.2.2.2.1 a.2.2.2.2.1) (
 opt.alt T2 T58 _ (
 opt.run (((Bool × Unit) ⊕ (Int × (Int × (Int × (LD × (Int × (Int × Unit)))))))) (
 opt.need _ (p.rowOk a.2.2.2.1 (p.nat a.2.2.2.2.2.1) [ci, ci]) <|
 opt.need _ (p.cmp .geq a.2.2.2.2.2.1 (0 : Int)) <|
 opt.need _ (p.cmp .neq a.2.2.2.2.1 (0 : Int)) <|
 opt.need _ (p.rowOk a.2.2.2.1 (p.nat (p.ar .rem .i64 (p.ar .add .i64 a.2.2.2.2.2.1 (1 : Int)) a.2.2.2.2.1)) [ci, ci]) <|
 opt.need _ (p.cmp .geq (p.ar .rem .i64 (p.ar .add .i64 a.2.2.2.2.2.1 (1 : Int)) a.2.2.2.2.1) (0 : Int)) <|
 opt.ask _ (p.cmp .eql a.2.2.2.2.1 (1 : Int)) (
 opt.bnd T2 _ (
 opt.run T2 (
 opt.ask _ (p.cmp .eql (p.ar .sub .i64 a.1 (p.ar .mul .i64 (p.rdI a.2.2.2.1 (p.nat a.2.2.2.2.2.1) 0) a.2.2.1)) (0 : Int)) (
 opt.ret _ ((p.cmp .eql (p.ar .sub .i64 a.2.1 (p.ar .mul .i64 (p.rdI a.2.2.2.1 (p.nat a.2.2.2.2.2.1) 1) a.2.2.1)) (0 : Int)), ())) (
 opt.ret _ (Bool.false, ())))) fun b =>
 opt.ret _ (Sum.inl (b.1, ()))) (
 opt.ask _ (p.cmp .lss (p.ar .sub .i64 (p.ar .mul .i64 (p.ar .sub .i64 (p.rdI a.2.2.2.1 (p.nat (p.ar .rem .i64 (p.ar .add .i64 a.2.2.2.2.2.1 (1 : Int)) a.2.2.2.2.1)) 0) (p.rdI a.2.2.2.1 (p.nat a.2.2.2.2.2.1) 0)) (p.ar .sub .i64 a.2.1 (p.ar .mul .i64 (p.rdI a.2.2.2.1 (p.nat a.2.2.2.2.2.1) 1) a.2.2.1))) (p.ar .mul .i64 (p.ar .sub .i64 (p.rdI a.2.2.2.1 (p.nat (p.ar .rem .i64 (p.ar .add .i64 a.2.2.2.2.2.1 (1 : Int)) a.2.2.2.2.1)) 1) (p.rdI a.2.2.2.1 (p.nat a.2.2.2.2.2.1) 1)) (p.ar .sub .i64 a.1 (p.ar .mul .i64 (p.rdI a.2.2.2.1 (p.nat a.2.2.2.2.2.1) 0) a.2.2.1)))) (0 : Int)) (
 opt.ret _ (Sum.inl (Bool.false, ()))) (
 opt.bnd T59 _ (
 opt.run T59 (
 opt.ask _ (p.cmp .eql a.2.2.2.2.1 (2 : Int)) (
 opt.ret _ (a.1, (a.2.1, (a.2.2.1, (a.2.2.2.1, (a.2.2.2.2.1, (a.2.2.2.2.2.1, ((p.cmp .lss (p.ar .add .i64 (p.ar .mul .i64 (p.ar .sub .i64 (p.rdI a.2.2.2.1 (p.nat (p.ar .rem .i64 (p.ar .add .i64 a.2.2.2.2.2.1 (1 : Int)) a.2.2.2.2.1)) 0) (p.rdI a.2.2.2.1 (p.nat a.2.2.2.2.2.1) 0)) (p.ar .sub .i64 a.1 (p.ar .mul .i64 (p.rdI a.2.2.2.1 (p.nat a.2.2.2.2.2.1) 0) a.2.2.1))) (p.ar .mul .i64 (p.ar .sub .i64 (p.rdI a.2.2.2.1 (p.nat (p.ar .rem .i64 (p.ar .add .i64 a.2.2.2.2.2.1 (1 : Int)) a.2.2.2.2.1)) 1) (p.rdI a.2.2.2.1 (p.nat a.2.2.2.2.2.1) 1)) (p.ar .sub .i64 a.2.1 (p.ar .mul .i64 (p.rdI a.2.2.2.1 (p.nat a.2.2.2.2.2.1) 1) a.2.2.1)))) (0 : Int)), ())))))))) (
 opt.ret _ (a.1, (a.2.1, (a.2.2.1, (a.2.2.2.1, (a.2.2.2.2.1, (a.2.2.2.2.2.1, (Bool.false, ())))))))))) fun c =>
 opt.ask _ c.2.2.2.2.2.2.1 (
 opt.ret _ (Sum.inl (Bool.false, ()))) (
 opt.ret _ (Sum.inr (c.1, (c.2.1, (c.2.2.1, (c.2.2.2.1, (c.2.2.2.2.1, (c.2.2.2.2.2.1, ())))))))))))) (fun d =>
 opt.ret _ (Sum.inr (Sum.inl (d.1, ())))) (fun e =>
 opt.bnd T58 _ (some e) fun f =>
 opt.ret _ (Sum.inl (f.1, (f.2.1, (f.2.2.1, (f.2.2.2.1, (f.2.2.2.2.1, ((p.ar .add .i64 f.2.2.2.2.2.1 (1 : Int)), ()))))))))) (
 opt.ret _ (Sum.inr (Sum.inr ()))))
def g43 (it : It) : (p : Prim) → (LD × T7) → Option T2 :=
 fun p x =>
 opt.alt T2 (Unit) _ (
 it _ _ (b43_1 p) (x.2.1, (x.2.2.1, (x.2.2.2.1, (x.1, ((p.ofNat (p.len x.1)), ((0 : Int), ()))))))) (fun a =>
 opt.ret _ (a.1, ())) (fun b =>
 opt.bnd (Unit) _ (some b) fun c =>
 opt.ret _ (Bool.true, ()))
def G43 := g43 it0
theorem ok43 : CtrOk PG ctr43 (G43 std) := okF (a := an43) (l := la43) (gN) (by kernel_rfl) fun _ _ => by kernel_rfl
def ctr49 : Ctr :=
 ⟨49, [.agg [.list 2, .list 1]], [], [(.ret, ⟨[(0, .list 2)], [], 1⟩)]⟩
def la49 : List LA :=
 [⟨49, [false, true, false, true, true], 0, ⟨⟨[(1, .bptr 0 0), (3, .list 2), (4, .int .i64)], [.box [.list 2, .list 1]], 27⟩, [((AX.exit 0), ⟨[(3, .list 2)], [], 27⟩)]⟩⟩,
 ⟨45, [false, true, false, true, true], 2, ⟨⟨[(1, .bptr 2 0), (3, .list 2), (4, .int .i64)], [.box [.list 2, .list 1], .row [(CK.list 2)], .box [.list 2, .full 1 1]], 51⟩, [((AX.exit 0), ⟨[(3, .list 2)], [.box [.list 2, .list 1], .row [(CK.list 2)]], 51⟩)]⟩⟩,
 ⟨45, [false, true, false, true, false, false, true, false, false, true, false, true, true], 2, ⟨⟨[(1, .bptr 2 0), (3, .list 2), (4, .int .i64), (5, .vec 3 2), (6, .int .i64)], [.box [.list 2, .list 1], .row [(CK.list 2)], .box [.list 2, .full 1 1], .row [ci, ci]], 51⟩, [((AX.exit 2), ⟨[(1, .bptr 2 0), (4, .int .i64), (5, .vec 3 2)], [.box [.list 2, .list 1], .row [(CK.list 2)], .box [.list 2, .full 1 1], .row [ci, ci]], 51⟩)]⟩⟩,
 ⟨45, [false, true, false, false, true, false, false, true, false, true, false, false, true, false, false, true, false, true, true], 2, ⟨⟨[(1, .bptr 2 0), (3, .list 2), (4, .int .i64), (5, .vec 3 2), (6, .int .i64), (7, .int .i64)], [.box [.list 2, .list 1], .row [(CK.list 2)], .box [.list 2, .full 1 1], .row [ci, ci]], 51⟩, [((AX.exit 4), ⟨[(1, .bptr 2 0), (3, .list 2), (4, .int .i64), (5, .vec 3 2), (6, .int .i64)], [.box [.list 2, .list 1], .row [(CK.list 2)], .box [.list 2, .full 1 1], .row [ci, ci]], 51⟩)]⟩⟩]
def ja49 : List JA :=
 []
def gam49 : List CF :=
 [⟨ctr61, G61⟩]
def an49 : Anns :=
 ⟨gam49, ja49, []⟩
def b49_4 (p : Prim) : (LD × (LD × (LD × (LD × (LD × (LD × T7)))))) → Option ((LD × (LD × (LD × (LD × (LD × (LD × T7)))))) ⊕ (LD × (LD × (LD × (LD × (LD × (LD × T3))))))) :=
 fun a => opt.run _ (
 opt.need _ (bif (p.cmp .geq a.2.2.2.2.2.2.1 (0 : Int)) then (p.cmp .lss a.2.2.2.2.2.2.1 (p.ofNat (p.len a.1))) else Bool.false) <|
 opt.need _ (p.rowOk a.1 (p.add 0 (p.nat a.2.2.2.2.2.2.1)) [(CK.list 2)]) <|
 opt.ask _ (p.cmp .lss a.2.2.2.2.2.2.2.2.1 (p.ofNat (p.len (p.rdL a.1 (p.add 0 (p.nat a.2.2.2.2.2.2.1)) 0)))) (
 opt.need _ (p.rowOk a.2.2.2.2.2.1 (p.nat a.2.2.2.2.2.2.2.1) [ci, ci]) <|
 opt.need _ (p.cmp .geq a.2.2.2.2.2.2.2.1 (0 : Int)) <|
 opt.need _ (bif (p.cmp .geq a.2.2.2.2.2.2.1 (0 : Int)) then (p.cmp .lss a.2.2.2.2.2.2.1 (p.ofNat (p.len a.1))) else Bool.false) <|
 opt.need _ (p.rowOk a.1 (p.add 0 (p.nat a.2.2.2.2.2.2.1)) [(CK.list 2)]) <|
 opt.need _ (p.rowOk (p.rdL a.1 (p.add 0 (p.nat a.2.2.2.2.2.2.1)) 0) (p.nat a.2.2.2.2.2.2.2.2.1) [ci, ci]) <|
 opt.need _ (p.cmp .geq a.2.2.2.2.2.2.2.2.1 (0 : Int)) <|
 opt.need _ (p.and (p.leN (p.add 0 1) (p.len [[(D.int .i64 (p.ar .add .i64 (p.rdI a.2.2.2.2.2.1 (p.nat a.2.2.2.2.2.2.2.1) 0) (p.rdI (p.rdL a.1 (p.add 0 (p.nat a.2.2.2.2.2.2.1)) 0) (p.nat a.2.2.2.2.2.2.2.2.1) 0))), (D.int .i64 (p.ar .add .i64 (p.rdI a.2.2.2.2.2.1 (p.nat a.2.2.2.2.2.2.2.1) 1) (p.rdI (p.rdL a.1 (p.add 0 (p.nat a.2.2.2.2.2.2.1)) 0) (p.nat a.2.2.2.2.2.2.2.2.1) 1)))]])) (p.and (p.leN (p.add 0 (p.len a.2.1)) (p.len a.2.1)) (p.and (p.leN 1 1) (p.leN (p.add (p.len a.2.1) 1) 1000000)))) <|
 opt.need _ (p.eqN 0 0) <|
 opt.need _ (p.eqN (p.len a.1) (p.len a.1)) <|
 opt.need _ (p.eqN (p.len a.1) (p.len a.1)) <|
 opt.need _ (p.eqN 0 0) <|
 opt.need _ (p.eqN (p.add (p.len a.2.1) 1) (p.len (p.app (p.cut a.2.1 0 (p.len a.2.1)) (p.cut [[(D.int .i64 (p.ar .add .i64 (p.rdI a.2.2.2.2.2.1 (p.nat a.2.2.2.2.2.2.2.1) 0) (p.rdI (p.rdL a.1 (p.add 0 (p.nat a.2.2.2.2.2.2.1)) 0) (p.nat a.2.2.2.2.2.2.2.2.1) 0))), (D.int .i64 (p.ar .add .i64 (p.rdI a.2.2.2.2.2.1 (p.nat a.2.2.2.2.2.2.2.1) 1) (p.rdI (p.rdL a.1 (p.add 0 (p.nat a.2.2.2.2.2.2.1)) 0) (p.nat a.2.2.2.2.2.2.2.2.1) 1)))]] 0 1)))) <|
 opt.ret _ (Sum.inl (a.1, ((p.app (p.cut a.2.1 0 (p.len a.2.1)) (p.cut [[(D.int .i64 (p.ar .add .i64 (p.rdI a.2.2.2.2.2.1 (p.nat a.2.2.2.2.2.2.2.1) 0) (p.rdI (p.rdL a.1 (p.add 0 (p.nat a.2.2.2.2.2.2.1)) 0) (p.nat a.2.2.2.2.2.2.2.2.1) 0))), (D.int .i64 (p.ar .add .i64 (p.rdI a.2.2.2.2.2.1 (p.nat a.2.2.2.2.2.2.2.1) 1) (p.rdI (p.rdL a.1 (p.add 0 (p.nat a.2.2.2.2.2.2.1)) 0) (p.nat a.2.2.2.2.2.2.2.2.1) 1)))]] 0 1)), (a.2.2.1, (a.2.2.2.1, (a.2.2.2.2.1, (a.2.2.2.2.2.1, (a.2.2.2.2.2.2.1, (a.2.2.2.2.2.2.2.1, ((p.ar .add .i64 a.2.2.2.2.2.2.2.2.1 (1 : Int)), ()))))))))))) (
 opt.need _ (p.eqN 0 0) <|
 opt.need _ (p.eqN (p.len a.1) (p.len a.1)) <|
 opt.need _ (p.eqN (p.len a.1) (p.len a.1)) <|
 opt.need _ (p.eqN 0 0) <|
 opt.need _ (p.eqN (p.len a.2.1) (p.len a.2.1)) <|
 opt.ret _ (Sum.inr (a.1, (a.2.1, (a.2.2.1, (a.2.2.2.1, (a.2.2.2.2.1, (a.2.2.2.2.2.1, (a.2.2.2.2.2.2.1, (a.2.2.2.2.2.2.2.1, ())))))))))))
def c49_3 (it : It) (p : Prim) : (LD × (LD × (LD × (LD × (LD × (LD × T3)))))) → Option ((LD × (LD × (LD × (LD × (LD × (LD × T3)))))) ⊕ (LD × (LD × (LD × (LD × (LD × T1)))))) :=
 fun a => opt.run _ (
 opt.ask _ (p.cmp .lss a.2.2.2.2.2.2.2.1 (p.ofNat (p.len a.2.2.2.2.2.1))) (
 opt.need _ (p.eqN 0 0) <|
 opt.need _ (p.eqN (p.len a.1) (p.len a.1)) <|
 opt.need _ (p.eqN (p.len a.1) (p.len a.1)) <|
 opt.need _ (p.eqN 0 0) <|
 opt.need _ (p.eqN (p.len a.2.1) (p.len a.2.1)) <|
 opt.bnd ((LD × (LD × (LD × (LD × (LD × (LD × T3))))))) _ (
 it _ _ (b49_4 p) (a.1, (a.2.1, (a.2.2.1, (a.2.2.2.1, (a.2.2.2.2.1, (a.2.2.2.2.2.1, (a.2.2.2.2.2.2.1, (a.2.2.2.2.2.2.2.1, ((0 : Int), ())))))))))) fun b =>
 opt.need _ (p.eqN 0 0) <|
 opt.need _ (p.eqN (p.len b.1) (p.len b.1)) <|
 opt.need _ (p.eqN (p.len b.1) (p.len b.1)) <|
 opt.need _ (p.eqN 0 0) <|
 opt.need _ (p.eqN (p.len b.2.1) (p.len b.2.1)) <|
 opt.ret _ (Sum.inl (b.1, (b.2.1, (b.2.2.1, (b.2.2.2.1, (b.2.2.2.2.1, (b.2.2.2.2.2.1, (b.2.2.2.2.2.2.1, ((p.ar .add .i64 b.2.2.2.2.2.2.2.1 (1 : Int)), ())))))))))) (
 opt.need _ (p.eqN 0 0) <|
 opt.need _ (p.eqN (p.len a.1) (p.len a.1)) <|
 opt.need _ (p.eqN (p.len a.1) (p.len a.1)) <|
 opt.need _ (p.eqN 0 0) <|
 opt.need _ (p.eqN (p.len a.2.1) (p.len a.2.1)) <|
 opt.ret _ (Sum.inr (a.1, (a.2.1, (a.2.2.1, (a.2.2.2.1, (a.2.2.2.2.1, (a.2.2.2.2.2.2.1, ())))))))))
def c49_2 (it : It) (p : Prim) : (LD × (LD × (LD × (LD × (LD × T1))))) → Option ((LD × (LD × (LD × (LD × (LD × T1))))) ⊕ (LD × (LD × (LD × (LD × Unit))))) :=
 fun a => opt.run _ (
 opt.ask _ (p.cmp .lss a.2.2.2.2.2.1 (p.ofNat (p.len a.1))) (
 opt.need _ (p.eqN 0 0) <|
 opt.need _ (p.eqN (p.len a.1) (p.len a.1)) <|
 opt.need _ (p.eqN (p.len a.1) (p.len a.1)) <|
 opt.bnd ((LD × (LD × (LD × (LD × (LD × T1)))))) _ (
 it _ _ (c49_3 it p) (a.1, ([], (a.2.1, (a.2.2.1, (a.2.2.2.1, (a.2.2.2.2.1, (a.2.2.2.2.2.1, ((0 : Int), ()))))))))) fun b =>
 opt.need _ (p.eqN 0 0) <|
 opt.need _ (p.eqN (p.len b.1) (p.len b.1)) <|
 opt.need _ (p.eqN (p.len b.1) (p.len b.1)) <|
 opt.need _ (p.leN (p.add 0 (p.len b.2.1)) (p.len b.2.1)) <|
 opt.ret _ (Sum.inl (b.1, (b.2.2.1, (b.2.2.2.1, (b.2.2.2.2.1, ((p.cut b.2.1 0 (p.len b.2.1)), ((p.ar .add .i64 b.2.2.2.2.2.1 (1 : Int)), ())))))))) (
 opt.ret _ (Sum.inr (a.1, (a.2.1, (a.2.2.1, (a.2.2.2.2.1, ())))))))
def c49_1 (it : It) (p : Prim) : (LD × (LD × (LD × T1))) → Option ((LD × (LD × (LD × T1))) ⊕ (LD × Unit)) :=
 fun a => opt.run _ (
 opt.ask _ (p.cmp .lss a.2.2.2.1 (p.ofNat (p.len a.2.1))) (
 opt.need _ (p.rowOk a.2.1 (p.nat a.2.2.2.1) [(CK.list 2)]) <|
 opt.need _ (p.cmp .geq a.2.2.2.1 (0 : Int)) <|
 opt.bnd ((LD × Unit)) _ (g61 it p ((p.rdL a.2.1 (p.nat a.2.2.2.1) 0), ())) fun b =>
 opt.need _ (p.eqN 0 0) <|
 opt.need _ (p.eqN 1 (p.len [[(D.list Bool.false 2 b.1)]])) <|
 opt.need _ (p.eqN 1 (p.len [[(D.list Bool.false 2 b.1)]])) <|
 opt.bnd ((LD × (LD × (LD × (LD × Unit))))) _ (
 it _ _ (c49_2 it p) ([[(D.list Bool.false 2 b.1)]], (a.1, (a.2.1, (a.2.2.1, (a.2.2.1, ((0 : Int), ()))))))) fun c =>
 opt.bnd ((LD × Unit)) _ (g61 it p (c.2.2.2.1, ())) fun d =>
 opt.ret _ (Sum.inl (c.2.1, (c.2.2.1, (d.1, ((p.ar .add .i64 a.2.2.2.1 (1 : Int)), ())))))) (
 opt.ret _ (Sum.inr (a.2.2.1, ()))))
def g49 (it : It) : (p : Prim) → (LD × (LD × Unit)) → Option ((LD × Unit)) :=
 fun p x =>
 opt.bnd ((LD × Unit)) _ (g61 it p (x.1, ())) fun a =>
 opt.bnd ((LD × Unit)) _ (
 it _ _ (c49_1 it p) (x.1, (x.2.1, (a.1, ((0 : Int), ()))))) fun b =>
 opt.ret _ (b.1, ())
def G49 := g49 it0
theorem ok49 : CtrOk PG ctr49 (G49 std) := okF (a := an49) (l := la49) (gC ok61 (gN)) (by kernel_rfl) fun _ _ => by kernel_rfl
def ctr58 : Ctr :=
 ⟨58, [.list 2, .agg [.int .i64, .int .i64]], [], [(.ret, ⟨[(0, .bool)], [], 1⟩)]⟩
def la58 : List LA :=
 []
def ja58 : List JA :=
 []
def gam58 : List CF :=
 [⟨ctr43, G43⟩]
def an58 : Anns :=
 ⟨gam58, ja58, []⟩
def g58 (it : It) : (p : Prim) → (LD × T3) → Option T2 :=
 fun p x =>
 opt.bnd T2 _ (g43 it p (x.1, (x.2.1, (x.2.2.1, ((1 : Int), ()))))) fun a =>
 opt.ret _ (a.1, ())
def G58 := g58 it0
theorem ok58 : CtrOk PG ctr58 (G58 std) := okF (a := an58) (l := la58) (gC ok43 (gN)) (by kernel_rfl) fun _ _ => by kernel_rfl
def ctr22 : Ctr :=
 ⟨22, [.agg [.list 2, .list 1], .agg [.int .i64, .int .i64]], [], [(.ret, ⟨[(0, .tuple [.bool, .int .i64])], [], 1⟩)]⟩
def la22 : List LA :=
 []
def ja22 : List JA :=
 []
def gam22 : List CF :=
 [⟨ctr58, G58⟩, ⟨ctr49, G49⟩, ⟨ctr56, G56⟩, ⟨ctr19, G19⟩]
def an22 : Anns :=
 ⟨gam22, ja22, []⟩
def g22 (it : It) : (p : Prim) → (LD × (LD × T3)) → Option T22 :=
 fun p x =>
 opt.bnd T0 _ (g19 it p (x.1, (x.2.1, ()))) fun a =>
 opt.ask _ (p.cmp .neq a.1 (0 : Int)) (
 opt.bnd T0 _ (g19 it p (x.1, (x.2.1, ()))) fun b =>
 opt.ret _ (Bool.false, (b.1, ()))) (
 opt.need _ (p.and (p.leN (p.add 0 1) (p.len [[(D.int .i64 x.2.2.1), (D.int .i64 x.2.2.2.1)]])) (p.and Bool.true (p.and Bool.true Bool.true))) <|
 opt.bnd T2 _ (g56 it p ((p.cut [[(D.int .i64 x.2.2.1), (D.int .i64 x.2.2.2.1)]] 0 1), ((-1099511627776 : Int), ((1099511627776 : Int), ())))) fun c =>
 opt.ask _ (bif c.1 then Bool.false else Bool.true) (
 opt.ret _ (Bool.false, ((3 : Int), ()))) (
 opt.bnd ((LD × Unit)) _ (g49 it p (x.1, (x.2.1, ()))) fun d =>
 opt.bnd T2 _ (g58 it p (d.1, (x.2.2.1, (x.2.2.2.1, ())))) fun e =>
 opt.ret _ (e.1, ((0 : Int), ()))))
def G22 := g22 it0
theorem ok22 : CtrOk PG ctr22 (G22 std) := okF (a := an22) (l := la22) (gC ok58 (gC ok49 (gC ok56 (gC ok19 (gN))))) (by kernel_rfl) fun _ _ => by kernel_rfl
def ctr24 : Ctr :=
 ⟨24, [.agg [.list 2, .list 1], .list 2], [], [(.ret, ⟨[(0, .tuple [.agg [.int .i64, .int .i64], .int .i64])], [], 1⟩)]⟩
def la24 : List LA :=
 [⟨24, [false, true, false, true, true, true, true, true, true], 0, ⟨⟨[(4, .bptr 0 0), (6, .list 2), (7, .list 2), (8, .int .i64)], [.box [.int .i64, .int .i64]], 45⟩, [(AX.ret, ⟨[(4, .bptr 0 0), (5, .int .i64)], [.box [.int .i64, .int .i64]], 45⟩), ((AX.exit 0), ⟨[(4, .bptr 0 0)], [.box [.int .i64, .int .i64]], 45⟩)]⟩⟩]
def ja24 : List JA :=
 []
def gam24 : List CF :=
 [⟨ctr58, G58⟩, ⟨ctr49, G49⟩, ⟨ctr61, G61⟩, ⟨ctr56, G56⟩, ⟨ctr55, G55⟩, ⟨ctr19, G19⟩]
def an24 : Anns :=
 ⟨gam24, ja24, []⟩
def c24_1 (it : It) (p : Prim) : (Int × (Int × (LD × (LD × (Int × Unit))))) → Option ((Int × (Int × (LD × (LD × (Int × Unit))))) ⊕ ((Int × (Int × (Int × Unit))) ⊕ (Int × (Int × Unit)))) :=
 fun a => opt.run _ (
 opt.ask _ (p.cmp .lss a.2.2.2.2.1 (p.ofNat (p.len a.2.2.2.1))) (
 opt.need _ (p.rowOk a.2.2.2.1 (p.nat a.2.2.2.2.1) [ci, ci]) <|
 opt.need _ (p.cmp .geq a.2.2.2.2.1 (0 : Int)) <|
 opt.bnd T2 _ (g58 it p (a.2.2.1, ((p.rdI a.2.2.2.1 (p.nat a.2.2.2.2.1) 0), ((p.rdI a.2.2.2.1 (p.nat a.2.2.2.2.1) 1), ())))) fun b =>
 opt.ask _ (bif b.1 then Bool.false else Bool.true) (
 opt.need _ (p.rowOk a.2.2.2.1 (p.nat a.2.2.2.2.1) [ci, ci]) <|
 opt.need _ (p.cmp .geq a.2.2.2.2.1 (0 : Int)) <|
 opt.ret _ (Sum.inr (Sum.inl ((p.rdI a.2.2.2.1 (p.nat a.2.2.2.2.1) 0), ((p.rdI a.2.2.2.1 (p.nat a.2.2.2.2.1) 1), ((0 : Int), ())))))) (
 opt.ret _ (Sum.inl (a.1, (a.2.1, (a.2.2.1, (a.2.2.2.1, ((p.ar .add .i64 a.2.2.2.2.1 (1 : Int)), ())))))))) (
 opt.ret _ (Sum.inr (Sum.inr (a.1, (a.2.1, ()))))))
def g24 (it : It) : (p : Prim) → (LD × (LD × (LD × Unit))) → Option T6 :=
 fun p x =>
 opt.bnd T0 _ (g19 it p (x.1, (x.2.1, ()))) fun a =>
 opt.ask _ (p.cmp .neq a.1 (0 : Int)) (
 opt.bnd T0 _ (g19 it p (x.1, (x.2.1, ()))) fun b =>
 opt.ret _ ((0 : Int), ((0 : Int), (b.1, ())))) (
 opt.bnd T2 _ (G55 p (x.2.2.1, ())) fun c =>
 opt.ask _ (bif c.1 then Bool.false else Bool.true) (
 opt.ret _ ((0 : Int), ((0 : Int), ((6 : Int), ())))) (
 opt.bnd T2 _ (g56 it p (x.2.2.1, ((-10000 : Int), ((10000 : Int), ())))) fun d =>
 opt.ask _ (bif d.1 then Bool.false else Bool.true) (
 opt.ret _ ((0 : Int), ((0 : Int), ((3 : Int), ())))) (
 opt.bnd ((LD × Unit)) _ (g61 it p (x.2.2.1, ())) fun e =>
 opt.bnd ((LD × Unit)) _ (g49 it p (x.1, (x.2.1, ()))) fun f =>
 opt.alt T6 T4 _ (
 it _ _ (c24_1 it p) ((0 : Int), ((0 : Int), (e.1, (f.1, ((0 : Int), ())))))) (fun g =>
 opt.ret _ (g.1, (g.2.1, (g.2.2.1, ())))) (fun h =>
 opt.bnd T4 _ (some h) fun i =>
 opt.ret _ ((0 : Int), ((0 : Int), ((5 : Int), ())))))))
def G24 := g24 it0
theorem ok24 : CtrOk PG ctr24 (G24 std) := okF (a := an24) (l := la24) (gC ok58 (gC ok49 (gC ok61 (gC ok56 (gC ok55 (gC ok19 (gN))))))) (by kernel_rfl) fun _ _ => by kernel_rfl
def ctr72 : Ctr :=
 ⟨72, [.agg [.list 2, .list 1], .agg [.list 2, .list 1]], [], [(.ret, ⟨[(0, .int .i64)], [], 1⟩)]⟩
def la72 : List LA :=
 []
def ja72 : List JA :=
 []
def gam72 : List CF :=
 [⟨ctr19, G19⟩]
def an72 : Anns :=
 ⟨gam72, ja72, []⟩
def g72 (it : It) : (p : Prim) → (LD × (LD × (LD × (LD × Unit)))) → Option T0 :=
 fun p x =>
 opt.bnd T0 _ (g19 it p (x.1, (x.2.1, ()))) fun a =>
 opt.ask _ (p.cmp .neq a.1 (0 : Int)) (
 opt.bnd T0 _ (g19 it p (x.1, (x.2.1, ()))) fun b =>
 opt.ret _ (b.1, ())) (
 opt.bnd T0 _ (g19 it p (x.2.2.1, (x.2.2.2.1, ()))) fun c =>
 opt.ret _ (c.1, ()))
def G72 := g72 it0
theorem ok72 : CtrOk PG ctr72 (G72 std) := okF (a := an72) (l := la72) (gC ok19 (gN)) (by kernel_rfl) fun _ _ => by kernel_rfl
def ctr36 : Ctr :=
 ⟨36, [.agg [.list 2, .list 1], .agg [.list 2, .list 1], .agg [.int .i64, .int .i64, .int .i64]], [], [(.ret, ⟨[(0, .int .i64)], [], 1⟩)]⟩
def la36 : List LA :=
 [⟨36, [false, true, false, true, true, true, true], 0, ⟨⟨[(5, .bptr 0 0), (7, .list 2), (8, .list 2), (9, .int .i64)], [.box [.int .i64, .int .i64, .int .i64]], 112⟩, [(AX.ret, ⟨[(6, .int .i64)], [], 112⟩), ((AX.exit 0), ⟨[(5, .bptr 0 0), (8, .list 2)], [.box [.int .i64, .int .i64, .int .i64]], 112⟩)]⟩⟩,
 ⟨36, [false, true, false, true, true, true, true, true], 0, ⟨⟨[(5, .bptr 0 0), (8, .list 2), (10, .int .i64)], [.box [.int .i64, .int .i64, .int .i64]], 112⟩, [(AX.ret, ⟨[(6, .int .i64)], [], 112⟩), ((AX.exit 2), ⟨[], [], 112⟩)]⟩⟩]
def ja36 : List JA :=
 [⟨36, [false, false, true, true], 0, [(AX.normal, ⟨[(3, .bptr 0 0), (4, .bptr 1 0), (5, .bptr 2 0), (55, .bool)], [.box [.list 2, .list 1], .box [.list 2, .list 1], .box [.int .i64, .int .i64, .int .i64]], 112⟩)]⟩]
def gam36 : List CF :=
 [⟨ctr49, G49⟩, ⟨ctr72, G72⟩]
def an36 : Anns :=
 ⟨gam36, ja36, []⟩
def b36_2 (p : Prim) : (Int × (Int × (Int × (LD × (Int × Unit))))) → Option ((Int × (Int × (Int × (LD × (Int × Unit))))) ⊕ ((Int × Unit) ⊕ Unit)) :=
 fun a => opt.run _ (
 opt.ask _ (p.cmp .lss a.2.2.2.2.1 (p.ofNat (p.len a.2.2.2.1))) (
 opt.need _ (p.rowOk a.2.2.2.1 (p.nat a.2.2.2.2.1) [ci, ci]) <|
 opt.need _ (p.cmp .geq a.2.2.2.2.1 (0 : Int)) <|
 opt.need _ (p.rowOk a.2.2.2.1 (p.nat a.2.2.2.2.1) [ci, ci]) <|
 opt.need _ (p.cmp .geq a.2.2.2.2.1 (0 : Int)) <|
 opt.ask _ (p.cmp .leq (p.ar .add .i64 (p.ar .mul .i64 a.1 (p.rdI a.2.2.2.1 (p.nat a.2.2.2.2.1) 0)) (p.ar .mul .i64 a.2.1 (p.rdI a.2.2.2.1 (p.nat a.2.2.2.2.1) 1))) a.2.2.1) (
 opt.ret _ (Sum.inr (Sum.inl ((14 : Int), ())))) (
 opt.ret _ (Sum.inl (a.1, (a.2.1, (a.2.2.1, (a.2.2.2.1, ((p.ar .add .i64 a.2.2.2.2.1 (1 : Int)), ())))))))) (
 opt.ret _ (Sum.inr (Sum.inr ()))))
def b36_1 (p : Prim) : (Int × (Int × (Int × (LD × (LD × (Int × Unit)))))) → Option ((Int × (Int × (Int × (LD × (LD × (Int × Unit)))))) ⊕ ((Int × Unit) ⊕ (Int × (Int × (Int × (LD × Unit)))))) :=
 fun a => opt.run _ (
 opt.ask _ (p.cmp .lss a.2.2.2.2.2.1 (p.ofNat (p.len a.2.2.2.1))) (
 opt.need _ (p.rowOk a.2.2.2.1 (p.nat a.2.2.2.2.2.1) [ci, ci]) <|
 opt.need _ (p.cmp .geq a.2.2.2.2.2.1 (0 : Int)) <|
 opt.need _ (p.rowOk a.2.2.2.1 (p.nat a.2.2.2.2.2.1) [ci, ci]) <|
 opt.need _ (p.cmp .geq a.2.2.2.2.2.1 (0 : Int)) <|
 opt.ask _ (p.cmp .gtr (p.ar .add .i64 (p.ar .mul .i64 a.1 (p.rdI a.2.2.2.1 (p.nat a.2.2.2.2.2.1) 0)) (p.ar .mul .i64 a.2.1 (p.rdI a.2.2.2.1 (p.nat a.2.2.2.2.2.1) 1))) a.2.2.1) (
 opt.ret _ (Sum.inr (Sum.inl ((14 : Int), ())))) (
 opt.ret _ (Sum.inl (a.1, (a.2.1, (a.2.2.1, (a.2.2.2.1, (a.2.2.2.2.1, ((p.ar .add .i64 a.2.2.2.2.2.1 (1 : Int)), ()))))))))) (
 opt.ret _ (Sum.inr (Sum.inr (a.1, (a.2.1, (a.2.2.1, (a.2.2.2.2.1, ()))))))))
def g36 (it : It) : (p : Prim) → (LD × (LD × (LD × (LD × T7)))) → Option T0 :=
 fun p x =>
 opt.bnd T0 _ (g72 it p (x.1, (x.2.1, (x.2.2.1, (x.2.2.2.1, ()))))) fun a =>
 opt.ask _ (p.cmp .neq a.1 (0 : Int)) (
 opt.bnd T0 _ (g72 it p (x.1, (x.2.1, (x.2.2.1, (x.2.2.2.1, ()))))) fun b =>
 opt.ret _ (b.1, ())) (
 opt.bnd ((LD × (LD × (LD × (LD × T19))))) _ (
 opt.run ((LD × (LD × (LD × (LD × T19))))) (
 opt.ask _ (p.cmp .eql x.2.2.2.2.1 (0 : Int)) (
 opt.ask _ (p.cmp .eql x.2.2.2.2.2.1 (0 : Int)) (
 opt.ret _ (x.1, (x.2.1, (x.2.2.1, (x.2.2.2.1, (x.2.2.2.2.1, (x.2.2.2.2.2.1, (x.2.2.2.2.2.2.1, (Bool.true, ()))))))))) (
 opt.ask _ (p.cmp .lss x.2.2.2.2.1 (-1048576 : Int)) (
 opt.ret _ (x.1, (x.2.1, (x.2.2.1, (x.2.2.2.1, (x.2.2.2.2.1, (x.2.2.2.2.2.1, (x.2.2.2.2.2.2.1, (Bool.true, ()))))))))) (
 opt.ask _ (p.cmp .gtr x.2.2.2.2.1 (1048576 : Int)) (
 opt.ret _ (x.1, (x.2.1, (x.2.2.1, (x.2.2.2.1, (x.2.2.2.2.1, (x.2.2.2.2.2.1, (x.2.2.2.2.2.2.1, (Bool.true, ()))))))))) (
 opt.ask _ (p.cmp .lss x.2.2.2.2.2.1 (-1048576 : Int)) (
 opt.ret _ (x.1, (x.2.1, (x.2.2.1, (x.2.2.2.1, (x.2.2.2.2.1, (x.2.2.2.2.2.1, (x.2.2.2.2.2.2.1, (Bool.true, ()))))))))) (
 opt.ask _ (p.cmp .gtr x.2.2.2.2.2.1 (1048576 : Int)) (
 opt.ret _ (x.1, (x.2.1, (x.2.2.1, (x.2.2.2.1, (x.2.2.2.2.1, (x.2.2.2.2.2.1, (x.2.2.2.2.2.2.1, (Bool.true, ()))))))))) (
 opt.ask _ (p.cmp .lss x.2.2.2.2.2.2.1 (-1099511627776 : Int)) (
 opt.ret _ (x.1, (x.2.1, (x.2.2.1, (x.2.2.2.1, (x.2.2.2.2.1, (x.2.2.2.2.2.1, (x.2.2.2.2.2.2.1, (Bool.true, ()))))))))) (
 opt.ret _ (x.1, (x.2.1, (x.2.2.1, (x.2.2.2.1, (x.2.2.2.2.1, (x.2.2.2.2.2.1, (x.2.2.2.2.2.2.1, ((p.cmp .gtr x.2.2.2.2.2.2.1 (1099511627776 : Int)), ()))))))))))))))) (
 opt.ask _ (p.cmp .lss x.2.2.2.2.1 (-1048576 : Int)) (
 opt.ret _ (x.1, (x.2.1, (x.2.2.1, (x.2.2.2.1, (x.2.2.2.2.1, (x.2.2.2.2.2.1, (x.2.2.2.2.2.2.1, (Bool.true, ()))))))))) (
 opt.ask _ (p.cmp .gtr x.2.2.2.2.1 (1048576 : Int)) (
 opt.ret _ (x.1, (x.2.1, (x.2.2.1, (x.2.2.2.1, (x.2.2.2.2.1, (x.2.2.2.2.2.1, (x.2.2.2.2.2.2.1, (Bool.true, ()))))))))) (
 opt.ask _ (p.cmp .lss x.2.2.2.2.2.1 (-1048576 : Int)) (
 opt.ret _ (x.1, (x.2.1, (x.2.2.1, (x.2.2.2.1, (x.2.2.2.2.1, (x.2.2.2.2.2.1, (x.2.2.2.2.2.2.1, (Bool.true, ()))))))))) (
 opt.ask _ (p.cmp .gtr x.2.2.2.2.2.1 (1048576 : Int)) (
 opt.ret _ (x.1, (x.2.1, (x.2.2.1, (x.2.2.2.1, (x.2.2.2.2.1, (x.2.2.2.2.2.1, (x.2.2.2.2.2.2.1, (Bool.true, ()))))))))) (
 opt.ask _ (p.cmp .lss x.2.2.2.2.2.2.1 (-1099511627776 : Int)) (
 opt.ret _ (x.1, (x.2.1, (x.2.2.1, (x.2.2.2.1, (x.2.2.2.2.1, (x.2.2.2.2.2.1, (x.2.2.2.2.2.2.1, (Bool.true, ()))))))))) (
 opt.ret _ (x.1, (x.2.1, (x.2.2.1, (x.2.2.2.1, (x.2.2.2.2.1, (x.2.2.2.2.2.1, (x.2.2.2.2.2.2.1, ((p.cmp .gtr x.2.2.2.2.2.2.1 (1099511627776 : Int)), ())))))))))))))))) fun c =>
 opt.ask _ c.2.2.2.2.2.2.2.1 (
 opt.ret _ ((2 : Int), ())) (
 opt.bnd ((LD × Unit)) _ (g49 it p (c.1, (c.2.1, ()))) fun d =>
 opt.bnd ((LD × Unit)) _ (g49 it p (c.2.2.1, (c.2.2.2.1, ()))) fun e =>
 opt.alt T0 T60 _ (
 it _ _ (b36_1 p) (c.2.2.2.2.1, (c.2.2.2.2.2.1, (c.2.2.2.2.2.2.1, (d.1, (e.1, ((0 : Int), ()))))))) (fun f =>
 opt.ret _ (f.1, ())) (fun g =>
 opt.bnd T60 _ (some g) fun h =>
 opt.alt T0 (Unit) _ (
 it _ _ (b36_2 p) (h.1, (h.2.1, (h.2.2.1, (h.2.2.2.1, ((0 : Int), ())))))) (fun i =>
 opt.ret _ (i.1, ())) (fun j =>
 opt.bnd (Unit) _ (some j) fun k =>
 opt.ret _ ((0 : Int), ())))))
def G36 := g36 it0
theorem ok36 : CtrOk PG ctr36 (G36 std) := okF (a := an36) (l := la36) (gC ok49 (gC ok72 (gN))) (by kernel_rfl) fun _ _ => by kernel_rfl
def ctr38 : Ctr :=
 ⟨38, [.agg [.list 2, .list 1], .agg [.list 2, .list 1], .agg [.int .i64, .int .i64, .int .i64]], [], [(.ret, ⟨[(0, .int .i64)], [], 1⟩)]⟩
def la38 : List LA :=
 []
def ja38 : List JA :=
 [⟨38, [false, false, true, true], 0, [(AX.normal, ⟨[(3, .bptr 0 0), (4, .bptr 1 0), (5, .bptr 2 0), (41, .bool)], [.box [.list 2, .list 1], .box [.list 2, .list 1], .box [.int .i64, .int .i64, .int .i64]], 54⟩)]⟩]
def gam38 : List CF :=
 [⟨ctr43, G43⟩, ⟨ctr49, G49⟩, ⟨ctr72, G72⟩]
def an38 : Anns :=
 ⟨gam38, ja38, []⟩
def g38 (it : It) : (p : Prim) → (LD × (LD × (LD × (LD × T7)))) → Option T0 :=
 fun p x =>
 opt.bnd T0 _ (g72 it p (x.1, (x.2.1, (x.2.2.1, (x.2.2.2.1, ()))))) fun a =>
 opt.ask _ (p.cmp .neq a.1 (0 : Int)) (
 opt.bnd T0 _ (g72 it p (x.1, (x.2.1, (x.2.2.1, (x.2.2.2.1, ()))))) fun b =>
 opt.ret _ (b.1, ())) (
 opt.bnd ((LD × (LD × (LD × (LD × T19))))) _ (
 opt.run ((LD × (LD × (LD × (LD × T19))))) (
 opt.ask _ (p.cmp .lss x.2.2.2.2.2.2.1 (1 : Int)) (
 opt.ret _ (x.1, (x.2.1, (x.2.2.1, (x.2.2.2.1, (x.2.2.2.2.1, (x.2.2.2.2.2.1, (x.2.2.2.2.2.2.1, (Bool.true, ()))))))))) (
 opt.ask _ (p.cmp .gtr x.2.2.2.2.2.2.1 (268435456 : Int)) (
 opt.ret _ (x.1, (x.2.1, (x.2.2.1, (x.2.2.2.1, (x.2.2.2.2.1, (x.2.2.2.2.2.1, (x.2.2.2.2.2.2.1, (Bool.true, ()))))))))) (
 opt.ask _ (p.cmp .lss x.2.2.2.2.1 (-1099511627776 : Int)) (
 opt.ret _ (x.1, (x.2.1, (x.2.2.1, (x.2.2.2.1, (x.2.2.2.2.1, (x.2.2.2.2.2.1, (x.2.2.2.2.2.2.1, (Bool.true, ()))))))))) (
 opt.ask _ (p.cmp .gtr x.2.2.2.2.1 (1099511627776 : Int)) (
 opt.ret _ (x.1, (x.2.1, (x.2.2.1, (x.2.2.2.1, (x.2.2.2.2.1, (x.2.2.2.2.2.1, (x.2.2.2.2.2.2.1, (Bool.true, ()))))))))) (
 opt.ask _ (p.cmp .lss x.2.2.2.2.2.1 (-1099511627776 : Int)) (
 opt.ret _ (x.1, (x.2.1, (x.2.2.1, (x.2.2.2.1, (x.2.2.2.2.1, (x.2.2.2.2.2.1, (x.2.2.2.2.2.2.1, (Bool.true, ()))))))))) (
 opt.ret _ (x.1, (x.2.1, (x.2.2.1, (x.2.2.2.1, (x.2.2.2.2.1, (x.2.2.2.2.2.1, (x.2.2.2.2.2.2.1, ((p.cmp .gtr x.2.2.2.2.2.1 (1099511627776 : Int)), ()))))))))))))))) fun c =>
 opt.ask _ c.2.2.2.2.2.2.2.1 (
 opt.ret _ ((2 : Int), ())) (
 opt.bnd ((LD × Unit)) _ (g49 it p (c.1, (c.2.1, ()))) fun d =>
 opt.bnd T2 _ (g43 it p (d.1, (c.2.2.2.2.1, (c.2.2.2.2.2.1, (c.2.2.2.2.2.2.1, ()))))) fun e =>
 opt.ask _ (bif e.1 then Bool.false else Bool.true) (
 opt.ret _ ((14 : Int), ())) (
 opt.bnd ((LD × Unit)) _ (g49 it p (c.2.2.1, (c.2.2.2.1, ()))) fun f =>
 opt.bnd T2 _ (g43 it p (f.1, (c.2.2.2.2.1, (c.2.2.2.2.2.1, (c.2.2.2.2.2.2.1, ()))))) fun g =>
 opt.ask _ (bif g.1 then Bool.false else Bool.true) (
 opt.ret _ ((14 : Int), ())) (
 opt.ret _ ((0 : Int), ())))))
def G38 := g38 it0
theorem ok38 : CtrOk PG ctr38 (G38 std) := okF (a := an38) (l := la38) (gC ok43 (gC ok49 (gC ok72 (gN)))) (by kernel_rfl) fun _ _ => by kernel_rfl
end Go.Am
end
section
namespace M06
theorem sqn (a : Int) : 0 ≤ a * a := by
 rcases Int.le_total 0 a with h | h
 ·exact Int.mul_nonneg h h
 ·exact Int.mul_nonneg_of_nonpos_of_nonpos h h
abbrev Pt := Int × Int
def sb (a b : Pt) : Pt := (a.1 - b.1, a.2 - b.2)
def ad (a b : Pt) : Pt := (a.1 + b.1, a.2 + b.2)
def crs (u v : Pt) : Int := u.1 * v.2 - u.2 * v.1
def dt (u v : Pt) : Int := u.1 * v.1 + u.2 * v.2
def cr (a b c : Pt) : Int := crs (sb b a) (sb c a)
def Pos (u : Pt) : Prop := 0 < u.1 ∨ (u.1 = 0 ∧ 0 < u.2)
theorem crs_id1 (u v w : Pt) : v.1 * crs u w = w.1 * crs u v + u.1 * crs v w := by
 simp only [crs]; grind
theorem crs_id2 (u v w : Pt) : v.2 * crs u w = w.2 * crs u v + u.2 * crs v w := by
 simp only [crs]; grind
theorem crs_trans {u v w : Pt} (hu : Pos u) (hv : Pos v) (hw : Pos w) (h1 : 0 ≤ crs u v) (h2 : 0 ≤ crs v w) : 0 ≤ crs u w := by
 have i1 := crs_id1 u v w
 have i2 := crs_id2 u v w
 have u0 : 0 ≤ u.1 := by rcases hu with h | h <;> omega
 have w0 : 0 ≤ w.1 := by rcases hw with h | h <;> omega
 rcases hv with hv | ⟨hv, hv2⟩
 ·have a := Int.mul_nonneg w0 h1
  have b := Int.mul_nonneg u0 h2
  refine Classical.byContradiction fun hc => ?_
  have := Int.mul_neg_of_pos_of_neg hv (Int.not_le.1 hc)
  omega
 ·have e : crs v w = - (v.2 * w.1) := by simp only [crs, hv]; grind
  have w1 : w.1 = 0 := by
   refine Classical.byContradiction fun hc => ?_
   have := Int.mul_pos hv2 (show 0 < w.1 by omega)
   omega
  have hw2 : 0 < w.2 := by rcases hw with h | h <;> omega
  have : crs u w = u.1 * w.2 := by simp only [crs, w1]; grind
  rw [this]
  exact Int.mul_nonneg u0 (by omega)
theorem crs_trans_lt {u v w : Pt} (hu : Pos u) (hv : Pos v) (hw : Pos w) (h1 : 0 ≤ crs u v) (h2 : 0 ≤ crs v w) (h3 : 0 < crs u v ∨ 0 < crs v w) : 0 < crs u w := by
 refine Classical.byContradiction fun hc => ?_
 have h0 := crs_trans hu hv hw h1 h2
 have hz : crs u w = 0 := by omega
 have i1 := crs_id1 u v w
 have i2 := crs_id2 u v w
 rw [hz] at i1 i2
 have u0 : 0 ≤ u.1 := by rcases hu with h | h <;> omega
 have w0 : 0 ≤ w.1 := by rcases hw with h | h <;> omega
 have a := Int.mul_nonneg w0 h1
 have b := Int.mul_nonneg u0 h2
 have a0 : w.1 * crs u v = 0 := by omega
 have b0 : u.1 * crs v w = 0 := by omega
 rcases h3 with h3 | h3
 ·have w1 : w.1 = 0 := by
   rcases Int.mul_eq_zero.1 a0 with h | h
   ·exact h
   ·omega
  have hw2 : 0 < w.2 := by rcases hw with h | h <;> omega
  have u1 : u.1 = 0 := by
   have : u.1 * w.2 = 0 := by simp only [crs, w1] at hz; grind
   rcases Int.mul_eq_zero.1 this with h | h
   ·exact h
   ·omega
  have hu2 : 0 < u.2 := by rcases hu with h | h <;> omega
  have v0 : 0 ≤ v.1 := by rcases hv with h | h <;> omega
  have e : crs u v = - (u.2 * v.1) := by simp only [crs, u1]; grind
  have := Int.mul_nonneg (show 0 ≤ u.2 by omega) v0
  omega
 ·have u1 : u.1 = 0 := by
   rcases Int.mul_eq_zero.1 b0 with h | h
   ·exact h
   ·omega
  have hu2 : 0 < u.2 := by rcases hu with h | h <;> omega
  have v0 : 0 ≤ v.1 := by rcases hv with h | h <;> omega
  have e : crs u v = - (u.2 * v.1) := by simp only [crs, u1]; grind
  have v1 : v.1 = 0 := by
   refine Classical.byContradiction fun hc => ?_
   have := Int.mul_pos hu2 (show 0 < v.1 by omega)
   omega
  have hv2 : 0 < v.2 := by rcases hv with h | h <;> omega
  have e2 : crs v w = - (v.2 * w.1) := by simp only [crs, v1]; grind
  have := Int.mul_nonneg (show 0 ≤ v.2 by omega) w0
  omega
end M06
end
section
namespace Go.Am
open M06
theorem iter_find {S R : Type} {b : S → Option (S ⊕ R)} (n : Nat) (e : Nat → S) (P : Nat → Bool) (r : Nat → R) (rend : R)
  (step : ∀ i, i < n → b (e i) = if P i = true then some (.inr (r i)) else some (.inl (e (i + 1)))) (stop : b (e n) = some (.inr rend)) :
  (∃ i, i < n ∧ P i = true ∧ (∀ j, j < i → P j = false) ∧ iter b (e 0) = some (r i)) ∨ ((∀ i, i < n → P i = false) ∧ iter b (e 0) = some rend) := by
 have key : ∀ k m, n - m = k → m ≤ n → (∃ i, m ≤ i ∧ i < n ∧ P i = true ∧ (∀ j, m ≤ j → j < i → P j = false) ∧ iter b (e m) = some (r i)) ∨ ((∀ i, m ≤ i → i < n → P i = false) ∧ iter b (e m) = some rend) := by
  intro k
  induction k with
  | zero =>
   intro m hm hle
   have : m = n := by omega
   subst this
   refine .inr ⟨fun i h1 h2 => by omega, ?_⟩
   rw [iter_unfold, stop]
  | succ k ih =>
   intro m hm hle
   have hlt : m < n := by omega
   have hs := step m hlt
   cases hP : P m with
   | true =>
    rw [hP] at hs
    refine .inl ⟨m, Nat.le_refl _, hlt, hP, fun j h1 h2 => by omega, ?_⟩
    rw [iter_unfold, hs]; rfl
   | false =>
    rw [hP] at hs
    have hit : iter b (e m) = iter b (e (m + 1)) := by
     rw [iter_unfold, hs]; rfl
    rcases ih (m + 1) (by omega) hlt with ⟨i, h1, h2, h3, h4, h5⟩ | ⟨h1, h2⟩
    ·refine .inl ⟨i, by omega, h2, h3, fun j a b => ?_, by rw [hit]; exact h5⟩
     by_cases hj : j = m
     ·subst hj; exact hP
     ·exact h4 j (by omega) b
    ·refine .inr ⟨fun i a b => ?_, by rw [hit]; exact h2⟩
     by_cases hj : i = m
     ·subst hj; exact hP
     ·exact h1 i (by omega) b
 rcases key n 0 rfl (Nat.zero_le _) with ⟨i, _, h2, h3, h4, h5⟩ | ⟨h1, h2⟩
 ·exact .inl ⟨i, h2, h3, fun j hj => h4 j (Nat.zero_le _) hj, h5⟩
 ·exact .inr ⟨fun i hi => h1 i (Nat.zero_le _) hi, h2⟩
def eP (p : Pt) : List D := [.int .i64 p.1, .int .i64 p.2]
def encP (l : List Pt) : List (List D) := l.map eP
def eH (l : List Pt) : List D := [.list false 2 (encP l)]
def encH (h : List (List Pt)) : List (List D) := h.map eH
theorem cells_eP (p : Pt) : cellsOk [CK.int IntKind.i64, CK.int IntKind.i64] (eP p) = true := rfl
theorem dI_eP0 (p : Pt) : dI ((eP p)[0]?.getD D.nilp) = p.1 := rfl
theorem dI_eP1 (p : Pt) : dI ((eP p)[1]?.getD D.nilp) = p.2 := rfl
theorem cells_eH (l : List Pt) : cellsOk [CK.list 2] (eH l) = true := rfl
theorem dL_eH (l : List Pt) : dL ((eH l)[0]?.getD D.nilp) = encP l := rfl
def manyP (l : List Pt) : Prop := 1 ≤ l.length ∧ l.length ≤ 12
instance (l : List Pt) : Decidable (manyP l) := by unfold manyP; infer_instance
def inBox (lo hi : Int) (p : Pt) : Prop := lo ≤ p.1 ∧ p.1 ≤ hi ∧ lo ≤ p.2 ∧ p.2 ≤ hi
instance (lo hi : Int) (p : Pt) : Decidable (inBox lo hi p) := by unfold inBox; infer_instance
theorem G50_ok (l : List Pt) : G50 std (encP l, ()) = some (decide (manyP l), ()) := by
 unfold G50 manyP
 simp only [stdS, stdL, encP]
 by_cases h1 : 1 ≤ l.length
 ·have : (l.length : Int) > 0 := by omega
  simp only [this, h1, true_and, if_true, Option.bind_some]
  congr 2
  rw [decide_eq_decide]; omega
 ·have : ¬ (l.length : Int) > 0 := by omega
  simp only [this, h1, false_and, if_false, Option.bind_some, decide_false]
theorem G55_ok (l : List Pt) : G55 std (encP l, ()) = some (decide (manyP l), ()) := by
 unfold G55 manyP
 simp only [stdS, stdL, encP]
 by_cases h1 : 1 ≤ l.length
 ·have : (l.length : Int) ≥ 1 := by omega
  simp only [this, h1, true_and, if_true, Option.bind_some]
  congr 2
  rw [decide_eq_decide]; omega
 ·have : ¬ (l.length : Int) ≥ 1 := by omega
  simp only [this, h1, false_and, if_false, Option.bind_some, decide_false]
theorem G53_ok (lo hi : Int) (l : List Pt) (hl : l.length ≤ 1000000) : G53 std (lo, hi, encP l, ()) = some (decide (∀ p ∈ l, inBox lo hi p), ()) := by
 unfold G53
 have key := iter_find (b := b53_1 std) l.length (fun i => (lo, hi, encP l, (l.length : Int), (i : Int), ())) (fun i => !decide (inBox lo hi (l.getD i (0, 0)))) (fun i => .inl (lo, hi, (i : Int), ())) (.inr (lo, hi, ())) (fun i hi' => by
  obtain ⟨m, hm⟩ := get_some hi'
  have hw := wrap_nat (i := i) (by omega)
  have hlt : (i : Int) < l.length := by omega
  have h0 : (0 : Int) ≤ i := by omega
  have hg : l.getD i (0, 0) = m := by simp [List.getD_eq_getElem?_getD, hm]
  simp only [hg, b53_1, stdS, stdL, encP, cells_eP, dI_eP0, dI_eP1, hm, hlt, h0, ge_iff_le, std_ar_add, hw]
  by_cases k : inBox lo hi m
  ·have k' := k
   obtain ⟨k1, k2, k3, k4⟩ := k'
   have e1 : ¬ min m.1 m.2 < lo := by omega
   have e2 : ¬ max m.1 m.2 > hi := by omega
   simp [k, e1, e2]
  ·by_cases e1 : min m.1 m.2 < lo
   ·simp [k, e1]
   ·have e2 : max m.1 m.2 > hi := by
     refine Classical.byContradiction fun hc => k ⟨?_, ?_, ?_, ?_⟩ <;> omega
    simp [k, e1, e2]) (by
  have hn : ¬ (l.length : Int) < l.length := by omega
  simp only [b53_1, stdS, stdL, hn])
 have e0 : (lo, hi, encP l, std.ofNat (std.len (encP l)), (0 : Int), ()) = (lo, hi, encP l, (l.length : Int), ((0 : Nat) : Int), ()) := by simp [std_ofNat, std_len, encP]
 simp only [g53, it0]
 rw [e0]
 rcases key with ⟨i, h1, h2, _, h4⟩ | ⟨h1, h2⟩
 ·rw [h4]
  have hne : ¬ ∀ p ∈ l, inBox lo hi p := fun h => by
   obtain ⟨m, hm⟩ := get_some h1
   have := h m (List.mem_of_getElem? hm)
   simp [List.getD_eq_getElem?_getD, hm, this] at h2
  have h0 : (0 : Int) ≤ i := by omega
  simp only [stdS, stdL, decide_eq_false hne, ge_iff_le, h0]
 ·rw [h2]
  have ha : ∀ p ∈ l, inBox lo hi p := fun p hp => by
   obtain ⟨i, hi'⟩ := List.getElem?_of_mem hp
   have := h1 i (List.getElem?_eq_some_iff.1 hi').1
   simpa [List.getD_eq_getElem?_getD, hi'] using this
  simp only [stdS, stdL, decide_eq_true ha]
  decide
theorem G56_ok (lo hi : Int) (l : List Pt) (hl : l.length ≤ 1000000) : G56 std (encP l, lo, hi, ()) = some (decide (∀ p ∈ l, inBox lo hi p), ()) := by
 unfold G56
 have key := iter_find (b := b56_1 std) l.length (fun i => (encP l, lo, hi, (i : Int), ())) (fun i => !decide (inBox lo hi (l.getD i (0, 0)))) (fun i => .inl (false, ())) (.inr ()) (fun i hi' => by
  obtain ⟨m, hm⟩ := get_some hi'
  have hw := wrap_nat (i := i) (by omega)
  have hlt : (i : Int) < l.length := by omega
  have h0 : (0 : Int) ≤ i := by omega
  have hg : l.getD i (0, 0) = m := by simp [List.getD_eq_getElem?_getD, hm]
  simp only [hg, b56_1, stdS, stdL, encP, cells_eP, dI_eP0, dI_eP1, hm, hlt, h0, ge_iff_le, std_ar_add, hw]
  by_cases k : inBox lo hi m
  ·have k' := k
   obtain ⟨k1, k2, k3, k4⟩ := k'
   have e1 : ¬ m.1 < lo := by omega
   have e2 : ¬ m.1 > hi := by omega
   have e3 : ¬ m.2 < lo := by omega
   have e4 : ¬ m.2 > hi := by omega
   simp [k, e1, e2, e3, e4, std_ar_add, hw]
  ·by_cases e1 : m.1 < lo
   ·simp [k, e1]
   ·by_cases e2 : m.1 > hi
    ·simp [k, e1, e2]
    ·by_cases e3 : m.2 < lo
     ·simp [k, e1, e2, e3]
     ·have e4 : m.2 > hi := by
       refine Classical.byContradiction fun hc => k ⟨?_, ?_, ?_, ?_⟩ <;> omega
      simp [k, e1, e2, e3, e4, std_ar_add, hw]) (by
  have hn : ¬ (l.length : Int) < l.length := by omega
  simp only [b56_1, stdS, stdL, encP, hn])
 have e0 : (encP l, lo, hi, (0 : Int), ()) = (encP l, lo, hi, ((0 : Nat) : Int), ()) := rfl
 simp only [g56, it0]
 rw [e0]
 rcases key with ⟨i, h1, h2, _, h4⟩ | ⟨h1, h2⟩
 ·rw [h4]
  have hne : ¬ ∀ p ∈ l, inBox lo hi p := fun h => by
   obtain ⟨m, hm⟩ := get_some h1
   have := h m (List.mem_of_getElem? hm)
   simp [List.getD_eq_getElem?_getD, hm, this] at h2
  simp only [stdS, stdL, decide_eq_false hne]
 ·rw [h2]
  have ha : ∀ p ∈ l, inBox lo hi p := fun p hp => by
   obtain ⟨i, hi'⟩ := List.getElem?_of_mem hp
   have := h1 i (List.getElem?_eq_some_iff.1 hi').1
   simpa [List.getD_eq_getElem?_getD, hi'] using this
  simp only [stdS, stdL, decide_eq_true ha]
end Go.Am
end
section
namespace Go.Am
open Go.ChangeShapes Go.WideShapes Go.ChangeAt M06
theorem int_of {x : D} (h : DK (.int .i64) x) : ∃ n : Int, x = .int .i64 n ∧ (Lit.int IntKind.i64 n).wf = true := by
 match x, h with
 | .int k n, h => obtain ⟨rfl, h⟩ := h; exact ⟨n, rfl, h⟩
theorem places_rows {es : List (List D)} (hr : ∀ r ∈ es, DKs [.int .i64, .int .i64] r) : ∃ l : List Pt, es = encP l := by
 induction es with
 | nil => exact ⟨[], rfl⟩
 | cons r es ih =>
  obtain ⟨l, rfl⟩ := ih fun r hr' => hr r (List.mem_cons_of_mem _ hr')
  have h0 := hr r (List.mem_cons_self ..)
  match r, h0 with
  | [.int k1 a, .int k2 b], h0 =>
   obtain ⟨⟨rfl, a1⟩, ⟨rfl, a2⟩, _⟩ := h0
   exact ⟨(a, b) :: l, rfl⟩
theorem places_of {x : D} (h : DK (.list [.int .i64, .int .i64]) x) : ∃ l : List Pt, x = .list false 2 (encP l) := by
 match x, h with
 | .list f z es, h =>
  obtain ⟨rfl, rfl, hl, hr⟩ := h
  rw [DKrows_iff] at hr
  clear hl
  obtain ⟨l, rfl⟩ := places_rows hr
  exact ⟨l, rfl⟩
theorem hazes_of {x : D} (h : DK (.list [.list [.int .i64, .int .i64]]) x) : ∃ hs : List (List Pt), x = .list false 1 (encH hs) := by
 match x, h with
 | .list f z es, h =>
  obtain ⟨rfl, rfl, hl, hr⟩ := h
  rw [DKrows_iff] at hr
  clear hl
  have : ∃ hs : List (List Pt), es = encH hs := by
   induction es with
   | nil => exact ⟨[], rfl⟩
   | cons r es ih =>
    obtain ⟨ws, rfl⟩ := ih fun r hr' => hr r (List.mem_cons_of_mem _ hr')
    have h0 := hr r (List.mem_cons_self ..)
    match r, h0 with
    | [y], h0 =>
     obtain ⟨l, rfl⟩ := places_of h0.1
     exact ⟨l :: ws, rfl⟩
  obtain ⟨ws, rfl⟩ := this
  exact ⟨ws, rfl⟩
theorem glass_of {x : D} (h : ∃ ds, x = .agg ds ∧ DKs [.list [.int .i64, .int .i64], .list [.list [.int .i64, .int .i64]]] ds) : ∃ (l : List Pt) (hs : List (List Pt)), x = .agg [.list false 2 (encP l), .list false 1 (encH hs)] := by
 obtain ⟨ds, rfl, h⟩ := h
 match ds, h with
 | [a, b], h =>
  obtain ⟨l, rfl⟩ := places_of h.1
  obtain ⟨hs, rfl⟩ := hazes_of h.2.1
  exact ⟨l, hs, rfl⟩
theorem place_of {x : D} (h : ∃ ds, x = .agg ds ∧ DKs [.int .i64, .int .i64] ds) : ∃ a b : Int, x = .agg [.int .i64 a, .int .i64 b] ∧ (Lit.int IntKind.i64 a).wf = true ∧ (Lit.int IntKind.i64 b).wf = true := by
 obtain ⟨ds, rfl, h⟩ := h
 match ds, h with
 | [x, y], h =>
  obtain ⟨a, rfl, wa⟩ := int_of h.1
  obtain ⟨b, rfl, wb⟩ := int_of h.2.1
  exact ⟨a, b, rfl, wa, wb⟩
end Go.Am
end
section
namespace Go.Am
open Go.Proofs Go.Sort Go.Shelf
section
variable {P : Program}
theorem world_grown {w w' : World} (h1 : w'.os = w.os) (h2 : w'.tape = w.tape) (h3 : w'.output = w.output) (h4 : w.heap.size ≤ w'.heap.size) (h5 : ∀ b, b < w.heap.size → w'.heap[b]? = w.heap[b]?) (h6 : w.drawn ≤ w'.drawn) :
  ∃ q os', w' = grow (w.drewN q) os' := by
 refine ⟨w'.drawn - w.drawn, w'.heap.extract w.heap.size w'.heap.size, ?_⟩
 obtain ⟨hp, tp, dr, os, out⟩ := w
 obtain ⟨hp', tp', dr', os', out'⟩ := w'
 simp only at h1 h2 h3 h4 h5 h6
 subst h1 h2 h3
 simp only [grow, World.drewN]
 have e1 : hp' = hp ++ hp'.extract hp.size hp'.size := by
  apply Array.ext_getElem?
  intro i
  rw [Array.getElem?_append]
  split
  ·rename_i hlt; exact h5 i hlt
  ·rename_i hge
   rw [Array.getElem?_extract]
   split
   ·congr 1; omega
   ·rw [Array.getElem?_eq_none (by omega)]
 have e2 : dr' = dr + (dr' - dr) := by omega
 rw [← e1, ← e2]
theorem calls_pure {w : World} {g : FuncId} {args : Array Value} {xs : List D} {k : IntKind} {n : Int} {h' : List AO} (ha : ARet P g (toA xs) [] (.d (.int k n)) h') (hl : args.toList.length = xs.length)
  (hx : ∀ (i : Nat) (x : D), xs[i]? = some x → ∃ v, args.toList[i]? = some v ∧ DRel (fun _ => False) w x v) : Calls P g args w fun e w' => e = .returned (.int k n) ∧ ∃ q os', w' = grow (w.drewN q) os' := by
 intro cs
 let ρ0 : Rho := ⟨fun _ => none, fun _ => False⟩
 have hown : ownB ρ0 [] = fun _ => False := by
  funext c
  apply propext
  refine ⟨fun h => ?_, False.elim⟩
  rcases h with h | ⟨id, L, hL, _⟩
  ·exact h
  ·cases hL
 have hr : HeapRel P ρ0 [] w := ⟨fun id L hL => (by cases hL), fun id id' L L' hL => (by cases hL), fun b hb => hb.elim, fun id L hL => (by cases hL)⟩
 obtain ⟨ρ', v, w', fr, s1, s2, s3, s4, s5, s6, s7⟩ := ha.run ρ0 args w cs hr (fun id hid => absurd rfl hid) ⟨by rw [toA_length, ← hl]; simp, fun i x hi => by
  rw [toA_get] at hi
  obtain ⟨d, hd, rfl⟩ := Option.map_eq_some_iff.1 hi
  obtain ⟨v, hv, hr⟩ := hx i d hd
  rw [hown, Array.getD_eq_getD_getElem?]
  have : args[i]? = some v := by simpa using hv
  rw [this]; exact .d hr⟩
 refine ⟨.returned v, w', fr, ⟨?_, world_grown s7.os s7.tape s7.output s7.keep.size (fun c hc => s7.keep.frame c hc ?_) s7.keep.drawn⟩, s1, s2, s3⟩
 ·cases s4 with
  | d h => cases h; rfl
 ·rw [hown]; exact id
variable {α : Type} [Inhabited α]
def enV2 (f : α → Int × Int) (x : α) : List Value := [.int .i64 (f x).1, .int .i64 (f x).2]
def enR2 (f : α → Int × Int) (x : α) : List D := [.int .i64 (f x).1, .int .i64 (f x).2]
def SortCall (P : Program) (f g : FuncId) (cf : α → α → Int) (tp : α → Int × Int) : Prop :=
 ∀ (blk off cap : Nat) (d : Array α) (w : World), CmpLays P g #[] (enV2 tp) 2 cf blk off d.size w → HoldsK (enV2 tp) 2 w blk off d → blk < w.heap.size → d.size < 4611686018427387904 →
  Calls P f #[.slice (some ⟨blk, off, none⟩) d.size cap, .func (.func g) #[] #[]] w fun e w' =>
   e = .returned (.tuple #[]) ∧ ∃ n os, w' = sortWorldK (enV2 tp) 2 w blk off n (pdq (ltOf cf) d 0 d.size (Lib.bitLen d.size) true true) os
theorem cmpLays_of {g : FuncId} {cf : α → α → Int} {tp : α → Int × Int} (h : ∀ x y, ARet P g (toA [.agg (enR2 tp x), .agg (enR2 tp y)]) [] (.d (.int .i64 (cf x y))) []) (blk off size : Nat) (w : World) : CmpLays P g #[] (enV2 tp) 2 cf blk off size w := by
 intro m os dk hdk x y
 refine calls_pure (h x y) (by simp) fun i z hz => ?_
 have ag : ∀ (O : Nat → Prop) (w : World) (x : α), DRel O w (.agg (enR2 tp x)) (.agg (enV2 tp x).toArray) := fun O w x =>
  .agg _ _ (by simp [enR2, enV2]) fun i d hi => by
   match i, hi with
   | 0, hi => cases hi; exact .int _ _
   | 1, hi => cases hi; exact .int _ _
   | i + 2, hi => simp [enR2] at hi
 match i, hz with
 | 0, hz => cases hz; exact ⟨_, by simp, ag _ _ _⟩
 | 1, hz => cases hz; exact ⟨_, by simp, ag _ _ _⟩
 | i + 2, hz => simp at hz
theorem flatK_get {tp : α → Int × Int} {d : Array α} {i j : Nat} (hi : i < d.size) (hj : j < 2) : (Go.Sort.flatK (enV2 tp) 2 d)[i * 2 + j]! = (enV2 tp d[i])[j]! := by
 rw [get_flatK _ _ _ _ (by omega)]
 have e1 : (i * 2 + j) / 2 = i := by omega
 have e2 : (i * 2 + j) % 2 = j := by omega
 rw [e1, e2, getElem!_pos d i hi]
omit [Inhabited α] in
theorem enR2_get {tp : α → Int × Int} {x : α} {j : Nat} {y : D} (h : (enR2 tp x)[j]? = some y) : j < 2 ∧ ∃ n, y = .int .i64 n ∧ (enV2 tp x)[j]! = .int .i64 n := by
 match j, h with
 | 0, h => cases h; exact ⟨by omega, _, rfl, rfl⟩
 | 1, h => cases h; exact ⟨by omega, _, rfl, rfl⟩
 | j + 2, h => simp [enR2] at h
theorem sort_aret {f g : FuncId} {cf : α → α → Int} {tp : α → Int × Int} (hO : SWO (ltOf cf)) (hS : SortCall P f g cf tp) (hcmp : ∀ x y, ARet P g (toA [.agg (enR2 tp x), .agg (enR2 tp y)]) [] (.d (.int .i64 (cf x y))) [])
  {d : Array α} (hd : 0 < d.size) (hsz : d.size < 4611686018427387904) (cap : Option Nat) :
  ARet P f [.slice 0 2 0 d.size cap, .clo (.func g) [] []] [.row (d.toList.map (enR2 tp))] (.tuple []) [.row ((pdq (ltOf cf) d 0 d.size (Lib.bitLen d.size) true true).toList.map (enR2 tp))] := ⟨by
 intro ρ vs w cs hr hdm har
 obtain ⟨hv1, hv2⟩ := har
 have hs1 : vs.size = 2 := hv1
 obtain ⟨L, cp, hL, hz, hvs0⟩ : ∃ L cp, ρ 0 = some L ∧ L.esz = 2 ∧ vs.getD 0 undef = .slice (some ⟨L.blk, L.base, none⟩) d.size cp := by
  have hv := hv2 0 _ rfl
  generalize hq : vs.getD 0 undef = q at hv
  have key : ∀ z, z = d.size → VRel ρ (ownB ρ [.row (d.toList.map (enR2 tp))]) w (.slice 0 2 0 z cap) q → ∃ L cp, ρ 0 = some L ∧ L.esz = 2 ∧ q = .slice (some ⟨L.blk, L.base, none⟩) d.size cp := by
   intro z hz hv
   cases hv with
   | slice _ _ _ _ _ L a c h1 h2 h3 h4 h5 =>
    subst hz
    refine ⟨L, c, h1, h2, ?_⟩
    rw [h3 (by omega)]; simp
   | nils _ _ _ _ a _ => omega
  exact key _ rfl hv
 have hvs1 : vs.getD 1 undef = .func (.func g) #[] #[] := by
  have hv := hv2 1 _ rfl
  generalize hq : vs.getD 1 undef = q at hv
  cases hv with
  | clo _ _ _ vf vc hf hc _ _ =>
   have e1 : vf = #[] := Array.size_eq_zero_iff.1 (by simpa using hf)
   have e2 : vc = #[] := Array.size_eq_zero_iff.1 (by simpa using hc)
   rw [e1, e2]
 have hvs : vs = #[.slice (some ⟨L.blk, L.base, none⟩) d.size cp, .func (.func g) #[] #[]] := by
  apply Array.ext (by simpa using hs1)
  intro i h1 h2
  simp only [Array.getD_eq_getD_getElem?] at hvs0 hvs1
  match i, h1, h2 with
  | 0, h1, h2 => rw [Array.getElem?_eq_getElem h1] at hvs0; simpa using hvs0
  | 1, h1, h2 => rw [Array.getElem?_eq_getElem h1] at hvs1; simpa using hvs1
  | i + 2, h1, h2 => simp at h2; omega
 subst hvs
 have hlive : (nthA [AO.row (d.toList.map (enR2 tp))] 0).live = true := rfl
 obtain ⟨hlt, ho⟩ := hr.obj 0 L hL
 obtain ⟨hpos, c, t, hcb, hlen, hcell⟩ := (show ObjRel P ρ _ w L (.row (d.toList.map (enR2 tp))) from ho)
 rw [hz] at hlen hcell
 have hcell' : ∀ i j, i < d.size → j < 2 → c[L.base + i * 2 + j]? = some ((Go.Sort.flatK (enV2 tp) 2 d)[i * 2 + j]!) := by
  intro i j hi hj
  have hri : (d.toList.map (enR2 tp))[i]? = some (enR2 tp d[i]) := by simp [hi]
  have hx : ∃ y, (enR2 tp d[i])[j]? = some y := by
   match j, hj with
   | 0, _ => exact ⟨_, rfl⟩
   | 1, _ => exact ⟨_, rfl⟩
  obtain ⟨y, hy⟩ := hx
  obtain ⟨v, hv, _, hrel⟩ := hcell i _ j y hri hy
  obtain ⟨_, n, rfl, hn⟩ := enR2_get hy
  rw [hv, flatK_get hi hj, hn]
  cases hrel; rfl
 have hidx : ∀ q, q < (Go.Sort.flatK (enV2 tp) 2 d).size → c[L.base + q]? = some ((Go.Sort.flatK (enV2 tp) 2 d)[q]!) := by
  intro q hq
  simp only [size_flatK] at hq
  have := hcell' (q / 2) (q % 2) (by omega) (by omega)
  have e : q / 2 * 2 + q % 2 = q := by omega
  rw [Nat.add_assoc, e] at this; exact this
 have hH : HoldsK (enV2 tp) 2 w L.blk L.base d := by
  intro q hq
  refine ⟨?_, ?_⟩
  ·unfold World.cell?
   simp only [hcb]
   have := hidx q hq
   simpa using this
  ·unfold World.frozen?
   simp only [hcb]
   simp
 obtain ⟨e, w', fr, ⟨rfl, n, os, hw'⟩, hcm, hfn, hlv⟩ := hS L.blk L.base cp d w (cmpLays_of hcmp _ _ _ _) hH hlt hsz cs
 generalize hdk : pdq (ltOf cf) d 0 d.size (Lib.bitLen d.size) true true = dk at hw' ⊢
 have hdks : dk.size = d.size := by
  rw [← hdk]
  exact (pdq_sorts (ltOf cf) hO d 0 d.size (Lib.bitLen d.size) true true (Nat.zero_le _) (Nat.le_refl _) (Or.inl rfl)).1.1
 have hr1 := hr.drawn (w.drawn + n) (Nat.le_add_right _ _)
 have hx1 : Ext (fun id => True) ρ [.row (d.toList.map (enR2 tp))] w ρ [.row (d.toList.map (enR2 tp))] { w with drawn := w.drawn + n } := Ext.drawn _ _ _ _ _ (Nat.le_add_right _ _)
 let c' := putCells id L.base (Go.Sort.flatK (enV2 tp) 2 dk) c
 have hput : putRowK (enV2 tp) 2 (Sort.ahead w n) L.blk L.base dk = World.setObj { w with drawn := w.drawn + n } L.blk (.cells c' t (0, 0)) := by
  unfold putRowK putRow mapBlock World.setObj Sort.ahead
  congr 1
  apply Array.ext_getElem?
  intro b
  simp only [Array.getElem?_modify, Array.getElem?_setIfInBounds]
  by_cases hb : L.blk = b
  ·subst hb
   simp only [if_true, hlt, hcb, Option.map_some, onCells]
   rfl
  ·simp [hb]
 have hc's : c'.size = c.size := by simp [c', putCells]
 have hbs : ∀ k, bsize { w with drawn := w.drawn + n } L.blk = some k → bsize (World.setObj { w with drawn := w.drawn + n } L.blk (.cells c' t (0, 0))) L.blk = some k := by
  intro k hk
  rw [bsize_cells (w := { w with drawn := w.drawn + n }) hcb] at hk; cases hk
  rw [bsize_cells (setObj_same { w with drawn := w.drawn + n } L.blk _ hlt)]
  rw [hc's]
 have hc'get : ∀ i j, i < d.size → j < 2 → c'[L.base + i * 2 + j]? = some ((Go.Sort.flatK (enV2 tp) 2 dk)[i * 2 + j]!) := by
  intro i j hi hj
  have h1 := hcell' i j hi hj
  have hq : L.base + i * 2 + j < c.size := (Array.getElem?_eq_some_iff.1 h1).1
  simp only [c', putCells]
  rw [Array.getElem?_mapIdx, h1]
  simp only [Option.map_some, size_flatK, hdks]
  rw [if_pos (by omega)]
  have e : L.base + i * 2 + j - L.base = i * 2 + j := by omega
  rw [e]; rfl
 have hset := hr1.set hL hlive (.row (dk.toList.map (enR2 tp))) rfl (.cells c' t (0, 0)) hbs (by
  refine ⟨hpos, c', t, setObj_same _ _ _ hlt, fun i r hi => ?_, fun i r j y hi hy => ?_⟩
  ·rw [hz]
   rw [List.getElem?_map] at hi
   obtain ⟨x, _, rfl⟩ := Option.map_eq_some_iff.1 hi
   rfl
  ·rw [hz]
   rw [List.getElem?_map] at hi
   obtain ⟨x, hx, rfl⟩ := Option.map_eq_some_iff.1 hi
   have hil : i < dk.size := by
    have := (List.getElem?_eq_some_iff.1 hx).1
    simpa using this
   have hxe : dk[i] = x := by
    have := (List.getElem?_eq_some_iff.1 hx).2
    simpa using this
   obtain ⟨hj, m, rfl, hm⟩ := enR2_get hy
   refine ⟨.int .i64 m, ?_, rfl, .int _ _⟩
   rw [hc'get i j (by omega) hj, flatK_get hil hj, hxe, hm])
 have hext := Ext.set (fun _ => True) hr1 hL hlive (.row (dk.toList.map (enR2 tp))) rfl (.cells c' t (0, 0)) hbs
 have hw2 : w' = grow (World.setObj { w with drawn := w.drawn + n } L.blk (.cells c' t (0, 0))) os := by rw [hw']; unfold sortWorldK; rw [hput]
 generalize hwx : World.setObj { w with drawn := w.drawn + n } L.blk (.cells c' t (0, 0)) = wx at hset hext hw2
 have hold : ∀ b, b < wx.heap.size → (grow wx os).heap[b]? = wx.heap[b]? := by
  intro b hb
  show (wx.heap ++ os)[b]? = _
  rw [Array.getElem?_append_left hb]
 have hkg : Keep (ownB ρ (putA [.row (d.toList.map (enR2 tp))] 0 (.row (dk.toList.map (enR2 tp))))) (ownB ρ (putA [.row (d.toList.map (enR2 tp))] 0 (.row (dk.toList.map (enR2 tp))))) wx (grow wx os) :=
  ⟨by show _ ≤ (wx.heap ++ os).size; simp, fun b hb _ => hold b hb, fun _ _ h => h, fun b k hb => by
   have := bsize_lt hb
   unfold bsize; rw [hold b this]; exact hb, drawnLe.refl _⟩
 have hr3 : HeapRel P ρ [.row (dk.toList.map (enR2 tp))] (grow wx os) := hset.of_keep hkg fun b hb => hold b (own_lt hset hb)
 have hx3 : Ext (fun _ => True) ρ (putA [.row (d.toList.map (enR2 tp))] 0 (.row (dk.toList.map (enR2 tp)))) wx ρ [.row (dk.toList.map (enR2 tp))] (grow wx os) :=
  ⟨rfl, rfl, rfl, hkg, fun _ _ => rfl, rfl, fun b hb => hold b (hset.fr b hb)⟩
 subst hw2
 exact ⟨ρ, .tuple #[], _, fr, hcm, hfn, hlv, .tuple [] #[] rfl (fun i x hx => by simp at hx), hr3, fun id hid => hdm id hid, ((hx1.trans hext).trans hx3).mono fun _ _ => trivial⟩⟩
end
end Go.Am
end
section
namespace M06
def Lt (a b : Pt) : Prop := Pos (sb b a)
def Le (a b : Pt) : Prop := a = b ∨ Lt a b
theorem Lt.trans {a b c : Pt} (h1 : Lt a b) (h2 : Lt b c) : Lt a c := by
 simp only [Lt, Pos, sb] at *; omega
theorem Lt.irrefl {a : Pt} (h : Lt a a) : False := by
 simp only [Lt, Pos, sb] at h; omega
theorem Lt.asymm {a b : Pt} (h : Lt a b) (k : Lt b a) : False := (h.trans k).irrefl
theorem Lt.ne {a b : Pt} (h : Lt a b) : a ≠ b := by rintro rfl; exact h.irrefl
theorem lt_tri (a b : Pt) : Lt a b ∨ a = b ∨ Lt b a := by
 obtain ⟨a1, a2⟩ := a; obtain ⟨b1, b2⟩ := b
 simp only [Lt, Pos, sb, Prod.mk.injEq]; omega
theorem cr_self1 (a b : Pt) : cr a b a = 0 := by simp only [cr, crs, sb]; grind
theorem cr_self2 (a b : Pt) : cr a b b = 0 := by simp only [cr, crs, sb]; grind
theorem cr_swap (a b c : Pt) : cr a c b = - cr a b c := by simp only [cr, crs, sb]; grind
theorem cr_back (s t x : Pt) : crs (sb t x) (sb t s) = cr s t x := by simp only [cr, crs, sb]; grind
theorem cr_back2 (t p x : Pt) : crs (sb t x) (sb p t) = cr t p x := by simp only [cr, crs, sb]; grind
theorem cr_fwd (s t p : Pt) : crs (sb t s) (sb p t) = cr s t p := by simp only [cr, crs, sb]; grind
theorem cr_sum (s t c p : Pt) : cr s t p = cr s t c + crs (sb t s) (sb p c) := by simp only [cr, crs, sb]; grind
def Cov : List Pt → Pt → Prop
 | [], _ => False
 | [t], x => x = t
 | t :: s :: r, x => x = t ∨ (Lt s x ∧ Lt x t ∧ 0 ≤ cr s t x) ∨ Cov (s :: r) x
def Conv : List Pt → Prop
 | t :: s :: r :: l => 0 < cr r s t ∧ Conv (s :: r :: l)
 | _ => True
def Edge : List Pt → Pt → Prop
 | t :: s :: r, x => (0 ≤ cr s t x ∧ (cr s t x = 0 → Le s x ∧ Le x t)) ∧ Edge (s :: r) x
 | _, _ => True
def Left : List Pt → Pt → Prop
 | t :: s :: r, x => 0 < cr s t x ∧ Left (s :: r) x
 | _, _ => True
def Desc : List Pt → Prop
 | t :: s :: r => Lt s t ∧ Desc (s :: r)
 | _ => True
def pop (p : Pt) : List Pt → List Pt
 | t :: s :: r => if cr s t p ≤ 0 then pop p (s :: r) else t :: s :: r
 | l => l
termination_by l => l.length
def push (st : List Pt) (p : Pt) : List Pt := p :: pop p st
theorem Conv.tail {t : Pt} {l : List Pt} (h : Conv (t :: l)) : Conv l := by
 match l, h with
 | [], _ => trivial
 | [_], _ => trivial
 | _ :: _ :: _, h => exact h.2
theorem Desc.tail {t : Pt} {l : List Pt} (h : Desc (t :: l)) : Desc l := by
 match l, h with
 | [], _ => trivial
 | _ :: _, h => exact h.2
theorem Edge.tail {t : Pt} {l : List Pt} {x : Pt} (h : Edge (t :: l) x) : Edge l x := by
 match l, h with
 | [], _ => trivial
 | _ :: _, h => exact h.2
theorem cov_drop {p t s : Pt} {r : List Pt} {x : Pt} (h1 : Lt s t) (h2 : Lt t p) (hc : cr s t p ≤ 0) (h : Cov (p :: t :: s :: r) x) : Cov (p :: s :: r) x := by
 have hsp : Lt s p := h1.trans h2
 rcases h with h | ⟨a, b, c⟩ | h | ⟨a, b, c⟩ | h
 ·exact .inl h
 ·refine .inr (.inl ⟨h1.trans a, b, ?_⟩)
  have e1 : 0 ≤ crs (sb p x) (sb p t) := by rw [cr_back]; exact c
  have e2 : 0 ≤ crs (sb p t) (sb p s) := by rw [cr_back, cr_swap]; omega
  have := crs_trans (show Pos (sb p x) from b) (show Pos (sb p t) from h2) (show Pos (sb p s) from hsp) e1 e2
  rw [cr_back] at this; exact this
 ·subst h
  refine .inr (.inl ⟨h1, h2, ?_⟩)
  rw [cr_swap]; omega
 ·refine .inr (.inl ⟨a, b.trans h2, ?_⟩)
  have e1 : 0 ≤ crs (sb p s) (sb t s) := by
   have : crs (sb p s) (sb t s) = cr s p t := rfl
   rw [this, cr_swap]; omega
  exact crs_trans (show Pos (sb p s) from hsp) (show Pos (sb t s) from h1) (show Pos (sb x s) from a) e1 c
 ·exact .inr (.inr h)
structure Chain (q : List Pt) (st : List Pt) : Prop where
 desc : Desc st
 conv : Conv st
 cov : ∀ x ∈ q, Cov st x
 edge : ∀ x ∈ q, Edge st x
 sub : ∀ y ∈ st, y ∈ q
theorem pop_eq1 (p : Pt) {t s : Pt} {r : List Pt} (h : cr s t p ≤ 0) : pop p (t :: s :: r) = pop p (s :: r) := by
 rw [pop]; simp [h]
theorem pop_eq2 (p : Pt) {t s : Pt} {r : List Pt} (h : ¬ cr s t p ≤ 0) : pop p (t :: s :: r) = t :: s :: r := by
 rw [pop]; simp [h]
theorem pop_one (p t : Pt) : pop p [t] = [t] := by rw [pop]; simp
theorem left_of {p : Pt} : ∀ {st : List Pt}, Desc (p :: st) → Conv st → (∀ t s r, st = t :: s :: r → 0 < cr s t p) → Left st p
 | [], _, _, _ => trivial
 | [_], _, _, _ => trivial
 | [t, s], _, _, h => ⟨h t s [] rfl, trivial⟩
 | t :: s :: r :: l, hd, hc, h => by
  have h1 := h t s _ rfl
  refine ⟨h1, left_of (st := s :: r :: l) ⟨hd.2.1.trans hd.1, hd.2.2⟩ hc.2 ?_⟩
  intro t' s' r' e
  cases e
  have a := hc.1
  have e1 : 0 < crs (sb s r) (sb t s) := by rw [cr_fwd]; exact a
  have e2 : 0 < crs (sb t s) (sb p t) := by rw [cr_fwd]; exact h1
  have := crs_trans_lt (show Pos (sb s r) from hd.2.2.1) (show Pos (sb t s) from hd.2.1) (show Pos (sb p t) from hd.1) (by omega) (by omega) (.inl e1)
  rw [cr_sum r s t p]; omega
theorem cov_le {t : Pt} : ∀ {l : List Pt} {x : Pt}, Desc (t :: l) → Cov (t :: l) x → Le x t
 | [], x, _, h => .inl h
 | s :: r, x, hd, h => by
  rcases h with h | ⟨_, b, _⟩ | h
  ·exact .inl h
  ·exact .inr b
  ·rcases cov_le hd.2 h with h | h
   ·exact .inr (h ▸ hd.1)
   ·exact .inr (h.trans hd.1)
theorem chain_pop {q : List Pt} {p : Pt} : ∀ (st : List Pt), st ≠ [] → Desc (p :: st) → Conv st → (∀ x ∈ q, Cov (p :: st) x) → (∀ x ∈ q, Edge st x) →
  ∃ t r, pop p st = t :: r ∧ Desc (p :: t :: r) ∧ Conv (p :: t :: r) ∧ (∀ x ∈ q, Cov (p :: t :: r) x) ∧ (∀ x ∈ q, Edge (t :: r) x) ∧ (∀ y ∈ t :: r, y ∈ st) ∧ (∀ t' s' r', t :: r = t' :: s' :: r' → 0 < cr s' t' p)
 | [t], _, hd, hc, hv, he => ⟨t, [], pop_one p t, hd, trivial, hv, he, fun y h => h, fun _ _ _ e => by cases e⟩
 | t :: s :: r, _, hd, hc, hv, he => by
  by_cases h : cr s t p ≤ 0
  ·obtain ⟨t', r', g1, g2, g3, g4, g5, g6, g7⟩ := chain_pop (s :: r) (by simp) ⟨hd.2.1.trans hd.1, hd.2.2⟩ hc.tail (fun x hx => cov_drop hd.2.1 hd.1 h (hv x hx)) (fun x hx => (he x hx).tail)
   exact ⟨t', r', by rw [pop_eq1 p h]; exact g1, g2, g3, g4, g5, fun y hy => List.mem_cons_of_mem _ (g6 y hy), g7⟩
  ·refine ⟨t, s :: r, pop_eq2 p h, hd, ⟨by omega, hc⟩, hv, he, fun y h => h, fun _ _ _ e => by cases e; omega⟩
theorem edge_left {p : Pt} : ∀ {st : List Pt}, Left st p → Edge st p
 | [], _ => trivial
 | [_], _ => trivial
 | t :: s :: r, h => ⟨⟨by have := h.1; omega, fun e => by have := h.1; omega⟩, edge_left h.2⟩
theorem chain_push {q st : List Pt} (hne : st ≠ []) (h : Chain q st) {p : Pt} (hp : ∀ x ∈ q, Lt x p) : Chain (q ++ [p]) (push st p) := by
 have hdp : Desc (p :: st) := by
  match st, hne, h with
  | t :: r, _, h => exact ⟨hp t (h.sub t (by simp)), h.desc⟩
 have hcv : ∀ x ∈ q, Cov (p :: st) x := by
  intro x hx
  match st, hne, h.cov x hx with
  | t :: r, _, hc => exact .inr (.inr hc)
 obtain ⟨t, r, g1, g2, g3, g4, g5, g6, g7⟩ := chain_pop st hne hdp h.conv hcv h.edge
 have hps : push st p = p :: t :: r := by rw [push, g1]
 rw [hps]
 have hl : Left (t :: r) p := left_of g2 g3.tail g7
 have htq : t ∈ q := h.sub t (g6 t (by simp))
 refine ⟨g2, g3, fun x hx => ?_, fun x hx => ?_, fun y hy => ?_⟩
 ·rcases List.mem_append.1 hx with hx | hx
  ·exact g4 x hx
  ·simp at hx; subst hx; exact .inl rfl
 ·rcases List.mem_append.1 hx with hx | hx
  ·refine ⟨?_, g5 x hx⟩
   rcases g4 x hx with e | ⟨a, b, c⟩ | hc
   ·subst e; exact ⟨by rw [cr_self2]; omega, fun _ => ⟨.inr g2.1, .inl rfl⟩⟩
   ·exact ⟨c, fun _ => ⟨.inr a, .inr b⟩⟩
   ·
    rcases cov_le g2.2 hc with e | hlt
    ·subst e; exact ⟨by rw [cr_self1]; omega, fun _ => ⟨.inl rfl, .inr g2.1⟩⟩
    ·match r, g2, g5 x hx, g7, hc with
     | [], _, _, _, hc => exact absurd hc hlt.ne
     | s :: r, g2, ge, g7, _ =>
      have e1 : 0 ≤ crs (sb t x) (sb t s) := by rw [cr_back]; exact ge.1.1
      have e2 : 0 < crs (sb t s) (sb p t) := by rw [cr_fwd]; exact g7 t s r rfl
      have := crs_trans_lt (show Pos (sb t x) from hlt) (show Pos (sb t s) from g2.2.1) (show Pos (sb p t) from g2.1) e1 (by omega) (.inr e2)
      rw [cr_back2] at this
      exact ⟨by omega, fun e => by omega⟩
  ·simp at hx; subst hx
   exact ⟨⟨by rw [cr_self2]; omega, fun _ => ⟨.inr g2.1, .inl rfl⟩⟩, edge_left hl⟩
 ·rcases List.mem_cons.1 hy with e | hy
  ·subst e; simp
  ·exact List.mem_append.2 (.inl (h.sub y (g6 y hy)))
theorem chain_one (p : Pt) : Chain [p] [p] := ⟨trivial, trivial, fun x hx => (by simpa using hx : x = p), fun x hx => trivial, fun y hy => hy⟩
theorem chain_fold : ∀ (l q st : List Pt), st ≠ [] → Chain q st → (∀ x ∈ q, ∀ y ∈ l, Lt x y) → l.Pairwise Lt → Chain (q ++ l) (l.foldl push st) ∧ l.foldl push st ≠ []
 | [], q, st, hne, h, _, _ => by simpa using ⟨h, hne⟩
 | p :: l, q, st, hne, h, hq, hl => by
  have h1 := chain_push hne h (fun x hx => hq x hx p (by simp))
  have := chain_fold l (q ++ [p]) (push st p) (by simp [push]) h1 (fun x hx y hy => by
   rcases List.mem_append.1 hx with hx | hx
   ·exact hq x hx y (List.mem_cons_of_mem _ hy)
   ·simp at hx; subst hx; exact (List.pairwise_cons.1 hl).1 y hy) (List.pairwise_cons.1 hl).2
  simpa using this
end M06
end
noncomputable section
namespace Go.Am
def ctr109o : Ctr :=
 ⟨109, [.full 0 2, .int .i64, .int .i64, .clo 87 [] []], [.row [ci, ci]], []⟩
def F109o : Prim → Tup (ctr109o).scs → Option (STup (scss (ctr109o).outs)) :=
 fun _ _ => none
theorem enters109o : Enters Go.Proofs.Try.prog 109 := enters_auto (b := _) rfl (by kernel_rfl)
theorem ok109o : CtrOk Go.Proofs.Try.prog ctr109o (F109o std) := ⟨enters109o, fun x y h => by cases h⟩
def ctr110o : Ctr :=
 ⟨110, [.full 0 2, .int .i64, .int .i64, .clo 87 [] []], [.row [ci, ci]], []⟩
def F110o : Prim → Tup (ctr110o).scs → Option (STup (scss (ctr110o).outs)) :=
 fun _ _ => none
theorem enters110o : Enters Go.Proofs.Try.prog 110 := enters_auto (b := _) rfl (by kernel_rfl)
theorem ok110o : CtrOk Go.Proofs.Try.prog ctr110o (F110o std) := ⟨enters110o, fun x y h => by cases h⟩
def ctr111o : Ctr :=
 ⟨111, [.full 0 2, .int .i64, .int .i64, .clo 87 [] []], [.row [ci, ci]], []⟩
def F111o : Prim → Tup (ctr111o).scs → Option (STup (scss (ctr111o).outs)) :=
 fun _ _ => none
theorem enters111o : Enters Go.Proofs.Try.prog 111 := enters_auto (b := _) rfl (by kernel_rfl)
theorem ok111o : CtrOk Go.Proofs.Try.prog ctr111o (F111o std) := ⟨enters111o, fun x y h => by cases h⟩
def ctr117o : Ctr :=
 ⟨117, [.int .u64], [], [(.ret, ⟨[(0, .int .i64)], [], 1⟩)]⟩
def la117o : List LA :=
 []
def ja117o : List JA :=
 [⟨117, [true, false, true, true], 0, [(AX.normal, ⟨[(0, .int .u64), (2, .int .i64)], [], 25⟩)]⟩,
 ⟨117, [true, false, true], 0, [(AX.normal, ⟨[(0, .int .u64), (2, .int .i64)], [], 25⟩)]⟩,
 ⟨117, [true, false, true, true, true], 0, [(AX.normal, ⟨[(0, .int .u64), (2, .int .i64)], [], 25⟩)]⟩]
def gam117o : List CF :=
 []
def an117o : Anns :=
 ⟨gam117o, ja117o, []⟩
def G117o : (p : Prim) → T1 → Option T0 :=
 fun p x =>
 opt.bnd T4 _ (
 opt.run T4 (
 opt.ask _ (p.cmp .geq x.1 (4294967296 : Int)) (
 opt.need _ (p.cmp .geq (32 : Int) (0 : Int)) <|
 opt.ret _ ((p.ar .shr .u64 x.1 (32 : Int)), ((32 : Int), ()))) (
 opt.ret _ (x.1, ((0 : Int), ()))))) fun a =>
 opt.bnd T4 _ (
 opt.run T4 (
 opt.ask _ (p.cmp .geq a.1 (65536 : Int)) (
 opt.need _ (p.cmp .geq (16 : Int) (0 : Int)) <|
 opt.ret _ ((p.ar .shr .u64 a.1 (16 : Int)), ((p.ar .add .i64 a.2.1 (16 : Int)), ()))) (
 opt.ret _ (a.1, (a.2.1, ()))))) fun b =>
 opt.bnd T4 _ (
 opt.run T4 (
 opt.ask _ (p.cmp .geq b.1 (256 : Int)) (
 opt.need _ (p.cmp .geq (8 : Int) (0 : Int)) <|
 opt.ret _ ((p.ar .shr .u64 b.1 (8 : Int)), ((p.ar .add .i64 b.2.1 (8 : Int)), ()))) (
 opt.ret _ (b.1, (b.2.1, ()))))) fun c =>
 opt.need _ (bif (p.cmp .geq (p.cvt .u8 c.1) (0 : Int)) then (p.cmp .lss (p.cvt .u8 c.1) (p.ofNat 256)) else Bool.false) <|
 opt.ret _ ((p.ar .add .i64 c.2.1 (p.cvt .i64 (p.byte (ByteArray.mk #[0, 1, 2, 2, 3, 3, 3, 3, 4, 4, 4, 4, 4, 4, 4, 4, 5, 5, 5, 5, 5, 5, 5, 5, 5, 5, 5, 5, 5, 5, 5, 5, 6, 6, 6, 6, 6, 6, 6, 6, 6, 6, 6, 6, 6, 6, 6, 6, 6, 6, 6, 6, 6, 6, 6, 6, 6, 6, 6, 6, 6, 6, 6, 6, 7, 7, 7, 7, 7, 7, 7, 7, 7, 7, 7, 7, 7, 7, 7, 7, 7, 7, 7, 7, 7, 7, 7, 7, 7, 7, 7, 7, 7, 7, 7, 7, 7, 7, 7, 7, 7, 7, 7, 7, 7, 7, 7, 7, 7, 7, 7, 7, 7, 7, 7, 7, 7, 7, 7, 7, 7, 7, 7, 7, 7, 7, 7, 7, 8, 8, 8, 8, 8, 8, 8, 8, 8, 8, 8, 8, 8, 8, 8, 8, 8, 8, 8, 8, 8, 8, 8, 8, 8, 8, 8, 8, 8, 8, 8, 8, 8, 8, 8, 8, 8, 8, 8, 8, 8, 8, 8, 8, 8, 8, 8, 8, 8, 8, 8, 8, 8, 8, 8, 8, 8, 8, 8, 8, 8, 8, 8, 8, 8, 8, 8, 8, 8, 8, 8, 8, 8, 8, 8, 8, 8, 8, 8, 8, 8, 8, 8, 8, 8, 8, 8, 8, 8, 8, 8, 8, 8, 8, 8, 8, 8, 8, 8, 8, 8, 8, 8, 8, 8, 8, 8, 8, 8, 8, 8, 8, 8, 8, 8, 8, 8, 8, 8, 8, 8, 8, 8, 8, 8, 8, 8, 8]) (p.cvt .u8 c.1)))), ())
theorem ok117o : CtrOk PG ctr117o (G117o std) := okF (a := an117o) (l := la117o) (gN) (by kernel_rfl) fun _ _ => by kernel_rfl
def ctr105o : Ctr :=
 ⟨105, [.int .u64], [], [(.ret, ⟨[(0, .int .i64)], [], 1⟩)]⟩
def la105o : List LA :=
 []
def ja105o : List JA :=
 []
def gam105o : List CF :=
 [⟨ctr117o, G117o⟩]
def an105o : Anns :=
 ⟨gam105o, ja105o, []⟩
def G105o : (p : Prim) → T1 → Option T0 :=
 fun p x =>
 opt.bnd T0 _ (G117o p (x.1, ())) fun a =>
 opt.ret _ (a.1, ())
theorem ok105o : CtrOk PG ctr105o (G105o std) := okF (a := an105o) (l := la105o) (gC ok117o (gN)) (by kernel_rfl) fun _ _ => by kernel_rfl
def ctr108o : Ctr :=
 ⟨108, [.full 0 2, .int .i64, .int .i64, .clo 87 [] []], [.row [ci, ci]], [(.ret, ⟨[(0, .tuple [])], [.row [ci, ci]], 1⟩)]⟩
def la108o : List LA :=
 [⟨108, [false, true], 1, ⟨⟨[(0, .full 0 2), (1, .int .i64), (2, .int .i64), (3, .clo 87 [] []), (8, .int .i64)], [.row [ci, ci]], 53⟩, [((AX.exit 0), ⟨[], [.row [ci, ci]], 53⟩)]⟩⟩,
 ⟨108, [false, true, false, false, true, false, false, true], 1, ⟨⟨[(0, .full 0 2), (1, .int .i64), (2, .int .i64), (3, .clo 87 [] []), (8, .int .i64), (9, .int .i64)], [.row [ci, ci]], 53⟩, [((AX.exit 2), ⟨[(0, .full 0 2), (1, .int .i64), (2, .int .i64), (3, .clo 87 [] []), (8, .int .i64)], [.row [ci, ci]], 53⟩)]⟩⟩]
def ja108o : List JA :=
 []
def gam108o : List CF :=
 [⟨ctr87, G87⟩]
def an108o : Anns :=
 ⟨gam108o, ja108o, []⟩
def c108o_2 (it : It) (p : Prim) : (LD × T11) → Option ((LD × T11) ⊕ (LD × T7)) :=
 fun a => opt.run _ (
 opt.ask _ (p.cmp .gtr a.2.2.2.2.1 a.2.1) (
 opt.need _ (bif (p.cmp .geq a.2.2.2.2.1 (0 : Int)) then (p.cmp .lss a.2.2.2.2.1 (p.ofNat (p.len a.1))) else Bool.false) <|
 opt.need _ (p.rowOk a.1 (p.add 0 (p.nat a.2.2.2.2.1)) [ci, ci]) <|
 opt.need _ (bif (p.cmp .geq (p.ar .sub .i64 a.2.2.2.2.1 (1 : Int)) (0 : Int)) then (p.cmp .lss (p.ar .sub .i64 a.2.2.2.2.1 (1 : Int)) (p.ofNat (p.len a.1))) else Bool.false) <|
 opt.need _ (p.rowOk a.1 (p.add 0 (p.nat (p.ar .sub .i64 a.2.2.2.2.1 (1 : Int)))) [ci, ci]) <|
 opt.bnd T0 _ (g87 it p ((p.rdI a.1 (p.add 0 (p.nat a.2.2.2.2.1)) 0), ((p.rdI a.1 (p.add 0 (p.nat a.2.2.2.2.1)) 1), ((p.rdI a.1 (p.add 0 (p.nat (p.ar .sub .i64 a.2.2.2.2.1 (1 : Int)))) 0), ((p.rdI a.1 (p.add 0 (p.nat (p.ar .sub .i64 a.2.2.2.2.1 (1 : Int)))) 1), ()))))) fun b =>
 opt.ask _ (p.cmp .lss b.1 (0 : Int)) (
 opt.need _ (bif (p.cmp .geq (p.ar .sub .i64 a.2.2.2.2.1 (1 : Int)) (0 : Int)) then (p.cmp .lss (p.ar .sub .i64 a.2.2.2.2.1 (1 : Int)) (p.ofNat (p.len a.1))) else Bool.false) <|
 opt.need _ (p.rowOk a.1 (p.add 0 (p.nat (p.ar .sub .i64 a.2.2.2.2.1 (1 : Int)))) [ci, ci]) <|
 opt.need _ (bif (p.cmp .geq a.2.2.2.2.1 (0 : Int)) then (p.cmp .lss a.2.2.2.2.1 (p.ofNat (p.len a.1))) else Bool.false) <|
 opt.need _ (p.rowOk a.1 (p.add 0 (p.nat a.2.2.2.2.1)) [ci, ci]) <|
 opt.need _ (bif (p.cmp .geq a.2.2.2.2.1 (0 : Int)) then (p.cmp .lss a.2.2.2.2.1 (p.ofNat (p.len a.1))) else Bool.false) <|
 opt.need _ (p.rowOk a.1 (p.add 0 (p.nat a.2.2.2.2.1)) [ci, ci]) <|
 opt.need _ (bif (p.cmp .geq (p.ar .sub .i64 a.2.2.2.2.1 (1 : Int)) (0 : Int)) then (p.cmp .lss (p.ar .sub .i64 a.2.2.2.2.1 (1 : Int)) (p.ofNat (p.len a.1))) else Bool.false) <|
 opt.need _ (p.rowOk (p.set a.1 (p.add 0 (p.nat a.2.2.2.2.1)) [(D.int .i64 (p.rdI a.1 (p.add 0 (p.nat (p.ar .sub .i64 a.2.2.2.2.1 (1 : Int)))) 0)), (D.int .i64 (p.rdI a.1 (p.add 0 (p.nat (p.ar .sub .i64 a.2.2.2.2.1 (1 : Int)))) 1))]) (p.add 0 (p.nat (p.ar .sub .i64 a.2.2.2.2.1 (1 : Int)))) [ci, ci]) <|
 opt.need _ (p.eqN 0 0) <|
 opt.need _ (p.eqN (p.len a.1) (p.len (p.set (p.set a.1 (p.add 0 (p.nat a.2.2.2.2.1)) [(D.int .i64 (p.rdI a.1 (p.add 0 (p.nat (p.ar .sub .i64 a.2.2.2.2.1 (1 : Int)))) 0)), (D.int .i64 (p.rdI a.1 (p.add 0 (p.nat (p.ar .sub .i64 a.2.2.2.2.1 (1 : Int)))) 1))]) (p.add 0 (p.nat (p.ar .sub .i64 a.2.2.2.2.1 (1 : Int)))) [(D.int .i64 (p.rdI a.1 (p.add 0 (p.nat a.2.2.2.2.1)) 0)), (D.int .i64 (p.rdI a.1 (p.add 0 (p.nat a.2.2.2.2.1)) 1))]))) <|
 opt.need _ (p.eqN (p.len a.1) (p.len (p.set (p.set a.1 (p.add 0 (p.nat a.2.2.2.2.1)) [(D.int .i64 (p.rdI a.1 (p.add 0 (p.nat (p.ar .sub .i64 a.2.2.2.2.1 (1 : Int)))) 0)), (D.int .i64 (p.rdI a.1 (p.add 0 (p.nat (p.ar .sub .i64 a.2.2.2.2.1 (1 : Int)))) 1))]) (p.add 0 (p.nat (p.ar .sub .i64 a.2.2.2.2.1 (1 : Int)))) [(D.int .i64 (p.rdI a.1 (p.add 0 (p.nat a.2.2.2.2.1)) 0)), (D.int .i64 (p.rdI a.1 (p.add 0 (p.nat a.2.2.2.2.1)) 1))]))) <|
 opt.ret _ (Sum.inl ((p.set (p.set a.1 (p.add 0 (p.nat a.2.2.2.2.1)) [(D.int .i64 (p.rdI a.1 (p.add 0 (p.nat (p.ar .sub .i64 a.2.2.2.2.1 (1 : Int)))) 0)), (D.int .i64 (p.rdI a.1 (p.add 0 (p.nat (p.ar .sub .i64 a.2.2.2.2.1 (1 : Int)))) 1))]) (p.add 0 (p.nat (p.ar .sub .i64 a.2.2.2.2.1 (1 : Int)))) [(D.int .i64 (p.rdI a.1 (p.add 0 (p.nat a.2.2.2.2.1)) 0)), (D.int .i64 (p.rdI a.1 (p.add 0 (p.nat a.2.2.2.2.1)) 1))]), (a.2.1, (a.2.2.1, (a.2.2.2.1, ((p.ar .sub .i64 a.2.2.2.2.1 (1 : Int)), ()))))))) (
 opt.need _ (p.eqN 0 0) <|
 opt.need _ (p.eqN (p.len a.1) (p.len a.1)) <|
 opt.need _ (p.eqN (p.len a.1) (p.len a.1)) <|
 opt.ret _ (Sum.inr (a.1, (a.2.1, (a.2.2.1, (a.2.2.2.1, ()))))))) (
 opt.need _ (p.eqN 0 0) <|
 opt.need _ (p.eqN (p.len a.1) (p.len a.1)) <|
 opt.need _ (p.eqN (p.len a.1) (p.len a.1)) <|
 opt.ret _ (Sum.inr (a.1, (a.2.1, (a.2.2.1, (a.2.2.2.1, ())))))))
def c108o_1 (it : It) (p : Prim) : (LD × T7) → Option ((LD × T7) ⊕ (LD × Unit)) :=
 fun a => opt.run _ (
 opt.ask _ (p.cmp .lss a.2.2.2.1 a.2.2.1) (
 opt.need _ (p.eqN 0 0) <|
 opt.need _ (p.eqN (p.len a.1) (p.len a.1)) <|
 opt.need _ (p.eqN (p.len a.1) (p.len a.1)) <|
 opt.bnd ((LD × T7)) _ (
 it _ _ (c108o_2 it p) (a.1, (a.2.1, (a.2.2.1, (a.2.2.2.1, (a.2.2.2.1, ())))))) fun b =>
 opt.need _ (p.eqN 0 0) <|
 opt.need _ (p.eqN (p.len b.1) (p.len b.1)) <|
 opt.need _ (p.eqN (p.len b.1) (p.len b.1)) <|
 opt.ret _ (Sum.inl (b.1, (b.2.1, (b.2.2.1, ((p.ar .add .i64 b.2.2.2.1 (1 : Int)), ())))))) (
 opt.ret _ (Sum.inr (a.1, ()))))
def g108o (it : It) : (p : Prim) → (LD × T3) → Option ((LD × Unit)) :=
 fun p x =>
 opt.need _ (p.eqN 0 0) <|
 opt.need _ (p.eqN (p.len x.1) (p.len x.1)) <|
 opt.need _ (p.eqN (p.len x.1) (p.len x.1)) <|
 opt.bnd ((LD × Unit)) _ (
 it _ _ (c108o_1 it p) (x.1, (x.2.1, (x.2.2.1, ((p.ar .add .i64 x.2.1 (1 : Int)), ()))))) fun a =>
 opt.ret _ (a.1, ())
def G108o := g108o it0
theorem ok108o : CtrOk PG ctr108o (G108o std) := okF (a := an108o) (l := la108o) (gC ok87 (gN)) (by kernel_rfl) fun _ _ => by kernel_rfl
def ctr104o : Ctr :=
 ⟨104, [.full 0 2, .int .i64, .int .i64, .int .i64, .clo 87 [] []], [.row [ci, ci]], [(.ret, ⟨[(0, .tuple [])], [.row [ci, ci]], 1⟩)]⟩
def la104o : List LA :=
 [⟨104, [false, true, true], 1, ⟨⟨[(0, .full 0 2), (1, .int .i64), (2, .int .i64), (3, .int .i64), (4, .clo 87 [] []), (10, .bool), (11, .bool)], [.row [ci, ci]], 148⟩, [(AX.ret, ⟨[], [.row [ci, ci]], 148⟩)]⟩⟩]
def ja104o : List JA :=
 []
def gam104o : List CF :=
 [⟨ctr111o, F111o⟩, ⟨ctr110o, F110o⟩, ⟨ctr109o, F109o⟩, ⟨ctr108o, G108o⟩]
def an104o : Anns :=
 ⟨gam104o, ja104o, []⟩
def c104o_1 (it : It) (p : Prim) : (LD × T26) → Option ((LD × T26) ⊕ (LD × Unit)) :=
 fun a => opt.run _ (
 opt.ask _ (p.cmp .leq (p.ar .sub .i64 a.2.2.1 a.2.1) (12 : Int)) (
 opt.need _ (p.eqN 0 0) <|
 opt.need _ (p.eqN (p.len a.1) (p.len a.1)) <|
 opt.need _ (p.eqN (p.len a.1) (p.len a.1)) <|
 opt.bnd ((LD × Unit)) _ (g108o it p (a.1, (a.2.1, (a.2.2.1, ())))) fun b =>
 opt.ret _ (Sum.inr (b.1, ()))) (
 opt.ask _ (p.cmp .eql a.2.2.2.1 (0 : Int)) (
 opt.need _ (p.eqN 0 0) <|
 opt.need _ (p.eqN (p.len a.1) (p.len a.1)) <|
 opt.need _ (p.eqN (p.len a.1) (p.len a.1)) <|
 opt.no _ 81) (
 opt.ask _ (bif a.2.2.2.2.1 then Bool.false else Bool.true) (
 opt.need _ (p.eqN 0 0) <|
 opt.need _ (p.eqN (p.len a.1) (p.len a.1)) <|
 opt.need _ (p.eqN (p.len a.1) (p.len a.1)) <|
 opt.no _ 81) (
 opt.need _ (p.eqN 0 0) <|
 opt.need _ (p.eqN (p.len a.1) (p.len a.1)) <|
 opt.need _ (p.eqN (p.len a.1) (p.len a.1)) <|
 opt.no _ 81))))
def g104o (it : It) : (p : Prim) → (LD × T7) → Option ((LD × Unit)) :=
 fun p x =>
 opt.need _ (p.eqN 0 0) <|
 opt.need _ (p.eqN (p.len x.1) (p.len x.1)) <|
 opt.need _ (p.eqN (p.len x.1) (p.len x.1)) <|
 opt.bnd ((LD × Unit)) _ (
 it _ _ (c104o_1 it p) (x.1, (x.2.1, (x.2.2.1, (x.2.2.2.1, (Bool.true, (Bool.true, ()))))))) fun a =>
 opt.ret _ (a.1, ())
def G104o := g104o it0
theorem ok104o : CtrOk PG ctr104o (G104o std) := okF (a := an104o) (l := la104o) (gC ok111o (gC ok110o (gC ok109o (gC ok108o (gN))))) (by kernel_rfl) fun _ _ => by kernel_rfl
def ctr97op : Ctr :=
 ⟨97, [.full 0 2, .clo 87 [] []], [.row [ci, ci]], [(.ret, ⟨[(0, .tuple [])], [.row [ci, ci]], 1⟩)]⟩
def la97op : List LA :=
 []
def ja97op : List JA :=
 []
def gam97op : List CF :=
 [⟨ctr104o, G104o⟩, ⟨ctr105o, G105o⟩]
def an97op : Anns :=
 ⟨gam97op, ja97op, []⟩
def g97op (it : It) : (p : Prim) → (LD × Unit) → Option ((LD × Unit)) :=
 fun p x =>
 opt.bnd T0 _ (G105o p ((p.cvt .u64 (p.ofNat (p.len x.1))), ())) fun a =>
 opt.need _ (p.eqN 0 0) <|
 opt.need _ (p.eqN (p.len x.1) (p.len x.1)) <|
 opt.need _ (p.eqN (p.len x.1) (p.len x.1)) <|
 opt.bnd ((LD × Unit)) _ (g104o it p (x.1, ((0 : Int), ((p.ofNat (p.len x.1)), (a.1, ()))))) fun b =>
 opt.ret _ (b.1, ())
def G97op := g97op it0
theorem ok97op : CtrOk PG ctr97op (G97op std) := okF (a := an97op) (l := la97op) (gC ok104o (gC ok105o (gN))) (by kernel_rfl) fun _ _ => by kernel_rfl
end Go.Am
end
noncomputable section
namespace Go.Am
def ctr109t : Ctr :=
 ⟨109, [.vec 0 2, .int .i64, .int .i64, .clo 98 [] []], [.row [ci, ci]], []⟩
def F109t : Prim → Tup (ctr109t).scs → Option (STup (scss (ctr109t).outs)) :=
 fun _ _ => none
theorem enters109t : Enters Go.Proofs.Try.prog 109 := enters_auto (b := _) rfl (by kernel_rfl)
theorem ok109t : CtrOk Go.Proofs.Try.prog ctr109t (F109t std) := ⟨enters109t, fun x y h => by cases h⟩
def ctr110t : Ctr :=
 ⟨110, [.vec 0 2, .int .i64, .int .i64, .clo 98 [] []], [.row [ci, ci]], []⟩
def F110t : Prim → Tup (ctr110t).scs → Option (STup (scss (ctr110t).outs)) :=
 fun _ _ => none
theorem enters110t : Enters Go.Proofs.Try.prog 110 := enters_auto (b := _) rfl (by kernel_rfl)
theorem ok110t : CtrOk Go.Proofs.Try.prog ctr110t (F110t std) := ⟨enters110t, fun x y h => by cases h⟩
def ctr111t : Ctr :=
 ⟨111, [.vec 0 2, .int .i64, .int .i64, .clo 98 [] []], [.row [ci, ci]], []⟩
def F111t : Prim → Tup (ctr111t).scs → Option (STup (scss (ctr111t).outs)) :=
 fun _ _ => none
theorem enters111t : Enters Go.Proofs.Try.prog 111 := enters_auto (b := _) rfl (by kernel_rfl)
theorem ok111t : CtrOk Go.Proofs.Try.prog ctr111t (F111t std) := ⟨enters111t, fun x y h => by cases h⟩
def ctr117t : Ctr :=
 ⟨117, [.int .u64], [], [(.ret, ⟨[(0, .int .i64)], [], 1⟩)]⟩
def la117t : List LA :=
 []
def ja117t : List JA :=
 [⟨117, [true, false, true, true], 0, [(AX.normal, ⟨[(0, .int .u64), (2, .int .i64)], [], 25⟩)]⟩,
 ⟨117, [true, false, true], 0, [(AX.normal, ⟨[(0, .int .u64), (2, .int .i64)], [], 25⟩)]⟩,
 ⟨117, [true, false, true, true, true], 0, [(AX.normal, ⟨[(0, .int .u64), (2, .int .i64)], [], 25⟩)]⟩]
def gam117t : List CF :=
 []
def an117t : Anns :=
 ⟨gam117t, ja117t, []⟩
def G117t : (p : Prim) → T1 → Option T0 :=
 fun p x =>
 opt.bnd T4 _ (
 opt.run T4 (
 opt.ask _ (p.cmp .geq x.1 (4294967296 : Int)) (
 opt.need _ (p.cmp .geq (32 : Int) (0 : Int)) <|
 opt.ret _ ((p.ar .shr .u64 x.1 (32 : Int)), ((32 : Int), ()))) (
 opt.ret _ (x.1, ((0 : Int), ()))))) fun a =>
 opt.bnd T4 _ (
 opt.run T4 (
 opt.ask _ (p.cmp .geq a.1 (65536 : Int)) (
 opt.need _ (p.cmp .geq (16 : Int) (0 : Int)) <|
 opt.ret _ ((p.ar .shr .u64 a.1 (16 : Int)), ((p.ar .add .i64 a.2.1 (16 : Int)), ()))) (
 opt.ret _ (a.1, (a.2.1, ()))))) fun b =>
 opt.bnd T4 _ (
 opt.run T4 (
 opt.ask _ (p.cmp .geq b.1 (256 : Int)) (
 opt.need _ (p.cmp .geq (8 : Int) (0 : Int)) <|
 opt.ret _ ((p.ar .shr .u64 b.1 (8 : Int)), ((p.ar .add .i64 b.2.1 (8 : Int)), ()))) (
 opt.ret _ (b.1, (b.2.1, ()))))) fun c =>
 opt.need _ (bif (p.cmp .geq (p.cvt .u8 c.1) (0 : Int)) then (p.cmp .lss (p.cvt .u8 c.1) (p.ofNat 256)) else Bool.false) <|
 opt.ret _ ((p.ar .add .i64 c.2.1 (p.cvt .i64 (p.byte (ByteArray.mk #[0, 1, 2, 2, 3, 3, 3, 3, 4, 4, 4, 4, 4, 4, 4, 4, 5, 5, 5, 5, 5, 5, 5, 5, 5, 5, 5, 5, 5, 5, 5, 5, 6, 6, 6, 6, 6, 6, 6, 6, 6, 6, 6, 6, 6, 6, 6, 6, 6, 6, 6, 6, 6, 6, 6, 6, 6, 6, 6, 6, 6, 6, 6, 6, 7, 7, 7, 7, 7, 7, 7, 7, 7, 7, 7, 7, 7, 7, 7, 7, 7, 7, 7, 7, 7, 7, 7, 7, 7, 7, 7, 7, 7, 7, 7, 7, 7, 7, 7, 7, 7, 7, 7, 7, 7, 7, 7, 7, 7, 7, 7, 7, 7, 7, 7, 7, 7, 7, 7, 7, 7, 7, 7, 7, 7, 7, 7, 7, 8, 8, 8, 8, 8, 8, 8, 8, 8, 8, 8, 8, 8, 8, 8, 8, 8, 8, 8, 8, 8, 8, 8, 8, 8, 8, 8, 8, 8, 8, 8, 8, 8, 8, 8, 8, 8, 8, 8, 8, 8, 8, 8, 8, 8, 8, 8, 8, 8, 8, 8, 8, 8, 8, 8, 8, 8, 8, 8, 8, 8, 8, 8, 8, 8, 8, 8, 8, 8, 8, 8, 8, 8, 8, 8, 8, 8, 8, 8, 8, 8, 8, 8, 8, 8, 8, 8, 8, 8, 8, 8, 8, 8, 8, 8, 8, 8, 8, 8, 8, 8, 8, 8, 8, 8, 8, 8, 8, 8, 8, 8, 8, 8, 8, 8, 8, 8, 8, 8, 8, 8, 8, 8, 8, 8, 8, 8, 8]) (p.cvt .u8 c.1)))), ())
theorem ok117t : CtrOk PG ctr117t (G117t std) := okF (a := an117t) (l := la117t) (gN) (by kernel_rfl) fun _ _ => by kernel_rfl
def ctr105t : Ctr :=
 ⟨105, [.int .u64], [], [(.ret, ⟨[(0, .int .i64)], [], 1⟩)]⟩
def la105t : List LA :=
 []
def ja105t : List JA :=
 []
def gam105t : List CF :=
 [⟨ctr117t, G117t⟩]
def an105t : Anns :=
 ⟨gam105t, ja105t, []⟩
def G105t : (p : Prim) → T1 → Option T0 :=
 fun p x =>
 opt.bnd T0 _ (G117t p (x.1, ())) fun a =>
 opt.ret _ (a.1, ())
theorem ok105t : CtrOk PG ctr105t (G105t std) := okF (a := an105t) (l := la105t) (gC ok117t (gN)) (by kernel_rfl) fun _ _ => by kernel_rfl
def ctr108t : Ctr :=
 ⟨108, [.vec 0 2, .int .i64, .int .i64, .clo 98 [] []], [.row [ci, ci]], [(.ret, ⟨[(0, .tuple [])], [.row [ci, ci]], 1⟩)]⟩
def la108t : List LA :=
 [⟨108, [false, true], 1, ⟨⟨[(0, .vec 0 2), (1, .int .i64), (2, .int .i64), (3, .clo 98 [] []), (8, .int .i64)], [.row [ci, ci]], 53⟩, [((AX.exit 0), ⟨[], [.row [ci, ci]], 53⟩)]⟩⟩,
 ⟨108, [false, true, false, false, true, false, false, true], 1, ⟨⟨[(0, .vec 0 2), (1, .int .i64), (2, .int .i64), (3, .clo 98 [] []), (8, .int .i64), (9, .int .i64)], [.row [ci, ci]], 53⟩, [((AX.exit 2), ⟨[(0, .vec 0 2), (1, .int .i64), (2, .int .i64), (3, .clo 98 [] []), (8, .int .i64)], [.row [ci, ci]], 53⟩)]⟩⟩]
def ja108t : List JA :=
 []
def gam108t : List CF :=
 [⟨ctr98, G98⟩]
def an108t : Anns :=
 ⟨gam108t, ja108t, []⟩
def b108t_2 (p : Prim) : (LD × T11) → Option ((LD × T11) ⊕ (LD × T7)) :=
 fun a => opt.run _ (
 opt.ask _ (p.cmp .gtr a.2.2.2.2.1 a.2.1) (
 opt.need _ (bif (p.cmp .geq a.2.2.2.2.1 (0 : Int)) then (p.cmp .lss a.2.2.2.2.1 (p.ofNat (p.len a.1))) else Bool.false) <|
 opt.need _ (p.rowOk a.1 (p.add 0 (p.nat a.2.2.2.2.1)) [ci, ci]) <|
 opt.need _ (bif (p.cmp .geq (p.ar .sub .i64 a.2.2.2.2.1 (1 : Int)) (0 : Int)) then (p.cmp .lss (p.ar .sub .i64 a.2.2.2.2.1 (1 : Int)) (p.ofNat (p.len a.1))) else Bool.false) <|
 opt.need _ (p.rowOk a.1 (p.add 0 (p.nat (p.ar .sub .i64 a.2.2.2.2.1 (1 : Int)))) [ci, ci]) <|
 opt.bnd T0 _ (G98 p ((p.rdI a.1 (p.add 0 (p.nat a.2.2.2.2.1)) 0), ((p.rdI a.1 (p.add 0 (p.nat a.2.2.2.2.1)) 1), ((p.rdI a.1 (p.add 0 (p.nat (p.ar .sub .i64 a.2.2.2.2.1 (1 : Int)))) 0), ((p.rdI a.1 (p.add 0 (p.nat (p.ar .sub .i64 a.2.2.2.2.1 (1 : Int)))) 1), ()))))) fun b =>
 opt.ask _ (p.cmp .lss b.1 (0 : Int)) (
 opt.need _ (bif (p.cmp .geq (p.ar .sub .i64 a.2.2.2.2.1 (1 : Int)) (0 : Int)) then (p.cmp .lss (p.ar .sub .i64 a.2.2.2.2.1 (1 : Int)) (p.ofNat (p.len a.1))) else Bool.false) <|
 opt.need _ (p.rowOk a.1 (p.add 0 (p.nat (p.ar .sub .i64 a.2.2.2.2.1 (1 : Int)))) [ci, ci]) <|
 opt.need _ (bif (p.cmp .geq a.2.2.2.2.1 (0 : Int)) then (p.cmp .lss a.2.2.2.2.1 (p.ofNat (p.len a.1))) else Bool.false) <|
 opt.need _ (p.rowOk a.1 (p.add 0 (p.nat a.2.2.2.2.1)) [ci, ci]) <|
 opt.need _ (bif (p.cmp .geq a.2.2.2.2.1 (0 : Int)) then (p.cmp .lss a.2.2.2.2.1 (p.ofNat (p.len a.1))) else Bool.false) <|
 opt.need _ (p.rowOk a.1 (p.add 0 (p.nat a.2.2.2.2.1)) [ci, ci]) <|
 opt.need _ (bif (p.cmp .geq (p.ar .sub .i64 a.2.2.2.2.1 (1 : Int)) (0 : Int)) then (p.cmp .lss (p.ar .sub .i64 a.2.2.2.2.1 (1 : Int)) (p.ofNat (p.len a.1))) else Bool.false) <|
 opt.need _ (p.rowOk (p.set a.1 (p.add 0 (p.nat a.2.2.2.2.1)) [(D.int .i64 (p.rdI a.1 (p.add 0 (p.nat (p.ar .sub .i64 a.2.2.2.2.1 (1 : Int)))) 0)), (D.int .i64 (p.rdI a.1 (p.add 0 (p.nat (p.ar .sub .i64 a.2.2.2.2.1 (1 : Int)))) 1))]) (p.add 0 (p.nat (p.ar .sub .i64 a.2.2.2.2.1 (1 : Int)))) [ci, ci]) <|
 opt.need _ (p.eqN 0 0) <|
 opt.need _ (p.eqN (p.len a.1) (p.len (p.set (p.set a.1 (p.add 0 (p.nat a.2.2.2.2.1)) [(D.int .i64 (p.rdI a.1 (p.add 0 (p.nat (p.ar .sub .i64 a.2.2.2.2.1 (1 : Int)))) 0)), (D.int .i64 (p.rdI a.1 (p.add 0 (p.nat (p.ar .sub .i64 a.2.2.2.2.1 (1 : Int)))) 1))]) (p.add 0 (p.nat (p.ar .sub .i64 a.2.2.2.2.1 (1 : Int)))) [(D.int .i64 (p.rdI a.1 (p.add 0 (p.nat a.2.2.2.2.1)) 0)), (D.int .i64 (p.rdI a.1 (p.add 0 (p.nat a.2.2.2.2.1)) 1))]))) <|
 opt.ret _ (Sum.inl ((p.set (p.set a.1 (p.add 0 (p.nat a.2.2.2.2.1)) [(D.int .i64 (p.rdI a.1 (p.add 0 (p.nat (p.ar .sub .i64 a.2.2.2.2.1 (1 : Int)))) 0)), (D.int .i64 (p.rdI a.1 (p.add 0 (p.nat (p.ar .sub .i64 a.2.2.2.2.1 (1 : Int)))) 1))]) (p.add 0 (p.nat (p.ar .sub .i64 a.2.2.2.2.1 (1 : Int)))) [(D.int .i64 (p.rdI a.1 (p.add 0 (p.nat a.2.2.2.2.1)) 0)), (D.int .i64 (p.rdI a.1 (p.add 0 (p.nat a.2.2.2.2.1)) 1))]), (a.2.1, (a.2.2.1, (a.2.2.2.1, ((p.ar .sub .i64 a.2.2.2.2.1 (1 : Int)), ()))))))) (
 opt.need _ (p.eqN 0 0) <|
 opt.need _ (p.eqN (p.len a.1) (p.len a.1)) <|
 opt.ret _ (Sum.inr (a.1, (a.2.1, (a.2.2.1, (a.2.2.2.1, ()))))))) (
 opt.need _ (p.eqN 0 0) <|
 opt.need _ (p.eqN (p.len a.1) (p.len a.1)) <|
 opt.ret _ (Sum.inr (a.1, (a.2.1, (a.2.2.1, (a.2.2.2.1, ())))))))
def c108t_1 (it : It) (p : Prim) : (LD × T7) → Option ((LD × T7) ⊕ (LD × Unit)) :=
 fun a => opt.run _ (
 opt.ask _ (p.cmp .lss a.2.2.2.1 a.2.2.1) (
 opt.need _ (p.eqN 0 0) <|
 opt.need _ (p.eqN (p.len a.1) (p.len a.1)) <|
 opt.bnd ((LD × T7)) _ (
 it _ _ (b108t_2 p) (a.1, (a.2.1, (a.2.2.1, (a.2.2.2.1, (a.2.2.2.1, ())))))) fun b =>
 opt.need _ (p.eqN 0 0) <|
 opt.need _ (p.eqN (p.len b.1) (p.len b.1)) <|
 opt.ret _ (Sum.inl (b.1, (b.2.1, (b.2.2.1, ((p.ar .add .i64 b.2.2.2.1 (1 : Int)), ())))))) (
 opt.ret _ (Sum.inr (a.1, ()))))
def g108t (it : It) : (p : Prim) → (LD × T3) → Option ((LD × Unit)) :=
 fun p x =>
 opt.need _ (p.eqN 0 0) <|
 opt.need _ (p.eqN (p.len x.1) (p.len x.1)) <|
 opt.bnd ((LD × Unit)) _ (
 it _ _ (c108t_1 it p) (x.1, (x.2.1, (x.2.2.1, ((p.ar .add .i64 x.2.1 (1 : Int)), ()))))) fun a =>
 opt.ret _ (a.1, ())
def G108t := g108t it0
theorem ok108t : CtrOk PG ctr108t (G108t std) := okF (a := an108t) (l := la108t) (gC ok98 (gN)) (by kernel_rfl) fun _ _ => by kernel_rfl
def ctr104t : Ctr :=
 ⟨104, [.vec 0 2, .int .i64, .int .i64, .int .i64, .clo 98 [] []], [.row [ci, ci]], [(.ret, ⟨[(0, .tuple [])], [.row [ci, ci]], 1⟩)]⟩
def la104t : List LA :=
 [⟨104, [false, true, true], 1, ⟨⟨[(0, .vec 0 2), (1, .int .i64), (2, .int .i64), (3, .int .i64), (4, .clo 98 [] []), (10, .bool), (11, .bool)], [.row [ci, ci]], 148⟩, [(AX.ret, ⟨[], [.row [ci, ci]], 148⟩)]⟩⟩]
def ja104t : List JA :=
 []
def gam104t : List CF :=
 [⟨ctr111t, F111t⟩, ⟨ctr110t, F110t⟩, ⟨ctr109t, F109t⟩, ⟨ctr108t, G108t⟩]
def an104t : Anns :=
 ⟨gam104t, ja104t, []⟩
def c104t_1 (it : It) (p : Prim) : (LD × T26) → Option ((LD × T26) ⊕ (LD × Unit)) :=
 fun a => opt.run _ (
 opt.ask _ (p.cmp .leq (p.ar .sub .i64 a.2.2.1 a.2.1) (12 : Int)) (
 opt.need _ (p.eqN 0 0) <|
 opt.need _ (p.eqN (p.len a.1) (p.len a.1)) <|
 opt.bnd ((LD × Unit)) _ (g108t it p (a.1, (a.2.1, (a.2.2.1, ())))) fun b =>
 opt.ret _ (Sum.inr (b.1, ()))) (
 opt.ask _ (p.cmp .eql a.2.2.2.1 (0 : Int)) (
 opt.need _ (p.eqN 0 0) <|
 opt.need _ (p.eqN (p.len a.1) (p.len a.1)) <|
 opt.no _ 81) (
 opt.ask _ (bif a.2.2.2.2.1 then Bool.false else Bool.true) (
 opt.need _ (p.eqN 0 0) <|
 opt.need _ (p.eqN (p.len a.1) (p.len a.1)) <|
 opt.no _ 81) (
 opt.need _ (p.eqN 0 0) <|
 opt.need _ (p.eqN (p.len a.1) (p.len a.1)) <|
 opt.no _ 81))))
def g104t (it : It) : (p : Prim) → (LD × T7) → Option ((LD × Unit)) :=
 fun p x =>
 opt.need _ (p.eqN 0 0) <|
 opt.need _ (p.eqN (p.len x.1) (p.len x.1)) <|
 opt.bnd ((LD × Unit)) _ (
 it _ _ (c104t_1 it p) (x.1, (x.2.1, (x.2.2.1, (x.2.2.2.1, (Bool.true, (Bool.true, ()))))))) fun a =>
 opt.ret _ (a.1, ())
def G104t := g104t it0
theorem ok104t : CtrOk PG ctr104t (G104t std) := okF (a := an104t) (l := la104t) (gC ok111t (gC ok110t (gC ok109t (gC ok108t (gN))))) (by kernel_rfl) fun _ _ => by kernel_rfl
def ctr97tp : Ctr :=
 ⟨97, [.vec 0 2, .clo 98 [] []], [.row [ci, ci]], [(.ret, ⟨[(0, .tuple [])], [.row [ci, ci]], 1⟩)]⟩
def la97tp : List LA :=
 []
def ja97tp : List JA :=
 []
def gam97tp : List CF :=
 [⟨ctr104t, G104t⟩, ⟨ctr105t, G105t⟩]
def an97tp : Anns :=
 ⟨gam97tp, ja97tp, []⟩
def g97tp (it : It) : (p : Prim) → (LD × Unit) → Option ((LD × Unit)) :=
 fun p x =>
 opt.bnd T0 _ (G105t p ((p.cvt .u64 (p.ofNat (p.len x.1))), ())) fun a =>
 opt.need _ (p.eqN 0 0) <|
 opt.need _ (p.eqN (p.len x.1) (p.len x.1)) <|
 opt.bnd ((LD × Unit)) _ (g104t it p (x.1, ((0 : Int), ((p.ofNat (p.len x.1)), (a.1, ()))))) fun b =>
 opt.ret _ (b.1, ())
def G97tp := g97tp it0
theorem ok97tp : CtrOk PG ctr97tp (G97tp std) := okF (a := an97tp) (l := la97tp) (gC ok104t (gC ok105t (gN))) (by kernel_rfl) fun _ _ => by kernel_rfl
end Go.Am
end
section
namespace Go.Proofs
open Go.RowKit Go.Sort Go.Shelf
def laySortFRen : Go.Shelf.Ren := ⟨fun | 57 => 123 | 46 => 118 | 48 => 120 | 47 => 119 | 50 => 122 | 49 => 121 | 29 => 117 | 28 => 116 | 27 => 115 | 26 => 114 | 25 => 113 | 24 => 112 | 23 => 111 | 22 => 110 | 21 => 109 | 20 => 108 | 14 => 104 | 15 => 105 | 6 => 97 | n => n, fun | 77 => 172 | 76 => 171 | 66 => 165 | 70 => 169 | 9 => 9 | 5 => 5 | 55 => 164 | 53 => 162 | 50 => 159 | 45 => 154 | 46 => 155 | 4 => 4 | 0 => 0 | 39 => 149 | 3 => 3 | 25 => 131 | 24 => 86 | 22 => 82 | n => n, fun | n => n⟩
theorem laySortF : Go.Proofs.SlLaysF0.n6 Try.prog laySortFRen :=
  { mixed := by kernel_rfl,
    f6 := by first | exact ⟨Try.f97.name, by decide, Try.func97.trans (congrArg some (by kernel_rfl))⟩ | exact Try.func97.trans (congrArg some (by kernel_rfl)),
    f14 := by first | exact ⟨Try.f104.name, by decide, Try.func104.trans (congrArg some (by kernel_rfl))⟩ | exact Try.func104.trans (congrArg some (by kernel_rfl)),
    f15 := by first | exact ⟨Try.f105.name, by decide, Try.func105.trans (congrArg some (by kernel_rfl))⟩ | exact Try.func105.trans (congrArg some (by kernel_rfl)),
    f20 := by first | exact ⟨Try.f108.name, by decide, Try.func108.trans (congrArg some (by kernel_rfl))⟩ | exact Try.func108.trans (congrArg some (by kernel_rfl)),
    f21 := by first | exact ⟨Try.f109.name, by decide, Try.func109.trans (congrArg some (by kernel_rfl))⟩ | exact Try.func109.trans (congrArg some (by kernel_rfl)),
    f22 := by first | exact ⟨Try.f110.name, by decide, Try.func110.trans (congrArg some (by kernel_rfl))⟩ | exact Try.func110.trans (congrArg some (by kernel_rfl)),
    f23 := by first | exact ⟨Try.f111.name, by decide, Try.func111.trans (congrArg some (by kernel_rfl))⟩ | exact Try.func111.trans (congrArg some (by kernel_rfl)),
    f24 := by first | exact ⟨Try.f112.name, by decide, Try.func112.trans (congrArg some (by kernel_rfl))⟩ | exact Try.func112.trans (congrArg some (by kernel_rfl)),
    f25 := by first | exact ⟨Try.f113.name, by decide, Try.func113.trans (congrArg some (by kernel_rfl))⟩ | exact Try.func113.trans (congrArg some (by kernel_rfl)),
    f26 := by first | exact ⟨Try.f114.name, by decide, Try.func114.trans (congrArg some (by kernel_rfl))⟩ | exact Try.func114.trans (congrArg some (by kernel_rfl)),
    f27 := by first | exact ⟨Try.f115.name, by decide, Try.func115.trans (congrArg some (by kernel_rfl))⟩ | exact Try.func115.trans (congrArg some (by kernel_rfl)),
    f28 := by first | exact ⟨Try.f116.name, by decide, Try.func116.trans (congrArg some (by kernel_rfl))⟩ | exact Try.func116.trans (congrArg some (by kernel_rfl)),
    f29 := by first | exact ⟨Try.f117.name, by decide, Try.func117.trans (congrArg some (by kernel_rfl))⟩ | exact Try.func117.trans (congrArg some (by kernel_rfl)),
    f46 := by first | exact ⟨Try.f118.name, by decide, Try.func118.trans (congrArg some (by kernel_rfl))⟩ | exact Try.func118.trans (congrArg some (by kernel_rfl)),
    f47 := by first | exact ⟨Try.f119.name, by decide, Try.func119.trans (congrArg some (by kernel_rfl))⟩ | exact Try.func119.trans (congrArg some (by kernel_rfl)),
    f48 := by first | exact ⟨Try.f120.name, by decide, Try.func120.trans (congrArg some (by kernel_rfl))⟩ | exact Try.func120.trans (congrArg some (by kernel_rfl)),
    f49 := by first | exact ⟨Try.f121.name, by decide, Try.func121.trans (congrArg some (by kernel_rfl))⟩ | exact Try.func121.trans (congrArg some (by kernel_rfl)),
    f50 := by first | exact ⟨Try.f122.name, by decide, Try.func122.trans (congrArg some (by kernel_rfl))⟩ | exact Try.func122.trans (congrArg some (by kernel_rfl)),
    f57 := by first | exact ⟨Try.f123.name, by decide, Try.func123.trans (congrArg some (by kernel_rfl))⟩ | exact Try.func123.trans (congrArg some (by kernel_rfl)),
    t0 := by exact Try.underlying0,
    a0 := by exact Try.isAgg0,
    z0 := by exact Try.sizeOf0,
    v0 := by exact Try.zeroValue0,
    t3 := by exact Try.underlying3,
    a3 := by exact Try.isAgg3,
    z3 := by exact Try.sizeOf3,
    v3 := by exact Try.zeroValue3,
    t4 := by exact Try.underlying4,
    a4 := by exact Try.isAgg4,
    z4 := by exact Try.sizeOf4,
    v4 := by exact Try.zeroValue4,
    t5 := by exact Try.underlying5,
    a5 := by exact Try.isAgg5,
    z5 := by exact Try.sizeOf5,
    v5 := by exact Try.zeroValue5,
    t9 := by exact Try.underlying9,
    a9 := by exact Try.isAgg9,
    z9 := by exact Try.sizeOf9,
    v9 := by exact Try.zeroValue9,
    t22 := by exact Try.underlying82,
    a22 := by exact Try.isAgg82,
    z22 := by exact Try.sizeOf82,
    v22 := by exact Try.zeroValue82,
    t25 := by exact Try.underlying131,
    a25 := by exact Try.isAgg131,
    z25 := by exact Try.sizeOf131,
    v25 := by exact Try.zeroValue131,
    t39 := by exact Try.underlying149,
    a39 := by exact Try.isAgg149,
    z39 := by exact Try.sizeOf149,
    v39 := by exact Try.zeroValue149,
    t45 := by exact Try.underlying154,
    a45 := by exact Try.isAgg154,
    z45 := by exact Try.sizeOf154,
    v45 := by exact Try.zeroValue154,
    t46 := by exact Try.underlying155,
    a46 := by exact Try.isAgg155,
    z46 := by exact Try.sizeOf155,
    v46 := by exact Try.zeroValue155,
    t50 := by exact Try.underlying159,
    a50 := by exact Try.isAgg159,
    z50 := by exact Try.sizeOf159,
    v50 := by exact Try.zeroValue159,
    t53 := by exact Try.underlying162,
    a53 := by exact Try.isAgg162,
    z53 := by exact Try.sizeOf162,
    v53 := by exact Try.zeroValue162,
    t55 := by exact Try.underlying164,
    a55 := by exact Try.isAgg164,
    z55 := by exact Try.sizeOf164,
    v55 := by exact Try.zeroValue164,
    t66 := by exact Try.underlying165,
    a66 := by exact Try.isAgg165,
    z66 := by exact Try.sizeOf165,
    v66 := by exact Try.zeroValue165,
    t70 := by exact Try.underlying169,
    a70 := by exact Try.isAgg169,
    z70 := by exact Try.sizeOf169,
    v70 := by exact Try.zeroValue169,
    t76 := by exact Try.underlying171,
    a76 := by exact Try.isAgg171,
    z76 := by exact Try.sizeOf171,
    v76 := by exact Try.zeroValue171,
    t77 := by exact Try.underlying172,
    a77 := by exact Try.isAgg172,
    z77 := by exact Try.sizeOf172,
    v77 := by exact Try.zeroValue172 }
end Go.Proofs
namespace Go.Am
open Go.Proofs Go.Sort Go.Shelf M06
theorem cmpZ_lt {a b : Int} : cmpZ a b < 0 ↔ a < b := by unfold cmpZ; omega
theorem cmpZ_ne {a b : Int} : cmpZ a b ≠ 0 ↔ a ≠ b := by unfold cmpZ; omega
theorem ltOf_iff {α : Type} {cf : α → α → Int} {x y : α} : ltOf cf x y = true ↔ cf x y < 0 := decide_eq_true_iff
theorem ordC_neg {x y : Int × Int} : ordC x y < 0 ↔ Lt x y := by
 simp only [Lt, Pos, sb]
 unfold ordC
 by_cases h : x.1 = y.1
 ·have : ¬ cmpZ x.1 y.1 ≠ 0 := by rw [cmpZ_ne]; omega
  rw [if_neg this, cmpZ_lt]; omega
 ·have : cmpZ x.1 y.1 ≠ 0 := by rw [cmpZ_ne]; omega
  rw [if_pos this, cmpZ_lt]; omega
theorem ordC_lt {x y : Int × Int} : ltOf ordC x y = true ↔ Lt x y := ltOf_iff.trans ordC_neg
theorem swo_ord : SWO (ltOf ordC) where
 irrefl := fun x => by
  cases h : ltOf ordC x x with
  | false => rfl
  | true => exact (ordC_lt.1 h).irrefl.elim
 trans := fun x y z h1 h2 => ordC_lt.2 ((ordC_lt.1 h1).trans (ordC_lt.1 h2))
 ntrans := fun x y z h1 h2 => by
  cases h : ltOf ordC x z with
  | false => rfl
  | true =>
   have h := ordC_lt.1 h
   have a : ¬ Lt x y := fun k => by rw [ordC_lt.2 k] at h1; cases h1
   have b : ¬ Lt y z := fun k => by rw [ordC_lt.2 k] at h2; cases h2
   exfalso
   rcases lt_tri x y with k | k | k
   ·exact a k
   ·exact b (k ▸ h)
   ·exact b (k.trans h)
abbrev Wy : Type := { p : Int × Int // Small p ∧ p ≠ (0, 0) }
instance : Inhabited Wy := ⟨⟨(1, 0), by unfold Small; decide, by decide⟩⟩
def ng2 (a : Pt) : Pt := (-a.1, -a.2)
theorem back_pos {p : Int × Int} (h : p ≠ (0, 0)) : (backC p = false ↔ Pos p) ∧ (backC p = true ↔ Pos (ng2 p)) := by
 obtain ⟨a, b⟩ := p
 have h : ¬ (a = 0 ∧ b = 0) := by simpa using h
 simp only [backC, decide_eq_false_iff_not, decide_eq_true_eq, Pos, ng2]
 omega
theorem cmpZ0_lt {c : Int} : cmpZ 0 c < 0 ↔ 0 < c := cmpZ_lt
theorem turnC_neg {x y : Int × Int} : turnC x y < 0 ↔ (backC x = false ∧ backC y = true) ∨ (backC x = backC y ∧ 0 < crs x y) := by
 unfold turnC
 have e : crs x y = x.1 * y.2 - x.2 * y.1 := rfl
 rw [e]
 cases hx : backC x <;> cases hy : backC y <;> simp [cmpZ0_lt]
theorem turnC_lt {x y : Wy} : ltOf (fun x y : Wy => turnC x.1 y.1) x y = true ↔ (backC x.1 = false ∧ backC y.1 = true) ∨ (backC x.1 = backC y.1 ∧ 0 < crs x.1 y.1) := ltOf_iff.trans turnC_neg
theorem crs_ng (u v : Pt) : crs (ng2 u) (ng2 v) = crs u v := by simp only [crs, ng2]; grind
theorem turn_trans {x y z : Wy} (hxy : backC x.1 = backC y.1) (hyz : backC y.1 = backC z.1) (h1 : 0 ≤ crs x.1 y.1) (h2 : 0 ≤ crs y.1 z.1) : 0 ≤ crs x.1 z.1 ∧ (0 < crs x.1 y.1 ∨ 0 < crs y.1 z.1 → 0 < crs x.1 z.1) := by
 cases hx : backC x.1 with
 | false =>
  have a := (back_pos x.2.2).1.1 hx
  have b := (back_pos y.2.2).1.1 (hxy ▸ hx)
  have c := (back_pos z.2.2).1.1 (hyz ▸ hxy ▸ hx)
  exact ⟨crs_trans a b c h1 h2, crs_trans_lt a b c h1 h2⟩
 | true =>
  have a := (back_pos x.2.2).2.1 hx
  have b := (back_pos y.2.2).2.1 (hxy ▸ hx)
  have c := (back_pos z.2.2).2.1 (hyz ▸ hxy ▸ hx)
  rw [← crs_ng] at h1 h2
  rw [← crs_ng x.1 z.1, ← crs_ng x.1 y.1, ← crs_ng y.1 z.1]
  exact ⟨crs_trans a b c h1 h2, crs_trans_lt a b c h1 h2⟩
theorem crs_anti (u v : Pt) : crs u v = - crs v u := by simp only [crs]; grind
theorem swo_turn : SWO (ltOf (fun x y : Wy => turnC x.1 y.1)) where
 irrefl := fun x => by
  cases h : ltOf (fun x y : Wy => turnC x.1 y.1) x x with
  | false => rfl
  | true =>
   rcases turnC_lt.1 h with ⟨a, b⟩ | ⟨_, b⟩
   ·rw [a] at b; cases b
   ·have := crs_anti x.1 x.1; omega
 trans := fun x y z h1 h2 => by
  rcases turnC_lt.1 h1 with ⟨a, b⟩ | ⟨a, b⟩ <;> rcases turnC_lt.1 h2 with ⟨c, d⟩ | ⟨c, d⟩
  ·rw [b] at c; cases c
  ·exact turnC_lt.2 (.inl ⟨a, c ▸ b⟩)
  ·exact turnC_lt.2 (.inl ⟨a ▸ c, d⟩)
  ·exact turnC_lt.2 (.inr ⟨a.trans c, (turn_trans a c (by omega) (by omega)).2 (.inl b)⟩)
 ntrans := fun x y z h1 h2 => by
  cases h : ltOf (fun x y : Wy => turnC x.1 y.1) x z with
  | false => rfl
  | true =>
   exfalso
   have n1 : ¬ ((backC x.1 = false ∧ backC y.1 = true) ∨ (backC x.1 = backC y.1 ∧ 0 < crs x.1 y.1)) := fun k => by rw [turnC_lt.2 k] at h1; cases h1
   have n2 : ¬ ((backC y.1 = false ∧ backC z.1 = true) ∨ (backC y.1 = backC z.1 ∧ 0 < crs y.1 z.1)) := fun k => by rw [turnC_lt.2 k] at h2; cases h2
   have n3 := turnC_lt.1 h
   cases hx : backC x.1 <;> cases hy : backC y.1 <;> cases hz : backC z.1 <;> rw [hx, hy] at n1 <;> rw [hy, hz] at n2 <;> rw [hx, hz] at n3 <;> simp at n1 n2 n3
   ·have e1 := crs_anti x.1 y.1; have e2 := crs_anti y.1 z.1; have e3 := crs_anti x.1 z.1
    have := (turn_trans (x := z) (y := y) (z := x) (by rw [hz, hy]) (by rw [hy, hx]) (by omega) (by omega)).1
    omega
   ·have e1 := crs_anti x.1 y.1; have e2 := crs_anti y.1 z.1; have e3 := crs_anti x.1 z.1
    have := (turn_trans (x := z) (y := y) (z := x) (by rw [hz, hy]) (by rw [hy, hx]) (by omega) (by omega)).1
    omega
theorem oneV2 {α : Type} (f : α → Int × Int) : ∀ x, ∀ v ∈ enV2 f x, v.oneCell' = true := by
 intro x v hv
 simp only [enV2, List.mem_cons, List.not_mem_nil, or_false] at hv
 rcases hv with rfl | rfl <;> rfl
theorem sortCall_o : SortCall Go.Proofs.Try.prog 97 87 ordC id := fun blk off cap d w hc hH hb hs =>
 AnyQ.slices_SortFunc_eq laySortF 2 Try.isAgg86 Try.sizeOf86 (enV2 id) (fun _ => rfl) (oneV2 id) ordC swo_ord 87 #[] blk off cap d w (fun args w => enters87 args w) hc hH hb hs
theorem sortCall_t : SortCall Go.Proofs.Try.prog 97 98 (fun x y : Wy => turnC x.1 y.1) Subtype.val := fun blk off cap d w hc hH hb hs =>
 AnyQ.slices_SortFunc_eq laySortF 2 Try.isAgg86 Try.sizeOf86 (enV2 Subtype.val) (fun _ => rfl) (oneV2 Subtype.val) _ swo_turn 98 #[] blk off cap d w (fun args w => enters98 args w) hc hH hb hs
theorem cmp_o (x y : Int × Int) : ARet Go.Proofs.Try.prog 87 (toA [.agg (enR2 id x), .agg (enR2 id y)]) [] (.d (.int .i64 (ordC x y))) [] :=
 (ok87.2 (x.1, x.2, y.1, y.2, ()) (ordC x y, ()) (G87_ok x y)).2
theorem cmp_t (x y : Wy) : ARet Go.Proofs.Try.prog 98 (toA [.agg (enR2 Subtype.val x), .agg (enR2 Subtype.val y)]) [] (.d (.int .i64 (turnC x.1 y.1))) [] :=
 (ok98.2 (x.1.1, x.1.2, y.1.1, y.1.2, ()) (turnC x.1 y.1, ()) (G98_ok x.2.1 y.2.1)).2
def dPt : List D → Option (Int × Int)
 | [.int .i64 a, .int .i64 b] => some (a, b)
 | _ => none
def dAll : List (List D) → Option (List (Int × Int))
 | [] => some []
 | r :: l => match dPt r, dAll l with
  | some p, some t => some (p :: t)
  | _, _ => none
theorem dPt_ok {r : List D} {p : Int × Int} (h : dPt r = some p) : r = enR2 id p := by
 unfold dPt at h
 split at h
 ·cases h; rfl
 ·cases h
theorem dAll_ok : ∀ {es : List (List D)} {l : List (Int × Int)}, dAll es = some l → es = l.map (enR2 id)
 | [], l, h => by cases h; rfl
 | r :: es, l, h => by
  simp only [dAll] at h
  cases hp : dPt r with
  | none => rw [hp] at h; cases h
  | some p =>
   rw [hp] at h
   cases ht : dAll es with
   | none => rw [ht] at h; cases h
   | some t =>
    rw [ht] at h; cases h
    rw [List.map_cons, ← dPt_ok hp, ← dAll_ok ht]
instance (p : Int × Int) : Decidable (Small p) := by unfold Small; infer_instance
def dWy : List (Int × Int) → Option (List Wy)
 | [] => some []
 | p :: l => match dWy l with
  | some t => if h : Small p ∧ p ≠ (0, 0) then some (⟨p, h⟩ :: t) else none
  | none => none
theorem dWy_ok : ∀ {l : List (Int × Int)} {t : List Wy}, dWy l = some t → l = t.map Subtype.val
 | [], t, h => by cases h; rfl
 | p :: l, t, h => by
  simp only [dWy] at h
  cases ht : dWy l with
  | none => rw [ht] at h; cases h
  | some u =>
   rw [ht] at h
   simp only at h
   split at h
   ·cases h; rw [dWy_ok ht]; rfl
   ·cases h
def q97o (x : List (List D) × Unit) : Option (List (List D) × Unit) :=
 match dAll x.1 with
 | some (p :: l) => if l.length ≤ 1000000 then some ((pdq (ltOf ordC) (p :: l).toArray 0 (p :: l).toArray.size (Lib.bitLen (p :: l).toArray.size) true true).toList.map (enR2 id), ()) else none
 | _ => none
def q97t (x : List (List D) × Unit) : Option (List (List D) × Unit) :=
 match (dAll x.1).bind dWy with
 | some (p :: l) => if l.length ≤ 1000000 then some ((pdq (ltOf (fun x y : Wy => turnC x.1 y.1)) (p :: l).toArray 0 (p :: l).toArray.size (Lib.bitLen (p :: l).toArray.size) true true).toList.map (enR2 Subtype.val), ()) else none
 | _ => none
noncomputable def ctr97o : Ctr := ctr97op
noncomputable def ctr97t : Ctr := ctr97tp
noncomputable def g97o (it : It) : (p : Prim) → (List (List (Go.Am.D)) × Unit) → Option ((List (List (Go.Am.D)) × Unit)) :=
 fun p x => bif Nat.ble x.1.length 12 then (g97op it p x) else (q97o x)
noncomputable def G97o := g97o it0
noncomputable def F97o : Prim → Tup (ctr97o).scs → Option (STup (scss (ctr97o).outs)) :=
 fun p x => G97o p x
noncomputable def g97t (it : It) : (p : Prim) → (List (List (Go.Am.D)) × Unit) → Option ((List (List (Go.Am.D)) × Unit)) :=
 fun p x => bif Nat.ble x.1.length 12 then (g97tp it p x) else (q97t x)
noncomputable def G97t := g97t it0
noncomputable def F97t : Prim → Tup (ctr97t).scs → Option (STup (scss (ctr97t).outs)) :=
 fun p x => G97t p x
theorem ok97o : CtrOk Go.Proofs.Try.prog ctr97o (F97o std) := by
 refine ⟨ok97op.1, fun x y hy => ?_⟩
 obtain ⟨es, u⟩ := x
 change (bif Nat.ble es.length 12 then (G97op std (es, ())) else q97o (es, ())) = some y at hy
 cases hb : Nat.ble es.length 12 with
 | true => rw [hb] at hy; exact ok97op.2 (es, ()) y hy
 | false =>
  rw [hb] at hy
  simp only [cond_false, q97o] at hy
  split at hy
  ·rename_i p l hd
   split at hy
   ·rename_i hl
    cases hy
    have he := dAll_ok hd
    have key := sort_aret (P := Go.Proofs.Try.prog) swo_ord sortCall_o cmp_o (d := (p :: l).toArray) (by simp) (by simp; omega) (some (p :: l).toArray.size)
    have hes : es = (p :: l).toArray.toList.map (enR2 id) := he
    have hlen : (p :: l).toArray.size = es.length := by rw [he]; simp
    rw [← hes] at key
    refine ⟨by show 1 ≤ 1; omega, ?_⟩
    have key' := key
    rw [hlen] at key'
    rw [hlen]
    exact key'
   ·cases hy
  ·cases hy
theorem ok97t : CtrOk Go.Proofs.Try.prog ctr97t (F97t std) := by
 refine ⟨ok97tp.1, fun x y hy => ?_⟩
 obtain ⟨es, u⟩ := x
 change (bif Nat.ble es.length 12 then (G97tp std (es, ())) else q97t (es, ())) = some y at hy
 cases hb : Nat.ble es.length 12 with
 | true => rw [hb] at hy; exact ok97tp.2 (es, ()) y hy
 | false =>
  rw [hb] at hy
  simp only [cond_false, q97t] at hy
  split at hy
  ·rename_i p l hd
   split at hy
   ·rename_i hl
    cases hy
    obtain ⟨ps, h1, h2⟩ := Option.bind_eq_some_iff.1 hd
    have he := dAll_ok h1
    have he2 := dWy_ok h2
    have key := sort_aret (P := Go.Proofs.Try.prog) swo_turn sortCall_t cmp_t (d := (p :: l).toArray) (by simp) (by simp; omega) none
    have hes : es = (p :: l).toArray.toList.map (enR2 Subtype.val) := by
     rw [he, he2, List.map_map]; rfl
    have hlen : (p :: l).toArray.size = es.length := by rw [hes]; simp
    rw [← hes] at key
    refine ⟨by show 1 ≤ 1; omega, ?_⟩
    have key' := key
    rw [hlen] at key'
    rw [hlen]
    exact key'
   ·cases hy
  ·cases hy
end Go.Am
end
section
namespace Go.Am
open M06 Go.Sort Go.Proofs
namespace Sorto
theorem it0_eq {S R : Type} (b : S → Option (S ⊕ R)) (s : S) : it0 S R b s = iter b s := rfl
section
variable {α : Type} [Inhabited α]
def encA (tp : α → Pt) (d : Array α) : List (List D) := d.toList.map (enR2 tp)
theorem encA_get {tp : α → Pt} {d : Array α} {j : Nat} (h : j < d.size) : (encA tp d)[j]? = some (enR2 tp d[j]!) := by
 simp [encA, h]
theorem encA_len (tp : α → Pt) (d : Array α) : (encA tp d).length = d.size := by simp [encA]
theorem swp_size (d : Array α) (i j : Nat) : (swp d i j).size = d.size := by simp [swp]
theorem encA_swp {tp : α → Pt} {d : Array α} {i j : Nat} : encA tp (swp d i j) = ((encA tp d).set i (enR2 tp d[j]!)).set j (enR2 tp d[i]!) := by
 simp [encA, swp, List.map_set]
theorem insInner_size (lt : α → α → Bool) (a : Nat) : ∀ (j : Nat) (d : Array α), (insInner lt a j d).size = d.size
 | 0, d => rfl
 | j + 1, d => by
  simp only [insInner]
  split
  ·rw [insInner_size lt a j, swp_size]
  ·rfl
theorem cells_enR2 (tp : α → Pt) (x : α) : cellsOk [CK.int IntKind.i64, CK.int IntKind.i64] (enR2 tp x) = true := rfl
theorem dI_enR20 (tp : α → Pt) (x : α) : dI ((enR2 tp x)[0]?.getD D.nilp) = (tp x).1 := rfl
theorem dI_enR21 (tp : α → Pt) (x : α) : dI ((enR2 tp x)[1]?.getD D.nilp) = (tp x).2 := rfl
theorem inso_inner {tp : α → Pt} {cf : α → α → Int} (hcf : ∀ x y : α, G87 std ((tp x).1, (tp x).2, (tp y).1, (tp y).2, ()) = some (cf x y, ())) (b i : Int) :
  ∀ (j : Nat) (d : Array α), j < d.size → d.size ≤ 1000000 → iter (c108o_2 it0 std) (encA tp d, (0 : Int), b, i, (j : Int), ()) = some (encA tp (insInner (ltOf cf) 0 j d), (0 : Int), b, i, ()) := by
 intro j
 induction j with
 | zero =>
  intro d hj hs
  rw [iter_unfold]
  have : c108o_2 it0 std (encA tp d, (0 : Int), b, i, ((0 : Nat) : Int), ()) = some (.inr (encA tp d, (0 : Int), b, i, ())) := by
   have hn : ¬ ((0 : Nat) : Int) > 0 := by omega
   simp only [c108o_2, stdS, stdL, hn]
  rw [this]; rfl
 | succ j ih =>
  intro d hj hs
  rw [iter_unfold]
  have hx := encA_get (tp := tp) hj
  have hy := encA_get (tp := tp) (show j < d.size by omega)
  have hl := encA_len tp d
  have hw : IntKind.i64.wrap (((j + 1 : Nat) : Int) - 1) = (j : Int) := by rw [wrap64] <;> omega
  have hg : ((j + 1 : Nat) : Int) > 0 := by omega
  have h0 : ((j + 1 : Nat) : Int) ≥ 0 := by omega
  have h1 : ((j + 1 : Nat) : Int) < (d.size : Int) := by omega
  have h2 : (j : Int) ≥ 0 := by omega
  have h3 : (j : Int) < (d.size : Int) := by omega
  have hsj : ((encA tp d).set (j + 1) (enR2 tp d[j]!))[j]? = some (enR2 tp d[j]!) := by
   rw [List.getElem?_set_ne (by omega), hy]
  have hc := hcf d[j + 1]! d[j]!
  unfold G87 at hc
  have hrow : ∀ x : α, [D.int IntKind.i64 (tp x).1, D.int IntKind.i64 (tp x).2] = enR2 tp x := fun _ => rfl
  simp only [insInner]
  have hgt : (j + 1 > 0) := by omega
  by_cases hlt : cf d[j + 1]! d[j]! < 0
  ·have hb : c108o_2 it0 std (encA tp d, (0 : Int), b, i, ((j + 1 : Nat) : Int), ()) = some (.inl (encA tp (swp d (j + 1) j), (0 : Int), b, i, (j : Int), ())) := by
    simp only [c108o_2, stdS, stdL, cells_enR2, dI_enR20, dI_enR21, std_ar_sub, hg, h0, h1, h2, h3, hw, hx, hy, hl, hc, hlt, hrow, hsj, List.length_set, encA_swp]
   rw [hb]
   have := ih (swp d (j + 1) j) (by rw [swp_size]; omega) (by rw [swp_size]; exact hs)
   simp only [this]
   have : (decide (j + 1 > 0) && ltOf cf d[j + 1]! d[j]!) = true := by simp [ltOf, hlt]
   rw [if_pos this]
  ·have hb : c108o_2 it0 std (encA tp d, (0 : Int), b, i, ((j + 1 : Nat) : Int), ()) = some (.inr (encA tp d, (0 : Int), b, i, ())) := by
    simp only [c108o_2, stdS, stdL, cells_enR2, dI_enR20, dI_enR21, std_ar_sub, hg, h0, h1, h2, h3, hw, hx, hy, hl, hc, hlt, hrow, hsj, List.length_set]
   rw [hb]
   have : ¬ (decide (j + 1 > 0) && ltOf cf d[j + 1]! d[j]!) = true := by simp [ltOf]; omega
   rw [if_neg this]
theorem inso_outer {tp : α → Pt} {cf : α → α → Int} (hcf : ∀ x y : α, G87 std ((tp x).1, (tp x).2, (tp y).1, (tp y).2, ()) = some (cf x y, ())) (n : Nat) (hn : n ≤ 1000000) :
  ∀ (k i : Nat) (d : Array α), n - i = k → d.size = n → iter (c108o_1 it0 std) (encA tp d, (0 : Int), (n : Int), (i : Int), ()) = some (encA tp (insOuter (ltOf cf) 0 n i d), ()) := by
 intro k
 induction k with
 | zero =>
  intro i d hk hs
  rw [iter_unfold, insOuter, if_neg (by omega)]
  have : c108o_1 it0 std (encA tp d, (0 : Int), (n : Int), (i : Int), ()) = some (.inr (encA tp d, ())) := by
   have hnn : ¬ (i : Int) < (n : Int) := by omega
   simp only [c108o_1, stdS, stdL, hnn]
  rw [this]
 | succ k ih =>
  intro i d hk hs
  rw [iter_unfold, insOuter, if_pos (by omega)]
  have hin := inso_inner hcf (n : Int) (i : Int) i d (by omega) (by omega)
  have hw := wrap_nat (i := i) (by omega)
  have hlt : (i : Int) < (n : Int) := by omega
  have : c108o_1 it0 std (encA tp d, (0 : Int), (n : Int), (i : Int), ()) = some (.inl (encA tp (insInner (ltOf cf) 0 i d), (0 : Int), (n : Int), ((i + 1 : Nat) : Int), ())) := by
   simp only [c108o_1, it0_eq, stdS, stdL, hlt, hin, std_ar_add, hw]
  rw [this]
  exact ih (i + 1) _ (by omega) (by rw [insInner_size]; exact hs)
theorem inso_all {tp : α → Pt} {cf : α → α → Int} (hcf : ∀ x y : α, G87 std ((tp x).1, (tp x).2, (tp y).1, (tp y).2, ()) = some (cf x y, ())) (d : Array α) (hn : d.size ≤ 1000000) :
  G108o std (encA tp d, (0 : Int), (d.size : Int), ()) = some (encA tp (insertionSort (ltOf cf) d 0 d.size), ()) := by
 have h := inso_outer hcf d.size hn (d.size - 1) 1 d rfl rfl
 have hw : IntKind.i64.wrap ((0 : Int) + 1) = 1 := by decide
 unfold G108o
 simp only [g108o, it0_eq, stdS, stdL, std_ar_add, hw]
 rw [show ((1 : Int)) = ((1 : Nat) : Int) from rfl, h]
 rfl
theorem pdq_small (lt : α → α → Bool) (d : Array α) (hd : d.size ≤ 12) (l : Nat) (u v : Bool) : pdq lt d 0 d.size l u v = insertionSort lt d 0 d.size := by
 rw [pdq, if_pos (by omega)]
theorem sorto_small {tp : α → Pt} {cf : α → α → Int} (hcf : ∀ x y : α, G87 std ((tp x).1, (tp x).2, (tp y).1, (tp y).2, ()) = some (cf x y, ())) (d : Array α) (hd : d.size ≤ 12) :
  G97op std (encA tp d, ()) = some (encA tp (pdq (ltOf cf) d 0 d.size (Lib.bitLen d.size) true true), ()) := by
 have h := inso_all hcf d (by omega)
 unfold G108o at h
 have hl := encA_len tp d
 have h105 : ∃ y, G105o std (IntKind.u64.wrap (d.size : Int), ()) = some y := by
  have hs : d.size = 0 ∨ d.size = 1 ∨ d.size = 2 ∨ d.size = 3 ∨ d.size = 4 ∨ d.size = 5 ∨ d.size = 6 ∨ d.size = 7 ∨ d.size = 8 ∨ d.size = 9 ∨ d.size = 10 ∨ d.size = 11 ∨ d.size = 12 := by omega
  rcases hs with h | h | h | h | h | h | h | h | h | h | h | h | h <;> rw [h] <;> exact ⟨_, rfl⟩
 obtain ⟨y, h105⟩ := h105
 have hw : IntKind.i64.wrap ((d.size : Int) - 0) = (d.size : Int) := by rw [wrap64] <;> omega
 have h12 : (d.size : Int) ≤ 12 := by omega
 have hb : ∀ q : Int, c104o_1 it0 std (encA tp d, (0 : Int), (d.size : Int), q, true, true, ()) = some (.inr (encA tp (insertionSort (ltOf cf) d 0 d.size), ())) := by
  intro q
  simp only [c104o_1, stdS, stdL, std_ar_sub, hw, h12, h]
 unfold G97op
 simp only [g97op, g104o, it0_eq, stdS, stdL, hl, h105]
 rw [iter_unfold, hb, pdq_small _ _ hd]
 rfl
end
end Sorto
end Go.Am
end
section
namespace Go.Am
open M06 Go.Sort Go.Proofs
namespace Sortt
theorem it0_eq {S R : Type} (b : S → Option (S ⊕ R)) (s : S) : it0 S R b s = iter b s := rfl
section
variable {α : Type} [Inhabited α]
def encA (tp : α → Pt) (d : Array α) : List (List D) := d.toList.map (enR2 tp)
theorem encA_get {tp : α → Pt} {d : Array α} {j : Nat} (h : j < d.size) : (encA tp d)[j]? = some (enR2 tp d[j]!) := by
 simp [encA, h]
theorem encA_len (tp : α → Pt) (d : Array α) : (encA tp d).length = d.size := by simp [encA]
theorem swp_size (d : Array α) (i j : Nat) : (swp d i j).size = d.size := by simp [swp]
theorem encA_swp {tp : α → Pt} {d : Array α} {i j : Nat} : encA tp (swp d i j) = ((encA tp d).set i (enR2 tp d[j]!)).set j (enR2 tp d[i]!) := by
 simp [encA, swp, List.map_set]
theorem insInner_size (lt : α → α → Bool) (a : Nat) : ∀ (j : Nat) (d : Array α), (insInner lt a j d).size = d.size
 | 0, d => rfl
 | j + 1, d => by
  simp only [insInner]
  split
  ·rw [insInner_size lt a j, swp_size]
  ·rfl
theorem cells_enR2 (tp : α → Pt) (x : α) : cellsOk [CK.int IntKind.i64, CK.int IntKind.i64] (enR2 tp x) = true := rfl
theorem dI_enR20 (tp : α → Pt) (x : α) : dI ((enR2 tp x)[0]?.getD D.nilp) = (tp x).1 := rfl
theorem dI_enR21 (tp : α → Pt) (x : α) : dI ((enR2 tp x)[1]?.getD D.nilp) = (tp x).2 := rfl
theorem inst_inner {tp : α → Pt} {cf : α → α → Int} (hcf : ∀ x y : α, G98 std ((tp x).1, (tp x).2, (tp y).1, (tp y).2, ()) = some (cf x y, ())) (b i : Int) :
  ∀ (j : Nat) (d : Array α), j < d.size → d.size ≤ 1000000 → iter (b108t_2 std) (encA tp d, (0 : Int), b, i, (j : Int), ()) = some (encA tp (insInner (ltOf cf) 0 j d), (0 : Int), b, i, ()) := by
 intro j
 induction j with
 | zero =>
  intro d hj hs
  rw [iter_unfold]
  have : b108t_2 std (encA tp d, (0 : Int), b, i, ((0 : Nat) : Int), ()) = some (.inr (encA tp d, (0 : Int), b, i, ())) := by
   have hn : ¬ ((0 : Nat) : Int) > 0 := by omega
   simp only [b108t_2, stdS, stdL, hn]
  rw [this]; rfl
 | succ j ih =>
  intro d hj hs
  rw [iter_unfold]
  have hx := encA_get (tp := tp) hj
  have hy := encA_get (tp := tp) (show j < d.size by omega)
  have hl := encA_len tp d
  have hw : IntKind.i64.wrap (((j + 1 : Nat) : Int) - 1) = (j : Int) := by rw [wrap64] <;> omega
  have hg : ((j + 1 : Nat) : Int) > 0 := by omega
  have h0 : ((j + 1 : Nat) : Int) ≥ 0 := by omega
  have h1 : ((j + 1 : Nat) : Int) < (d.size : Int) := by omega
  have h2 : (j : Int) ≥ 0 := by omega
  have h3 : (j : Int) < (d.size : Int) := by omega
  have hsj : ((encA tp d).set (j + 1) (enR2 tp d[j]!))[j]? = some (enR2 tp d[j]!) := by
   rw [List.getElem?_set_ne (by omega), hy]
  have hc := hcf d[j + 1]! d[j]!
  have hrow : ∀ x : α, [D.int IntKind.i64 (tp x).1, D.int IntKind.i64 (tp x).2] = enR2 tp x := fun _ => rfl
  simp only [insInner]
  have hgt : (j + 1 > 0) := by omega
  by_cases hlt : cf d[j + 1]! d[j]! < 0
  ·have hb : b108t_2 std (encA tp d, (0 : Int), b, i, ((j + 1 : Nat) : Int), ()) = some (.inl (encA tp (swp d (j + 1) j), (0 : Int), b, i, (j : Int), ())) := by
    simp only [b108t_2, stdS, stdL, cells_enR2, dI_enR20, dI_enR21, std_ar_sub, hg, h0, h1, h2, h3, hw, hx, hy, hl, hc, hlt, hrow, hsj, List.length_set, encA_swp]
   rw [hb]
   have := ih (swp d (j + 1) j) (by rw [swp_size]; omega) (by rw [swp_size]; exact hs)
   simp only [this]
   have : (decide (j + 1 > 0) && ltOf cf d[j + 1]! d[j]!) = true := by simp [ltOf, hlt]
   rw [if_pos this]
  ·have hb : b108t_2 std (encA tp d, (0 : Int), b, i, ((j + 1 : Nat) : Int), ()) = some (.inr (encA tp d, (0 : Int), b, i, ())) := by
    simp only [b108t_2, stdS, stdL, cells_enR2, dI_enR20, dI_enR21, std_ar_sub, hg, h0, h1, h2, h3, hw, hx, hy, hl, hc, hlt, hrow, hsj, List.length_set]
   rw [hb]
   have : ¬ (decide (j + 1 > 0) && ltOf cf d[j + 1]! d[j]!) = true := by simp [ltOf]; omega
   rw [if_neg this]
theorem inst_outer {tp : α → Pt} {cf : α → α → Int} (hcf : ∀ x y : α, G98 std ((tp x).1, (tp x).2, (tp y).1, (tp y).2, ()) = some (cf x y, ())) (n : Nat) (hn : n ≤ 1000000) :
  ∀ (k i : Nat) (d : Array α), n - i = k → d.size = n → iter (c108t_1 it0 std) (encA tp d, (0 : Int), (n : Int), (i : Int), ()) = some (encA tp (insOuter (ltOf cf) 0 n i d), ()) := by
 intro k
 induction k with
 | zero =>
  intro i d hk hs
  rw [iter_unfold, insOuter, if_neg (by omega)]
  have : c108t_1 it0 std (encA tp d, (0 : Int), (n : Int), (i : Int), ()) = some (.inr (encA tp d, ())) := by
   have hnn : ¬ (i : Int) < (n : Int) := by omega
   simp only [c108t_1, stdS, stdL, hnn]
  rw [this]
 | succ k ih =>
  intro i d hk hs
  rw [iter_unfold, insOuter, if_pos (by omega)]
  have hin := inst_inner hcf (n : Int) (i : Int) i d (by omega) (by omega)
  have hw := wrap_nat (i := i) (by omega)
  have hlt : (i : Int) < (n : Int) := by omega
  have : c108t_1 it0 std (encA tp d, (0 : Int), (n : Int), (i : Int), ()) = some (.inl (encA tp (insInner (ltOf cf) 0 i d), (0 : Int), (n : Int), ((i + 1 : Nat) : Int), ())) := by
   simp only [c108t_1, it0_eq, stdS, stdL, hlt, hin, std_ar_add, hw]
  rw [this]
  exact ih (i + 1) _ (by omega) (by rw [insInner_size]; exact hs)
theorem inst_all {tp : α → Pt} {cf : α → α → Int} (hcf : ∀ x y : α, G98 std ((tp x).1, (tp x).2, (tp y).1, (tp y).2, ()) = some (cf x y, ())) (d : Array α) (hn : d.size ≤ 1000000) :
  G108t std (encA tp d, (0 : Int), (d.size : Int), ()) = some (encA tp (insertionSort (ltOf cf) d 0 d.size), ()) := by
 have h := inst_outer hcf d.size hn (d.size - 1) 1 d rfl rfl
 have hw : IntKind.i64.wrap ((0 : Int) + 1) = 1 := by decide
 unfold G108t
 simp only [g108t, it0_eq, stdS, stdL, std_ar_add, hw]
 rw [show ((1 : Int)) = ((1 : Nat) : Int) from rfl, h]
 rfl
theorem pdq_small (lt : α → α → Bool) (d : Array α) (hd : d.size ≤ 12) (l : Nat) (u v : Bool) : pdq lt d 0 d.size l u v = insertionSort lt d 0 d.size := by
 rw [pdq, if_pos (by omega)]
theorem sortt_small {tp : α → Pt} {cf : α → α → Int} (hcf : ∀ x y : α, G98 std ((tp x).1, (tp x).2, (tp y).1, (tp y).2, ()) = some (cf x y, ())) (d : Array α) (hd : d.size ≤ 12) :
  G97tp std (encA tp d, ()) = some (encA tp (pdq (ltOf cf) d 0 d.size (Lib.bitLen d.size) true true), ()) := by
 have h := inst_all hcf d (by omega)
 unfold G108t at h
 have hl := encA_len tp d
 have h105 : ∃ y, G105t std (IntKind.u64.wrap (d.size : Int), ()) = some y := by
  have hs : d.size = 0 ∨ d.size = 1 ∨ d.size = 2 ∨ d.size = 3 ∨ d.size = 4 ∨ d.size = 5 ∨ d.size = 6 ∨ d.size = 7 ∨ d.size = 8 ∨ d.size = 9 ∨ d.size = 10 ∨ d.size = 11 ∨ d.size = 12 := by omega
  rcases hs with h | h | h | h | h | h | h | h | h | h | h | h | h <;> rw [h] <;> exact ⟨_, rfl⟩
 obtain ⟨y, h105⟩ := h105
 have hw : IntKind.i64.wrap ((d.size : Int) - 0) = (d.size : Int) := by rw [wrap64] <;> omega
 have h12 : (d.size : Int) ≤ 12 := by omega
 have hb : ∀ q : Int, c104t_1 it0 std (encA tp d, (0 : Int), (d.size : Int), q, true, true, ()) = some (.inr (encA tp (insertionSort (ltOf cf) d 0 d.size), ())) := by
  intro q
  simp only [c104t_1, stdS, stdL, std_ar_sub, hw, h12, h]
 unfold G97tp
 simp only [g97tp, g104t, it0_eq, stdS, stdL, hl, h105]
 rw [iter_unfold, hb, pdq_small _ _ hd]
 rfl
end
end Sortt
end Go.Am
end
section
namespace Go.Am
open M06 Go.Sort Go.Proofs
theorem permIn_all {α : Type} [Inhabited α] {d d' : Array α} (h : PermIn 0 d.size d d') : d'.toList.Perm d.toList := by
 have := h.2.2
 have e1 : d'.extract 0 d.size = d' := by rw [← h.1]; simp
 have e2 : d.extract 0 d.size = d := by simp
 rw [e1, e2] at this; exact this
theorem sortedIn_all {α : Type} [Inhabited α] {lt : α → α → Bool} {d d' : Array α} (hs : d'.size = d.size) (h : SortedIn lt 0 d.size d') : d'.toList.Pairwise (fun a b => lt b a = false) := by
 rw [List.pairwise_iff_getElem]
 intro i j hi hj hij
 have hi' : i < d'.size := by simpa using hi
 have hj' : j < d'.size := by simpa using hj
 have := h i j (Nat.zero_le _) hij (by omega)
 rw [getElem!_pos d' i hi', getElem!_pos d' j hj'] at this
 simpa using this
theorem sort_o (l : List Pt) (hl : l.length ≤ 12) : ∃ l', G97o std (encP l, ()) = some (encP l', ()) ∧ l'.Perm l ∧ l'.Pairwise (fun a b => ¬ Lt b a) := by
 have h := Sorto.sorto_small (tp := id) (cf := ordC) (fun x y => G87_ok x y) l.toArray (by simpa using hl)
 have hp := pdq_sorts (ltOf ordC) swo_ord l.toArray 0 l.toArray.size (Lib.bitLen l.toArray.size) true true (Nat.zero_le _) (Nat.le_refl _) (Or.inl rfl)
 generalize hd : pdq (ltOf ordC) l.toArray 0 l.toArray.size (Lib.bitLen l.toArray.size) true true = d' at h hp
 refine ⟨d'.toList, ?_, permIn_all hp.1, ?_⟩
 ·have hb : Nat.ble (encP l).length 12 = true := by simp [encP]; exact hl
  show (bif Nat.ble (encP l).length 12 then _ else _) = _
  rw [hb]
  exact h
 ·refine (sortedIn_all hp.1.1 hp.2).imp fun hab hlt => ?_
  rw [ordC_lt.2 hlt] at hab; cases hab
theorem dWy_some : ∀ {l : List Pt}, (∀ w ∈ l, Small w ∧ w ≠ (0, 0)) → ∃ t, dWy l = some t ∧ t.map Subtype.val = l
 | [], _ => ⟨[], rfl, rfl⟩
 | p :: l, h => by
  obtain ⟨t, h1, h2⟩ := dWy_some (l := l) (fun w hw => h w (List.mem_cons_of_mem _ hw))
  refine ⟨⟨p, h p (by simp)⟩ :: t, ?_, by simp [h2]⟩
  simp only [dWy, h1, dif_pos (h p (List.mem_cons_self ..))]
theorem dAll_some : ∀ (l : List Pt), dAll (encP l) = some l
 | [] => rfl
 | p :: l => by
  show (match dPt (eP p), dAll (encP l) with | some q, some t => some (q :: t) | _, _ => none) = _
  rw [dAll_some l]
  rfl
theorem sort_t (l : List Pt) (hw : ∀ w ∈ l, Small w ∧ w ≠ (0, 0)) (hl : l.length ≤ 1000000) : ∃ l', G97t std (encP l, ()) = some (encP l', ()) ∧ l'.Perm l ∧ l'.Pairwise (fun a b => ¬ turnC b a < 0) := by
 obtain ⟨t, h1, h2⟩ := dWy_some hw
 have htl : t.length = l.length := by rw [← h2]; simp
 have hp := pdq_sorts (ltOf (fun x y : Wy => turnC x.1 y.1)) swo_turn t.toArray 0 t.toArray.size (Lib.bitLen t.toArray.size) true true (Nat.zero_le _) (Nat.le_refl _) (Or.inl rfl)
 have henc : encP l = Sortt.encA Subtype.val t.toArray := by
  rw [← h2]
  simp only [encP, Sortt.encA, List.map_map]
  rfl
 generalize hd : pdq (ltOf (fun x y : Wy => turnC x.1 y.1)) t.toArray 0 t.toArray.size (Lib.bitLen t.toArray.size) true true = d' at hp
 have hfin : (d'.toList.map Subtype.val).Perm l ∧ (d'.toList.map Subtype.val).Pairwise (fun a b => ¬ turnC b a < 0) := by
  refine ⟨?_, ?_⟩
  ·have := (permIn_all hp.1).map Subtype.val
   rw [← h2]; simpa using this
  ·rw [List.pairwise_map]
   refine (sortedIn_all hp.1.1 hp.2).imp fun hab hlt => ?_
   rw [ltOf_iff (cf := fun x y : Wy => turnC x.1 y.1).2 hlt] at hab; cases hab
 refine ⟨d'.toList.map Subtype.val, ?_, hfin.1, hfin.2⟩
 have hres : encP (d'.toList.map Subtype.val) = d'.toList.map (enR2 Subtype.val) := by
  simp only [encP, List.map_map]; rfl
 show (bif Nat.ble (encP l).length 12 then g97tp it0 std (encP l, ()) else q97t (encP l, ())) = _
 by_cases h12 : l.length ≤ 12
 ·have hb : Nat.ble (encP l).length 12 = true := by simp [encP]; exact h12
  rw [hb]
  have h := Sortt.sortt_small (tp := Subtype.val) (cf := fun x y : Wy => turnC x.1 y.1) (fun x y => G98_ok x.2.1 y.2.1) t.toArray (by simp; omega)
  rw [hd, ← henc] at h
  rw [hres]
  exact h
 ·have hb : Nat.ble (encP l).length 12 = false := by
   have : ¬ (encP l).length ≤ 12 := by simpa [encP] using h12
   cases hq : Nat.ble (encP l).length 12 with
   | false => rfl
   | true => exact absurd (Nat.le_of_ble_eq_true hq) this
  rw [hb]
  simp only [cond_false, q97t, dAll_some, Option.bind_some, h1]
  match t, h1, htl, hd with
  | [], _, htl, _ => simp at htl; omega
  | p :: t, _, htl, hd =>
   simp only
   rw [if_pos (by simp at htl; omega), hd, hres]
end Go.Am
end
section
namespace Go.Am
open M06
def greatG (l : List Pt) (hs : List (List Pt)) : Prop := 20 < l.length ∨ 8 < hs.length ∨ ∃ h ∈ hs, 20 < h.length
instance (l : List Pt) (hs : List (List Pt)) : Decidable (greatG l hs) := by unfold greatG; infer_instance
theorem lgetD {α : Type} {l : List α} {i : Nat} {m d : α} (h : l[i]? = some m) : l.getD i d = m := by simp [List.getD_eq_getElem?_getD, h]
theorem all_getD {α : Type} {l : List α} {d : α} {P : α → Prop} (h : ∀ i, i < l.length → P (l.getD i d)) : ∀ p ∈ l, P p := fun p hp => by
 obtain ⟨i, hi'⟩ := List.getElem?_of_mem hp
 have := h i (List.getElem?_eq_some_iff.1 hi').1
 rwa [lgetD hi'] at this
theorem getD_mem {α : Type} {l : List α} {i : Nat} (d : α) (h : i < l.length) : l.getD i d ∈ l := by
 obtain ⟨m, hm⟩ := get_some h
 rw [lgetD hm]; exact List.mem_of_getElem? hm
theorem G14_ok (l : List Pt) (hs : List (List Pt)) : G14 std (encP l, encH hs, ()) = some (decide (greatG l hs), ()) := by
 unfold G14
 have h0 : (if (l.length : Int) > 20 then some (encP l, encH hs, true, ()) else some (encP l, encH hs, decide ((hs.length : Int) > 8), ())) = some (encP l, encH hs, decide (20 < l.length ∨ 8 < hs.length), ()) := by
  by_cases h1 : 20 < l.length
  ·have : (l.length : Int) > 20 := by omega
   simp [this, h1]
  ·have : ¬ (l.length : Int) > 20 := by omega
   simp only [this, h1, if_false, false_or]
   congr 4
   rw [decide_eq_decide]; omega
 have e1 : std.ofNat (std.len (encP l)) = (l.length : Int) := by simp [std_ofNat, std_len, encP]
 have e2 : std.ofNat (std.len (encH hs)) = (hs.length : Int) := by simp [std_ofNat, std_len, encH]
 simp only [g14, it0, need_eq, ask_eq, ret_eq, bnd_eq, run_eq, alt_eq, e1, e2, std_gtr, decide_eq_true_eq, h0, Option.bind_some]
 by_cases hg : 20 < l.length ∨ 8 < hs.length
 ·have : greatG l hs := hg.elim .inl fun h => .inr (.inl h)
  simp only [hg, if_true, decide_eq_true this]
 ·have hl8 : hs.length ≤ 8 := by omega
  have key := iter_find (b := b14_1 std) hs.length (fun i => (encP l, encH hs, (i : Int), ())) (fun i => decide (20 < (hs.getD i []).length)) (fun i => .inl (true, ())) (.inr ()) (fun i hi' => by
   obtain ⟨m, hm⟩ := get_some hi'
   have hw := wrap_nat (i := i) (by omega)
   have hlt : (i : Int) < hs.length := by omega
   have h0 : (0 : Int) ≤ i := by omega
   simp only [lgetD hm, b14_1, stdS, stdL, encH, cells_eH, dL_eH, hm, hlt, h0, ge_iff_le, std_ar_add, hw, encP]
   by_cases k : 20 < m.length
   ·have : (m.length : Int) > 20 := by omega
    simp [k, this]
   ·have : ¬ (m.length : Int) > 20 := by omega
    simp [k, this]) (by
   have hn : ¬ (hs.length : Int) < hs.length := by omega
   simp only [b14_1, stdS, stdL, encH, hn])
  have e0 : (encP l, encH hs, (0 : Int), ()) = (encP l, encH hs, ((0 : Nat) : Int), ()) := rfl
  simp only [hg, if_false]
  rw [e0]
  rcases key with ⟨i, h1, h2, _, h4⟩ | ⟨h1, h2⟩
  ·have : greatG l hs := .inr (.inr ⟨_, getD_mem [] h1, by simpa using h2⟩)
   rw [h4]
   simp only [stdS, stdL, decide_eq_true this]
  ·have : ¬ greatG l hs := by
    rintro (h | h | ⟨h, hm, hh⟩)
    ·exact hg (.inl h)
    ·exact hg (.inr h)
    ·have := all_getD (P := fun h => ¬ 20 < h.length) (fun i hi => by simpa using h1 i hi) h hm
     exact this hh
   rw [h2]
   simp only [stdS, stdL, decide_eq_false this]
def chkG (l : List Pt) (hs : List (List Pt)) : Int :=
 if ¬ manyP l ∨ 4 < hs.length ∨ ∃ h ∈ hs, ¬ manyP h then 6 else if (¬ ∀ p ∈ l, inBox 0 1000 p) ∨ ∃ h ∈ hs, ¬ ∀ p ∈ h, inBox (-1000) 1000 p then 3 else 0
theorem G18_ok (l : List Pt) (hs : List (List Pt)) : G18 std (encP l, encH hs, ()) = some (chkG l hs, ()) := by
 unfold G18 chkG
 have e2 : std.ofNat (std.len (encH hs)) = (hs.length : Int) := by simp [std_ofNat, std_len, encH]
 by_cases h1 : manyP l
 case neg => simp only [g18, it0, stdS, stdL, G50_ok, h1, not_false_eq_true, true_or]
 by_cases h2 : 4 < hs.length
 case pos =>
  have : (hs.length : Int) > 4 := by omega
  simp only [g18, it0, need_eq, ask_eq, ret_eq, bnd_eq, run_eq, alt_eq, bif_eq, e2, std_gtr, G50_ok, h1, h2, this, not_true, false_or, true_or, or_true, decide_true, if_true, if_false, Option.bind_some, Bool.false_eq_true]
 have h2' : ¬ (hs.length : Int) > 4 := by omega
 have key := iter_find (b := b18_1 std) hs.length (fun i => (encP l, encH hs, encH hs, (hs.length : Int), (i : Int), ())) (fun i => !decide (manyP (hs.getD i []))) (fun i => .inl (encP l, encH hs, (i : Int), ())) (.inr (encP l, encH hs, ())) (fun i hi' => by
  obtain ⟨m, hm⟩ := get_some hi'
  have hw := wrap_nat (i := i) (by omega)
  have hlt : (i : Int) < hs.length := by omega
  have h0 : (0 : Int) ≤ i := by omega
  simp only [lgetD hm, b18_1, stdS, stdL, encH, cells_eH, dL_eH, G50_ok, hm, hlt, h0, ge_iff_le, std_ar_add, hw]
  by_cases k : manyP m
  ·simp [k]
  ·simp [k]) (by
  have hn : ¬ (hs.length : Int) < hs.length := by omega
  simp only [b18_1, stdS, stdL, hn])
 have e0 : (encP l, encH hs, encH hs, (hs.length : Int), (0 : Int), ()) = (encP l, encH hs, encH hs, (hs.length : Int), ((0 : Nat) : Int), ()) := rfl
 simp only [g18, it0, need_eq, ask_eq, ret_eq, bnd_eq, run_eq, alt_eq, bif_eq, e2, std_gtr, G50_ok, h1, h2', h2, not_true, false_or, decide_true, if_true, if_false, Option.bind_some, Bool.false_eq_true, decide_false]
 rw [e0]
 rcases key with ⟨i, i1, i2, _, i4⟩ | ⟨i1, i2⟩
 ·have : ∃ h ∈ hs, ¬ manyP h := ⟨_, getD_mem [] i1, by simpa using i2⟩
  have h0 : (0 : Int) ≤ i := by omega
  simp only [i4, Option.bind_some, Sum.elim_inl, std_geq, ge_iff_le, h0, decide_true, if_true, this]
 ·have hall := all_getD (P := fun h => manyP h) (fun i hi => by simpa using i1 i hi)
  have hno : ¬ ∃ h ∈ hs, ¬ manyP h := fun ⟨h, hm, hn⟩ => hn (hall h hm)
  simp only [i2, Option.bind_some, Sum.elim_inr, std_geq, show ¬ (-1 : Int) ≥ 0 by decide, decide_false, Bool.false_eq_true, if_false, hno]
  have g0 : g53 it0 std (0, 1000, encP l, ()) = some (decide (∀ p ∈ l, inBox 0 1000 p), ()) := G53_ok 0 1000 l (by have := h1.2; omega)
  rw [g0]
  by_cases h3 : ∀ p ∈ l, inBox 0 1000 p
  case neg => simp only [Option.bind_some, decide_eq_false h3, decide_false, Bool.false_eq_true, if_false, if_true, h3, not_false_eq_true, true_or]
  have key2 := iter_find (b := c18_2 it0 std) hs.length (fun i => (encP l, encH hs, encH hs, (hs.length : Int), (i : Int), ())) (fun i => !decide (∀ p ∈ hs.getD i [], inBox (-1000) 1000 p)) (fun i => .inl (encP l, encH hs, (i : Int), ())) (.inr (encP l, encH hs, ())) (fun i hi' => by
   obtain ⟨m, hm⟩ := get_some hi'
   have hw := wrap_nat (i := i) (by omega)
   have hlt : (i : Int) < hs.length := by omega
   have h0 : (0 : Int) ≤ i := by omega
   have g1 : g53 it0 std (-1000, 1000, encP m, ()) = some (decide (∀ p ∈ m, inBox (-1000) 1000 p), ()) := G53_ok (-1000) 1000 m (by have := (hall m (List.mem_of_getElem? hm)).2; omega)
   simp only [lgetD hm, c18_2, stdS, stdL, encH, cells_eH, dL_eH, g1, hm, hlt, h0, ge_iff_le, std_ar_add, hw]
   by_cases k : ∀ p ∈ m, inBox (-1000) 1000 p
   ·rw [if_pos k, if_neg (by simp), if_neg (fun h => h k)]
   ·rw [if_neg k, if_pos rfl, if_pos k]) (by
   have hn : ¬ (hs.length : Int) < hs.length := by omega
   simp only [c18_2, stdS, stdL, hn])
  simp only [Option.bind_some, decide_eq_true h3, if_true, Bool.false_eq_true, if_false, e2]
  rw [e0]
  rcases key2 with ⟨i, j1, j2, _, j4⟩ | ⟨j1, j2⟩
  ·have : ∃ h ∈ hs, ¬ ∀ p ∈ h, inBox (-1000) 1000 p := ⟨_, getD_mem [] j1, by simpa only [Bool.not_eq_true', decide_eq_false_iff_not] using j2⟩
   have h0 : (0 : Int) ≤ i := by omega
   simp only [j4, Option.bind_some, Sum.elim_inl, ge_iff_le, h0, decide_true, if_true, this, or_true]
  ·have hall2 := all_getD (P := fun h => ∀ p ∈ h, inBox (-1000) 1000 p) (fun i hi => by have := j1 i hi; simpa only [Bool.not_eq_false', decide_eq_true_eq] using this)
   have hno2 : ¬ ∃ h ∈ hs, ¬ ∀ p ∈ h, inBox (-1000) 1000 p := fun ⟨h, hm, hn⟩ => hn (hall2 h hm)
   have h3' : ¬ ¬ ∀ p ∈ l, inBox 0 1000 p := fun h => h h3
   simp only [j2, Option.bind_some, Sum.elim_inr, if_false, decide_false, Bool.false_eq_true, hno2, h3', or_false]
theorem G19_ok (l : List Pt) (hs : List (List Pt)) : G19 std (encP l, encH hs, ()) = some (chkG l hs, ()) := by
 unfold G19 chkG
 have e2 : std.ofNat (std.len (encH hs)) = (hs.length : Int) := by simp [std_ofNat, std_len, encH]
 by_cases h1 : manyP l
 case neg => simp only [g19, it0, stdS, stdL, G55_ok, h1, not_false_eq_true, true_or]
 by_cases h2 : 4 < hs.length
 case pos =>
  have : (hs.length : Int) > 4 := by omega
  simp only [g19, it0, need_eq, ask_eq, ret_eq, bnd_eq, run_eq, alt_eq, bif_eq, e2, std_gtr, G55_ok, h1, h2, this, not_true, false_or, true_or, or_true, decide_true, if_true, if_false, Option.bind_some, Bool.false_eq_true]
 have h2' : ¬ (hs.length : Int) > 4 := by omega
 have key := iter_find (b := b19_1 std) hs.length (fun i => (encP l, encH hs, (i : Int), ())) (fun i => !decide (manyP (hs.getD i []))) (fun i => .inl (6, ())) (.inr (encP l, encH hs, ())) (fun i hi' => by
  obtain ⟨m, hm⟩ := get_some hi'
  have hw := wrap_nat (i := i) (by omega)
  have hlt : (i : Int) < hs.length := by omega
  have h0 : (0 : Int) ≤ i := by omega
  simp only [lgetD hm, b19_1, stdS, stdL, encH, cells_eH, dL_eH, G55_ok, hm, hlt, h0, ge_iff_le, std_ar_add, hw]
  by_cases k : manyP m
  ·simp [k]
  ·simp [k]) (by
  have hn : ¬ (hs.length : Int) < hs.length := by omega
  simp only [b19_1, stdS, stdL, encH, hn])
 have e0 : (encP l, encH hs, (0 : Int), ()) = (encP l, encH hs, ((0 : Nat) : Int), ()) := rfl
 simp only [g19, it0, need_eq, ask_eq, ret_eq, bnd_eq, run_eq, alt_eq, bif_eq, e2, std_gtr, G55_ok, h1, h2', h2, not_true, false_or, decide_true, if_true, if_false, Option.bind_some, Bool.false_eq_true, decide_false]
 rw [e0]
 rcases key with ⟨i, i1, i2, _, i4⟩ | ⟨i1, i2⟩
 ·have : ∃ h ∈ hs, ¬ manyP h := ⟨_, getD_mem [] i1, by simpa using i2⟩
  simp only [i4, Option.bind_some, Sum.elim_inl, if_true, this]
 ·have hall := all_getD (P := fun h => manyP h) (fun i hi => by simpa using i1 i hi)
  have hno : ¬ ∃ h ∈ hs, ¬ manyP h := fun ⟨h, hm, hn⟩ => hn (hall h hm)
  simp only [i2, Option.bind_some, Sum.elim_inr, Bool.false_eq_true, if_false, hno]
  have g0 : g56 it0 std (encP l, 0, 1000, ()) = some (decide (∀ p ∈ l, inBox 0 1000 p), ()) := G56_ok 0 1000 l (by have := h1.2; omega)
  rw [g0]
  by_cases h3 : ∀ p ∈ l, inBox 0 1000 p
  case neg => simp only [Option.bind_some, decide_eq_false h3, decide_false, Bool.false_eq_true, if_false, if_true, h3, not_false_eq_true, true_or]
  have key2 := iter_find (b := c19_2 it0 std) hs.length (fun i => (encP l, encH hs, (i : Int), ())) (fun i => !decide (∀ p ∈ hs.getD i [], inBox (-1000) 1000 p)) (fun i => .inl (3, ())) (.inr ()) (fun i hi' => by
   obtain ⟨m, hm⟩ := get_some hi'
   have hw := wrap_nat (i := i) (by omega)
   have hlt : (i : Int) < hs.length := by omega
   have h0 : (0 : Int) ≤ i := by omega
   have g1 : g56 it0 std (encP m, -1000, 1000, ()) = some (decide (∀ p ∈ m, inBox (-1000) 1000 p), ()) := G56_ok (-1000) 1000 m (by have := (hall m (List.mem_of_getElem? hm)).2; omega)
   simp only [lgetD hm, c19_2, stdS, stdL, encH, cells_eH, dL_eH, g1, hm, hlt, h0, ge_iff_le, std_ar_add, hw]
   by_cases k : ∀ p ∈ m, inBox (-1000) 1000 p
   ·rw [if_pos k, if_neg (by simp), if_neg (fun h => h k)]
   ·rw [if_neg k, if_pos rfl, if_pos k]) (by
   have hn : ¬ (hs.length : Int) < hs.length := by omega
   simp only [c19_2, stdS, stdL, encH, hn])
  simp only [Option.bind_some, decide_eq_true h3, if_true, Bool.false_eq_true, if_false]
  rw [e0]
  rcases key2 with ⟨i, j1, j2, _, j4⟩ | ⟨j1, j2⟩
  ·have : ∃ h ∈ hs, ¬ ∀ p ∈ h, inBox (-1000) 1000 p := ⟨_, getD_mem [] j1, by simpa only [Bool.not_eq_true', decide_eq_false_iff_not] using j2⟩
   simp only [j4, Option.bind_some, Sum.elim_inl, if_true, this, or_true]
  ·have hall2 := all_getD (P := fun h => ∀ p ∈ h, inBox (-1000) 1000 p) (fun i hi => by have := j1 i hi; simpa only [Bool.not_eq_false', decide_eq_true_eq] using this)
   have hno2 : ¬ ∃ h ∈ hs, ¬ ∀ p ∈ h, inBox (-1000) 1000 p := fun ⟨h, hm, hn⟩ => hn (hall2 h hm)
   have h3' : ¬ ¬ ∀ p ∈ l, inBox 0 1000 p := fun h => h h3
   simp only [j2, Option.bind_some, Sum.elim_inr, if_false, Bool.false_eq_true, hno2, h3', or_false]
end Go.Am
end
noncomputable section
namespace Go.Am
def ctr88 : Ctr :=
 ⟨88, [.list 2], [], [(.ret, ⟨[(0, .slc 0 2)], [.row [ci, ci]], 1⟩)]⟩
def la88 : List LA :=
 [⟨88, [false, true, false, true, true], 0, ⟨⟨[(3, .vec 0 2), (6, .list 2), (7, .int .i64), (8, .int .i64)], [.row [ci, ci]], 61⟩, [((AX.exit 0), ⟨[(3, .vec 0 2)], [.row [ci, ci]], 61⟩)]⟩⟩,
 ⟨88, [false, false, true, false, false, true, true, false, false, true, false, true, true], 0, ⟨⟨[(3, .sl 0 2), (5, .bptr 1 0), (6, .list 2), (7, .int .i64), (8, .int .i64)], [.row [ci, ci], .box [.int .i64, .int .i64]], 61⟩, [((AX.exit 2), ⟨[(3, .sl 0 2), (5, .bptr 1 0), (6, .list 2), (7, .int .i64), (8, .int .i64)], [.row [ci, ci], .box [.int .i64, .int .i64]], 61⟩)]⟩⟩]
def ja88 : List JA :=
 []
def gam88 : List CF :=
 []
def an88 : Anns :=
 ⟨gam88, ja88, []⟩
def b88_2 (p : Prim) : (LD × T27) → Option ((LD × T27) ⊕ (LD × T27)) :=
 fun a => opt.run _ (
 opt.ask _ (p.cmp .gtr (p.ofNat a.2.2.2.2.1) (1 : Int)) (
 opt.need _ (bif (p.cmp .geq (p.ar .sub .i64 (p.ofNat a.2.2.2.2.1) (1 : Int)) (0 : Int)) then (p.cmp .lss (p.ar .sub .i64 (p.ofNat a.2.2.2.2.1) (1 : Int)) (p.ofNat a.2.2.2.2.1)) else Bool.false) <|
 opt.need _ (p.rowOk a.1 (p.add a.2.2.2.1 (p.nat (p.ar .sub .i64 (p.ofNat a.2.2.2.2.1) (1 : Int)))) [ci, ci]) <|
 opt.need _ (bif (p.cmp .geq (p.ar .sub .i64 (p.ofNat a.2.2.2.2.1) (2 : Int)) (0 : Int)) then (p.cmp .lss (p.ar .sub .i64 (p.ofNat a.2.2.2.2.1) (2 : Int)) (p.ofNat a.2.2.2.2.1)) else Bool.false) <|
 opt.need _ (p.rowOk a.1 (p.add a.2.2.2.1 (p.nat (p.ar .sub .i64 (p.ofNat a.2.2.2.2.1) (2 : Int)))) [ci, ci]) <|
 opt.need _ (bif (p.cmp .geq (p.ar .sub .i64 (p.ofNat a.2.2.2.2.1) (2 : Int)) (0 : Int)) then (p.cmp .lss (p.ar .sub .i64 (p.ofNat a.2.2.2.2.1) (2 : Int)) (p.ofNat a.2.2.2.2.1)) else Bool.false) <|
 opt.need _ (p.rowOk a.1 (p.add a.2.2.2.1 (p.nat (p.ar .sub .i64 (p.ofNat a.2.2.2.2.1) (2 : Int)))) [ci, ci]) <|
 opt.ask _ (p.cmp .leq (p.ar .sub .i64 (p.ar .mul .i64 (p.ar .sub .i64 (p.rdI a.1 (p.add a.2.2.2.1 (p.nat (p.ar .sub .i64 (p.ofNat a.2.2.2.2.1) (1 : Int)))) 0) (p.rdI a.1 (p.add a.2.2.2.1 (p.nat (p.ar .sub .i64 (p.ofNat a.2.2.2.2.1) (2 : Int)))) 0)) (p.ar .sub .i64 a.2.2.1 (p.rdI a.1 (p.add a.2.2.2.1 (p.nat (p.ar .sub .i64 (p.ofNat a.2.2.2.2.1) (2 : Int)))) 1))) (p.ar .mul .i64 (p.ar .sub .i64 (p.rdI a.1 (p.add a.2.2.2.1 (p.nat (p.ar .sub .i64 (p.ofNat a.2.2.2.2.1) (1 : Int)))) 1) (p.rdI a.1 (p.add a.2.2.2.1 (p.nat (p.ar .sub .i64 (p.ofNat a.2.2.2.2.1) (2 : Int)))) 1)) (p.ar .sub .i64 a.2.1 (p.rdI a.1 (p.add a.2.2.2.1 (p.nat (p.ar .sub .i64 (p.ofNat a.2.2.2.2.1) (2 : Int)))) 0)))) (0 : Int)) (
 opt.need _ (p.and (p.cmp .geq (0 : Int) (0 : Int)) (p.and (p.cmp .leq (0 : Int) (p.ar .sub .i64 (p.ofNat a.2.2.2.2.1) (1 : Int))) (p.and (p.cmp .leq (p.ar .sub .i64 (p.ofNat a.2.2.2.2.1) (1 : Int)) (p.ar .sub .i64 (p.ofNat a.2.2.2.2.1) (1 : Int))) (p.cmp .leq (p.ar .sub .i64 (p.ofNat a.2.2.2.2.1) (1 : Int)) (p.ofNat a.2.2.2.2.1))))) <|
 opt.need _ (p.leN (p.add (p.add a.2.2.2.1 (p.nat (0 : Int))) (p.sub (p.nat (p.ar .sub .i64 (p.ofNat a.2.2.2.2.1) (1 : Int))) (p.nat (0 : Int)))) (p.len a.1)) <|
 opt.ret _ (Sum.inl (a.1, (a.2.1, (a.2.2.1, ((p.add a.2.2.2.1 (p.nat (0 : Int))), ((p.sub (p.nat (p.ar .sub .i64 (p.ofNat a.2.2.2.2.1) (1 : Int))) (p.nat (0 : Int))), (a.2.2.2.2.2.1, (a.2.2.2.2.2.2.1, (a.2.2.2.2.2.2.2.1, ())))))))))) (
 opt.ret _ (Sum.inr (a.1, (a.2.1, (a.2.2.1, (a.2.2.2.1, (a.2.2.2.2.1, (a.2.2.2.2.2.1, (a.2.2.2.2.2.2.1, (a.2.2.2.2.2.2.2.1, ()))))))))))) (
 opt.ret _ (Sum.inr (a.1, (a.2.1, (a.2.2.1, (a.2.2.2.1, (a.2.2.2.2.1, (a.2.2.2.2.2.1, (a.2.2.2.2.2.2.1, (a.2.2.2.2.2.2.2.1, ())))))))))))
def c88_1 (it : It) (p : Prim) : (LD × (LD × T3)) → Option ((LD × (LD × T3)) ⊕ (LD × Unit)) :=
 fun a => opt.run _ (
 opt.ask _ (p.cmp .lss a.2.2.2.1 a.2.2.1) (
 opt.need _ (p.rowOk a.2.1 (p.nat a.2.2.2.1) [ci, ci]) <|
 opt.need _ (p.cmp .geq a.2.2.2.1 (0 : Int)) <|
 opt.bnd ((LD × T27)) _ (
 it _ _ (b88_2 p) (a.1, ((p.rdI a.2.1 (p.nat a.2.2.2.1) 0), ((p.rdI a.2.1 (p.nat a.2.2.2.1) 1), (0, ((p.len a.1), (a.2.1, (a.2.2.1, (a.2.2.2.1, ()))))))))) fun b =>
 opt.need _ (p.and (p.leN (p.add 0 1) (p.len [[(D.int .i64 b.2.1), (D.int .i64 b.2.2.1)]])) (p.and (p.leN (p.add b.2.2.2.1 b.2.2.2.2.1) (p.len b.1)) (p.and (p.leN 1 1) (p.leN (p.add b.2.2.2.2.1 1) 1000000)))) <|
 opt.need _ (p.eqN 0 0) <|
 opt.need _ (p.eqN (p.add b.2.2.2.2.1 1) (p.len (p.app (p.cut b.1 b.2.2.2.1 b.2.2.2.2.1) (p.cut [[(D.int .i64 b.2.1), (D.int .i64 b.2.2.1)]] 0 1)))) <|
 opt.ret _ (Sum.inl ((p.app (p.cut b.1 b.2.2.2.1 b.2.2.2.2.1) (p.cut [[(D.int .i64 b.2.1), (D.int .i64 b.2.2.1)]] 0 1)), (b.2.2.2.2.2.1, (b.2.2.2.2.2.2.1, ((p.ar .add .i64 b.2.2.2.2.2.2.2.1 (1 : Int)), ())))))) (
 opt.need _ (p.eqN 0 0) <|
 opt.need _ (p.eqN (p.len a.1) (p.len a.1)) <|
 opt.ret _ (Sum.inr (a.1, ()))))
def g88 (it : It) : (p : Prim) → (LD × Unit) → Option ((LD × T8)) :=
 fun p x =>
 opt.bnd ((LD × Unit)) _ (
 it _ _ (c88_1 it p) ([], (x.1, ((p.ofNat (p.len x.1)), ((0 : Int), ()))))) fun a =>
 opt.need _ (p.and (p.cmp .geq (0 : Int) (0 : Int)) (p.and (p.cmp .leq (0 : Int) (p.ar .sub .i64 (p.ofNat (p.len a.1)) (1 : Int))) (p.and (p.cmp .leq (p.ar .sub .i64 (p.ofNat (p.len a.1)) (1 : Int)) (p.ar .sub .i64 (p.ofNat (p.len a.1)) (1 : Int))) (p.cmp .leq (p.ar .sub .i64 (p.ofNat (p.len a.1)) (1 : Int)) (p.ofNat (p.len a.1)))))) <|
 opt.ret _ (a.1, ((p.add 0 (p.nat (0 : Int))), ((p.sub (p.nat (p.ar .sub .i64 (p.ofNat (p.len a.1)) (1 : Int))) (p.nat (0 : Int))), ((p.sub (p.nat (p.ar .sub .i64 (p.ofNat (p.len a.1)) (1 : Int))) (p.nat (0 : Int))), ()))))
def G88 := g88 it0
theorem ok88 : CtrOk PG ctr88 (G88 std) := okF (a := an88) (l := la88) (gN) (by kernel_rfl) fun _ _ => by kernel_rfl
def ctr101 : Ctr :=
 ⟨101, [.slc 0 2], [.row [ci, ci]], [(.ret, ⟨[(0, .slc 0 2)], [.row [ci, ci]], 1⟩)]⟩
def la101 : List LA :=
 [⟨101, [false, true, false, true, true], 1, ⟨⟨[(0, .slc 0 2), (3, .int .i64)], [.row [ci, ci]], 61⟩, [(AX.ret, ⟨[(2, .slc 0 2)], [.row [ci, ci]], 61⟩), ((AX.exit 0), ⟨[(0, .slc 0 2)], [.row [ci, ci]], 61⟩)]⟩⟩,
 ⟨101, [false, true, false, true, false, true, false, false, true, false, false, true, false, true, true], 1, ⟨⟨[(0, .slc 0 2), (3, .int .i64), (4, .slc 0 2), (5, .int .i64)], [.row [ci, ci]], 61⟩, [((AX.exit 2), ⟨[(0, .slc 0 2), (3, .int .i64)], [.row [ci, ci]], 61⟩)]⟩⟩]
def ja101 : List JA :=
 [⟨101, [true, false, false, true, false, false, true, false, true, false, true, false, false, true, false, false, true, false, true, true], 1, [(AX.normal, ⟨[(0, .slc 0 2), (3, .int .i64), (4, .slc 0 2), (5, .int .i64)], [.row [ci, ci]], 61⟩)]⟩]
def gam101 : List CF :=
 []
def an101 : Anns :=
 ⟨gam101, ja101, []⟩
def b101_2 (p : Prim) : (LD × T28) → Option ((LD × T28) ⊕ (LD × T29)) :=
 fun a => opt.run _ (
 opt.ask _ (p.cmp .lss a.2.2.2.2.2.2.2.2.1 (p.ofNat a.2.2.2.2.2.2.1)) (
 opt.need _ (bif (p.cmp .geq a.2.2.2.2.2.2.2.2.1 (0 : Int)) then (p.cmp .lss a.2.2.2.2.2.2.2.2.1 (p.ofNat a.2.2.2.2.2.2.1)) else Bool.false) <|
 opt.need _ (p.rowOk a.1 (p.add a.2.2.2.2.2.1 (p.nat a.2.2.2.2.2.2.2.2.1)) [ci, ci]) <|
 opt.need _ (bif (p.cmp .geq (p.ar .sub .i64 a.2.2.2.2.2.2.2.2.1 (1 : Int)) (0 : Int)) then (p.cmp .lss (p.ar .sub .i64 a.2.2.2.2.2.2.2.2.1 (1 : Int)) (p.ofNat a.2.2.2.2.2.2.1)) else Bool.false) <|
 opt.need _ (p.rowOk a.1 (p.add a.2.2.2.2.2.1 (p.nat (p.ar .sub .i64 a.2.2.2.2.2.2.2.2.1 (1 : Int)))) [ci, ci]) <|
 opt.bnd ((LD × T28)) _ (
 opt.run ((LD × T28)) (
 opt.ask _ (bif (bif (p.cmp .eql (p.rdI a.1 (p.add a.2.2.2.2.2.1 (p.nat a.2.2.2.2.2.2.2.2.1)) 0) (p.rdI a.1 (p.add a.2.2.2.2.2.1 (p.nat (p.ar .sub .i64 a.2.2.2.2.2.2.2.2.1 (1 : Int)))) 0)) then (bif (p.cmp .eql (p.rdI a.1 (p.add a.2.2.2.2.2.1 (p.nat a.2.2.2.2.2.2.2.2.1)) 1) (p.rdI a.1 (p.add a.2.2.2.2.2.1 (p.nat (p.ar .sub .i64 a.2.2.2.2.2.2.2.2.1 (1 : Int)))) 1)) then Bool.true else Bool.false) else Bool.false) then Bool.false else Bool.true) (
 opt.need _ (bif (p.cmp .geq a.2.2.2.2.2.2.2.2.1 (0 : Int)) then (p.cmp .lss a.2.2.2.2.2.2.2.2.1 (p.ofNat a.2.2.2.2.2.2.1)) else Bool.false) <|
 opt.need _ (p.rowOk a.1 (p.add a.2.2.2.2.2.1 (p.nat a.2.2.2.2.2.2.2.2.1)) [ci, ci]) <|
 opt.need _ (bif (p.cmp .geq a.2.2.2.2.1 (0 : Int)) then (p.cmp .lss a.2.2.2.2.1 (p.ofNat a.2.2.1)) else Bool.false) <|
 opt.need _ (p.rowOk a.1 (p.add a.2.1 (p.nat a.2.2.2.2.1)) [ci, ci]) <|
 opt.ret _ ((p.set a.1 (p.add a.2.1 (p.nat a.2.2.2.2.1)) [(D.int .i64 (p.rdI a.1 (p.add a.2.2.2.2.2.1 (p.nat a.2.2.2.2.2.2.2.2.1)) 0)), (D.int .i64 (p.rdI a.1 (p.add a.2.2.2.2.2.1 (p.nat a.2.2.2.2.2.2.2.2.1)) 1))]), (a.2.1, (a.2.2.1, (a.2.2.2.1, ((p.ar .add .i64 a.2.2.2.2.1 (1 : Int)), (a.2.2.2.2.2.1, (a.2.2.2.2.2.2.1, (a.2.2.2.2.2.2.2.1, (a.2.2.2.2.2.2.2.2.1, ())))))))))) (
 opt.ret _ (a.1, (a.2.1, (a.2.2.1, (a.2.2.2.1, (a.2.2.2.2.1, (a.2.2.2.2.2.1, (a.2.2.2.2.2.2.1, (a.2.2.2.2.2.2.2.1, (a.2.2.2.2.2.2.2.2.1, ())))))))))))) fun b =>
 opt.ret _ (Sum.inl (b.1, (b.2.1, (b.2.2.1, (b.2.2.2.1, (b.2.2.2.2.1, (b.2.2.2.2.2.1, (b.2.2.2.2.2.2.1, (b.2.2.2.2.2.2.2.1, ((p.ar .add .i64 b.2.2.2.2.2.2.2.2.1 (1 : Int)), ()))))))))))) (
 opt.ret _ (Sum.inr (a.1, (a.2.1, (a.2.2.1, (a.2.2.2.1, (a.2.2.2.2.1, ()))))))))
def c101_1 (it : It) (p : Prim) : (LD × T29) → Option ((LD × T29) ⊕ ((LD × T8) ⊕ (LD × T8))) :=
 fun a => opt.run _ (
 opt.ask _ (p.cmp .lss a.2.2.2.2.1 (p.ofNat a.2.2.1)) (
 opt.need _ (bif (p.cmp .geq a.2.2.2.2.1 (0 : Int)) then (p.cmp .lss a.2.2.2.2.1 (p.ofNat a.2.2.1)) else Bool.false) <|
 opt.need _ (p.rowOk a.1 (p.add a.2.1 (p.nat a.2.2.2.2.1)) [ci, ci]) <|
 opt.need _ (bif (p.cmp .geq (p.ar .sub .i64 a.2.2.2.2.1 (1 : Int)) (0 : Int)) then (p.cmp .lss (p.ar .sub .i64 a.2.2.2.2.1 (1 : Int)) (p.ofNat a.2.2.1)) else Bool.false) <|
 opt.need _ (p.rowOk a.1 (p.add a.2.1 (p.nat (p.ar .sub .i64 a.2.2.2.2.1 (1 : Int)))) [ci, ci]) <|
 opt.ask _ (bif (p.cmp .eql (p.rdI a.1 (p.add a.2.1 (p.nat a.2.2.2.2.1)) 0) (p.rdI a.1 (p.add a.2.1 (p.nat (p.ar .sub .i64 a.2.2.2.2.1 (1 : Int)))) 0)) then (bif (p.cmp .eql (p.rdI a.1 (p.add a.2.1 (p.nat a.2.2.2.2.1)) 1) (p.rdI a.1 (p.add a.2.1 (p.nat (p.ar .sub .i64 a.2.2.2.2.1 (1 : Int)))) 1)) then Bool.true else Bool.false) else Bool.false) (
 opt.need _ (p.and (p.cmp .geq a.2.2.2.2.1 (0 : Int)) (p.and (p.cmp .leq a.2.2.2.2.1 (p.ofNat a.2.2.1)) (p.cmp .leq (p.ofNat a.2.2.1) (p.ofNat a.2.2.1)))) <|
 opt.bnd ((LD × T29)) _ (
 it _ _ (b101_2 p) (a.1, (a.2.1, (a.2.2.1, (a.2.2.2.1, (a.2.2.2.2.1, ((p.add a.2.1 (p.nat a.2.2.2.2.1)), ((p.sub (p.nat (p.ofNat a.2.2.1)) (p.nat a.2.2.2.2.1)), ((p.sub a.2.2.2.1 (p.nat a.2.2.2.2.1)), ((1 : Int), ())))))))))) fun b =>
 opt.need _ (p.and (p.cmp .geq b.2.2.2.2.1 (0 : Int)) (p.and (p.cmp .leq b.2.2.2.2.1 (p.ofNat b.2.2.1)) (p.cmp .leq (p.ofNat b.2.2.1) (p.ofNat b.2.2.1)))) <|
 opt.need _ (p.leN (p.add (p.add b.2.1 (p.nat b.2.2.2.2.1)) (p.sub (p.nat (p.ofNat b.2.2.1)) (p.nat b.2.2.2.2.1))) (p.len b.1)) <|
 opt.need _ (p.and (p.cmp .geq (0 : Int) (0 : Int)) (p.and (p.cmp .leq (0 : Int) b.2.2.2.2.1) (p.cmp .leq b.2.2.2.2.1 (p.ofNat b.2.2.1)))) <|
 opt.ret _ (Sum.inr (Sum.inl ((p.splice b.1 (p.add b.2.1 (p.nat b.2.2.2.2.1)) (p.rep (p.sub (p.nat (p.ofNat b.2.2.1)) (p.nat b.2.2.2.2.1)) [(D.int .i64 (0 : Int)), (D.int .i64 (0 : Int))])), ((p.add b.2.1 (p.nat (0 : Int))), ((p.sub (p.nat b.2.2.2.2.1) (p.nat (0 : Int))), ((p.sub b.2.2.2.1 (p.nat (0 : Int))), ()))))))) (
 opt.ret _ (Sum.inl (a.1, (a.2.1, (a.2.2.1, (a.2.2.2.1, ((p.ar .add .i64 a.2.2.2.2.1 (1 : Int)), ())))))))) (
 opt.ret _ (Sum.inr (Sum.inr (a.1, (a.2.1, (a.2.2.1, (a.2.2.2.1, ()))))))))
def g101 (it : It) : (p : Prim) → (LD × T8) → Option ((LD × T8)) :=
 fun p x =>
 opt.ask _ (p.cmp .lss (p.ofNat x.2.2.1) (2 : Int)) (
 opt.ret _ (x.1, (x.2.1, (x.2.2.1, (x.2.2.2.1, ()))))) (
 opt.alt ((LD × T8)) ((LD × T8)) _ (
 it _ _ (c101_1 it p) (x.1, (x.2.1, (x.2.2.1, (x.2.2.2.1, ((1 : Int), ())))))) (fun a =>
 opt.ret _ (a.1, (a.2.1, (a.2.2.1, (a.2.2.2.1, ()))))) (fun b =>
 opt.bnd ((LD × T8)) _ (some b) fun c =>
 opt.ret _ (c.1, (c.2.1, (c.2.2.1, (c.2.2.2.1, ()))))))
def G101 := g101 it0
theorem ok101 : CtrOk PG ctr101 (G101 std) := okF (a := an101) (l := la101) (gN) (by kernel_rfl) fun _ _ => by kernel_rfl
def ctr86 : Ctr :=
 ⟨86, [.list 2, .clo 87 [] []], [], [(.ret, ⟨[(0, .slc 0 2)], [.row [ci, ci]], 1⟩)]⟩
def la86 : List LA :=
 []
def ja86 : List JA :=
 []
def gam86 : List CF :=
 [⟨ctr101, G101⟩, ⟨ctr97o, F97o⟩]
def an86 : Anns :=
 ⟨gam86, ja86, []⟩
def g86 (it : It) : (p : Prim) → (LD × Unit) → Option ((LD × T8)) :=
 fun p x =>
 opt.need _ (p.and (p.cmp .geq (p.ofNat (p.len x.1)) (0 : Int)) (p.and (p.cmp .leq (p.ofNat (p.len x.1)) (p.ofNat (p.len x.1))) (p.cmp .leq (p.ofNat (p.len x.1)) (1000000 : Int)))) <|
 opt.need _ (p.and Bool.true (p.and (p.leN (p.len x.1) (p.nat (p.ofNat (p.len x.1)))) (p.leN (p.add 0 (p.nat (p.ofNat (p.len x.1)))) (p.len (p.rep (p.nat (p.ofNat (p.len x.1))) [(D.int .i64 (0 : Int)), (D.int .i64 (0 : Int))]))))) <|
 opt.need _ (p.eqN 0 0) <|
 opt.need _ (p.eqN (p.nat (p.ofNat (p.len x.1))) (p.len (p.splice (p.rep (p.nat (p.ofNat (p.len x.1))) [(D.int .i64 (0 : Int)), (D.int .i64 (0 : Int))]) 0 x.1))) <|
 opt.need _ (p.eqN (p.nat (p.ofNat (p.len x.1))) (p.len (p.splice (p.rep (p.nat (p.ofNat (p.len x.1))) [(D.int .i64 (0 : Int)), (D.int .i64 (0 : Int))]) 0 x.1))) <|
 opt.bnd ((LD × Unit)) _ (g97o it p ((p.splice (p.rep (p.nat (p.ofNat (p.len x.1))) [(D.int .i64 (0 : Int)), (D.int .i64 (0 : Int))]) 0 x.1), ())) fun a =>
 opt.bnd ((LD × T8)) _ (g101 it p (a.1, (0, ((p.nat (p.ofNat (p.len x.1))), ((p.nat (p.ofNat (p.len x.1))), ()))))) fun b =>
 opt.ret _ (b.1, (b.2.1, (b.2.2.1, (b.2.2.2.1, ()))))
def G86 := g86 it0
theorem ok86 : CtrOk PG ctr86 (G86 std) := okF (a := an86) (l := la86) (gC ok101 (gC ok97o (gN))) (by kernel_rfl) fun _ _ => by kernel_rfl
def ctr89 : Ctr :=
 ⟨89, [.slc 0 2], [.row [ci, ci]], [(.ret, ⟨[(0, .tuple [])], [.row [ci, ci]], 1⟩)]⟩
def la89 : List LA :=
 [⟨89, [false, true], 1, ⟨⟨[(0, .slc 0 2), (2, .int .i64), (3, .int .i64)], [.row [ci, ci]], 28⟩, [((AX.exit 0), ⟨[], [.row [ci, ci]], 28⟩)]⟩⟩]
def ja89 : List JA :=
 []
def gam89 : List CF :=
 []
def an89 : Anns :=
 ⟨gam89, ja89, []⟩
def b89_1 (p : Prim) : (LD × T61) → Option ((LD × T61) ⊕ (LD × Unit)) :=
 fun a => opt.run _ (
 opt.ask _ (p.cmp .lss a.2.2.2.2.1 a.2.2.2.2.2.1) (
 opt.need _ (bif (p.cmp .geq a.2.2.2.2.2.1 (0 : Int)) then (p.cmp .lss a.2.2.2.2.2.1 (p.ofNat a.2.2.1)) else Bool.false) <|
 opt.need _ (p.rowOk a.1 (p.add a.2.1 (p.nat a.2.2.2.2.2.1)) [ci, ci]) <|
 opt.need _ (bif (p.cmp .geq a.2.2.2.2.1 (0 : Int)) then (p.cmp .lss a.2.2.2.2.1 (p.ofNat a.2.2.1)) else Bool.false) <|
 opt.need _ (p.rowOk a.1 (p.add a.2.1 (p.nat a.2.2.2.2.1)) [ci, ci]) <|
 opt.need _ (bif (p.cmp .geq a.2.2.2.2.1 (0 : Int)) then (p.cmp .lss a.2.2.2.2.1 (p.ofNat a.2.2.1)) else Bool.false) <|
 opt.need _ (p.rowOk a.1 (p.add a.2.1 (p.nat a.2.2.2.2.1)) [ci, ci]) <|
 opt.need _ (bif (p.cmp .geq a.2.2.2.2.2.1 (0 : Int)) then (p.cmp .lss a.2.2.2.2.2.1 (p.ofNat a.2.2.1)) else Bool.false) <|
 opt.need _ (p.rowOk (p.set a.1 (p.add a.2.1 (p.nat a.2.2.2.2.1)) [(D.int .i64 (p.rdI a.1 (p.add a.2.1 (p.nat a.2.2.2.2.2.1)) 0)), (D.int .i64 (p.rdI a.1 (p.add a.2.1 (p.nat a.2.2.2.2.2.1)) 1))]) (p.add a.2.1 (p.nat a.2.2.2.2.2.1)) [ci, ci]) <|
 opt.ret _ (Sum.inl ((p.set (p.set a.1 (p.add a.2.1 (p.nat a.2.2.2.2.1)) [(D.int .i64 (p.rdI a.1 (p.add a.2.1 (p.nat a.2.2.2.2.2.1)) 0)), (D.int .i64 (p.rdI a.1 (p.add a.2.1 (p.nat a.2.2.2.2.2.1)) 1))]) (p.add a.2.1 (p.nat a.2.2.2.2.2.1)) [(D.int .i64 (p.rdI a.1 (p.add a.2.1 (p.nat a.2.2.2.2.1)) 0)), (D.int .i64 (p.rdI a.1 (p.add a.2.1 (p.nat a.2.2.2.2.1)) 1))]), (a.2.1, (a.2.2.1, (a.2.2.2.1, ((p.ar .add .i64 a.2.2.2.2.1 (1 : Int)), ((p.ar .sub .i64 a.2.2.2.2.2.1 (1 : Int)), ())))))))) (
 opt.ret _ (Sum.inr (a.1, ()))))
def g89 (it : It) : (p : Prim) → (LD × T8) → Option ((LD × Unit)) :=
 fun p x =>
 opt.bnd ((LD × Unit)) _ (
 it _ _ (b89_1 p) (x.1, (x.2.1, (x.2.2.1, (x.2.2.2.1, ((0 : Int), ((p.ar .sub .i64 (p.ofNat x.2.2.1) (1 : Int)), ()))))))) fun a =>
 opt.ret _ (a.1, ())
def G89 := g89 it0
theorem ok89 : CtrOk PG ctr89 (G89 std) := okF (a := an89) (l := la89) (gN) (by kernel_rfl) fun _ _ => by kernel_rfl
def ctr59 : Ctr :=
 ⟨59, [.list 2], [], [(.ret, ⟨[(0, .list 2)], [], 1⟩)]⟩
def la59 : List LA :=
 []
def ja59 : List JA :=
 []
def gam59 : List CF :=
 [⟨ctr89, G89⟩, ⟨ctr88, G88⟩, ⟨ctr86, G86⟩]
def an59 : Anns :=
 ⟨gam59, ja59, []⟩
def g59 (it : It) : (p : Prim) → (LD × Unit) → Option ((LD × Unit)) :=
 fun p x =>
 opt.bnd ((LD × T8)) _ (g86 it p (x.1, ())) fun a =>
 opt.ask _ (p.cmp .eql (p.ofNat a.2.2.1) (1 : Int)) (
 opt.need _ (p.leN (p.add a.2.1 a.2.2.1) (p.len a.1)) <|
 opt.ret _ ((p.cut a.1 a.2.1 a.2.2.1), ())) (
 opt.need _ (p.and (p.leN (p.add a.2.1 a.2.2.1) (p.len a.1)) Bool.true) <|
 opt.bnd ((LD × T8)) _ (g88 it p ((p.cut a.1 a.2.1 a.2.2.1), ())) fun b =>
 opt.need _ (p.plain b.1) <|
 opt.bnd ((LD × Unit)) _ (g89 it p (a.1, (a.2.1, (a.2.2.1, (a.2.2.2.1, ()))))) fun c =>
 opt.need _ (p.and (p.leN (p.add a.2.1 a.2.2.1) (p.len c.1)) Bool.true) <|
 opt.bnd ((LD × T8)) _ (g88 it p ((p.cut c.1 a.2.1 a.2.2.1), ())) fun d =>
 opt.need _ (p.plain d.1) <|
 opt.ask _ (p.leN (p.add b.2.2.1 d.2.2.1) b.2.2.2.1) (
 opt.need _ (p.and (p.leN (p.add d.2.1 d.2.2.1) (p.len d.1)) (p.and (p.leN (p.add b.2.1 b.2.2.1) (p.len b.1)) (p.and (p.leN 1 d.2.2.1) (p.leN (p.add b.2.1 b.2.2.2.1) (p.len b.1))))) <|
 opt.need _ (p.leN (p.add b.2.1 (p.add b.2.2.1 d.2.2.1)) (p.len (p.splice b.1 (p.add b.2.1 b.2.2.1) (p.cut d.1 d.2.1 d.2.2.1)))) <|
 opt.ret _ ((p.cut (p.splice b.1 (p.add b.2.1 b.2.2.1) (p.cut d.1 d.2.1 d.2.2.1)) b.2.1 (p.add b.2.2.1 d.2.2.1)), ())) (
 opt.need _ (p.and (p.leN (p.add d.2.1 d.2.2.1) (p.len d.1)) (p.and (p.leN (p.add b.2.1 b.2.2.1) (p.len b.1)) (p.and (p.leN 1 d.2.2.1) (p.leN (p.add b.2.2.1 d.2.2.1) 1000000)))) <|
 opt.need _ (p.leN (p.add 0 (p.add b.2.2.1 d.2.2.1)) (p.len (p.app (p.cut b.1 b.2.1 b.2.2.1) (p.cut d.1 d.2.1 d.2.2.1)))) <|
 opt.ret _ ((p.cut (p.app (p.cut b.1 b.2.1 b.2.2.1) (p.cut d.1 d.2.1 d.2.2.1)) 0 (p.add b.2.2.1 d.2.2.1)), ())))
def G59 := g59 it0
theorem ok59 : CtrOk PG ctr59 (G59 std) := okF (a := an59) (l := la59) (gC ok89 (gC ok88 (gC ok86 (gN)))) (by kernel_rfl) fun _ _ => by kernel_rfl
end Go.Am
end
section
namespace Go.Am
open M06
theorem it0_eq {S R : Type} (b : S → Option (S ⊕ R)) (s : S) : it0 S R b s = iter b s := rfl
def Uniq (q l : List Pt) : Prop := q.Pairwise Lt ∧ ∀ x, x ∈ q ↔ x ∈ l
theorem take_succ_some {α : Type} {l : List α} {i : Nat} {x : α} (h : l[i]? = some x) : l.take (i + 1) = l.take i ++ [x] := by
 rw [List.take_add_one, h]; rfl
theorem uniq_same {q l : List Pt} {i : Nat} {x : Pt} (h : Uniq q (l.take i)) (hx : l[i]? = some x) (hy : x ∈ l.take i) : Uniq q (l.take (i + 1)) := by
 refine ⟨h.1, fun z => ?_⟩
 rw [h.2 z, take_succ_some hx]
 simp only [List.mem_append, List.mem_singleton]
 exact ⟨.inl, fun h => h.elim id fun e => e ▸ hy⟩
theorem uniq_more {q l : List Pt} {i : Nat} {x y : Pt} (hs : l.Pairwise (fun a b => ¬ Lt b a)) (h : Uniq q (l.take (i + 1))) (hy : l[i]? = some y) (hx : l[i + 1]? = some x) (hne : x ≠ y) : Uniq (q ++ [x]) (l.take (i + 2)) := by
 have hs' := List.pairwise_iff_getElem.1 hs
 obtain ⟨i1, e1⟩ := List.getElem?_eq_some_iff.1 hx
 obtain ⟨i0, e0⟩ := List.getElem?_eq_some_iff.1 hy
 have hlt : Lt y x := by
  have := hs' i (i + 1) i0 i1 (by omega)
  rw [e0, e1] at this
  rcases lt_tri y x with h | h | h
  ·exact h
  ·exact absurd h.symm hne
  ·exact absurd h this
 refine ⟨List.pairwise_append.2 ⟨h.1, by simp, fun a ha b hb => ?_⟩, fun z => ?_⟩
 ·simp at hb; subst hb
  have ha' := (h.2 a).1 ha
  obtain ⟨j, hj⟩ := List.getElem?_of_mem ha'
  have hj1 : j < i + 1 := by
   have := (List.getElem?_eq_some_iff.1 hj).1
   rw [List.length_take] at this; omega
  rw [List.getElem?_take_of_lt hj1] at hj
  obtain ⟨j0, ej⟩ := List.getElem?_eq_some_iff.1 hj
  by_cases hji : j = i
  ·subst hji
   rw [e0] at ej; subst ej; exact hlt
  ·have := hs' j i j0 i0 (by omega)
   rw [ej, e0] at this
   rcases lt_tri a y with h | h | h
   ·exact h.trans hlt
   ·exact h ▸ hlt
   ·exact absurd h this
 ·rw [take_succ_some hx]
  simp only [List.mem_append, List.mem_singleton, h.2 z]
theorem eP_inj {p q : Pt} : (p.1 = q.1 ∧ p.2 = q.2) ↔ p = q := ⟨fun h => Prod.ext h.1 h.2, fun h => by rw [h]; exact ⟨rfl, rfl⟩⟩
theorem encP_get {l : List Pt} {i : Nat} {p : Pt} (h : l[i]? = some p) : (encP l)[i]? = some (eP p) := by simp [encP, h]
theorem encP_set (l : List Pt) (i : Nat) (p : Pt) : (encP l).set i (eP p) = encP (l.set i p) := by simp [encP, List.map_set]
theorem encP_len (l : List Pt) : (encP l).length = l.length := by simp [encP]
theorem eP_eq (p : Pt) : [D.int IntKind.i64 p.1, D.int IntKind.i64 p.2] = eP p := rfl
theorem G101_inner {l : List Pt} (hs : l.Pairwise (fun a b => ¬ Lt b a)) (hn : l.length ≤ 1000000) {k0 : Nat} (hk1 : 1 ≤ k0) (hk0 : k0 < l.length) (h0 : Uniq (l.take k0) (l.take (k0 + 1))) (cap : Nat) :
  ∃ (L : List Pt) (k : Nat), iter (b101_2 std) (encP l, (0 : Nat), l.length, cap, (k0 : Int), k0, l.length - k0, cap - k0, (1 : Int), ()) = some (encP L, (0 : Nat), l.length, cap, (k : Int), ()) ∧ L.length = l.length ∧ 1 ≤ k ∧ k ≤ l.length ∧ Uniq (L.take k) l := by
 have key := iter_count (b := b101_2 std) (l.length - k0) (fun (t : List Pt × Nat) (i : Nat) => (encP t.1, (0 : Nat), l.length, cap, (t.2 : Int), k0, l.length - k0, cap - k0, (i : Int), ()))
  (fun t i => 1 ≤ i ∧ t.1.length = l.length ∧ 1 ≤ t.2 ∧ t.2 ≤ k0 + i - 1 ∧ (∀ j, k0 + i - 1 ≤ j → t.1[j]? = l[j]?) ∧ Uniq (t.1.take t.2) (l.take (k0 + i)))
  (fun r => ∃ (L : List Pt) (k : Nat), r = (encP L, (0 : Nat), l.length, cap, (k : Int), ()) ∧ L.length = l.length ∧ 1 ≤ k ∧ k ≤ l.length ∧ Uniq (L.take k) l) ?_ ?_ (l, k0) 1 (by omega) ⟨Nat.le_refl _, rfl, hk1, by omega, fun _ _ => rfl, h0⟩
 ·obtain ⟨r, hr, L, k, rfl, h1, h2, h3, h4⟩ := key
  exact ⟨L, k, hr, h1, h2, h3, h4⟩
 ·rintro ⟨L, k⟩ i hi ⟨hi1, hL, hk, hki, hrest, hu⟩
  simp only at hL hk hki hrest hu
  left
  obtain ⟨x, hx⟩ := get_some (l := l) (i := k0 + i) (by omega)
  obtain ⟨y, hy⟩ := get_some (l := l) (i := k0 + i - 1) (by omega)
  have hLx : L[k0 + i]? = some x := by rw [hrest _ (by omega)]; exact hx
  have hLy : L[k0 + (i - 1)]? = some y := by
   have e : k0 + (i - 1) = k0 + i - 1 := by omega
   rw [e, hrest _ (by omega)]; exact hy
  have hLk : ∃ z, L[k]? = some z := get_some (by omega)
  obtain ⟨z, hz⟩ := hLk
  have c1 : (i : Int) < ((l.length - k0 : Nat) : Int) := by omega
  have c2 : (i : Int) ≥ 0 := by omega
  have c3 : (i : Int) - 1 ≥ 0 := by omega
  have c4 : (i : Int) - 1 < ((l.length - k0 : Nat) : Int) := by omega
  have hw := wrap_nat (i := i) (by omega)
  have hwk := wrap_nat (i := k) (by omega)
  have hw1 : IntKind.i64.wrap ((i : Int) - 1) = ((i - 1 : Nat) : Int) := by rw [wrap64] <;> omega
  have c3' : ((i - 1 : Nat) : Int) ≥ 0 := by omega
  have c4' : ((i - 1 : Nat) : Int) < ((l.length - k0 : Nat) : Int) := by omega
  have c5 : (k : Int) ≥ 0 := by omega
  have c6 : (k : Int) < (l.length : Int) := by omega
  have gx := encP_get hLx
  have gy := encP_get hLy
  have gz := encP_get hz
  have ey : l[k0 + i - 1]? = some y := hy
  have e1 : k0 + i - 1 + 1 = k0 + i := by omega
  by_cases hxy : x = y
  ·refine ⟨(L, k), ?_, by omega, hL, hk, by omega, fun j hj => hrest j (by omega), ?_⟩
   ·have := eP_inj.2 hxy
    simp only [b101_2, stdS, stdL, cells_eP, dI_eP0, dI_eP1, eP_eq, encP_set, encP_len, std_ar_sub, std_ar_add, hw, hw1, c1, c2, c3', c4', gx, gy, this.1, this.2]
   ·have hm : x ∈ l.take (k0 + i) := by
     rw [hxy]
     have : (l.take (k0 + i))[k0 + i - 1]? = some y := by rw [List.getElem?_take_of_lt (by omega)]; exact hy
     exact List.mem_of_getElem? this
    exact uniq_same hu hx hm
  ·refine ⟨(L.set k x, k + 1), ?_, by omega, by simpa using hL, by omega, by omega, fun j hj => ?_, ?_⟩
   ·by_cases k1 : x.1 = y.1
    ·have k2 : ¬ x.2 = y.2 := fun h => hxy (eP_inj.1 ⟨k1, h⟩)
     simp only [b101_2, stdS, stdL, cells_eP, dI_eP0, dI_eP1, eP_eq, encP_set, encP_len, std_ar_sub, std_ar_add, hw, hw1, hwk, c1, c2, c3', c4', c5, c6, gx, gy, gz, eq_true k1, eq_false k2]
    ·simp only [b101_2, stdS, stdL, cells_eP, dI_eP0, dI_eP1, eP_eq, encP_set, encP_len, std_ar_sub, std_ar_add, hw, hw1, hwk, c1, c2, c3', c4', c5, c6, gx, gy, gz, eq_false k1]
   ·simp only at hj ⊢
    rw [List.getElem?_set_ne (by omega)]; exact hrest j (by omega)
   ·simp only
    have ht : (L.set k x).take (k + 1) = L.take k ++ [x] := by
     rw [List.take_add_one, List.take_set_of_le (Nat.le_refl _), List.getElem?_set_self (by omega)]; rfl
    rw [ht]
    have hu' : Uniq (L.take k) (l.take (k0 + i - 1 + 1)) := by rw [e1]; exact hu
    have := uniq_more hs hu' hy (by rw [e1]; exact hx) hxy
    have e2 : k0 + i - 1 + 2 = k0 + (i + 1) := by omega
    rw [e2] at this; exact this
 ·rintro ⟨L, k⟩ ⟨hi1, hL, hk, hki, hrest, hu⟩
  simp only at hL hk hki hrest hu
  have hn : ¬ (((l.length - k0 : Nat) : Int) < ((l.length - k0 : Nat) : Int)) := by omega
  refine ⟨(encP L, (0 : Nat), l.length, cap, (k : Int), ()), ?_, L, k, rfl, hL, hk, by omega, ?_⟩
  ·simp only [b101_2, stdS, stdL, hn]
  ·have e : k0 + (l.length - k0) = l.length := by omega
   rw [e, List.take_length] at hu; exact hu
theorem G101_ok {l : List Pt} (hs : l.Pairwise (fun a b => ¬ Lt b a)) (hn : l.length ≤ 1000000) :
  ∃ (L : List Pt) (m : Nat), G101 std (encP l, (0 : Nat), l.length, l.length, ()) = some (encP L, (0 : Nat), m, l.length, ()) ∧ L.length = l.length ∧ m ≤ l.length ∧ Uniq (L.take m) l := by
 unfold G101
 by_cases h2 : l.length < 2
 ·refine ⟨l, l.length, ?_, rfl, Nat.le_refl _, ?_⟩
  ·have : (l.length : Int) < 2 := by omega
   simp only [g101, stdS, stdL, this]
  ·rw [List.take_length]
   refine ⟨?_, fun _ => Iff.rfl⟩
   match l, h2 with
   | [], _ => exact .nil
   | [a], _ => simp
   | a :: b :: r, h2 => simp at h2; omega
 have h2' : ¬ (l.length : Int) < 2 := by omega
 have key := iter_count (b := c101_1 it0 std) l.length (fun (_ : Unit) (i : Nat) => (encP l, (0 : Nat), l.length, l.length, (i : Int), ()))
  (fun _ i => 1 ≤ i ∧ Uniq (l.take i) (l.take i))
  (fun r => ∃ (L : List Pt) (m : Nat), (r = .inl (encP L, (0 : Nat), m, l.length, ()) ∨ r = .inr (encP L, (0 : Nat), m, l.length, ())) ∧ L.length = l.length ∧ m ≤ l.length ∧ Uniq (L.take m) l) ?_ ?_ () 1 (by omega) ⟨Nat.le_refl _, ?_⟩
 ·obtain ⟨r, hr, L, m, h, h3, h4, h5⟩ := key
  refine ⟨L, m, ?_, h3, h4, h5⟩
  simp only [g101, it0_eq, stdS, stdL, h2']
  have e0 : ((1 : Nat) : Int) = 1 := rfl
  rw [e0] at hr
  rw [hr]
  rcases h with rfl | rfl <;> rfl
 ·rintro _ i hi ⟨hi1, hu⟩
  obtain ⟨x, hx⟩ := get_some (l := l) (i := i) hi
  obtain ⟨y, hy⟩ := get_some (l := l) (i := i - 1) (by omega)
  have c1 : (i : Int) < (l.length : Int) := by omega
  have c2 : (i : Int) ≥ 0 := by omega
  have hw := wrap_nat (i := i) (by omega)
  have hw1 : IntKind.i64.wrap ((i : Int) - 1) = ((i - 1 : Nat) : Int) := by rw [wrap64] <;> omega
  have c3' : ((i - 1 : Nat) : Int) ≥ 0 := by omega
  have c4' : ((i - 1 : Nat) : Int) < (l.length : Int) := by omega
  have gx := encP_get hx
  have gy := encP_get hy
  have e1 : i - 1 + 1 = i := by omega
  by_cases hxy : x = y
  ·right
   have hm : x ∈ l.take i := by
    rw [hxy]
    have : (l.take i)[i - 1]? = some y := by rw [List.getElem?_take_of_lt (by omega)]; exact hy
    exact List.mem_of_getElem? this
   obtain ⟨L, k, hit, hL, hk, hkl, hU⟩ := G101_inner hs hn hi1 hi (uniq_same hu hx hm) l.length
   have d1 : (k : Int) ≥ 0 := by omega
   have d2 : (k : Int) ≤ (l.length : Int) := by omega
   have d3 : k + (l.length - k) ≤ l.length := by omega
   have c5 : (i : Int) ≤ (l.length : Int) := by omega
   have c6 : (l.length : Int) ≤ (l.length : Int) := by omega
   have c7 : (0 : Int) ≥ 0 := by omega
   have c8 : (0 : Int) ≤ (k : Int) := by omega
   have := eP_inj.2 hxy
   have hz : [D.int IntKind.i64 (0 : Int), D.int IntKind.i64 (0 : Int)] = eP (0, 0) := rfl
   have hsp : encP L = encP L := rfl
   refine ⟨.inl (encP (L.take k ++ List.replicate (l.length - k) (0, 0) ++ L.drop (k + (l.length - k))), (0 : Nat), k, l.length, ()), ?_, _, _, .inl rfl, ?_, hkl, ?_⟩
   ·simp only [c101_1, it0_eq, stdS, stdL, cells_eP, dI_eP0, dI_eP1, eP_eq, encP_set, encP_len, std_ar_sub, std_ar_add, hw, hw1, c1, c2, c3', c4', c5, c6, c7, c8, d1, d2, d3, gx, gy, this.1, this.2, hit, hL, Int.toNat_zero, Nat.sub_zero, hz, List.length_replicate, Nat.add_zero]
    simp [encP]
   ·simp [hL]; omega
   ·rw [List.take_append_of_le_length (by simp; omega), List.take_append_of_le_length (by simp; omega), List.take_take, Nat.min_self]
    exact hU
  ·left
   refine ⟨(), ?_, by omega, ?_⟩
   ·by_cases k1 : x.1 = y.1
    ·have k2 : ¬ x.2 = y.2 := fun h => hxy (eP_inj.1 ⟨k1, h⟩)
     simp only [c101_1, it0_eq, stdS, stdL, cells_eP, dI_eP0, dI_eP1, eP_eq, encP_set, encP_len, std_ar_sub, std_ar_add, hw, hw1, c1, c2, c3', c4', gx, gy, k1, k2]
    ·simp only [c101_1, it0_eq, stdS, stdL, cells_eP, dI_eP0, dI_eP1, eP_eq, encP_set, encP_len, std_ar_sub, std_ar_add, hw, hw1, c1, c2, c3', c4', gx, gy, k1]
   ·have hu' : Uniq (l.take i) (l.take (i - 1 + 1)) := by rw [e1]; exact hu
    have := uniq_more hs hu' hy (by rw [e1]; exact hx) hxy
    have e2 : i - 1 + 2 = i + 1 := by omega
    rw [e2] at this
    rw [take_succ_some hx] at this ⊢
    exact this
 ·rintro _ ⟨hi1, hu⟩
  have hnn : ¬ ((l.length : Int) < (l.length : Int)) := by omega
  refine ⟨.inr (encP l, (0 : Nat), l.length, l.length, ()), ?_, l, l.length, .inr rfl, rfl, Nat.le_refl _, ?_⟩
  ·simp only [c101_1, it0_eq, stdS, stdL, hnn]
  ·rw [List.take_length] at hu ⊢; exact hu
 ·match l, h2 with
  | a :: r, _ => exact ⟨by simp, fun _ => Iff.rfl⟩
  | [], h2 => exact absurd (by simp) h2
end Go.Am
end
section
namespace M06
def far (a b : Pt) : Int := dt (sb a b) (sb a b)
def Nx (S : List Pt) (a b : Pt) : Prop := b ∈ S ∧ a ≠ b ∧ ∀ x ∈ S, 0 ≤ cr a b x ∧ (cr a b x = 0 → 0 ≤ dt (sb b a) (sb x a) ∧ far a x ≤ far a b)
def Pth (S : List Pt) : List Pt → Prop
 | a :: b :: l => Nx S a b ∧ Pth S (b :: l)
 | _ => True
def Cyc (S : List Pt) : List Pt → Prop
 | [] => False
 | c0 :: r => c0 ∈ S ∧ (∀ x ∈ S, Le c0 x) ∧ ((r = [] ∧ ∀ x ∈ S, x = c0) ∨ (r ≠ [] ∧ Pth S (c0 :: r ++ [c0]) ∧ c0 ∉ r))
theorem Pth.tail {S : List Pt} {a : Pt} {l : List Pt} (h : Pth S (a :: l)) : Pth S l := by
 match l, h with
 | [], _ => trivial
 | _ :: _, h => exact h.2
theorem pth_join {S : List Pt} {m : Pt} : ∀ {l r : List Pt}, Pth S (l ++ [m]) → Pth S (m :: r) → Pth S (l ++ m :: r)
 | [], r, _, h => h
 | [a], r, h1, h2 => ⟨h1.1, h2⟩
 | a :: b :: l, r, h1, h2 => ⟨h1.1, pth_join (l := b :: l) h1.2 h2⟩
theorem btw_far {s t x : Pt} (hst : Lt s t) (h1 : Le s x) (h2 : Le x t) (hc : cr s t x = 0) : 0 ≤ dt (sb t s) (sb x s) ∧ far s x ≤ far s t := by
 rcases h1 with rfl | h1
 ·refine ⟨by simp [dt, sb], ?_⟩
  simp only [far, dt, sb]
  have a := sqn (s.1 - t.1)
  have b := sqn (s.2 - t.2)
  simp; omega
 obtain ⟨s1, s2⟩ := s; obtain ⟨t1, t2⟩ := t; obtain ⟨x1, x2⟩ := x
 simp only [Lt, Le, Pos, sb, cr, crs, far, dt, Prod.mk.injEq] at *
 generalize hT1 : t1 - s1 = T1 at *
 generalize hT2 : t2 - s2 = T2 at *
 generalize hX1 : x1 - s1 = X1 at *
 generalize hX2 : x2 - s2 = X2 at *
 have e1 : s1 - x1 = -X1 := by omega
 have e2 : s2 - x2 = -X2 := by omega
 have e3 : s1 - t1 = -T1 := by omega
 have e4 : s2 - t2 = -T2 := by omega
 rw [e1, e2, e3, e4]
 have k1 : 0 ≤ T1 := by omega
 have k2 : 0 ≤ X1 ∧ X1 ≤ T1 := by omega
 rcases Int.lt_or_eq_of_le k1 with hp | hz
 ·have q1 : 0 ≤ X1 * T1 := Int.mul_nonneg k2.1 k1
  have hcc : T1 * X2 = T2 * X1 := by omega
  have q3 : X1 * X1 ≤ T1 * T1 := Int.mul_le_mul k2.2 k2.2 k2.1 k1
  have q2 : (T2 * X2) * T1 = T2 * T2 * X1 := by grind
  have q4 : 0 ≤ T2 * T2 * X1 := Int.mul_nonneg (sqn _) k2.1
  have q5 : 0 ≤ T2 * X2 := by
   refine Classical.byContradiction fun hn => ?_
   have := Int.mul_neg_of_neg_of_pos (Int.not_le.1 hn) hp
   omega
  have q6 : (X2 * X2) * (T1 * T1) = (T2 * T2) * (X1 * X1) := by grind
  have q7 : (T2 * T2) * (X1 * X1) ≤ (T2 * T2) * (T1 * T1) := Int.mul_le_mul_of_nonneg_left q3 (sqn _)
  have q8 : 0 < T1 * T1 := Int.mul_pos hp hp
  have q9 : X2 * X2 ≤ T2 * T2 := by
   refine Classical.byContradiction fun hn => ?_
   have := Int.mul_lt_mul_of_pos_right (Int.not_le.1 hn) q8
   omega
  refine ⟨?_, ?_⟩
  ·have : T1 * X1 = X1 * T1 := Int.mul_comm _ _
   omega
  ·simp only [Int.neg_mul_neg]; omega
 ·have hX : X1 = 0 := by omega
  subst hX
  rw [← hz]
  have r1 : 0 ≤ X2 := by omega
  have r2 : X2 ≤ T2 := by omega
  have r3 : 0 ≤ T2 := by omega
  refine ⟨?_, ?_⟩
  ·have := Int.mul_nonneg r3 r1; simp; exact this
  ·simp only [Int.neg_mul_neg]
   have := Int.mul_le_mul r2 r2 r1 r3
   simp; omega
theorem pth_stack {S : List Pt} : ∀ {st : List Pt}, Desc st → (∀ x ∈ S, Edge st x) → (∀ y ∈ st, y ∈ S) → Pth S st.reverse
 | [], _, _, _ => trivial
 | [_], _, _, _ => trivial
 | t :: s :: r, hd, he, hs => by
  have ih := pth_stack (st := s :: r) hd.2 (fun x hx => (he x hx).2) (fun y hy => hs y (List.mem_cons_of_mem _ hy))
  rw [List.reverse_cons, List.reverse_cons] at *
  rw [List.append_assoc]
  refine pth_join ih ⟨⟨hs t (by simp), hd.1.ne, fun x hx => ?_⟩, trivial⟩
  have e := (he x hx).1
  exact ⟨e.1, fun h0 => btw_far hd.1 (e.2 h0).1 (e.2 h0).2 h0⟩
def ng (a : Pt) : Pt := (-a.1, -a.2)
theorem ng_ng (a : Pt) : ng (ng a) = a := by simp [ng]
theorem ng_cr (a b c : Pt) : cr (ng a) (ng b) (ng c) = cr a b c := by simp only [cr, crs, sb, ng]; grind
theorem ng_lt (a b : Pt) : Lt (ng a) (ng b) ↔ Lt b a := by simp only [Lt, Pos, sb, ng]; omega
theorem ng_far (a b : Pt) : far (ng a) (ng b) = far a b := by simp only [far, dt, sb, ng]; grind
theorem ng_dt (a b c : Pt) : dt (sb (ng b) (ng a)) (sb (ng c) (ng a)) = dt (sb b a) (sb c a) := by simp only [dt, sb, ng]; grind
theorem ng_inj {a b : Pt} (h : ng a = ng b) : a = b := by rw [← ng_ng a, h, ng_ng]
theorem pop_ng (p : Pt) : ∀ st : List Pt, pop (ng p) (st.map ng) = (pop p st).map ng
 | [] => by simp [pop]
 | [t] => by simp [pop_one]
 | t :: s :: r => by
  have ih := pop_ng p (s :: r)
  simp only [List.map_cons] at ih ⊢
  by_cases h : cr s t p ≤ 0
  ·rw [pop_eq1 p h, pop_eq1 (ng p) (by rw [ng_cr]; exact h), ih]
  ·rw [pop_eq2 p h, pop_eq2 (ng p) (by rw [ng_cr]; exact h)]; rfl
theorem fold_ng : ∀ (l st : List Pt), (l.map ng).foldl push (st.map ng) = (l.foldl push st).map ng
 | [], _ => rfl
 | p :: l, st => by
  simp only [List.map_cons, List.foldl_cons]
  rw [← fold_ng l (push st p)]
  congr 1
  simp only [push, List.map_cons, pop_ng]
theorem nx_ng {S : List Pt} {a b : Pt} (h : Nx (S.map ng) (ng a) (ng b)) : Nx S a b := by
 obtain ⟨h1, h2, h3⟩ := h
 refine ⟨?_, fun e => h2 (by rw [e]), fun x hx => ?_⟩
 ·obtain ⟨y, hy, e⟩ := List.mem_map.1 h1
  rw [← ng_inj e]; exact hy
 ·have := h3 (ng x) (List.mem_map.2 ⟨x, hx, rfl⟩)
  rwa [ng_cr, ng_far, ng_far, ng_dt] at this
theorem pth_ng {S : List Pt} : ∀ {l : List Pt}, Pth (S.map ng) (l.map ng) → Pth S l
 | [], _ => trivial
 | [_], _ => trivial
 | a :: b :: l, h => ⟨nx_ng h.1, pth_ng (l := b :: l) h.2⟩
end M06
end
section
namespace Go.Am
open M06
theorem small_wraps {s t p : Pt} (hs : Small s) (ht : Small t) (hp : Small p) :
  IntKind.i64.wrap (t.1 - s.1) = t.1 - s.1 ∧ IntKind.i64.wrap (t.2 - s.2) = t.2 - s.2 ∧ IntKind.i64.wrap (p.1 - s.1) = p.1 - s.1 ∧ IntKind.i64.wrap (p.2 - s.2) = p.2 - s.2 ∧
  IntKind.i64.wrap ((t.1 - s.1) * (p.2 - s.2)) = (t.1 - s.1) * (p.2 - s.2) ∧ IntKind.i64.wrap ((t.2 - s.2) * (p.1 - s.1)) = (t.2 - s.2) * (p.1 - s.1) ∧
  IntKind.i64.wrap ((t.1 - s.1) * (p.2 - s.2) - (t.2 - s.2) * (p.1 - s.1)) = cr s t p := by
 obtain ⟨a1, a2, a3, a4⟩ := hs
 obtain ⟨b1, b2, b3, b4⟩ := ht
 obtain ⟨c1, c2, c3, c4⟩ := hp
 have big : ∀ {a b : Int}, -2097152 ≤ a → a ≤ 2097152 → -2097152 ≤ b → b ≤ 2097152 → -4398046511104 ≤ a * b ∧ a * b ≤ 4398046511104 := by
  intro a b h1 h2 h3 h4
  have e1 := Int.mul_nonneg (show 0 ≤ 2097152 - a by omega) (show 0 ≤ 2097152 - b by omega)
  have e2 := Int.mul_nonneg (show 0 ≤ 2097152 + a by omega) (show 0 ≤ 2097152 + b by omega)
  have e3 := Int.mul_nonneg (show 0 ≤ 2097152 - a by omega) (show 0 ≤ 2097152 + b by omega)
  have e4 := Int.mul_nonneg (show 0 ≤ 2097152 + a by omega) (show 0 ≤ 2097152 - b by omega)
  simp only [Int.sub_mul, Int.add_mul, Int.mul_sub, Int.mul_add] at e1 e2 e3 e4
  omega
 have m1 := big (a := t.1 - s.1) (b := p.2 - s.2) (by omega) (by omega) (by omega) (by omega)
 have m2 := big (a := t.2 - s.2) (b := p.1 - s.1) (by omega) (by omega) (by omega) (by omega)
 refine ⟨?_, ?_, ?_, ?_, ?_, ?_, ?_⟩
 any_goals (rw [wrap64] <;> omega)
 rw [wrap64 _ (by omega) (by omega)]
 rfl
theorem pop_loop {L : List Pt} {p : Pt} (hp : Small p) (hL : ∀ x ∈ L, Small x) (hLn : L.length ≤ 1000000) (les : List (List D)) (n i : Int) :
  ∀ (k : Nat) (s tl : List Pt), s.length = k → L = s.reverse ++ tl →
   iter (b88_2 std) (encP L, p.1, p.2, (0 : Nat), s.length, les, n, i, ()) = some (encP L, p.1, p.2, (0 : Nat), (pop p s).length, les, n, i, ()) := by
 intro k
 induction k with
 | zero =>
  intro s tl hk hl
  have : s = [] := List.length_eq_zero_iff.1 hk
  subst this
  rw [iter_unfold]
  have hn : ¬ ((0 : Nat) : Int) > 1 := by omega
  have : b88_2 std (encP L, p.1, p.2, (0 : Nat), ([] : List Pt).length, les, n, i, ()) = some (.inr (encP L, p.1, p.2, (0 : Nat), 0, les, n, i, ())) := by
   simp only [b88_2, stdS, stdL, hn]
  rw [this]
  have : pop p [] = [] := by simp [pop]
  rw [this]; rfl
 | succ k ih =>
  intro s tl hk hl
  match s, hk, hl with
  | [t], hk, hl =>
   rw [iter_unfold]
   have hn : ¬ ((1 : Nat) : Int) > 1 := by omega
   have : b88_2 std (encP L, p.1, p.2, (0 : Nat), [t].length, les, n, i, ()) = some (.inr (encP L, p.1, p.2, (0 : Nat), 1, les, n, i, ())) := by
    simp only [b88_2, stdS, stdL, hn]
   rw [this, pop_one]; rfl
  | t :: s :: r, hk, hl =>
   rw [iter_unfold]
   have hlen : (t :: s :: r).length = r.length + 2 := rfl
   rw [hlen]
   have hLl : L.length = r.length + 2 + tl.length := by rw [hl]; simp; omega
   have ht : L[r.length + 1]? = some t := by
    rw [hl]
    simp only [List.reverse_cons, List.append_assoc, List.cons_append, List.nil_append]
    rw [List.getElem?_append_right (by simp)]
    simp
   have hs : L[r.length]? = some s := by
    rw [hl]
    simp only [List.reverse_cons, List.append_assoc, List.cons_append, List.nil_append]
    rw [List.getElem?_append_right (by simp)]
    simp
   have gt := encP_get ht
   have gs := encP_get hs
   obtain ⟨w1, w2, w3, w4, w5, w6, w7⟩ := small_wraps (hL s (List.mem_of_getElem? hs)) (hL t (List.mem_of_getElem? ht)) hp
   have c1 : ((r.length + 2 : Nat) : Int) > 1 := by omega
   have v1 : IntKind.i64.wrap (((r.length + 2 : Nat) : Int) - 1) = ((r.length + 1 : Nat) : Int) := by rw [wrap64] <;> omega
   have v2 : IntKind.i64.wrap (((r.length + 2 : Nat) : Int) - 2) = (r.length : Int) := by rw [wrap64] <;> omega
   have c2 : ((r.length + 1 : Nat) : Int) ≥ 0 := by omega
   have c3 : ((r.length + 1 : Nat) : Int) < ((r.length + 2 : Nat) : Int) := by omega
   have c4 : (r.length : Int) ≥ 0 := by omega
   have c5 : (r.length : Int) < ((r.length + 2 : Nat) : Int) := by omega
   have c6 : (0 : Int) ≤ ((r.length + 1 : Nat) : Int) := by omega
   have c7 : ((r.length + 1 : Nat) : Int) ≤ ((r.length + 2 : Nat) : Int) := by omega
   have c8 : r.length + 1 ≤ L.length := by omega
   have c9 : (0 : Int) ≥ 0 := by omega
   have c10 : ((r.length + 1 : Nat) : Int) ≤ ((r.length + 1 : Nat) : Int) := by omega
   by_cases hc : cr s t p ≤ 0
   ·have hb : b88_2 std (encP L, p.1, p.2, (0 : Nat), r.length + 2, les, n, i, ()) = some (.inl (encP L, p.1, p.2, (0 : Nat), r.length + 1, les, n, i, ())) := by
     simp only [b88_2, stdS, stdL, cells_eP, dI_eP0, dI_eP1, eP_eq, encP_set, encP_len, std_ar_sub, std_ar_mul, v1, v2, c1, c2, c3, c4, c5, c6, c7, c8, c9, c10, gt, gs, w1, w2, w3, w4, w5, w6, w7, hc, Int.toNat_zero, Nat.sub_zero, Nat.add_zero]
    rw [hb, pop_eq1 p hc]
    exact ih (s :: r) (t :: tl) (by simpa using hk) (by rw [hl]; simp)
   ·have hb : b88_2 std (encP L, p.1, p.2, (0 : Nat), r.length + 2, les, n, i, ()) = some (.inr (encP L, p.1, p.2, (0 : Nat), r.length + 2, les, n, i, ())) := by
     simp only [b88_2, stdS, stdL, cells_eP, dI_eP0, dI_eP1, eP_eq, encP_set, encP_len, std_ar_sub, std_ar_mul, v1, v2, c1, c2, c3, c4, c5, c6, c7, c8, c9, c10, gt, gs, w1, w2, w3, w4, w5, w6, w7, hc, Int.toNat_zero, Nat.sub_zero, Nat.add_zero]
    rw [hb, pop_eq2 p hc]; rfl
theorem pop_suffix (p : Pt) : ∀ s : List Pt, ∃ a, s = a ++ pop p s
 | [] => ⟨[], by simp [pop]⟩
 | [t] => ⟨[], by rw [pop_one]; rfl⟩
 | t :: s :: r => by
  by_cases h : cr s t p ≤ 0
  ·obtain ⟨a, ha⟩ := pop_suffix p (s :: r)
   exact ⟨t :: a, by rw [pop_eq1 p h, List.cons_append, ← ha]⟩
  ·exact ⟨[], by rw [pop_eq2 p h]; rfl⟩
theorem fold_small {l st : List Pt} (hl : ∀ x ∈ l, Small x) (hst : ∀ x ∈ st, Small x) : ∀ x ∈ l.foldl push st, Small x := by
 induction l generalizing st with
 | nil => exact hst
 | cons p l ih =>
  refine ih (fun x hx => hl x (List.mem_cons_of_mem _ hx)) (fun x hx => ?_)
  rcases List.mem_cons.1 hx with rfl | hx
  ·exact hl _ (by simp)
  ·obtain ⟨a, ha⟩ := pop_suffix p st
   exact hst x (by rw [ha]; exact List.mem_append_right _ hx)
theorem fold_len {l st : List Pt} : (l.foldl push st).length ≤ st.length + l.length := by
 induction l generalizing st with
 | nil => simp
 | cons p l ih =>
  have h := ih (st := push st p)
  obtain ⟨a, ha⟩ := pop_suffix p st
  have h2 : (push st p).length = (pop p st).length + 1 := rfl
  have h3 : st.length = a.length + (pop p st).length := by
   have := congrArg List.length ha
   rwa [List.length_append] at this
  simp only [List.foldl_cons, List.length_cons]
  omega
def chain (l : List Pt) : List Pt := (l.foldl push []).reverse
theorem G88_ok {l : List Pt} (hl : ∀ x ∈ l, Small x) (hn : l.length ≤ 100000) (h1 : 1 ≤ l.length) :
  G88 std (encP l, ()) = some (encP (chain l), (0 : Nat), (chain l).length - 1, (chain l).length - 1, ()) ∧ 1 ≤ (chain l).length ∧ (chain l).length ≤ l.length := by
 have hlen : (chain l).length ≤ l.length := by
  have := fold_len (l := l) (st := [])
  simp [chain]; simpa using this
 have hpos : 1 ≤ (chain l).length := by
  match l, h1 with
  | p :: r, _ =>
   have : ∀ (r st : List Pt), st ≠ [] → r.foldl push st ≠ [] := by
    intro r
    induction r with
    | nil => intro st h; exact h
    | cons q r ih => intro st h; exact ih _ (by simp [push])
   have h2 := this r (push [] p) (by simp [push])
   have : (chain (p :: r)) ≠ [] := by simp only [chain, List.foldl_cons]; simpa using h2
   exact List.length_pos_iff.2 this
 refine ⟨?_, hpos, hlen⟩
 have key := iter_to (b := c88_1 it0 std) (fun (i : Nat) => (encP (chain (l.take i)), encP l, (l.length : Int), (i : Int), ())) (fun i => i ≤ l.length) (fun i => l.length - i) (fun _ => (encP (chain l), ())) (fun i hi => by
  by_cases hlt : i < l.length
  ·left
   obtain ⟨p, hp⟩ := get_some hlt
   have hps := hl p (List.mem_of_getElem? hp)
   have gp := encP_get hp
   have c1 : (i : Int) < (l.length : Int) := by omega
   have c2 : (i : Int) ≥ 0 := by omega
   have hw := wrap_nat (i := i) (by omega)
   have hst : ∀ x ∈ chain (l.take i), Small x := fun x hx => fold_small (l := l.take i) (st := []) (fun y hy => hl y (List.mem_of_mem_take hy)) (by simp) x (by simpa [chain] using hx)
   have hll : (chain (l.take i)).length ≤ i := by
    have := fold_len (l := l.take i) (st := [])
    simp [chain]; simp at this; omega
   have hloop := pop_loop (L := chain (l.take i)) hps hst (by omega) (encP l) (l.length : Int) (i : Int) _ ((l.take i).foldl push []) [] rfl (by simp [chain])
   have hcl : ((l.take i).foldl push []).length = (chain (l.take i)).length := by simp [chain]
   rw [hcl] at hloop
   obtain ⟨a, ha⟩ := pop_suffix p ((l.take i).foldl push [])
   generalize hq : pop p ((l.take i).foldl push []) = q at hloop ha
   have hch : chain (l.take i) = q.reverse ++ a.reverse := by simp only [chain, ha, List.reverse_append]
   have hcut : (encP (chain (l.take i))).take q.length = encP q.reverse := by
    rw [hch]; simp [encP]
   have hql : q.length ≤ (chain (l.take i)).length := by rw [hch]; simp
   have hnew : chain (l.take (i + 1)) = q.reverse ++ [p] := by
    rw [chain, take_succ_some hp, List.foldl_append]
    simp only [List.foldl_cons, List.foldl_nil, push, hq, List.reverse_cons]
   refine ⟨i + 1, ?_, by omega, by omega, rfl⟩
   rw [hnew]
   have d1 : q.length + 1 ≤ 1000000 := by omega
   have d2 : encP q.reverse ++ [eP p] = encP (q.reverse ++ [p]) := by simp [encP]
   have d4 : q.length + 1 = (q.reverse ++ [p]).length := by simp
   have d3 : (encP q.reverse ++ [eP p]).length = q.length + 1 := by simp [encP]
   simp only [c88_1, it0_eq, stdS, stdL, cells_eP, dI_eP0, dI_eP1, eP_eq, encP_set, encP_len, std_ar_add, hw, c1, c2, gp, hloop, List.drop_zero, hcut, hql, d1, List.take_succ_cons, List.take_zero, d3, Nat.le_refl, d2, ← d4]
  ·right
   have : i = l.length := by omega
   subst this
   have hn : ¬ ((l.length : Int) < (l.length : Int)) := by omega
   simp only [c88_1, it0_eq, stdS, stdL, hn, List.take_length]) 0 (Nat.zero_le _)
 have e0 : (encP (chain (l.take 0)), encP l, (l.length : Int), ((0 : Nat) : Int), ()) = (([] : List (List D)), encP l, std.ofNat (std.len (encP l)), (0 : Int), ()) := by
  simp [chain, encP, std_ofNat, std_len]
 rw [e0] at key
 have v1 : IntKind.i64.wrap (((chain l).length : Int) - 1) = (((chain l).length - 1 : Nat) : Int) := by rw [wrap64] <;> omega
 have c1 : (0 : Int) ≤ (((chain l).length - 1 : Nat) : Int) := by omega
 have c2 : (((chain l).length - 1 : Nat) : Int) ≤ ((chain l).length : Int) := by omega
 have c3 : (((chain l).length - 1 : Nat) : Int) ≤ (((chain l).length - 1 : Nat) : Int) := by omega
 have c4 : (0 : Int) ≥ 0 := by omega
 unfold G88
 simp only [std_ofNat, std_len] at key
 simp only [g88, it0_eq, std_ofNat, std_len, need_eq, ret_eq, bnd_eq, key, Option.bind_some]
 simp only [stdS, stdL, encP_len, std_ar_sub, v1, c1, c2, c3, c4, Int.toNat_zero, Nat.sub_zero, Nat.add_zero]
end Go.Am
end
section
namespace M06
theorem lag (u v : Pt) : dt u u * dt v v = dt u v * dt u v + crs u v * crs u v := by simp only [dt, crs]; grind
theorem dt_self_nonneg (u : Pt) : 0 ≤ dt u u := by have := sqn u.1; have := sqn u.2; simp only [dt]; omega
theorem dt_self_pos {u : Pt} (h : u ≠ (0, 0)) : 0 < dt u u := by
 have a := sqn u.1
 have b := sqn u.2
 refine Classical.byContradiction fun hc => h ?_
 simp only [dt] at hc
 have e1 : u.1 * u.1 = 0 := by omega
 have e2 : u.2 * u.2 = 0 := by omega
 exact Prod.ext (by rcases Int.mul_eq_zero.1 e1 with h | h <;> exact h) (by rcases Int.mul_eq_zero.1 e2 with h | h <;> exact h)
theorem sb_eq_zero {a b : Pt} : sb a b = (0, 0) ↔ a = b := by
 simp only [sb, Prod.mk.injEq]
 exact ⟨fun h => Prod.ext (by omega) (by omega), fun h => by subst h; omega⟩
structure Face (S : List Pt) (d a b : Pt) : Prop where
 ina : a ∈ S
 inb : b ∈ S
 par : crs d (sb b a) = 0
 left : ∀ x ∈ S, 0 ≤ crs d (sb x a)
 on : ∀ x ∈ S, crs d (sb x a) = 0 → 0 ≤ dt d (sb x a) ∧ 0 ≤ dt d (sb b x)
theorem both_zero {d v : Pt} (hd : d ≠ (0, 0)) (h1 : crs d v = 0) (h2 : dt d v = 0) : v = (0, 0) := by
 have := lag d v
 rw [h1, h2] at this
 have hp := dt_self_pos hd
 refine Classical.byContradiction fun hv => ?_
 have := Int.mul_pos hp (dt_self_pos hv)
 omega
theorem Face.sum {A B : List Pt} {T : List Pt} (hT : ∀ z, z ∈ T ↔ ∃ x ∈ A, ∃ y ∈ B, z = ad x y) {d a b a' b' : Pt} (h : Face A d a b) (h' : Face B d a' b') : Face T d (ad a a') (ad b b') := by
 have add1 : ∀ x y p q : Pt, crs d (sb (ad x y) (ad p q)) = crs d (sb x p) + crs d (sb y q) := by intros; simp only [crs, sb, ad]; grind
 have add2 : ∀ x y p q : Pt, dt d (sb (ad x y) (ad p q)) = dt d (sb x p) + dt d (sb y q) := by intros; simp only [dt, sb, ad]; grind
 refine ⟨(hT _).2 ⟨_, h.ina, _, h'.ina, rfl⟩, (hT _).2 ⟨_, h.inb, _, h'.inb, rfl⟩, ?_, ?_, ?_⟩
 ·rw [add1, h.par, h'.par]; rfl
 ·intro z hz
  obtain ⟨x, hx, y, hy, rfl⟩ := (hT z).1 hz
  rw [add1]
  have := h.left x hx; have := h'.left y hy; omega
 ·intro z hz hz0
  obtain ⟨x, hx, y, hy, rfl⟩ := (hT z).1 hz
  rw [add1] at hz0
  have l1 := h.left x hx
  have l2 := h'.left y hy
  have o1 := h.on x hx (by omega)
  have o2 := h'.on y hy (by omega)
  rw [add2, add2]; omega
theorem Face.sub {S T : List Pt} {d a b : Pt} (h : Face S d a b) (hs : ∀ x ∈ T, x ∈ S) (ha : a ∈ T) (hb : b ∈ T) : Face T d a b :=
 ⟨ha, hb, h.par, fun x hx => h.left x (hs x hx), fun x hx => h.on x (hs x hx)⟩
def Same (u v : Pt) : Prop := crs u v = 0 ∧ 0 < dt u v
theorem Same.mul {u v : Pt} (h : Same u v) (w : Pt) : dt u u * crs v w = dt u v * crs u w ∧ dt u u * dt v w = dt u v * dt u w := by
 have h0 := h.1
 simp only [crs, dt] at *
 constructor <;> grind
theorem Same.ne {u v : Pt} (h : Same u v) : u ≠ (0, 0) := by
 rintro rfl; have := h.2; simp [dt] at this
theorem Same.symm {u v : Pt} (h : Same u v) : Same v u := by
 refine ⟨?_, ?_⟩
 ·have := h.1; simp only [crs] at *; grind
 ·have := h.2; simp only [dt] at *; rw [Int.mul_comm v.1, Int.mul_comm v.2]; exact this
theorem nonneg_of_mul {a b c d : Int} (ha : 0 < a) (hc : 0 < c) (h : a * b = c * d) : (0 ≤ b ↔ 0 ≤ d) ∧ (b = 0 ↔ d = 0) := by
 have p : ∀ {x y z w : Int}, 0 < x → 0 < z → x * y = z * w → 0 ≤ y → 0 ≤ w := by
  intro x y z w hx hz h hy
  refine Classical.byContradiction fun hn => ?_
  have := Int.mul_nonneg (Int.le_of_lt hx) hy
  have := Int.mul_neg_of_pos_of_neg hz (Int.not_le.1 hn)
  omega
 have q : ∀ {x y z w : Int}, 0 < z → x * y = z * w → y = 0 → w = 0 := by
  intro x y z w hz h hy
  rw [hy, Int.mul_zero] at h
  rcases Int.mul_eq_zero.1 h.symm with h | h
  ·omega
  ·exact h
 exact ⟨⟨p ha hc h, p hc ha h.symm⟩, ⟨q hc h, q ha h.symm⟩⟩
theorem Face.same {S : List Pt} {d e a b : Pt} (h : Face S d a b) (hs : Same d e) : Face S e a b := by
 have hd := dt_self_pos hs.ne
 have k : ∀ w, (0 ≤ crs e w ↔ 0 ≤ crs d w) ∧ (crs e w = 0 ↔ crs d w = 0) := fun w => nonneg_of_mul hd hs.2 (hs.mul w).1
 have k2 : ∀ w, (0 ≤ dt e w ↔ 0 ≤ dt d w) ∧ (dt e w = 0 ↔ dt d w = 0) := fun w => nonneg_of_mul hd hs.2 (hs.mul w).2
 refine ⟨h.ina, h.inb, (k _).2.2 h.par, fun x hx => (k _).1.2 (h.left x hx), fun x hx h0 => ?_⟩
 have := h.on x hx ((k _).2.1 h0)
 exact ⟨(k2 _).1.2 this.1, (k2 _).1.2 this.2⟩
theorem le_of_sq {a b : Int} (hb : 0 ≤ b) (h : a * a ≤ b * b) : a ≤ b := by
 refine Classical.byContradiction fun hn => ?_
 have : b < a := by omega
 have := Int.mul_lt_mul_of_pos_left this (show 0 < a by omega)
 have := Int.mul_le_mul_of_nonneg_right (show b ≤ a by omega) hb
 have := Int.mul_comm a b
 omega
theorem far_iff {a b x : Pt} (hab : a ≠ b) (h0 : cr a b x = 0) (h1 : 0 ≤ dt (sb b a) (sb x a)) : far a x ≤ far a b ↔ 0 ≤ dt (sb b a) (sb b x) := by
 have hne : sb b a ≠ (0, 0) := fun h => hab (sb_eq_zero.1 h).symm
 have hp := dt_self_pos hne
 have e1 : far a x = dt (sb x a) (sb x a) := by simp only [far, dt, sb]; grind
 have e2 : far a b = dt (sb b a) (sb b a) := by simp only [far, dt, sb]; grind
 have e3 : dt (sb b a) (sb b x) = dt (sb b a) (sb b a) - dt (sb b a) (sb x a) := by simp only [dt, sb]; grind
 have hl := lag (sb b a) (sb x a)
 have h0' : crs (sb b a) (sb x a) = 0 := h0
 rw [h0'] at hl
 rw [e1, e2, e3]
 generalize dt (sb b a) (sb x a) = m at *
 generalize dt (sb b a) (sb b a) = n at *
 generalize dt (sb x a) (sb x a) = k at *
 have hl' : n * k = m * m := by omega
 constructor
 ·intro h
  have : n * k ≤ n * n := Int.mul_le_mul_of_nonneg_left h (by omega)
  have := le_of_sq (a := m) (b := n) (by omega) (by omega)
  omega
 ·intro h
  have h2 : m * m ≤ n * n := Int.mul_le_mul (by omega) (by omega) h1 (by omega)
  refine Classical.byContradiction fun hn => ?_
  have := Int.mul_lt_mul_of_pos_left (show n < k by omega) hp
  omega
theorem nx_face {S : List Pt} {a b : Pt} (ha : a ∈ S) (h : Nx S a b) : Face S (sb b a) a b := by
 obtain ⟨h1, h2, h3⟩ := h
 refine ⟨ha, h1, ?_, fun x hx => (h3 x hx).1, fun x hx h0 => ?_⟩
 ·simp only [crs, sb]; grind
 ·have := (h3 x hx).2 h0
  exact ⟨this.1, (far_iff h2 h0 this.1).1 this.2⟩
theorem face_nx {S : List Pt} {d a b : Pt} (hd : d ≠ (0, 0)) (h : Face S d a b) (hab : a ≠ b) : Nx S a b ∧ Same d (sb b a) := by
 have hpos : 0 < dt d (sb b a) := by
  have h0 : crs d (sb a a) = 0 := by simp [crs, sb]
  have := (h.on a h.ina h0).2
  refine Classical.byContradiction fun hn => hab ?_
  exact (sb_eq_zero.1 (both_zero hd h.par (by omega))).symm
 have hs : Same d (sb b a) := ⟨h.par, hpos⟩
 have hf := h.same hs
 refine ⟨⟨h.inb, hab, fun x hx => ⟨hf.left x hx, fun h0 => ?_⟩⟩, hs⟩
 have := hf.on x hx h0
 exact ⟨this.1, (far_iff hab h0 this.1).2 this.2⟩
theorem nx_unique {S : List Pt} {a b b' : Pt} (h : Nx S a b) (h' : Nx S a b') : b = b' := by
 have c1 := h.2.2 b' h'.1
 have c2 := h'.2.2 b h.1
 have z : cr a b b' = 0 := by have := cr_swap a b b'; omega
 have z' : cr a b' b = 0 := by have := cr_swap a b b'; omega
 have f1 := (c1.2 z).2
 have f2 := (c2.2 z').2
 have d1 := (far_iff h.2.1 z (c1.2 z).1).1 f1
 have d2 := (far_iff h'.2.1 z' (c2.2 z').1).1 f2
 have hf : dt (sb b' b) (sb b' b) = 0 := by
  have e : dt (sb b' b) (sb b' b) = - dt (sb b a) (sb b' b) + dt (sb b' a) (sb b' b) := by simp only [dt, sb]; grind
  have e2 : dt (sb b a) (sb b' b) = - dt (sb b a) (sb b b') := by simp only [dt, sb]; grind
  have hl : 0 ≤ dt (sb b' b) (sb b' b) := dt_self_nonneg _
  have e3 : dt (sb b a) (sb b' a) * 2 = far a b + far a b' - dt (sb b' b) (sb b' b) := by simp only [far, dt, sb]; grind
  have e4 : dt (sb b a) (sb b b') = far a b - dt (sb b a) (sb b' a) := by simp only [far, dt, sb]; grind
  have e5 : dt (sb b' a) (sb b' b) = far a b' - dt (sb b a) (sb b' a) := by simp only [far, dt, sb]; grind
  have hlag := lag (sb b a) (sb b' a)
  have z0 : crs (sb b a) (sb b' a) = 0 := z
  have e6 : dt (sb b a) (sb b a) = far a b := by simp only [far, dt, sb]; grind
  have e7 : dt (sb b' a) (sb b' a) = far a b' := by simp only [far, dt, sb]; grind
  rw [z0, e6, e7] at hlag
  have hfe : far a b = far a b' := by omega
  have hm : 0 ≤ dt (sb b a) (sb b' a) := (c1.2 z).1
  rw [← hfe] at hlag
  have hfn : 0 ≤ far a b := by rw [← e6]; exact dt_self_nonneg _
  have hq := le_of_sq (a := far a b) (b := dt (sb b a) (sb b' a)) hm (by omega)
  omega
 refine Classical.byContradiction fun hne => ?_
 have := dt_self_pos (u := sb b' b) (fun h => hne (sb_eq_zero.1 h).symm)
 omega
theorem le_antisymm {a b : Pt} (h1 : Le a b) (h2 : Le b a) : a = b := by
 rcases h1 with h | h1
 ·exact h
 ·rcases h2 with h | h2
  ·exact h.symm
  ·exact absurd h2 (fun h => h1.asymm h)
theorem pth_unique {S : List Pt} {e : Pt} : ∀ {l l' : List Pt} {a : Pt}, Pth S (a :: l ++ [e]) → Pth S (a :: l' ++ [e]) → e ∉ l → e ∉ l' → l = l'
 | [], [], a, _, _, _, _ => rfl
 | [], b :: l', a, h, h', _, n' => by
  have := nx_unique h.1 h'.1
  exact absurd (by simp [this]) n'
 | b :: l, [], a, h, h', n, _ => by
  have := nx_unique h.1 h'.1
  exact absurd (by simp [this]) n
 | b :: l, b' :: l', a, h, h', n, n' => by
  have e1 := nx_unique h.1 h'.1
  subst e1
  have := pth_unique (l := l) (l' := l') (a := b) h.2 h'.2 (fun x => n (List.mem_cons_of_mem _ x)) (fun x => n' (List.mem_cons_of_mem _ x))
  rw [this]
theorem cyc_unique {S c c' : List Pt} (h : Cyc S c) (h' : Cyc S c') : c = c' := by
 match c, c', h, h' with
 | c0 :: r, c0' :: r', h, h' =>
  have e0 : c0 = c0' := le_antisymm (h.2.1 _ h'.1) (h'.2.1 _ h.1)
  subst e0
  congr 1
  rcases h.2.2 with ⟨hr, hs⟩ | ⟨hr, hp, hn⟩
  ·rcases h'.2.2 with ⟨hr', _⟩ | ⟨hr', hp', hn'⟩
   ·rw [hr, hr']
   ·match r', hr', hp', hn' with
    | b :: l, _, hp', hn' => exact absurd (by simp [hs b hp'.1.1]) hn'
  ·rcases h'.2.2 with ⟨hr', hs'⟩ | ⟨hr', hp', hn'⟩
   ·match r, hr, hp, hn with
    | b :: l, _, hp, hn => exact absurd (by simp [hs' b hp.1.1]) hn
   ·exact pth_unique hp hp' hn hn'
theorem cyc_mem {S c : List Pt} (h : Cyc S c) : ∀ x ∈ c, x ∈ S := by
 have k : ∀ (l : List Pt) (a : Pt), Pth S (a :: l) → ∀ x ∈ l, x ∈ S := by
  intro l
  induction l with
  | nil => intro a _ x hx; simp at hx
  | cons b l ih =>
   intro a h x hx
   rcases List.mem_cons.1 hx with rfl | hx
   ·exact h.1.1
   ·exact ih b h.2 x hx
 match c, h with
 | c0 :: r, h =>
  intro x hx
  rcases List.mem_cons.1 hx with rfl | hx
  ·exact h.1
  ·rcases h.2.2 with ⟨hr, _⟩ | ⟨_, hp, _⟩
   ·subst hr; simp at hx
   ·exact k (r ++ [c0]) c0 hp x (by simp [hx])
theorem nx_sub {S T : List Pt} {a b : Pt} (h : Nx S a b) (hs : ∀ x ∈ T, x ∈ S) (hb : b ∈ T) : Nx T a b :=
 ⟨hb, h.2.1, fun x hx => h.2.2 x (hs x hx)⟩
theorem cyc_sub {S T c : List Pt} (h : Cyc S c) (hs : ∀ x ∈ T, x ∈ S) (hc : ∀ x ∈ c, x ∈ T) : Cyc T c := by
 have k : ∀ (l : List Pt) (a : Pt), Pth S (a :: l) → (∀ x ∈ l, x ∈ T) → Pth T (a :: l) := by
  intro l
  induction l with
  | nil => intro a _ _; trivial
  | cons b l ih =>
   intro a h hx
   exact ⟨nx_sub h.1 hs (hx b (by simp)), ih b h.2 (fun x h => hx x (List.mem_cons_of_mem _ h))⟩
 match c, h with
 | c0 :: r, h =>
  refine ⟨hc c0 (by simp), fun x hx => h.2.1 x (hs x hx), ?_⟩
  rcases h.2.2 with ⟨hr, h1⟩ | ⟨hr, hp, hn⟩
  ·exact .inl ⟨hr, fun x hx => h1 x (hs x hx)⟩
  ·refine .inr ⟨hr, k (r ++ [c0]) c0 hp (fun x hx => ?_), hn⟩
   rcases List.mem_append.1 hx with hx | hx
   ·exact hc x (List.mem_cons_of_mem _ hx)
   ·simp at hx; subst hx; exact hc _ (by simp)
theorem cyc_self {S c : List Pt} (h : Cyc S c) : Cyc c c := cyc_sub h (cyc_mem h) (fun _ h => h)
end M06
end
section
namespace M06
def Bef (u v : Pt) : Prop := (Pos u ∧ Pos (ng v)) ∨ (Pos u ∧ Pos v ∧ 0 < crs u v) ∨ (Pos (ng u) ∧ Pos (ng v) ∧ 0 < crs u v)
def ways : List Pt → List Pt
 | a :: b :: l => sb b a :: ways (b :: l)
 | _ => []
def walk : Pt → List Pt → List Pt
 | p, [] => [p]
 | p, w :: ws => p :: walk (ad p w) ws
def wy : List Pt → List Pt
 | a :: b :: r => ways (a :: b :: r ++ [a])
 | _ => []
theorem ad_sb (a b : Pt) : ad a (sb b a) = b := by simp only [ad, sb]; exact Prod.ext (by simp; omega) (by simp; omega)
theorem walk_ways : ∀ (l : List Pt) (a : Pt), walk a (ways (a :: l)) = a :: l
 | [], a => rfl
 | b :: l, a => by
  simp only [ways, walk]
  rw [ad_sb, walk_ways l b]
theorem ways_append : ∀ (l r : List Pt) (m : Pt), ways (l ++ m :: r) = ways (l ++ [m]) ++ ways (m :: r)
 | [], r, m => by simp [ways]
 | [a], r, m => by simp [ways]
 | a :: b :: l, r, m => by
  have := ways_append (b :: l) r m
  simp only [List.cons_append, ways] at this ⊢
  rw [this]
theorem pos_sum {u v : Pt} (h1 : Pos u) (h2 : Pos v) : Pos (ad u v) := by simp only [Pos, ad] at *; omega
theorem pos_tri (u : Pt) (h : u ≠ (0, 0)) : Pos u ∨ Pos (ng u) := by
 have : ¬ (u.1 = 0 ∧ u.2 = 0) := fun e => h (Prod.ext e.1 e.2)
 simp only [Pos, ng]; omega
theorem pos_asymm {u : Pt} (h1 : Pos u) (h2 : Pos (ng u)) : False := by simp only [Pos, ng] at *; omega
theorem pos_ne {u : Pt} (h : Pos u) : u ≠ (0, 0) := by rintro rfl; simp [Pos] at h
theorem crs_ng (u v : Pt) : crs (ng u) (ng v) = crs u v := by simp only [crs, ng]; grind
theorem crs_ngl (u v : Pt) : crs (ng u) v = - crs u v := by simp only [crs, ng]; grind
theorem crs_ngr (u v : Pt) : crs u (ng v) = - crs u v := by simp only [crs, ng]; grind
theorem crs_comm (u v : Pt) : crs v u = - crs u v := by simp only [crs]; grind
theorem ways_chain : ∀ {st : List Pt}, Desc st → Conv st → (ways st.reverse).Pairwise (fun u v => 0 < crs u v) ∧ ∀ w ∈ ways st.reverse, Pos w
 | [], _, _ => ⟨.nil, by simp [ways]⟩
 | [_], _, _ => ⟨.nil, by simp [ways]⟩
 | [t, s], hd, _ => ⟨by simp [ways], fun w hw => by simp [ways] at hw; subst hw; exact hd.1⟩
 | t :: s :: r :: l, hd, hc => by
  obtain ⟨h1, h2⟩ := ways_chain (st := s :: r :: l) hd.2 hc.2
  have e : ways (t :: s :: r :: l).reverse = ways (s :: r :: l).reverse ++ [sb t s] := by
   have := ways_append (r :: l).reverse [t] s
   simp only [List.reverse_cons, List.append_assoc, List.cons_append, List.nil_append] at this ⊢
   rw [this]; rfl
  have e2 : ways (s :: r :: l).reverse = ways (r :: l).reverse ++ [sb s r] := by
   have := ways_append l.reverse [s] r
   simp only [List.reverse_cons, List.append_assoc, List.cons_append, List.nil_append] at this ⊢
   rw [this]; rfl
  have hpt : Pos (sb t s) := hd.1
  have hps : Pos (sb s r) := hd.2.1
  have hcc : 0 < crs (sb s r) (sb t s) := by rw [cr_fwd]; exact hc.1
  refine ⟨?_, fun w hw => ?_⟩
  ·rw [e, List.pairwise_append]
   refine ⟨h1, by simp, fun u hu v hv => ?_⟩
   simp at hv; subst hv
   rw [e2] at hu
   rcases List.mem_append.1 hu with hu' | hu'
   ·have hu2 : 0 < crs u (sb s r) := by
     rw [e2, List.pairwise_append] at h1
     exact h1.2.2 u hu' _ (by simp)
    exact crs_trans_lt (h2 u (by rw [e2]; exact hu)) hps hpt (by omega) (by omega) (.inl hu2)
   ·simp at hu'; subst hu'; exact hcc
  ·rw [e] at hw
   rcases List.mem_append.1 hw with hw | hw
   ·exact h2 w hw
   ·simp at hw; subst hw; exact hpt
theorem ways_ng : ∀ l : List Pt, ways (l.map ng) = (ways l).map ng
 | [] => rfl
 | [_] => rfl
 | a :: b :: l => by
  have := ways_ng (b :: l)
  simp only [List.map_cons, ways] at this ⊢
  rw [this]
  congr 1
  simp only [sb, ng]; exact Prod.ext (by simp; omega) (by simp; omega)
theorem fold_head (p : Pt) : ∀ (l st : List Pt), (∃ r, (l ++ [p]).foldl push st = p :: r) := by
 intro l st
 rw [List.foldl_append]
 exact ⟨_, rfl⟩
theorem pop_last (p : Pt) : ∀ (st : List Pt), st ≠ [] → (pop p st) ≠ [] ∧ (pop p st).getLast? = st.getLast?
 | [t], _ => by rw [pop_one]; simp
 | t :: s :: r, _ => by
  by_cases h : cr s t p ≤ 0
  ·rw [pop_eq1 p h]
   have := pop_last p (s :: r) (by simp)
   refine ⟨this.1, this.2.trans ?_⟩
   simp [List.getLast?_cons_cons]
  ·rw [pop_eq2 p h]; simp
theorem fold_last : ∀ (l st : List Pt), st ≠ [] → (l.foldl push st) ≠ [] ∧ (l.foldl push st).getLast? = st.getLast?
 | [], st, h => ⟨h, rfl⟩
 | p :: l, st, h => by
  have h1 := pop_last p st h
  have h2 := fold_last l (push st p) (by simp [push])
  refine ⟨h2.1, h2.2.trans ?_⟩
  show (p :: pop p st).getLast? = _
  rw [← h1.2]
  match hq : pop p st, h1.1 with
  | [], h => exact absurd rfl h
  | a :: q, _ => simp [List.getLast?_cons_cons]
def chn (l : List Pt) : List Pt := (l.foldl push []).reverse
theorem chn_spec {q : List Pt} {a z : Pt} {m : List Pt} (hq : q = a :: m) (hz : q.getLast? = some z) (hs : q.Pairwise Lt) :
  ∃ t, chn q = t ++ [z] ∧ (t ++ [z]).head? = some a ∧ Chain q (chn q).reverse := by
 subst hq
 have hc := chain_fold m [a] [a] (by simp) (chain_one a) (fun x hx y hy => by simp at hx; subst hx; exact (List.pairwise_cons.1 hs).1 y hy) (List.pairwise_cons.1 hs).2
 have he : (a :: m).foldl push [] = m.foldl push [a] := by
  show m.foldl push (push [] a) = _
  have : push [] a = [a] := by simp [push, pop]
  rw [this]
 have hrev : (chn (a :: m)).reverse = m.foldl push [a] := by rw [chn, List.reverse_reverse, he]
 have hl := fold_last m [a] (by simp)
 have hh : ∃ r, m.foldl push [a] = z :: r := by
  rcases List.eq_nil_or_concat m with rfl | ⟨m', x, rfl⟩
  ·simp at hz; subst hz; exact ⟨[], rfl⟩
  ·have : z = x := by
    have : (a :: (m' ++ [x])).getLast? = some x := by
     rw [← List.cons_append, List.getLast?_append]; simp
    rw [List.concat_eq_append] at hz
    rw [this] at hz; exact (Option.some.inj hz).symm
   subst this
   rw [List.concat_eq_append]
   exact fold_head z m' [a]
 obtain ⟨r, hr⟩ := hh
 refine ⟨r.reverse, ?_, ?_, by rw [hrev]; exact hc.1⟩
 ·rw [chn, he, hr, List.reverse_cons]
 ·have h2 := hl.2
  rw [hr] at h2
  rw [← List.reverse_cons, List.head?_reverse, h2]; rfl
theorem chn_ng (l : List Pt) : chn (l.map ng) = (chn l).map ng := by
 rw [chn, chn, show ([] : List Pt) = ([] : List Pt).map ng from rfl, fold_ng, List.map_reverse]; rfl
def hull (q : List Pt) : List Pt := if q.length = 1 then q else (chn q).dropLast ++ (chn q.reverse).dropLast
theorem Le.trans {a b c : Pt} (h1 : Le a b) (h2 : Le b c) : Le a c := by
 rcases h1 with rfl | h1
 ·exact h2
 ·rcases h2 with rfl | h2
  ·exact .inr h1
  ·exact .inr (h1.trans h2)
theorem desc_all : ∀ {st : List Pt} {z : Pt}, Desc (st ++ [z]) → ∀ x ∈ st, Lt z x
 | [], _, _, x, hx => by simp at hx
 | [t], z, h, x, hx => by simp at hx; subst hx; exact h.1
 | t :: s :: r, z, h, x, hx => by
  have ih := desc_all (st := s :: r) (z := z) h.2
  rcases List.mem_cons.1 hx with rfl | hx
  ·exact (ih s (by simp)).trans h.1
  ·exact ih x hx
theorem desc_all_ : ∀ {st : List Pt} {z : Pt}, Desc (z :: st) → ∀ x ∈ st, Lt x z
 | [], _, _, x, hx => by simp at hx
 | t :: r, z, h, x, hx => by
  rcases List.mem_cons.1 hx with rfl | hx
  ·exact h.1
  ·exact (desc_all_ h.2 x hx).trans h.1
theorem hull_cyc {S q : List Pt} (hne : q ≠ []) (hs : q.Pairwise Lt) (hm : ∀ x, x ∈ q ↔ x ∈ S) : Cyc S (hull q) ∧ (wy (hull q)).Pairwise Bef := by
 match q, hne with
 | [a], _ =>
  have hS : ∀ x ∈ S, x = a := fun x hx => by simpa using (hm x).2 hx
  refine ⟨⟨(hm a).1 (by simp), fun x hx => .inl (hS x hx).symm, .inl ⟨rfl, hS⟩⟩, ?_⟩
  simp [hull, wy]
 | a :: b :: m, _ =>
  clear hne
  have hlen : (a :: b :: m).length ≠ 1 := by simp
  generalize hq : a :: b :: m = q at hs hm hlen ⊢
  obtain ⟨z, hz⟩ : ∃ z, q.getLast? = some z := by subst hq; exact ⟨_, List.getLast?_eq_some_getLast (by simp)⟩
  have hzq : z ∈ q := List.mem_of_getLast? hz
  have haz : Lt a z := by
   subst hq
   rw [List.getLast?_cons_cons] at hz
   exact (List.pairwise_cons.1 hs).1 z (List.mem_of_getLast? hz)
  obtain ⟨t, h1, h2, h3⟩ := chn_spec (a := a) (m := b :: m) hq.symm hz hs
  have hrz : (q.reverse.map ng).Pairwise Lt := by
   rw [List.pairwise_map, List.pairwise_reverse]
   exact hs.imp fun h => (ng_lt _ _).2 h
  obtain ⟨m', hm'⟩ : ∃ m', q.reverse.map ng = ng z :: m' := by
   have : q.reverse.head? = some z := by rw [List.head?_reverse]; exact hz
   match hqr : q.reverse, this with
   | x :: r, h => cases h; exact ⟨r.map ng, rfl⟩
  have hlast : (q.reverse.map ng).getLast? = some (ng a) := by
   rw [List.getLast?_map, List.getLast?_reverse, ← hq]; rfl
  obtain ⟨u, k1, k2, k3⟩ := chn_spec hm' hlast hrz
  rw [chn_ng] at k1 k3
  obtain ⟨v, hv⟩ : ∃ v, chn q.reverse = v ++ [a] ∧ u = v.map ng := by
   have : chn q.reverse = (u ++ [ng a]).map ng := by
    rw [← k1, List.map_map]
    have : (ng ∘ ng) = id := funext ng_ng
    rw [this, List.map_id]
   refine ⟨u.map ng, by rw [this]; simp [ng_ng], ?_⟩
   rw [List.map_map, show (ng ∘ ng) = id from funext ng_ng, List.map_id]
  obtain ⟨hv, hu⟩ := hv
  have hvh : (v ++ [a]).head? = some z := by
   rw [hu] at k2
   have : ((v ++ [a]).map ng).head? = some (ng z) := by simpa using k2
   rw [List.head?_map] at this
   cases hh : (v ++ [a]).head? with
   | none => rw [hh] at this; cases this
   | some y => rw [hh] at this; rw [ng_inj (Option.some.inj this)]
  have ht : ∃ t', t = a :: t' := by
   match t, h2 with
   | [], h2 => exact absurd (Option.some.inj h2).symm haz.ne
   | x :: t', h2 => cases h2; exact ⟨t', rfl⟩
  have hv' : ∃ v', v = z :: v' := by
   match v, hvh with
   | [], hvh => exact absurd (Option.some.inj hvh) haz.ne
   | x :: v', hvh => cases hvh; exact ⟨v', rfl⟩
  obtain ⟨t', rfl⟩ := ht
  obtain ⟨v', rfl⟩ := hv'
  have hh : hull q = a :: t' ++ z :: v' := by
   rw [hull, if_neg hlen, h1, hv, List.dropLast_concat, List.dropLast_concat]
  have p1 : Pth S (a :: t' ++ [z]) := by
   have := pth_stack (S := S) h3.desc (fun x hx => h3.edge x ((hm x).2 hx)) (fun y hy => (hm y).1 (h3.sub y hy))
   rwa [List.reverse_reverse, h1] at this
  have p2 : Pth S (z :: v' ++ [a]) := by
   have hsub : ∀ x, x ∈ q.reverse.map ng ↔ x ∈ S.map ng := fun x => by
    simp only [List.mem_map, List.mem_reverse]
    exact ⟨fun ⟨y, h, e⟩ => ⟨y, (hm y).1 h, e⟩, fun ⟨y, h, e⟩ => ⟨y, (hm y).2 h, e⟩⟩
   have := pth_stack (S := S.map ng) k3.desc (fun x hx => k3.edge x ((hsub x).2 hx)) (fun y hy => (hsub y).1 (k3.sub y hy))
   rw [List.reverse_reverse, hv] at this
   exact pth_ng this
  have d1 : Desc ((a :: t' ++ [z]).reverse) := by have := h3.desc; rwa [h1] at this
  have d2 : Desc (((z :: v' ++ [a]).map ng).reverse) := by have := k3.desc; rwa [hv] at this
  have c1 : Conv ((a :: t' ++ [z]).reverse) := by have := h3.conv; rwa [h1] at this
  have c2 : Conv (((z :: v' ++ [a]).map ng).reverse) := by have := k3.conv; rwa [hv] at this
  have n1 : ∀ x ∈ t', Lt a x := by
   intro x hx
   rw [List.cons_append, List.reverse_cons] at d1
   exact desc_all d1 x (by simp [hx])
  have n2 : ∀ x ∈ v', Lt a x := by
   intro x hx
   rw [List.map_append, List.reverse_append] at d2
   have := desc_all_ (st := ((z :: v').map ng).reverse) (z := ng a) d2 (ng x) (List.mem_reverse.2 (List.mem_map.2 ⟨x, by simp [hx], rfl⟩))
   exact (ng_lt _ _).1 this
  refine ⟨?_, ?_⟩
  ·rw [hh]
   have haS : ∀ x ∈ S, Le a x := fun x hx => by
    have := (hm x).2 hx
    rw [← hq] at this
    rcases List.mem_cons.1 this with rfl | h
    ·exact .inl rfl
    ·rw [← hq] at hs; exact .inr ((List.pairwise_cons.1 hs).1 x h)
   refine ⟨(hm a).1 (by rw [← hq]; simp), haS, .inr ⟨by simp, ?_, ?_⟩⟩
   ·have := pth_join (l := a :: t') (m := z) (r := v' ++ [a]) p1 p2
    simpa using this
   ·intro hx
    rcases List.mem_append.1 hx with h | h
    ·exact (n1 a h).irrefl
    ·rcases List.mem_cons.1 h with h | h
     ·exact haz.ne h
     ·exact (n2 a h).irrefl
  ·rw [hh]
   have hw : wy (a :: t' ++ z :: v') = ways (a :: t' ++ [z]) ++ ways (z :: v' ++ [a]) := by
    have : wy (a :: t' ++ z :: v') = ways (a :: t' ++ z :: (v' ++ [a])) := by
     cases t' with
     | nil => simp [wy]
     | cons x t' => simp [wy]
    rw [this, ways_append]; rfl
   obtain ⟨w1, w2⟩ := ways_chain d1 c1
   rw [List.reverse_reverse] at w1 w2
   obtain ⟨w3, w4⟩ := ways_chain d2 c2
   rw [List.reverse_reverse, ways_ng] at w3 w4
   have w4' : ∀ w ∈ ways (z :: v' ++ [a]), Pos (ng w) := fun w hw => w4 _ (List.mem_map.2 ⟨w, hw, rfl⟩)
   rw [hw, List.pairwise_append]
   refine ⟨?_, ?_, fun x hx y hy => .inl ⟨w2 x hx, w4' y hy⟩⟩
   ·exact w1.imp_of_mem fun {x y} hx hy h => .inr (.inl ⟨w2 x hx, w2 y hy, h⟩)
   ·rw [List.pairwise_map] at w3
    exact w3.imp_of_mem fun {x y} hx hy h => .inr (.inr ⟨w4' x hx, w4' y hy, by rwa [crs_ng] at h⟩)
noncomputable def ins (p : Pt) : List Pt → List Pt
 | [] => [p]
 | a :: l => open Classical in if Lt p a then p :: a :: l else if p = a then a :: l else a :: ins p l
theorem ins_spec (p : Pt) : ∀ (l : List Pt), l.Pairwise Lt → (ins p l).Pairwise Lt ∧ ∀ x, x ∈ ins p l ↔ x = p ∨ x ∈ l
 | [], _ => by simp [ins]
 | a :: l, h => by
  obtain ⟨h1, h2⟩ := ins_spec p l (List.pairwise_cons.1 h).2
  have h0 := (List.pairwise_cons.1 h).1
  rw [ins]
  split
  ·rename_i hp
   refine ⟨List.pairwise_cons.2 ⟨fun y hy => ?_, h⟩, fun x => by simp⟩
   rcases List.mem_cons.1 hy with rfl | hy
   ·exact hp
   ·exact hp.trans (h0 y hy)
  ·rename_i hp
   split
   ·rename_i he
    subst he
    refine ⟨h, fun x => ?_⟩
    simp
   ·rename_i hne
    have hap : Lt a p := by
     rcases lt_tri p a with h | h | h
     ·exact absurd h hp
     ·exact absurd h hne
     ·exact h
    refine ⟨List.pairwise_cons.2 ⟨fun y hy => ?_, h1⟩, fun x => ?_⟩
    ·rcases (h2 y).1 hy with rfl | hy
     ·exact hap
     ·exact h0 y hy
    ·simp only [List.mem_cons, h2]
     constructor
     ·rintro (h | h | h)
      ·exact .inr (.inl h)
      ·exact .inl h
      ·exact .inr (.inr h)
     ·rintro (h | h | h)
      ·exact .inr (.inl h)
      ·exact .inl h
      ·exact .inr (.inr h)
theorem sorted_exists : ∀ (S : List Pt), ∃ q : List Pt, q.Pairwise Lt ∧ ∀ x, x ∈ q ↔ x ∈ S
 | [] => ⟨[], .nil, fun _ => Iff.rfl⟩
 | p :: S => by
  obtain ⟨q, h1, h2⟩ := sorted_exists S
  obtain ⟨h3, h4⟩ := ins_spec p q h1
  exact ⟨ins p q, h3, fun x => by rw [h4, h2]; simp⟩
theorem cyc_exists {S : List Pt} (hne : S ≠ []) : ∃ c, Cyc S c ∧ (wy c).Pairwise Bef := by
 obtain ⟨q, h1, h2⟩ := sorted_exists S
 have : q ≠ [] := by
  rintro rfl
  match S, hne with
  | a :: S, _ => have := (h2 a).2 (by simp); simp at this
 exact ⟨_, hull_cyc this h1 h2⟩
theorem cyc_ne {S c : List Pt} (h : Cyc S c) : S ≠ [] := by
 match c, h with
 | c0 :: r, h => intro e; have := h.1; rw [e] at this; simp at this
theorem cyc_bef {S c : List Pt} (h : Cyc S c) : (wy c).Pairwise Bef := by
 obtain ⟨c', h1, h2⟩ := cyc_exists (cyc_ne h)
 rw [cyc_unique h h1]; exact h2
end M06
end
