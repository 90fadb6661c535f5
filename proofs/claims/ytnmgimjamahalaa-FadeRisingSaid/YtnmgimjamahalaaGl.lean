/- Texts of this claim. -/
import Derived.Test.YtnmgimjamahalaaGa
import Derived.Test.YtnmgimjamahalaaProg
import Derived.KernelRfl
section
set_option linter.unusedVariables false
set_option maxRecDepth 100000
set_option maxHeartbeats 0
namespace Go.Am
noncomputable def ctr18 : Ctr :=
  ⟨18, [.list 4, .list 4], [], [(.ret, ⟨[(0, .bool)], [], 1⟩)]⟩
noncomputable def la18 : List LA :=
  [⟨18, [false, true, false, true, true], ⟨⟨[(0, .list 4), (1, .list 4), (5, .int Go.IntKind.i64)], [], 26⟩, [(Go.Am.AX.ret, ⟨[(4, .bool)], [], 26⟩), ((Go.Am.AX.exit 0), ⟨[], [], 26⟩)]⟩⟩]
noncomputable def ja18 : List JA :=
  []
noncomputable def gam18 : List CF :=
  []
noncomputable def an18 : Anns :=
  ⟨gam18, ja18, []⟩
noncomputable def b18_1 (p : Prim) : (List (List (Go.Am.D)) × (List (List (Go.Am.D)) × (Int × Unit))) → Option ((List (List (Go.Am.D)) × (List (List (Go.Am.D)) × (Int × Unit))) ⊕ ((Bool × Unit) ⊕ Unit)) :=
  fun s24 => opt.run _ (
      opt.ask _ (p.cmp Go.BinOp.lss s24.2.2.1 (p.ofNat (p.len s24.1))) (
       opt.need _ (p.rowOk s24.1 (p.nat s24.2.2.1) [(Go.Am.CK.int Go.IntKind.i64), (Go.Am.CK.int Go.IntKind.i64), (Go.Am.CK.int Go.IntKind.i64), (Go.Am.CK.int Go.IntKind.i64)]) <|
       opt.need _ (p.cmp Go.BinOp.geq s24.2.2.1 (0 : Int)) <|
       opt.need _ (p.rowOk s24.2.1 (p.nat s24.2.2.1) [(Go.Am.CK.int Go.IntKind.i64), (Go.Am.CK.int Go.IntKind.i64), (Go.Am.CK.int Go.IntKind.i64), (Go.Am.CK.int Go.IntKind.i64)]) <|
       opt.need _ (p.cmp Go.BinOp.geq s24.2.2.1 (0 : Int)) <|
       opt.ask _ (bif (bif (p.cmp Go.BinOp.eql (p.rdI s24.1 (p.nat s24.2.2.1) 0) (p.rdI s24.2.1 (p.nat s24.2.2.1) 0)) then (bif (p.cmp Go.BinOp.eql (p.rdI s24.1 (p.nat s24.2.2.1) 1) (p.rdI s24.2.1 (p.nat s24.2.2.1) 1)) then (bif (p.cmp Go.BinOp.eql (p.rdI s24.1 (p.nat s24.2.2.1) 2) (p.rdI s24.2.1 (p.nat s24.2.2.1) 2)) then (bif (p.cmp Go.BinOp.eql (p.rdI s24.1 (p.nat s24.2.2.1) 3) (p.rdI s24.2.1 (p.nat s24.2.2.1) 3)) then Bool.true else Bool.false) else Bool.false) else Bool.false) else Bool.false) then Bool.false else Bool.true) (
        opt.ret _ (Sum.inr (Sum.inl (Bool.false, ())))) (
        opt.ret _ (Sum.inl (s24.1, (s24.2.1, ((p.ar Go.BinOp.add Go.IntKind.i64 s24.2.2.1 (1 : Int)), ())))))) (
       opt.ret _ (Sum.inr (Sum.inr ()))))
noncomputable def G18 : (p : Prim) → (List (List (Go.Am.D)) × (List (List (Go.Am.D)) × Unit)) → Option ((Bool × Unit)) :=
  fun p x =>
  opt.ask _ (p.cmp Go.BinOp.neq (p.ofNat (p.len x.1)) (p.ofNat (p.len x.2.1))) (
   opt.ret _ (Bool.false, ())) (
   opt.alt ((Bool × Unit)) (Unit) _ (
     iter (b18_1 p) (x.1, (x.2.1, ((0 : Int), ())))) (fun y25 =>
    opt.ret _ (y25.1, ())) (fun y26 =>
    opt.bnd (Unit) _ (some y26) fun y27 =>
    opt.ret _ (Bool.true, ())))
noncomputable def F18 : Prim → Tup (ctr18).scs → Option (STup (scss (ctr18).outs)) :=
  fun p x => G18 p x
theorem eq18 (p : Prim) (x : Tup (ctr18).scs) : bodyRun opt p (autoEnv Go.Proofs.Try.prog) (mkOrc opt p (autoEnv Go.Proofs.Try.prog) 400 (an18) la18) 400 ctr18 x = G18 p x := by kernel_rfl
theorem gok18 : GamOk Go.Proofs.Try.prog gam18 := fun cf h => by cases h
theorem enters18 : Enters Go.Proofs.Try.prog 18 := enters_auto (b := _) rfl (by kernel_rfl)
theorem ok18 : CtrOk Go.Proofs.Try.prog ctr18 (F18 std) := ctr_of_body (autoEnv_ok follows_mixed) (mkOrc_ok (autoEnv_ok follows_mixed) gok18 _) enters18 (fun x => eq18 std x)
noncomputable def ctr13 : Ctr :=
  ⟨13, [], [], [(.ret, ⟨[(0, .bool)], [], 1⟩)]⟩
noncomputable def la13 : List LA :=
  []
noncomputable def ja13 : List JA :=
  [⟨13, [false, true, true, true, true, true, true, true, true], [(Go.Am.AX.normal, ⟨[(0, .bool)], [], 99⟩)]⟩]
noncomputable def gam13 : List CF :=
  [⟨ctr19, F19⟩, ⟨ctr18, F18⟩, ⟨ctr25, F25⟩, ⟨ctr23, F23⟩, ⟨ctr21, F21⟩, ⟨ctr14, F14⟩]
noncomputable def an13 : Anns :=
  ⟨gam13, ja13, []⟩
noncomputable def G13 : (p : Prim) → Unit → Option ((Bool × Unit)) :=
  fun p x =>
  opt.need _ (p.and (p.leN (p.add 0 5) (p.len [[(Go.Am.D.int Go.IntKind.i64 (10 : Int)), (Go.Am.D.int Go.IntKind.i64 (1 : Int)), (Go.Am.D.int Go.IntKind.i64 (1 : Int))], [(Go.Am.D.int Go.IntKind.i64 (20 : Int)), (Go.Am.D.int Go.IntKind.i64 (4 : Int)), (Go.Am.D.int Go.IntKind.i64 (1 : Int))], [(Go.Am.D.int Go.IntKind.i64 (30 : Int)), (Go.Am.D.int Go.IntKind.i64 (2 : Int)), (Go.Am.D.int Go.IntKind.i64 (1 : Int))], [(Go.Am.D.int Go.IntKind.i64 (40 : Int)), (Go.Am.D.int Go.IntKind.i64 (3 : Int)), (Go.Am.D.int Go.IntKind.i64 (2 : Int))], [(Go.Am.D.int Go.IntKind.i64 (50 : Int)), (Go.Am.D.int Go.IntKind.i64 (9 : Int)), (Go.Am.D.int Go.IntKind.i64 (1 : Int))]])) Bool.true) <|
  opt.bnd ((List (List (Go.Am.D)) × (Int × Unit))) _ (G14 p ((p.cut [[(Go.Am.D.int Go.IntKind.i64 (10 : Int)), (Go.Am.D.int Go.IntKind.i64 (1 : Int)), (Go.Am.D.int Go.IntKind.i64 (1 : Int))], [(Go.Am.D.int Go.IntKind.i64 (20 : Int)), (Go.Am.D.int Go.IntKind.i64 (4 : Int)), (Go.Am.D.int Go.IntKind.i64 (1 : Int))], [(Go.Am.D.int Go.IntKind.i64 (30 : Int)), (Go.Am.D.int Go.IntKind.i64 (2 : Int)), (Go.Am.D.int Go.IntKind.i64 (1 : Int))], [(Go.Am.D.int Go.IntKind.i64 (40 : Int)), (Go.Am.D.int Go.IntKind.i64 (3 : Int)), (Go.Am.D.int Go.IntKind.i64 (2 : Int))], [(Go.Am.D.int Go.IntKind.i64 (50 : Int)), (Go.Am.D.int Go.IntKind.i64 (9 : Int)), (Go.Am.D.int Go.IntKind.i64 (1 : Int))]] 0 5), ())) fun y34 =>
  opt.need _ (p.plain y34.1) <|
  opt.need _ (p.and (p.leN (p.add 0 5) (p.len [[(Go.Am.D.int Go.IntKind.i64 (10 : Int)), (Go.Am.D.int Go.IntKind.i64 (1 : Int)), (Go.Am.D.int Go.IntKind.i64 (1 : Int))], [(Go.Am.D.int Go.IntKind.i64 (20 : Int)), (Go.Am.D.int Go.IntKind.i64 (4 : Int)), (Go.Am.D.int Go.IntKind.i64 (1 : Int))], [(Go.Am.D.int Go.IntKind.i64 (30 : Int)), (Go.Am.D.int Go.IntKind.i64 (2 : Int)), (Go.Am.D.int Go.IntKind.i64 (1 : Int))], [(Go.Am.D.int Go.IntKind.i64 (40 : Int)), (Go.Am.D.int Go.IntKind.i64 (3 : Int)), (Go.Am.D.int Go.IntKind.i64 (2 : Int))], [(Go.Am.D.int Go.IntKind.i64 (50 : Int)), (Go.Am.D.int Go.IntKind.i64 (9 : Int)), (Go.Am.D.int Go.IntKind.i64 (1 : Int))]])) (p.and Bool.true Bool.true)) <|
  opt.bnd ((Int × (Int × (Int × Unit)))) _ (G21 p ((p.cut [[(Go.Am.D.int Go.IntKind.i64 (10 : Int)), (Go.Am.D.int Go.IntKind.i64 (1 : Int)), (Go.Am.D.int Go.IntKind.i64 (1 : Int))], [(Go.Am.D.int Go.IntKind.i64 (20 : Int)), (Go.Am.D.int Go.IntKind.i64 (4 : Int)), (Go.Am.D.int Go.IntKind.i64 (1 : Int))], [(Go.Am.D.int Go.IntKind.i64 (30 : Int)), (Go.Am.D.int Go.IntKind.i64 (2 : Int)), (Go.Am.D.int Go.IntKind.i64 (1 : Int))], [(Go.Am.D.int Go.IntKind.i64 (40 : Int)), (Go.Am.D.int Go.IntKind.i64 (3 : Int)), (Go.Am.D.int Go.IntKind.i64 (2 : Int))], [(Go.Am.D.int Go.IntKind.i64 (50 : Int)), (Go.Am.D.int Go.IntKind.i64 (9 : Int)), (Go.Am.D.int Go.IntKind.i64 (1 : Int))]] 0 5), ((25 : Int), ()))) fun y35 =>
  opt.need _ (p.and (p.leN (p.add 0 5) (p.len [[(Go.Am.D.int Go.IntKind.i64 (10 : Int)), (Go.Am.D.int Go.IntKind.i64 (1 : Int)), (Go.Am.D.int Go.IntKind.i64 (1 : Int))], [(Go.Am.D.int Go.IntKind.i64 (20 : Int)), (Go.Am.D.int Go.IntKind.i64 (4 : Int)), (Go.Am.D.int Go.IntKind.i64 (1 : Int))], [(Go.Am.D.int Go.IntKind.i64 (30 : Int)), (Go.Am.D.int Go.IntKind.i64 (2 : Int)), (Go.Am.D.int Go.IntKind.i64 (1 : Int))], [(Go.Am.D.int Go.IntKind.i64 (40 : Int)), (Go.Am.D.int Go.IntKind.i64 (3 : Int)), (Go.Am.D.int Go.IntKind.i64 (2 : Int))], [(Go.Am.D.int Go.IntKind.i64 (50 : Int)), (Go.Am.D.int Go.IntKind.i64 (9 : Int)), (Go.Am.D.int Go.IntKind.i64 (1 : Int))]])) (p.and Bool.true Bool.true)) <|
  opt.bnd ((Int × (Int × (Int × Unit)))) _ (G21 p ((p.cut [[(Go.Am.D.int Go.IntKind.i64 (10 : Int)), (Go.Am.D.int Go.IntKind.i64 (1 : Int)), (Go.Am.D.int Go.IntKind.i64 (1 : Int))], [(Go.Am.D.int Go.IntKind.i64 (20 : Int)), (Go.Am.D.int Go.IntKind.i64 (4 : Int)), (Go.Am.D.int Go.IntKind.i64 (1 : Int))], [(Go.Am.D.int Go.IntKind.i64 (30 : Int)), (Go.Am.D.int Go.IntKind.i64 (2 : Int)), (Go.Am.D.int Go.IntKind.i64 (1 : Int))], [(Go.Am.D.int Go.IntKind.i64 (40 : Int)), (Go.Am.D.int Go.IntKind.i64 (3 : Int)), (Go.Am.D.int Go.IntKind.i64 (2 : Int))], [(Go.Am.D.int Go.IntKind.i64 (50 : Int)), (Go.Am.D.int Go.IntKind.i64 (9 : Int)), (Go.Am.D.int Go.IntKind.i64 (1 : Int))]] 0 5), ((9 : Int), ()))) fun y36 =>
  opt.need _ (p.and (p.leN (p.add 0 5) (p.len [[(Go.Am.D.int Go.IntKind.i64 (10 : Int)), (Go.Am.D.int Go.IntKind.i64 (1 : Int)), (Go.Am.D.int Go.IntKind.i64 (1 : Int))], [(Go.Am.D.int Go.IntKind.i64 (20 : Int)), (Go.Am.D.int Go.IntKind.i64 (4 : Int)), (Go.Am.D.int Go.IntKind.i64 (1 : Int))], [(Go.Am.D.int Go.IntKind.i64 (30 : Int)), (Go.Am.D.int Go.IntKind.i64 (2 : Int)), (Go.Am.D.int Go.IntKind.i64 (1 : Int))], [(Go.Am.D.int Go.IntKind.i64 (40 : Int)), (Go.Am.D.int Go.IntKind.i64 (3 : Int)), (Go.Am.D.int Go.IntKind.i64 (2 : Int))], [(Go.Am.D.int Go.IntKind.i64 (50 : Int)), (Go.Am.D.int Go.IntKind.i64 (9 : Int)), (Go.Am.D.int Go.IntKind.i64 (1 : Int))]])) (p.and Bool.true Bool.true)) <|
  opt.bnd ((Int × (Int × (Int × Unit)))) _ (G23 p ((p.cut [[(Go.Am.D.int Go.IntKind.i64 (10 : Int)), (Go.Am.D.int Go.IntKind.i64 (1 : Int)), (Go.Am.D.int Go.IntKind.i64 (1 : Int))], [(Go.Am.D.int Go.IntKind.i64 (20 : Int)), (Go.Am.D.int Go.IntKind.i64 (4 : Int)), (Go.Am.D.int Go.IntKind.i64 (1 : Int))], [(Go.Am.D.int Go.IntKind.i64 (30 : Int)), (Go.Am.D.int Go.IntKind.i64 (2 : Int)), (Go.Am.D.int Go.IntKind.i64 (1 : Int))], [(Go.Am.D.int Go.IntKind.i64 (40 : Int)), (Go.Am.D.int Go.IntKind.i64 (3 : Int)), (Go.Am.D.int Go.IntKind.i64 (2 : Int))], [(Go.Am.D.int Go.IntKind.i64 (50 : Int)), (Go.Am.D.int Go.IntKind.i64 (9 : Int)), (Go.Am.D.int Go.IntKind.i64 (1 : Int))]] 0 5), ((3 : Int), ()))) fun y37 =>
  opt.need _ (p.and (p.leN (p.add 0 5) (p.len [[(Go.Am.D.int Go.IntKind.i64 (10 : Int)), (Go.Am.D.int Go.IntKind.i64 (1 : Int)), (Go.Am.D.int Go.IntKind.i64 (1 : Int))], [(Go.Am.D.int Go.IntKind.i64 (20 : Int)), (Go.Am.D.int Go.IntKind.i64 (4 : Int)), (Go.Am.D.int Go.IntKind.i64 (1 : Int))], [(Go.Am.D.int Go.IntKind.i64 (30 : Int)), (Go.Am.D.int Go.IntKind.i64 (2 : Int)), (Go.Am.D.int Go.IntKind.i64 (1 : Int))], [(Go.Am.D.int Go.IntKind.i64 (40 : Int)), (Go.Am.D.int Go.IntKind.i64 (3 : Int)), (Go.Am.D.int Go.IntKind.i64 (2 : Int))], [(Go.Am.D.int Go.IntKind.i64 (50 : Int)), (Go.Am.D.int Go.IntKind.i64 (9 : Int)), (Go.Am.D.int Go.IntKind.i64 (1 : Int))]])) (p.and Bool.true Bool.true)) <|
  opt.bnd ((Int × (Int × (Int × Unit)))) _ (G23 p ((p.cut [[(Go.Am.D.int Go.IntKind.i64 (10 : Int)), (Go.Am.D.int Go.IntKind.i64 (1 : Int)), (Go.Am.D.int Go.IntKind.i64 (1 : Int))], [(Go.Am.D.int Go.IntKind.i64 (20 : Int)), (Go.Am.D.int Go.IntKind.i64 (4 : Int)), (Go.Am.D.int Go.IntKind.i64 (1 : Int))], [(Go.Am.D.int Go.IntKind.i64 (30 : Int)), (Go.Am.D.int Go.IntKind.i64 (2 : Int)), (Go.Am.D.int Go.IntKind.i64 (1 : Int))], [(Go.Am.D.int Go.IntKind.i64 (40 : Int)), (Go.Am.D.int Go.IntKind.i64 (3 : Int)), (Go.Am.D.int Go.IntKind.i64 (2 : Int))], [(Go.Am.D.int Go.IntKind.i64 (50 : Int)), (Go.Am.D.int Go.IntKind.i64 (9 : Int)), (Go.Am.D.int Go.IntKind.i64 (1 : Int))]] 0 5), ((10 : Int), ()))) fun y38 =>
  opt.need _ (p.and (bif (bif (p.leN (p.add 0 1) (p.len [[(Go.Am.D.int Go.IntKind.i64 (10 : Int)), (Go.Am.D.int Go.IntKind.i64 (8 : Int)), (Go.Am.D.int Go.IntKind.i64 (1 : Int))]])) then Bool.true else Bool.false) then (bif (bif (p.leN (p.add 0 2) (p.len [[(Go.Am.D.int Go.IntKind.i64 (10 : Int)), (Go.Am.D.int Go.IntKind.i64 (0 : Int)), (Go.Am.D.int Go.IntKind.i64 (1 : Int))], [(Go.Am.D.int Go.IntKind.i64 (20 : Int)), (Go.Am.D.int Go.IntKind.i64 (8 : Int)), (Go.Am.D.int Go.IntKind.i64 (1 : Int))]])) then Bool.true else Bool.false) then (bif (bif (p.leN (p.add 0 2) (p.len [[(Go.Am.D.int Go.IntKind.i64 (20 : Int)), (Go.Am.D.int Go.IntKind.i64 (0 : Int)), (Go.Am.D.int Go.IntKind.i64 (1 : Int))], [(Go.Am.D.int Go.IntKind.i64 (60 : Int)), (Go.Am.D.int Go.IntKind.i64 (8 : Int)), (Go.Am.D.int Go.IntKind.i64 (1 : Int))]])) then Bool.true else Bool.false) then Bool.true else Bool.false) else Bool.false) else Bool.false) (p.and (p.leN (p.add 0 5) (p.len [[(Go.Am.D.int Go.IntKind.i64 (10 : Int)), (Go.Am.D.int Go.IntKind.i64 (1 : Int)), (Go.Am.D.int Go.IntKind.i64 (1 : Int))], [(Go.Am.D.int Go.IntKind.i64 (20 : Int)), (Go.Am.D.int Go.IntKind.i64 (4 : Int)), (Go.Am.D.int Go.IntKind.i64 (1 : Int))], [(Go.Am.D.int Go.IntKind.i64 (30 : Int)), (Go.Am.D.int Go.IntKind.i64 (2 : Int)), (Go.Am.D.int Go.IntKind.i64 (1 : Int))], [(Go.Am.D.int Go.IntKind.i64 (40 : Int)), (Go.Am.D.int Go.IntKind.i64 (3 : Int)), (Go.Am.D.int Go.IntKind.i64 (2 : Int))], [(Go.Am.D.int Go.IntKind.i64 (50 : Int)), (Go.Am.D.int Go.IntKind.i64 (9 : Int)), (Go.Am.D.int Go.IntKind.i64 (1 : Int))]])) (p.and Bool.true Bool.true))) <|
  opt.bnd ((Int × (Int × (Int × Unit)))) _ (G25 p ([[(Go.Am.D.list Bool.false 3 (p.cut [[(Go.Am.D.int Go.IntKind.i64 (10 : Int)), (Go.Am.D.int Go.IntKind.i64 (8 : Int)), (Go.Am.D.int Go.IntKind.i64 (1 : Int))]] 0 1))], [(Go.Am.D.list Bool.false 3 (p.cut [[(Go.Am.D.int Go.IntKind.i64 (10 : Int)), (Go.Am.D.int Go.IntKind.i64 (0 : Int)), (Go.Am.D.int Go.IntKind.i64 (1 : Int))], [(Go.Am.D.int Go.IntKind.i64 (20 : Int)), (Go.Am.D.int Go.IntKind.i64 (8 : Int)), (Go.Am.D.int Go.IntKind.i64 (1 : Int))]] 0 2))], [(Go.Am.D.list Bool.false 3 (p.cut [[(Go.Am.D.int Go.IntKind.i64 (20 : Int)), (Go.Am.D.int Go.IntKind.i64 (0 : Int)), (Go.Am.D.int Go.IntKind.i64 (1 : Int))], [(Go.Am.D.int Go.IntKind.i64 (60 : Int)), (Go.Am.D.int Go.IntKind.i64 (8 : Int)), (Go.Am.D.int Go.IntKind.i64 (1 : Int))]] 0 2))]], ((p.cut [[(Go.Am.D.int Go.IntKind.i64 (10 : Int)), (Go.Am.D.int Go.IntKind.i64 (1 : Int)), (Go.Am.D.int Go.IntKind.i64 (1 : Int))], [(Go.Am.D.int Go.IntKind.i64 (20 : Int)), (Go.Am.D.int Go.IntKind.i64 (4 : Int)), (Go.Am.D.int Go.IntKind.i64 (1 : Int))], [(Go.Am.D.int Go.IntKind.i64 (30 : Int)), (Go.Am.D.int Go.IntKind.i64 (2 : Int)), (Go.Am.D.int Go.IntKind.i64 (1 : Int))], [(Go.Am.D.int Go.IntKind.i64 (40 : Int)), (Go.Am.D.int Go.IntKind.i64 (3 : Int)), (Go.Am.D.int Go.IntKind.i64 (2 : Int))], [(Go.Am.D.int Go.IntKind.i64 (50 : Int)), (Go.Am.D.int Go.IntKind.i64 (9 : Int)), (Go.Am.D.int Go.IntKind.i64 (1 : Int))]] 0 5), ((3 : Int), ())))) fun y39 =>
  opt.bnd ((Bool × Unit)) _ (
    opt.run ((Bool × Unit)) (
     opt.ask _ (p.cmp Go.BinOp.eql y34.2.1 (0 : Int)) (
      opt.ask _ (p.cmp Go.BinOp.eql y35.2.2.1 (0 : Int)) (
       opt.ask _ (p.cmp Go.BinOp.eql y36.2.2.1 (5 : Int)) (
        opt.ask _ (p.cmp Go.BinOp.eql y37.2.2.1 (0 : Int)) (
         opt.ask _ (p.cmp Go.BinOp.eql y38.2.2.1 (0 : Int)) (
          opt.ask _ (p.cmp Go.BinOp.eql y39.2.2.1 (0 : Int)) (
           opt.need _ (p.and (p.leN (p.add 0 (p.len y34.1)) (p.len y34.1)) (p.and (p.leN (p.add 0 3) (p.len [[(Go.Am.D.int Go.IntKind.i64 (10 : Int)), (Go.Am.D.int Go.IntKind.i64 (10 : Int)), (Go.Am.D.int Go.IntKind.i64 (1 : Int)), (Go.Am.D.int Go.IntKind.i64 (1 : Int))], [(Go.Am.D.int Go.IntKind.i64 (20 : Int)), (Go.Am.D.int Go.IntKind.i64 (40 : Int)), (Go.Am.D.int Go.IntKind.i64 (4 : Int)), (Go.Am.D.int Go.IntKind.i64 (12 : Int))], [(Go.Am.D.int Go.IntKind.i64 (50 : Int)), (Go.Am.D.int Go.IntKind.i64 (50 : Int)), (Go.Am.D.int Go.IntKind.i64 (1 : Int)), (Go.Am.D.int Go.IntKind.i64 (9 : Int))]])) Bool.true)) <|
           opt.bnd ((Bool × Unit)) _ (G18 p ((p.cut y34.1 0 (p.len y34.1)), ((p.cut [[(Go.Am.D.int Go.IntKind.i64 (10 : Int)), (Go.Am.D.int Go.IntKind.i64 (10 : Int)), (Go.Am.D.int Go.IntKind.i64 (1 : Int)), (Go.Am.D.int Go.IntKind.i64 (1 : Int))], [(Go.Am.D.int Go.IntKind.i64 (20 : Int)), (Go.Am.D.int Go.IntKind.i64 (40 : Int)), (Go.Am.D.int Go.IntKind.i64 (4 : Int)), (Go.Am.D.int Go.IntKind.i64 (12 : Int))], [(Go.Am.D.int Go.IntKind.i64 (50 : Int)), (Go.Am.D.int Go.IntKind.i64 (50 : Int)), (Go.Am.D.int Go.IntKind.i64 (1 : Int)), (Go.Am.D.int Go.IntKind.i64 (9 : Int))]] 0 3), ()))) fun y40 =>
           opt.ask _ y40.1 (
            opt.ask _ (bif (p.cmp Go.BinOp.eql y35.1 (3 : Int)) then (bif (p.cmp Go.BinOp.eql y35.2.1 (1 : Int)) then Bool.true else Bool.false) else Bool.false) (
             opt.ask _ (bif (p.cmp Go.BinOp.eql y37.1 (10 : Int)) then (bif (p.cmp Go.BinOp.eql y37.2.1 (20 : Int)) then Bool.true else Bool.false) else Bool.false) (
              opt.ask _ (bif (p.cmp Go.BinOp.eql y38.1 (50 : Int)) then (bif (p.cmp Go.BinOp.eql y38.2.1 (1073741824 : Int)) then Bool.true else Bool.false) else Bool.false) (
               opt.ask _ (bif (p.cmp Go.BinOp.eql y39.1 (1 : Int)) then (bif (p.cmp Go.BinOp.eql y39.2.1 (2 : Int)) then Bool.true else Bool.false) else Bool.false) (
                opt.need _ (p.and (p.leN (p.add 0 5) (p.len [[(Go.Am.D.int Go.IntKind.i64 (10 : Int)), (Go.Am.D.int Go.IntKind.i64 (1 : Int)), (Go.Am.D.int Go.IntKind.i64 (1 : Int))], [(Go.Am.D.int Go.IntKind.i64 (20 : Int)), (Go.Am.D.int Go.IntKind.i64 (4 : Int)), (Go.Am.D.int Go.IntKind.i64 (1 : Int))], [(Go.Am.D.int Go.IntKind.i64 (30 : Int)), (Go.Am.D.int Go.IntKind.i64 (2 : Int)), (Go.Am.D.int Go.IntKind.i64 (1 : Int))], [(Go.Am.D.int Go.IntKind.i64 (40 : Int)), (Go.Am.D.int Go.IntKind.i64 (3 : Int)), (Go.Am.D.int Go.IntKind.i64 (2 : Int))], [(Go.Am.D.int Go.IntKind.i64 (50 : Int)), (Go.Am.D.int Go.IntKind.i64 (9 : Int)), (Go.Am.D.int Go.IntKind.i64 (1 : Int))]])) (p.and (p.leN (p.add 0 (p.len y34.1)) (p.len y34.1)) Bool.true)) <|
                opt.bnd ((Int × Unit)) _ (G19 p ((p.cut [[(Go.Am.D.int Go.IntKind.i64 (10 : Int)), (Go.Am.D.int Go.IntKind.i64 (1 : Int)), (Go.Am.D.int Go.IntKind.i64 (1 : Int))], [(Go.Am.D.int Go.IntKind.i64 (20 : Int)), (Go.Am.D.int Go.IntKind.i64 (4 : Int)), (Go.Am.D.int Go.IntKind.i64 (1 : Int))], [(Go.Am.D.int Go.IntKind.i64 (30 : Int)), (Go.Am.D.int Go.IntKind.i64 (2 : Int)), (Go.Am.D.int Go.IntKind.i64 (1 : Int))], [(Go.Am.D.int Go.IntKind.i64 (40 : Int)), (Go.Am.D.int Go.IntKind.i64 (3 : Int)), (Go.Am.D.int Go.IntKind.i64 (2 : Int))], [(Go.Am.D.int Go.IntKind.i64 (50 : Int)), (Go.Am.D.int Go.IntKind.i64 (9 : Int)), (Go.Am.D.int Go.IntKind.i64 (1 : Int))]] 0 5), ((p.cut y34.1 0 (p.len y34.1)), ()))) fun y41 =>
                opt.ret _ ((p.cmp Go.BinOp.eql y41.1 (0 : Int)), ())) (
                opt.ret _ (Bool.false, ()))) (
               opt.ret _ (Bool.false, ()))) (
              opt.ret _ (Bool.false, ()))) (
             opt.ret _ (Bool.false, ()))) (
            opt.ret _ (Bool.false, ()))) (
           opt.ret _ (Bool.false, ()))) (
          opt.ret _ (Bool.false, ()))) (
         opt.ret _ (Bool.false, ()))) (
        opt.ret _ (Bool.false, ()))) (
       opt.ret _ (Bool.false, ()))) (
      opt.ret _ (Bool.false, ())))) fun y42 =>
  opt.ret _ (y42.1, ())
noncomputable def F13 : Prim → Tup (ctr13).scs → Option (STup (scss (ctr13).outs)) :=
  fun p x => G13 p x
theorem eq13 (p : Prim) (x : Tup (ctr13).scs) : bodyRun opt p (autoEnv Go.Proofs.Try.prog) (mkOrc opt p (autoEnv Go.Proofs.Try.prog) 400 (an13) la13) 400 ctr13 x = G13 p x := by kernel_rfl
theorem gok13 : GamOk Go.Proofs.Try.prog (gam13) := by
  intro cf h
  simp only [gam13, List.mem_cons, List.not_mem_nil, or_false] at h
  rcases h with rfl | rfl | rfl | rfl | rfl | rfl
  · exact ok19
  · exact ok18
  · exact ok25
  · exact ok23
  · exact ok21
  · exact ok14
theorem enters13 : Enters Go.Proofs.Try.prog 13 := enters_auto (b := _) rfl (by kernel_rfl)
theorem ok13 : CtrOk Go.Proofs.Try.prog ctr13 (F13 std) := ctr_of_body (autoEnv_ok follows_mixed) (mkOrc_ok (autoEnv_ok follows_mixed) gok13 _) enters13 (fun x => eq13 std x)
noncomputable def ctr3 : Ctr :=
  ⟨3, [.list 3], [], [(.ret, ⟨[(0, .bool)], [], 1⟩)]⟩
noncomputable def la3 : List LA :=
  []
noncomputable def ja3 : List JA :=
  [⟨3, [false, true, true, true, true], [(Go.Am.AX.normal, ⟨[(2, .bool)], [], 39⟩)]⟩]
noncomputable def gam3 : List CF :=
  [⟨ctr18, F18⟩, ⟨ctr17, F17⟩, ⟨ctr16, F16⟩, ⟨ctr15, F15⟩, ⟨ctr14, F14⟩, ⟨ctr13, F13⟩]
noncomputable def an3 : Anns :=
  ⟨gam3, ja3, []⟩
noncomputable def G3 : (p : Prim) → (List (List (Go.Am.D)) × Unit) → Option ((Bool × Unit)) :=
  fun p x =>
  opt.ask _ (p.cmp Go.BinOp.gtr (p.ofNat (p.len x.1)) (30 : Int)) (
   opt.bnd ((Bool × Unit)) _ (G13 p ()) fun y34 =>
   opt.ret _ (y34.1, ())) (
   opt.bnd ((List (List (Go.Am.D)) × (Int × Unit))) _ (G14 p (x.1, ())) fun y35 =>
   opt.bnd ((List (List (Go.Am.D)) × (Int × Unit))) _ (G15 p (x.1, ())) fun y36 =>
   opt.bnd ((Bool × Unit)) _ (
     opt.run ((Bool × Unit)) (
      opt.bnd ((Int × Unit)) _ (G16 p (x.1, ())) fun y37 =>
      opt.bnd ((Int × Unit)) _ (G17 p (x.1, ())) fun y38 =>
      opt.ask _ (p.cmp Go.BinOp.eql y37.1 y38.1) (
       opt.need _ (p.and (p.leN (p.add 0 (p.len y35.1)) (p.len y35.1)) (p.and (p.leN (p.add 0 (p.len y36.1)) (p.len y36.1)) Bool.true)) <|
       opt.bnd ((Bool × Unit)) _ (G18 p ((p.cut y35.1 0 (p.len y35.1)), ((p.cut y36.1 0 (p.len y36.1)), ()))) fun y39 =>
       opt.ask _ y39.1 (
        opt.ask _ (p.cmp Go.BinOp.eql y35.2.1 y36.2.1) (
         opt.bnd ((Bool × Unit)) _ (G13 p ()) fun y40 =>
         opt.ret _ (y40.1, ())) (
         opt.ret _ (Bool.false, ()))) (
        opt.ret _ (Bool.false, ()))) (
       opt.ret _ (Bool.false, ())))) fun y41 =>
   opt.ret _ (y41.1, ()))
noncomputable def F3 : Prim → Tup (ctr3).scs → Option (STup (scss (ctr3).outs)) :=
  fun p x => G3 p x
theorem eq3 (p : Prim) (x : Tup (ctr3).scs) : bodyRun opt p (autoEnv Go.Proofs.Try.prog) (mkOrc opt p (autoEnv Go.Proofs.Try.prog) 400 (an3) la3) 400 ctr3 x = G3 p x := by kernel_rfl
theorem gok3 : GamOk Go.Proofs.Try.prog (gam3) := by
  intro cf h
  simp only [gam3, List.mem_cons, List.not_mem_nil, or_false] at h
  rcases h with rfl | rfl | rfl | rfl | rfl | rfl
  · exact ok18
  · exact ok17
  · exact ok16
  · exact ok15
  · exact ok14
  · exact ok13
theorem enters3 : Enters Go.Proofs.Try.prog 3 := enters_auto (b := _) rfl (by kernel_rfl)
theorem ok3 : CtrOk Go.Proofs.Try.prog ctr3 (F3 std) := ctr_of_body (autoEnv_ok follows_mixed) (mkOrc_ok (autoEnv_ok follows_mixed) gok3 _) enters3 (fun x => eq3 std x)
noncomputable def ctr4 : Ctr :=
  ⟨4, [.list 3, .list 4], [], [(.ret, ⟨[(0, .bool)], [], 1⟩)]⟩
noncomputable def la4 : List LA :=
  [⟨4, [false, true, false, true, true], ⟨⟨[(0, .list 3), (1, .list 4), (5, .int Go.IntKind.i64)], [], 62⟩, [(Go.Am.AX.ret, ⟨[(4, .bool)], [], 62⟩), ((Go.Am.AX.exit 0), ⟨[(0, .list 3), (1, .list 4)], [], 62⟩)]⟩⟩]
noncomputable def ja4 : List JA :=
  [⟨4, [false, false, false, true, false, false, true, false, true, true], [(Go.Am.AX.normal, ⟨[(0, .list 3), (1, .list 4), (5, .int Go.IntKind.i64), (50, .bool)], [], 62⟩)]⟩,
   ⟨4, [false, true, true, true], [(Go.Am.AX.normal, ⟨[(4, .bool)], [], 62⟩)]⟩,
   ⟨4, [false, false, true], [(Go.Am.AX.normal, ⟨[(0, .list 3), (1, .list 4), (13, .bool)], [], 62⟩)]⟩]
noncomputable def gam4 : List CF :=
  [⟨ctr20, F20⟩, ⟨ctr19, F19⟩, ⟨ctr13, F13⟩]
noncomputable def an4 : Anns :=
  ⟨gam4, ja4, []⟩
noncomputable def b4_1 (p : Prim) : (List (List (Go.Am.D)) × (List (List (Go.Am.D)) × (Int × Unit))) → Option ((List (List (Go.Am.D)) × (List (List (Go.Am.D)) × (Int × Unit))) ⊕ ((Bool × Unit) ⊕ (List (List (Go.Am.D)) × (List (List (Go.Am.D)) × Unit)))) :=
  fun s70 => opt.run _ (
      opt.ask _ (p.cmp Go.BinOp.lss s70.2.2.1 (p.ofNat (p.len s70.2.1))) (
       opt.bnd ((List (List (Go.Am.D)) × (List (List (Go.Am.D)) × (Int × (Bool × Unit))))) _ (
         opt.run ((List (List (Go.Am.D)) × (List (List (Go.Am.D)) × (Int × (Bool × Unit))))) (
          opt.need _ (p.rowOk s70.2.1 (p.nat s70.2.2.1) [(Go.Am.CK.int Go.IntKind.i64), (Go.Am.CK.int Go.IntKind.i64), (Go.Am.CK.int Go.IntKind.i64), (Go.Am.CK.int Go.IntKind.i64)]) <|
          opt.need _ (p.cmp Go.BinOp.geq s70.2.2.1 (0 : Int)) <|
          opt.ask _ (p.cmp Go.BinOp.lss (p.rdI s70.2.1 (p.nat s70.2.2.1) 2) (-1099511627776 : Int)) (
           opt.ret _ (s70.1, (s70.2.1, (s70.2.2.1, (Bool.true, ()))))) (
           opt.need _ (p.rowOk s70.2.1 (p.nat s70.2.2.1) [(Go.Am.CK.int Go.IntKind.i64), (Go.Am.CK.int Go.IntKind.i64), (Go.Am.CK.int Go.IntKind.i64), (Go.Am.CK.int Go.IntKind.i64)]) <|
           opt.need _ (p.cmp Go.BinOp.geq s70.2.2.1 (0 : Int)) <|
           opt.ask _ (p.cmp Go.BinOp.gtr (p.rdI s70.2.1 (p.nat s70.2.2.1) 2) (1099511627776 : Int)) (
            opt.ret _ (s70.1, (s70.2.1, (s70.2.2.1, (Bool.true, ()))))) (
            opt.need _ (p.rowOk s70.2.1 (p.nat s70.2.2.1) [(Go.Am.CK.int Go.IntKind.i64), (Go.Am.CK.int Go.IntKind.i64), (Go.Am.CK.int Go.IntKind.i64), (Go.Am.CK.int Go.IntKind.i64)]) <|
            opt.need _ (p.cmp Go.BinOp.geq s70.2.2.1 (0 : Int)) <|
            opt.ask _ (p.cmp Go.BinOp.lss (p.rdI s70.2.1 (p.nat s70.2.2.1) 3) (-1099511627776 : Int)) (
             opt.ret _ (s70.1, (s70.2.1, (s70.2.2.1, (Bool.true, ()))))) (
             opt.need _ (p.rowOk s70.2.1 (p.nat s70.2.2.1) [(Go.Am.CK.int Go.IntKind.i64), (Go.Am.CK.int Go.IntKind.i64), (Go.Am.CK.int Go.IntKind.i64), (Go.Am.CK.int Go.IntKind.i64)]) <|
             opt.need _ (p.cmp Go.BinOp.geq s70.2.2.1 (0 : Int)) <|
             opt.ret _ (s70.1, (s70.2.1, (s70.2.2.1, ((p.cmp Go.BinOp.gtr (p.rdI s70.2.1 (p.nat s70.2.2.1) 3) (1099511627776 : Int)), ()))))))))) fun y71 =>
       opt.ask _ y71.2.2.2.1 (
        opt.bnd ((Bool × Unit)) _ (G13 p ()) fun y72 =>
        opt.ret _ (Sum.inr (Sum.inl (y72.1, ())))) (
        opt.ret _ (Sum.inl (y71.1, (y71.2.1, ((p.ar Go.BinOp.add Go.IntKind.i64 y71.2.2.1 (1 : Int)), ())))))) (
       opt.ret _ (Sum.inr (Sum.inr (s70.1, (s70.2.1, ()))))))
noncomputable def G4 : (p : Prim) → (List (List (Go.Am.D)) × (List (List (Go.Am.D)) × Unit)) → Option ((Bool × Unit)) :=
  fun p x =>
  opt.bnd ((List (List (Go.Am.D)) × (List (List (Go.Am.D)) × (Bool × Unit)))) _ (
    opt.run ((List (List (Go.Am.D)) × (List (List (Go.Am.D)) × (Bool × Unit)))) (
     opt.ask _ (p.cmp Go.BinOp.gtr (p.ofNat (p.len x.1)) (30 : Int)) (
      opt.ret _ (x.1, (x.2.1, (Bool.true, ())))) (
      opt.ret _ (x.1, (x.2.1, ((p.cmp Go.BinOp.gtr (p.ofNat (p.len x.2.1)) (30 : Int)), ())))))) fun y68 =>
  opt.ask _ y68.2.2.1 (
   opt.bnd ((Bool × Unit)) _ (G13 p ()) fun y69 =>
   opt.ret _ (y69.1, ())) (
   opt.alt ((Bool × Unit)) ((List (List (Go.Am.D)) × (List (List (Go.Am.D)) × Unit))) _ (
     iter (b4_1 p) (y68.1, (y68.2.1, ((0 : Int), ())))) (fun y73 =>
    opt.ret _ (y73.1, ())) (fun y74 =>
    opt.bnd ((List (List (Go.Am.D)) × (List (List (Go.Am.D)) × Unit))) _ (some y74) fun y75 =>
    opt.bnd ((Bool × Unit)) _ (
      opt.run ((Bool × Unit)) (
       opt.bnd ((Int × Unit)) _ (G19 p (y75.1, (y75.2.1, ()))) fun y76 =>
       opt.bnd ((Int × Unit)) _ (G20 p (y75.1, (y75.2.1, ()))) fun y77 =>
       opt.ask _ (p.cmp Go.BinOp.eql y76.1 y77.1) (
        opt.bnd ((Bool × Unit)) _ (G13 p ()) fun y78 =>
        opt.ret _ (y78.1, ())) (
        opt.ret _ (Bool.false, ())))) fun y79 =>
    opt.ret _ (y79.1, ())))
noncomputable def F4 : Prim → Tup (ctr4).scs → Option (STup (scss (ctr4).outs)) :=
  fun p x => G4 p x
theorem eq4 (p : Prim) (x : Tup (ctr4).scs) : bodyRun opt p (autoEnv Go.Proofs.Try.prog) (mkOrc opt p (autoEnv Go.Proofs.Try.prog) 400 (an4) la4) 400 ctr4 x = G4 p x := by kernel_rfl
theorem gok4 : GamOk Go.Proofs.Try.prog (gam4) := by
  intro cf h
  simp only [gam4, List.mem_cons, List.not_mem_nil, or_false] at h
  rcases h with rfl | rfl | rfl
  · exact ok20
  · exact ok19
  · exact ok13
theorem enters4 : Enters Go.Proofs.Try.prog 4 := enters_auto (b := _) rfl (by kernel_rfl)
theorem ok4 : CtrOk Go.Proofs.Try.prog ctr4 (F4 std) := ctr_of_body (autoEnv_ok follows_mixed) (mkOrc_ok (autoEnv_ok follows_mixed) gok4 _) enters4 (fun x => eq4 std x)
noncomputable def ctr5 : Ctr :=
  ⟨5, [.list 3, .int Go.IntKind.i64, .int Go.IntKind.i64], [], [(.ret, ⟨[(0, .bool)], [], 1⟩)]⟩
noncomputable def la5 : List LA :=
  []
noncomputable def ja5 : List JA :=
  [⟨5, [false, true, true, true, true, true, true], [(Go.Am.AX.normal, ⟨[(6, .bool)], [], 64⟩)]⟩]
noncomputable def gam5 : List CF :=
  [⟨ctr24, F24⟩, ⟨ctr23, F23⟩, ⟨ctr22, F22⟩, ⟨ctr21, F21⟩, ⟨ctr13, F13⟩]
noncomputable def an5 : Anns :=
  ⟨gam5, ja5, []⟩
noncomputable def G5 : (p : Prim) → (List (List (Go.Am.D)) × (Int × (Int × Unit))) → Option ((Bool × Unit)) :=
  fun p x =>
  opt.ask _ (p.cmp Go.BinOp.gtr (p.ofNat (p.len x.1)) (30 : Int)) (
   opt.bnd ((Bool × Unit)) _ (G13 p ()) fun y95 =>
   opt.ret _ (y95.1, ())) (
   opt.bnd ((Int × (Int × (Int × Unit)))) _ (G21 p (x.1, (x.2.1, ()))) fun y96 =>
   opt.bnd ((Int × (Int × (Int × Unit)))) _ (G22 p (x.1, (x.2.1, ()))) fun y97 =>
   opt.bnd ((Int × (Int × (Int × Unit)))) _ (G23 p (x.1, (x.2.2.1, ()))) fun y98 =>
   opt.bnd ((Int × (Int × (Int × Unit)))) _ (G24 p (x.1, (x.2.2.1, ()))) fun y99 =>
   opt.bnd ((Bool × Unit)) _ (
     opt.run ((Bool × Unit)) (
      opt.ask _ (bif (p.cmp Go.BinOp.eql y96.1 y97.1) then (bif (p.cmp Go.BinOp.eql y96.2.1 y97.2.1) then Bool.true else Bool.false) else Bool.false) (
       opt.ask _ (p.cmp Go.BinOp.eql y96.2.2.1 y97.2.2.1) (
        opt.ask _ (bif (p.cmp Go.BinOp.eql y98.1 y99.1) then (bif (p.cmp Go.BinOp.eql y98.2.1 y99.2.1) then Bool.true else Bool.false) else Bool.false) (
         opt.ask _ (p.cmp Go.BinOp.eql y98.2.2.1 y99.2.2.1) (
          opt.bnd ((Bool × Unit)) _ (G13 p ()) fun y100 =>
          opt.ret _ (y100.1, ())) (
          opt.ret _ (Bool.false, ()))) (
         opt.ret _ (Bool.false, ()))) (
        opt.ret _ (Bool.false, ()))) (
       opt.ret _ (Bool.false, ())))) fun y101 =>
   opt.ret _ (y101.1, ()))
noncomputable def F5 : Prim → Tup (ctr5).scs → Option (STup (scss (ctr5).outs)) :=
  fun p x => G5 p x
theorem eq5 (p : Prim) (x : Tup (ctr5).scs) : bodyRun opt p (autoEnv Go.Proofs.Try.prog) (mkOrc opt p (autoEnv Go.Proofs.Try.prog) 400 (an5) la5) 400 ctr5 x = G5 p x := by kernel_rfl
theorem gok5 : GamOk Go.Proofs.Try.prog (gam5) := by
  intro cf h
  simp only [gam5, List.mem_cons, List.not_mem_nil, or_false] at h
  rcases h with rfl | rfl | rfl | rfl | rfl
  · exact ok24
  · exact ok23
  · exact ok22
  · exact ok21
  · exact ok13
theorem enters5 : Enters Go.Proofs.Try.prog 5 := enters_auto (b := _) rfl (by kernel_rfl)
theorem ok5 : CtrOk Go.Proofs.Try.prog ctr5 (F5 std) := ctr_of_body (autoEnv_ok follows_mixed) (mkOrc_ok (autoEnv_ok follows_mixed) gok5 _) enters5 (fun x => eq5 std x)
noncomputable def ctr6 : Ctr :=
  ⟨6, [.list 1, .list 3, .int Go.IntKind.i64], [], [(.ret, ⟨[(0, .bool)], [], 1⟩)]⟩
noncomputable def la6 : List LA :=
  [⟨6, [false, true, false, true, true], ⟨⟨[(0, .list 1), (1, .list 3), (2, .int Go.IntKind.i64), (7, .int Go.IntKind.i64)], [], 59⟩, [(Go.Am.AX.ret, ⟨[(6, .bool)], [], 59⟩), ((Go.Am.AX.exit 0), ⟨[(0, .list 1), (1, .list 3), (2, .int Go.IntKind.i64)], [], 59⟩)]⟩⟩]
noncomputable def ja6 : List JA :=
  [⟨6, [false, true, true, true, true, true], [(Go.Am.AX.normal, ⟨[(6, .bool)], [], 59⟩)]⟩,
   ⟨6, [false, false, true], [(Go.Am.AX.normal, ⟨[(0, .list 1), (1, .list 3), (2, .int Go.IntKind.i64), (19, .bool)], [], 59⟩)]⟩]
noncomputable def gam6 : List CF :=
  [⟨ctr26, F26⟩, ⟨ctr25, F25⟩, ⟨ctr13, F13⟩]
noncomputable def an6 : Anns :=
  ⟨gam6, ja6, []⟩
noncomputable def b6_1 (p : Prim) : (List (List (Go.Am.D)) × (List (List (Go.Am.D)) × (Int × (Int × Unit)))) → Option ((List (List (Go.Am.D)) × (List (List (Go.Am.D)) × (Int × (Int × Unit)))) ⊕ ((Bool × Unit) ⊕ (List (List (Go.Am.D)) × (List (List (Go.Am.D)) × (Int × Unit))))) :=
  fun s128 => opt.run _ (
      opt.ask _ (p.cmp Go.BinOp.lss s128.2.2.2.1 (p.ofNat (p.len s128.1))) (
       opt.need _ (p.rowOk s128.1 (p.nat s128.2.2.2.1) [(Go.Am.CK.list 3)]) <|
       opt.need _ (p.cmp Go.BinOp.geq s128.2.2.2.1 (0 : Int)) <|
       opt.ask _ (p.cmp Go.BinOp.gtr (p.ofNat (p.len (p.rdL s128.1 (p.nat s128.2.2.2.1) 0))) (30 : Int)) (
        opt.bnd ((Bool × Unit)) _ (G13 p ()) fun y129 =>
        opt.ret _ (Sum.inr (Sum.inl (y129.1, ())))) (
        opt.ret _ (Sum.inl (s128.1, (s128.2.1, (s128.2.2.1, ((p.ar Go.BinOp.add Go.IntKind.i64 s128.2.2.2.1 (1 : Int)), ()))))))) (
       opt.ret _ (Sum.inr (Sum.inr (s128.1, (s128.2.1, (s128.2.2.1, ())))))))
noncomputable def G6 : (p : Prim) → (List (List (Go.Am.D)) × (List (List (Go.Am.D)) × (Int × Unit))) → Option ((Bool × Unit)) :=
  fun p x =>
  opt.bnd ((List (List (Go.Am.D)) × (List (List (Go.Am.D)) × (Int × (Bool × Unit))))) _ (
    opt.run ((List (List (Go.Am.D)) × (List (List (Go.Am.D)) × (Int × (Bool × Unit))))) (
     opt.ask _ (p.cmp Go.BinOp.gtr (p.ofNat (p.len x.1)) (10 : Int)) (
      opt.ret _ (x.1, (x.2.1, (x.2.2.1, (Bool.true, ()))))) (
      opt.ret _ (x.1, (x.2.1, (x.2.2.1, ((p.cmp Go.BinOp.gtr (p.ofNat (p.len x.2.1)) (30 : Int)), ()))))))) fun y126 =>
  opt.ask _ y126.2.2.2.1 (
   opt.bnd ((Bool × Unit)) _ (G13 p ()) fun y127 =>
   opt.ret _ (y127.1, ())) (
   opt.alt ((Bool × Unit)) ((List (List (Go.Am.D)) × (List (List (Go.Am.D)) × (Int × Unit)))) _ (
     iter (b6_1 p) (y126.1, (y126.2.1, (y126.2.2.1, ((0 : Int), ()))))) (fun y130 =>
    opt.ret _ (y130.1, ())) (fun y131 =>
    opt.bnd ((List (List (Go.Am.D)) × (List (List (Go.Am.D)) × (Int × Unit)))) _ (some y131) fun y132 =>
    opt.bnd ((Int × (Int × (Int × Unit)))) _ (G25 p (y132.1, (y132.2.1, (y132.2.2.1, ())))) fun y133 =>
    opt.bnd ((Int × (Int × (Int × Unit)))) _ (G26 p (y132.1, (y132.2.1, (y132.2.2.1, ())))) fun y134 =>
    opt.bnd ((Bool × Unit)) _ (
      opt.run ((Bool × Unit)) (
       opt.ask _ (bif (p.cmp Go.BinOp.eql y133.1 y134.1) then (bif (p.cmp Go.BinOp.eql y133.2.1 y134.2.1) then Bool.true else Bool.false) else Bool.false) (
        opt.ask _ (p.cmp Go.BinOp.eql y133.2.2.1 y134.2.2.1) (
         opt.bnd ((Bool × Unit)) _ (G13 p ()) fun y135 =>
         opt.ret _ (y135.1, ())) (
         opt.ret _ (Bool.false, ()))) (
        opt.ret _ (Bool.false, ())))) fun y136 =>
    opt.ret _ (y136.1, ())))
noncomputable def F6 : Prim → Tup (ctr6).scs → Option (STup (scss (ctr6).outs)) :=
  fun p x => G6 p x
theorem eq6 (p : Prim) (x : Tup (ctr6).scs) : bodyRun opt p (autoEnv Go.Proofs.Try.prog) (mkOrc opt p (autoEnv Go.Proofs.Try.prog) 400 (an6) la6) 400 ctr6 x = G6 p x := by kernel_rfl
theorem gok6 : GamOk Go.Proofs.Try.prog (gam6) := by
  intro cf h
  simp only [gam6, List.mem_cons, List.not_mem_nil, or_false] at h
  rcases h with rfl | rfl | rfl
  · exact ok26
  · exact ok25
  · exact ok13
theorem enters6 : Enters Go.Proofs.Try.prog 6 := enters_auto (b := _) rfl (by kernel_rfl)
theorem ok6 : CtrOk Go.Proofs.Try.prog ctr6 (F6 std) := ctr_of_body (autoEnv_ok follows_mixed) (mkOrc_ok (autoEnv_ok follows_mixed) gok6 _) enters6 (fun x => eq6 std x)
end Go.Am
end
