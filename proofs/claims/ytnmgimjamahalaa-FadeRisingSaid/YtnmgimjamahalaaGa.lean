/- Texts of this claim. -/
import Derived.Test.YtnmgimjamahalaaAmE
import Derived.Test.YtnmgimjamahalaaProg
import Derived.KernelRfl
section
set_option linter.unusedVariables false
set_option maxRecDepth 100000
set_option maxHeartbeats 0
namespace Go.Am
noncomputable def ctr17 : Ctr :=
  ⟨17, [.list 3], [], [(.ret, ⟨[(0, .int Go.IntKind.i64)], [], 1⟩)]⟩
noncomputable def la17 : List LA :=
  [⟨17, [false, true, false, true, true], ⟨⟨[(0, .list 3), (3, .int Go.IntKind.i64)], [], 43⟩, [(Go.Am.AX.ret, ⟨[(2, .int Go.IntKind.i64)], [], 43⟩), ((Go.Am.AX.exit 0), ⟨[], [], 43⟩)]⟩⟩]
noncomputable def ja17 : List JA :=
  [⟨17, [false, false, false, true, false, false, true, false, true, true], [(Go.Am.AX.normal, ⟨[(0, .list 3), (3, .int Go.IntKind.i64), (42, .bool)], [], 43⟩)]⟩,
   ⟨17, [false, false, true], [(Go.Am.AX.normal, ⟨[(0, .list 3), (11, .bool)], [], 43⟩)]⟩,
   ⟨42, [false, true], [(Go.Am.AX.normal, ⟨[(6, .bool)], [], 15⟩)]⟩]
noncomputable def gam17 : List CF :=
  []
noncomputable def an17 : Anns :=
  ⟨gam17, ja17, []⟩
noncomputable def b17_1 (p : Prim) : (List (List (Go.Am.D)) × (Int × Unit)) → Option ((List (List (Go.Am.D)) × (Int × Unit)) ⊕ ((Int × Unit) ⊕ Unit)) :=
  fun s26 => opt.run _ (
      opt.ask _ (p.cmp Go.BinOp.lss s26.2.1 (p.ofNat (p.len s26.1))) (
       opt.bnd ((List (List (Go.Am.D)) × (Int × (Bool × Unit)))) _ (
         opt.run ((List (List (Go.Am.D)) × (Int × (Bool × Unit)))) (
          opt.need _ (p.rowOk s26.1 (p.nat s26.2.1) [(Go.Am.CK.int Go.IntKind.i64), (Go.Am.CK.int Go.IntKind.i64), (Go.Am.CK.int Go.IntKind.i64)]) <|
          opt.need _ (p.cmp Go.BinOp.geq s26.2.1 (0 : Int)) <|
          opt.bnd ((Bool × Unit)) _ (
            opt.run ((Bool × Unit)) (
             opt.ask _ (p.cmp Go.BinOp.geq (p.rdI s26.1 (p.nat s26.2.1) 0) (1 : Int)) (
              opt.ret _ ((p.cmp Go.BinOp.leq (p.rdI s26.1 (p.nat s26.2.1) 0) (10000 : Int)), ())) (
              opt.ret _ (Bool.false, ())))) fun y27 =>
          opt.ask _ (bif y27.1 then Bool.false else Bool.true) (
           opt.ret _ (s26.1, (s26.2.1, (Bool.true, ())))) (
           opt.need _ (p.rowOk s26.1 (p.nat s26.2.1) [(Go.Am.CK.int Go.IntKind.i64), (Go.Am.CK.int Go.IntKind.i64), (Go.Am.CK.int Go.IntKind.i64)]) <|
           opt.need _ (p.cmp Go.BinOp.geq s26.2.1 (0 : Int)) <|
           opt.bnd ((Bool × Unit)) _ (
             opt.run ((Bool × Unit)) (
              opt.ask _ (p.cmp Go.BinOp.geq (p.rdI s26.1 (p.nat s26.2.1) 1) (0 : Int)) (
               opt.ret _ ((p.cmp Go.BinOp.leq (p.rdI s26.1 (p.nat s26.2.1) 1) (100 : Int)), ())) (
               opt.ret _ (Bool.false, ())))) fun y28 =>
           opt.ask _ (bif y28.1 then Bool.false else Bool.true) (
            opt.ret _ (s26.1, (s26.2.1, (Bool.true, ())))) (
            opt.need _ (p.rowOk s26.1 (p.nat s26.2.1) [(Go.Am.CK.int Go.IntKind.i64), (Go.Am.CK.int Go.IntKind.i64), (Go.Am.CK.int Go.IntKind.i64)]) <|
            opt.need _ (p.cmp Go.BinOp.geq s26.2.1 (0 : Int)) <|
            opt.bnd ((Bool × Unit)) _ (
              opt.run ((Bool × Unit)) (
               opt.ask _ (p.cmp Go.BinOp.geq (p.rdI s26.1 (p.nat s26.2.1) 2) (1 : Int)) (
                opt.ret _ ((p.cmp Go.BinOp.leq (p.rdI s26.1 (p.nat s26.2.1) 2) (20 : Int)), ())) (
                opt.ret _ (Bool.false, ())))) fun y29 =>
            opt.ret _ (s26.1, (s26.2.1, ((bif y29.1 then Bool.false else Bool.true), ()))))))) fun y30 =>
       opt.ask _ y30.2.2.1 (
        opt.ret _ (Sum.inr (Sum.inl ((2 : Int), ())))) (
        opt.ret _ (Sum.inl (y30.1, ((p.ar Go.BinOp.add Go.IntKind.i64 y30.2.1 (1 : Int)), ()))))) (
       opt.ret _ (Sum.inr (Sum.inr ()))))
noncomputable def G17 : (p : Prim) → (List (List (Go.Am.D)) × Unit) → Option ((Int × Unit)) :=
  fun p x =>
  opt.bnd ((List (List (Go.Am.D)) × (Bool × Unit))) _ (
    opt.run ((List (List (Go.Am.D)) × (Bool × Unit))) (
     opt.ask _ (p.cmp Go.BinOp.lss (p.ofNat (p.len x.1)) (1 : Int)) (
      opt.ret _ (x.1, (Bool.true, ()))) (
      opt.ret _ (x.1, ((p.cmp Go.BinOp.gtr (p.ofNat (p.len x.1)) (24 : Int)), ()))))) fun y25 =>
  opt.ask _ y25.2.1 (
   opt.ret _ ((6 : Int), ())) (
   opt.alt ((Int × Unit)) (Unit) _ (
     iter (b17_1 p) (y25.1, ((0 : Int), ()))) (fun y31 =>
    opt.ret _ (y31.1, ())) (fun y32 =>
    opt.bnd (Unit) _ (some y32) fun y33 =>
    opt.ret _ ((0 : Int), ())))
noncomputable def F17 : Prim → Tup (ctr17).scs → Option (STup (scss (ctr17).outs)) :=
  fun p x => G17 p x
theorem eq17 (p : Prim) (x : Tup (ctr17).scs) : bodyRun opt p (autoEnv Go.Proofs.Try.prog) (mkOrc opt p (autoEnv Go.Proofs.Try.prog) 400 (an17) la17) 400 ctr17 x = G17 p x := by kernel_rfl
theorem gok17 : GamOk Go.Proofs.Try.prog gam17 := fun cf h => by cases h
theorem enters17 : Enters Go.Proofs.Try.prog 17 := enters_auto (b := _) rfl (by kernel_rfl)
theorem ok17 : CtrOk Go.Proofs.Try.prog ctr17 (F17 std) := ctr_of_body (autoEnv_ok follows_mixed) (mkOrc_ok (autoEnv_ok follows_mixed) gok17 _) enters17 (fun x => eq17 std x)
noncomputable def ctr28 : Ctr :=
  ⟨28, [.list 3], [], [(.ret, ⟨[(0, .vec 0 1)], [.row [(Go.Am.CK.int Go.IntKind.i64)]], 1⟩)]⟩
noncomputable def la28 : List LA :=
  [⟨28, [false, true, true], ⟨⟨[(0, .list 3), (3, .vec 0 1)], [.row [(Go.Am.CK.int Go.IntKind.i64)]], 50⟩, [(Go.Am.AX.ret, ⟨[(2, .vec 0 1)], [.row [(Go.Am.CK.int Go.IntKind.i64)]], 50⟩)]⟩⟩,
   ⟨28, [false, true, false, true, false, false, false, true, true], ⟨⟨[(0, .list 3), (3, .vec 0 1), (4, .int Go.IntKind.i64), (5, .int Go.IntKind.i64)], [.row [(Go.Am.CK.int Go.IntKind.i64)]], 50⟩, [((Go.Am.AX.exit 2), ⟨[(0, .list 3), (3, .vec 0 1), (4, .int Go.IntKind.i64)], [.row [(Go.Am.CK.int Go.IntKind.i64)]], 50⟩)]⟩⟩]
noncomputable def ja28 : List JA :=
  [⟨28, [false, true, false, false, true, false, true, false, false, false, true, true], [(Go.Am.AX.normal, ⟨[(0, .list 3), (3, .vec 0 1), (4, .int Go.IntKind.i64), (5, .int Go.IntKind.i64)], [.row [(Go.Am.CK.int Go.IntKind.i64)]], 50⟩)]⟩,
   ⟨28, [true, false, false, true, false, false, true, false, true, false, false, false, true, true], [(Go.Am.AX.normal, ⟨[(0, .list 3), (3, .vec 0 1), (4, .int Go.IntKind.i64), (5, .int Go.IntKind.i64)], [.row [(Go.Am.CK.int Go.IntKind.i64)]], 50⟩)]⟩]
noncomputable def gam28 : List CF :=
  []
noncomputable def an28 : Anns :=
  ⟨gam28, ja28, []⟩
noncomputable def b28_2 (p : Prim) : (List (List (Go.Am.D)) × (List (List (Go.Am.D)) × (Int × (Int × Unit)))) → Option ((List (List (Go.Am.D)) × (List (List (Go.Am.D)) × (Int × (Int × Unit)))) ⊕ (List (List (Go.Am.D)) × (List (List (Go.Am.D)) × (Int × Unit)))) :=
  fun s72 => opt.run _ (
        opt.ask _ (p.cmp Go.BinOp.lss s72.2.2.2.1 (p.ofNat (p.len s72.2.1))) (
         opt.bnd ((List (List (Go.Am.D)) × (List (List (Go.Am.D)) × (Int × (Int × Unit))))) _ (
           opt.run ((List (List (Go.Am.D)) × (List (List (Go.Am.D)) × (Int × (Int × Unit))))) (
            opt.ask _ (p.cmp Go.BinOp.eql (p.ofNat (p.len s72.1)) (0 : Int)) (
             opt.need _ (p.rowOk s72.2.1 (p.nat s72.2.2.2.1) [(Go.Am.CK.int Go.IntKind.i64), (Go.Am.CK.int Go.IntKind.i64), (Go.Am.CK.int Go.IntKind.i64)]) <|
             opt.need _ (p.cmp Go.BinOp.geq s72.2.2.2.1 (0 : Int)) <|
             opt.bnd ((List (List (Go.Am.D)) × (List (List (Go.Am.D)) × (Int × (Int × Unit))))) _ (
               opt.run ((List (List (Go.Am.D)) × (List (List (Go.Am.D)) × (Int × (Int × Unit))))) (
                opt.ask _ (p.cmp Go.BinOp.lss (p.rdI s72.2.1 (p.nat s72.2.2.2.1) 0) s72.2.2.1) (
                 opt.need _ (p.rowOk s72.2.1 (p.nat s72.2.2.2.1) [(Go.Am.CK.int Go.IntKind.i64), (Go.Am.CK.int Go.IntKind.i64), (Go.Am.CK.int Go.IntKind.i64)]) <|
                 opt.need _ (p.cmp Go.BinOp.geq s72.2.2.2.1 (0 : Int)) <|
                 opt.need _ (p.eqN 0 0) <|
                 opt.need _ (p.eqN (p.len s72.1) (p.len s72.1)) <|
                 opt.ret _ (s72.1, (s72.2.1, ((p.rdI s72.2.1 (p.nat s72.2.2.2.1) 0), (s72.2.2.2.1, ()))))) (
                 opt.need _ (p.eqN 0 0) <|
                 opt.need _ (p.eqN (p.len s72.1) (p.len s72.1)) <|
                 opt.ret _ (s72.1, (s72.2.1, (s72.2.2.1, (s72.2.2.2.1, ()))))))) fun y73 =>
             opt.need _ (p.eqN 0 0) <|
             opt.need _ (p.eqN (p.len y73.1) (p.len y73.1)) <|
             opt.ret _ (y73.1, (y73.2.1, (y73.2.2.1, (y73.2.2.2.1, ()))))) (
             opt.need _ (p.rowOk s72.2.1 (p.nat s72.2.2.2.1) [(Go.Am.CK.int Go.IntKind.i64), (Go.Am.CK.int Go.IntKind.i64), (Go.Am.CK.int Go.IntKind.i64)]) <|
             opt.need _ (p.cmp Go.BinOp.geq s72.2.2.2.1 (0 : Int)) <|
             opt.need _ (bif (p.cmp Go.BinOp.geq (p.ar Go.BinOp.sub Go.IntKind.i64 (p.ofNat (p.len s72.1)) (1 : Int)) (0 : Int)) then (p.cmp Go.BinOp.lss (p.ar Go.BinOp.sub Go.IntKind.i64 (p.ofNat (p.len s72.1)) (1 : Int)) (p.ofNat (p.len s72.1))) else Bool.false) <|
             opt.need _ (p.rowOk s72.1 (p.add 0 (p.nat (p.ar Go.BinOp.sub Go.IntKind.i64 (p.ofNat (p.len s72.1)) (1 : Int)))) [(Go.Am.CK.int Go.IntKind.i64)]) <|
             opt.ask _ (p.cmp Go.BinOp.gtr (p.rdI s72.2.1 (p.nat s72.2.2.2.1) 0) (p.rdI s72.1 (p.add 0 (p.nat (p.ar Go.BinOp.sub Go.IntKind.i64 (p.ofNat (p.len s72.1)) (1 : Int)))) 0)) (
              opt.need _ (p.rowOk s72.2.1 (p.nat s72.2.2.2.1) [(Go.Am.CK.int Go.IntKind.i64), (Go.Am.CK.int Go.IntKind.i64), (Go.Am.CK.int Go.IntKind.i64)]) <|
              opt.need _ (p.cmp Go.BinOp.geq s72.2.2.2.1 (0 : Int)) <|
              opt.bnd ((List (List (Go.Am.D)) × (List (List (Go.Am.D)) × (Int × (Int × Unit))))) _ (
                opt.run ((List (List (Go.Am.D)) × (List (List (Go.Am.D)) × (Int × (Int × Unit))))) (
                 opt.ask _ (p.cmp Go.BinOp.lss (p.rdI s72.2.1 (p.nat s72.2.2.2.1) 0) s72.2.2.1) (
                  opt.need _ (p.rowOk s72.2.1 (p.nat s72.2.2.2.1) [(Go.Am.CK.int Go.IntKind.i64), (Go.Am.CK.int Go.IntKind.i64), (Go.Am.CK.int Go.IntKind.i64)]) <|
                  opt.need _ (p.cmp Go.BinOp.geq s72.2.2.2.1 (0 : Int)) <|
                  opt.need _ (p.eqN 0 0) <|
                  opt.need _ (p.eqN (p.len s72.1) (p.len s72.1)) <|
                  opt.ret _ (s72.1, (s72.2.1, ((p.rdI s72.2.1 (p.nat s72.2.2.2.1) 0), (s72.2.2.2.1, ()))))) (
                  opt.need _ (p.eqN 0 0) <|
                  opt.need _ (p.eqN (p.len s72.1) (p.len s72.1)) <|
                  opt.ret _ (s72.1, (s72.2.1, (s72.2.2.1, (s72.2.2.2.1, ()))))))) fun y74 =>
              opt.need _ (p.eqN 0 0) <|
              opt.need _ (p.eqN (p.len y74.1) (p.len y74.1)) <|
              opt.ret _ (y74.1, (y74.2.1, (y74.2.2.1, (y74.2.2.2.1, ()))))) (
              opt.bnd ((List (List (Go.Am.D)) × (List (List (Go.Am.D)) × (Int × (Int × Unit))))) _ (
                opt.run ((List (List (Go.Am.D)) × (List (List (Go.Am.D)) × (Int × (Int × Unit))))) (
                 opt.need _ (p.eqN 0 0) <|
                 opt.need _ (p.eqN (p.len s72.1) (p.len s72.1)) <|
                 opt.ret _ (s72.1, (s72.2.1, (s72.2.2.1, (s72.2.2.2.1, ())))))) fun y75 =>
              opt.need _ (p.eqN 0 0) <|
              opt.need _ (p.eqN (p.len y75.1) (p.len y75.1)) <|
              opt.ret _ (y75.1, (y75.2.1, (y75.2.2.1, (y75.2.2.2.1, ())))))))) fun y76 =>
         opt.need _ (p.eqN 0 0) <|
         opt.need _ (p.eqN (p.len y76.1) (p.len y76.1)) <|
         opt.ret _ (Sum.inl (y76.1, (y76.2.1, (y76.2.2.1, ((p.ar Go.BinOp.add Go.IntKind.i64 y76.2.2.2.1 (1 : Int)), ())))))) (
         opt.need _ (p.eqN 0 0) <|
         opt.need _ (p.eqN (p.len s72.1) (p.len s72.1)) <|
         opt.ret _ (Sum.inr (s72.1, (s72.2.1, (s72.2.2.1, ()))))))
noncomputable def b28_1 (p : Prim) : (List (List (Go.Am.D)) × (List (List (Go.Am.D)) × Unit)) → Option ((List (List (Go.Am.D)) × (List (List (Go.Am.D)) × Unit)) ⊕ (List (List (Go.Am.D)) × Unit)) :=
  fun s71 => opt.run _ (
     opt.need _ (p.eqN 0 0) <|
     opt.need _ (p.eqN (p.len s71.1) (p.len s71.1)) <|
     opt.bnd ((List (List (Go.Am.D)) × (List (List (Go.Am.D)) × (Int × Unit)))) _ (
       iter (b28_2 p) (s71.1, (s71.2.1, ((1073741824 : Int), ((0 : Int), ()))))) fun y77 =>
     opt.ask _ (p.cmp Go.BinOp.eql y77.2.2.1 (1073741824 : Int)) (
      opt.need _ (p.eqN 0 0) <|
      opt.need _ (p.eqN (p.len y77.1) (p.len y77.1)) <|
      opt.ret _ (Sum.inr (y77.1, ()))) (
      opt.need _ (p.and (p.leN (p.add 0 1) (p.len [[(Go.Am.D.int Go.IntKind.i64 y77.2.2.1)]])) (p.and (p.leN (p.add 0 (p.len y77.1)) (p.len y77.1)) (p.and (p.leN 1 1) (p.leN (p.add (p.len y77.1) 1) 1000000)))) <|
      opt.need _ (p.eqN 0 0) <|
      opt.need _ (p.eqN (p.add (p.len y77.1) 1) (p.len (p.app (p.cut y77.1 0 (p.len y77.1)) (p.cut [[(Go.Am.D.int Go.IntKind.i64 y77.2.2.1)]] 0 1)))) <|
      opt.ret _ (Sum.inl ((p.app (p.cut y77.1 0 (p.len y77.1)) (p.cut [[(Go.Am.D.int Go.IntKind.i64 y77.2.2.1)]] 0 1)), (y77.2.1, ())))))
noncomputable def G28 : (p : Prim) → (List (List (Go.Am.D)) × Unit) → Option ((List (List (Go.Am.D)) × Unit)) :=
  fun p x =>
  opt.bnd ((List (List (Go.Am.D)) × Unit)) _ (
    iter (b28_1 p) ([], (x.1, ()))) fun y78 =>
  opt.need _ (p.eqN 0 0) <|
  opt.need _ (p.eqN (p.len y78.1) (p.len y78.1)) <|
  opt.ret _ (y78.1, ())
noncomputable def F28 : Prim → Tup (ctr28).scs → Option (STup (scss (ctr28).outs)) :=
  fun p x => G28 p x
theorem eq28 (p : Prim) (x : Tup (ctr28).scs) : bodyRun opt p (autoEnv Go.Proofs.Try.prog) (mkOrc opt p (autoEnv Go.Proofs.Try.prog) 400 (an28) la28) 400 ctr28 x = G28 p x := by kernel_rfl
theorem gok28 : GamOk Go.Proofs.Try.prog gam28 := fun cf h => by cases h
theorem enters28 : Enters Go.Proofs.Try.prog 28 := enters_auto (b := _) rfl (by kernel_rfl)
theorem ok28 : CtrOk Go.Proofs.Try.prog ctr28 (F28 std) := ctr_of_body (autoEnv_ok follows_mixed) (mkOrc_ok (autoEnv_ok follows_mixed) gok28 _) enters28 (fun x => eq28 std x)
noncomputable def ctr30 : Ctr :=
  ⟨30, [.list 3, .int Go.IntKind.i64, .int Go.IntKind.i64], [], [(.ret, ⟨[(0, .agg [.int Go.IntKind.i64, .int Go.IntKind.i64, .int Go.IntKind.i64, .int Go.IntKind.i64])], [], 1⟩)]⟩
noncomputable def la30 : List LA :=
  [⟨30, [false, true, false, true, true], ⟨⟨[(0, .list 3), (1, .int Go.IntKind.i64), (2, .int Go.IntKind.i64), (6, .bptr 0 0), (7, .bptr 1 0), (8, .int Go.IntKind.i64)], [.box [.int Go.IntKind.i64, .int Go.IntKind.i64, .int Go.IntKind.i64, .int Go.IntKind.i64], .box [.int Go.IntKind.i64, .int Go.IntKind.i64, .int Go.IntKind.i64, .int Go.IntKind.i64]], 51⟩, [((Go.Am.AX.exit 0), ⟨[(6, .bptr 0 0), (7, .bptr 1 0)], [.box [.int Go.IntKind.i64, .int Go.IntKind.i64, .int Go.IntKind.i64, .int Go.IntKind.i64], .box [.int Go.IntKind.i64, .int Go.IntKind.i64, .int Go.IntKind.i64, .int Go.IntKind.i64]], 51⟩)]⟩⟩]
noncomputable def ja30 : List JA :=
  [⟨30, [true, false, false, true, false, false, true, false, true, true], [(Go.Am.AX.normal, ⟨[(0, .list 3), (1, .int Go.IntKind.i64), (2, .int Go.IntKind.i64), (6, .bptr 0 0), (7, .bptr 1 0), (8, .int Go.IntKind.i64)], [.box [.int Go.IntKind.i64, .int Go.IntKind.i64, .int Go.IntKind.i64, .int Go.IntKind.i64], .box [.int Go.IntKind.i64, .int Go.IntKind.i64, .int Go.IntKind.i64, .int Go.IntKind.i64]], 51⟩)]⟩,
   ⟨42, [false, true], [(Go.Am.AX.normal, ⟨[(6, .bool)], [.box [.int Go.IntKind.i64, .int Go.IntKind.i64, .int Go.IntKind.i64, .int Go.IntKind.i64], .box [.int Go.IntKind.i64, .int Go.IntKind.i64, .int Go.IntKind.i64, .int Go.IntKind.i64]], 15⟩)]⟩]
noncomputable def gam30 : List CF :=
  []
noncomputable def an30 : Anns :=
  ⟨gam30, ja30, []⟩
noncomputable def b30_1 (p : Prim) : (Int × (Int × (Int × (Int × (Int × (Int × (Int × (Int × (List (List (Go.Am.D)) × (Int × (Int × (Int × Unit)))))))))))) → Option ((Int × (Int × (Int × (Int × (Int × (Int × (Int × (Int × (List (List (Go.Am.D)) × (Int × (Int × (Int × Unit)))))))))))) ⊕ (Int × (Int × (Int × (Int × (Int × (Int × (Int × (Int × Unit))))))))) :=
  fun s95 => opt.run _ (
     opt.ask _ (p.cmp Go.BinOp.lss s95.2.2.2.2.2.2.2.2.2.2.2.1 (p.ofNat (p.len s95.2.2.2.2.2.2.2.2.1))) (
      opt.need _ (p.rowOk s95.2.2.2.2.2.2.2.2.1 (p.nat s95.2.2.2.2.2.2.2.2.2.2.2.1) [(Go.Am.CK.int Go.IntKind.i64), (Go.Am.CK.int Go.IntKind.i64), (Go.Am.CK.int Go.IntKind.i64)]) <|
      opt.need _ (p.cmp Go.BinOp.geq s95.2.2.2.2.2.2.2.2.2.2.2.1 (0 : Int)) <|
      opt.bnd ((Int × (Int × (Int × (Int × (Int × (Int × (Int × (Int × (Bool × Unit)))))))))) _ (
        opt.run ((Int × (Int × (Int × (Int × (Int × (Int × (Int × (Int × (Bool × Unit)))))))))) (
         opt.ask _ (p.cmp Go.BinOp.geq (p.rdI s95.2.2.2.2.2.2.2.2.1 (p.nat s95.2.2.2.2.2.2.2.2.2.2.2.1) 0) s95.2.2.2.2.2.2.2.2.2.1) (
          opt.ret _ (s95.1, (s95.2.1, (s95.2.2.1, (s95.2.2.2.1, (s95.2.2.2.2.1, (s95.2.2.2.2.2.1, (s95.2.2.2.2.2.2.1, (s95.2.2.2.2.2.2.2.1, ((p.cmp Go.BinOp.leq (p.rdI s95.2.2.2.2.2.2.2.2.1 (p.nat s95.2.2.2.2.2.2.2.2.2.2.2.1) 0) s95.2.2.2.2.2.2.2.2.2.2.1), ())))))))))) (
          opt.ret _ (s95.1, (s95.2.1, (s95.2.2.1, (s95.2.2.2.1, (s95.2.2.2.2.1, (s95.2.2.2.2.2.1, (s95.2.2.2.2.2.2.1, (s95.2.2.2.2.2.2.2.1, (Bool.false, ())))))))))))) fun y96 =>
      opt.bnd ((Int × (Int × (Int × (Int × (Int × (Int × (Int × (Int × (List (List (Go.Am.D)) × (Int × (Int × (Int × Unit))))))))))))) _ (
        opt.run ((Int × (Int × (Int × (Int × (Int × (Int × (Int × (Int × (List (List (Go.Am.D)) × (Int × (Int × (Int × Unit))))))))))))) (
         opt.ask _ y96.2.2.2.2.2.2.2.2.1 (
          opt.need _ (p.rowOk s95.2.2.2.2.2.2.2.2.1 (p.nat s95.2.2.2.2.2.2.2.2.2.2.2.1) [(Go.Am.CK.int Go.IntKind.i64), (Go.Am.CK.int Go.IntKind.i64), (Go.Am.CK.int Go.IntKind.i64)]) <|
          opt.need _ (p.cmp Go.BinOp.geq s95.2.2.2.2.2.2.2.2.2.2.2.1 (0 : Int)) <|
          opt.need _ (p.rowOk s95.2.2.2.2.2.2.2.2.1 (p.nat s95.2.2.2.2.2.2.2.2.2.2.2.1) [(Go.Am.CK.int Go.IntKind.i64), (Go.Am.CK.int Go.IntKind.i64), (Go.Am.CK.int Go.IntKind.i64)]) <|
          opt.need _ (p.cmp Go.BinOp.geq s95.2.2.2.2.2.2.2.2.2.2.2.1 (0 : Int)) <|
          opt.need _ (p.rowOk s95.2.2.2.2.2.2.2.2.1 (p.nat s95.2.2.2.2.2.2.2.2.2.2.2.1) [(Go.Am.CK.int Go.IntKind.i64), (Go.Am.CK.int Go.IntKind.i64), (Go.Am.CK.int Go.IntKind.i64)]) <|
          opt.need _ (p.cmp Go.BinOp.geq s95.2.2.2.2.2.2.2.2.2.2.2.1 (0 : Int)) <|
          opt.ret _ (y96.1, (y96.2.1, (y96.2.2.1, (y96.2.2.2.1, (y96.2.2.2.2.1, (y96.2.2.2.2.2.1, ((p.ar Go.BinOp.add Go.IntKind.i64 y96.2.2.2.2.2.2.1 (p.rdI s95.2.2.2.2.2.2.2.2.1 (p.nat s95.2.2.2.2.2.2.2.2.2.2.2.1) 2)), ((p.ar Go.BinOp.add Go.IntKind.i64 y96.2.2.2.2.2.2.2.1 (p.ar Go.BinOp.mul Go.IntKind.i64 (p.rdI s95.2.2.2.2.2.2.2.2.1 (p.nat s95.2.2.2.2.2.2.2.2.2.2.2.1) 1) (p.rdI s95.2.2.2.2.2.2.2.2.1 (p.nat s95.2.2.2.2.2.2.2.2.2.2.2.1) 2))), (s95.2.2.2.2.2.2.2.2.1, (s95.2.2.2.2.2.2.2.2.2.1, (s95.2.2.2.2.2.2.2.2.2.2.1, (s95.2.2.2.2.2.2.2.2.2.2.2.1, ()))))))))))))) (
          opt.ret _ (y96.1, (y96.2.1, (y96.2.2.1, (y96.2.2.2.1, (y96.2.2.2.2.1, (y96.2.2.2.2.2.1, (y96.2.2.2.2.2.2.1, (y96.2.2.2.2.2.2.2.1, (s95.2.2.2.2.2.2.2.2.1, (s95.2.2.2.2.2.2.2.2.2.1, (s95.2.2.2.2.2.2.2.2.2.2.1, (s95.2.2.2.2.2.2.2.2.2.2.2.1, ()))))))))))))))) fun y97 =>
      opt.ret _ (Sum.inl (y97.1, (y97.2.1, (y97.2.2.1, (y97.2.2.2.1, (y97.2.2.2.2.1, (y97.2.2.2.2.2.1, (y97.2.2.2.2.2.2.1, (y97.2.2.2.2.2.2.2.1, (y97.2.2.2.2.2.2.2.2.1, (y97.2.2.2.2.2.2.2.2.2.1, (y97.2.2.2.2.2.2.2.2.2.2.1, ((p.ar Go.BinOp.add Go.IntKind.i64 y97.2.2.2.2.2.2.2.2.2.2.2.1 (1 : Int)), ())))))))))))))) (
      opt.ret _ (Sum.inr (s95.1, (s95.2.1, (s95.2.2.1, (s95.2.2.2.1, (s95.2.2.2.2.1, (s95.2.2.2.2.2.1, (s95.2.2.2.2.2.2.1, (s95.2.2.2.2.2.2.2.1, ())))))))))))
noncomputable def G30 : (p : Prim) → (List (List (Go.Am.D)) × (Int × (Int × Unit))) → Option ((Int × (Int × (Int × (Int × Unit))))) :=
  fun p x =>
  opt.bnd ((Int × (Int × (Int × (Int × (Int × (Int × (Int × (Int × Unit))))))))) _ (
    iter (b30_1 p) ((0 : Int), ((0 : Int), ((0 : Int), ((0 : Int), (x.2.1, (x.2.2.1, ((0 : Int), ((0 : Int), (x.1, (x.2.1, (x.2.2.1, ((0 : Int), ()))))))))))))) fun y98 =>
  opt.ret _ (y98.2.2.2.2.1, (y98.2.2.2.2.2.1, (y98.2.2.2.2.2.2.1, (y98.2.2.2.2.2.2.2.1, ()))))
noncomputable def F30 : Prim → Tup (ctr30).scs → Option (STup (scss (ctr30).outs)) :=
  fun p x => G30 p x
theorem eq30 (p : Prim) (x : Tup (ctr30).scs) : bodyRun opt p (autoEnv Go.Proofs.Try.prog) (mkOrc opt p (autoEnv Go.Proofs.Try.prog) 400 (an30) la30) 400 ctr30 x = G30 p x := by kernel_rfl
theorem gok30 : GamOk Go.Proofs.Try.prog gam30 := fun cf h => by cases h
theorem enters30 : Enters Go.Proofs.Try.prog 30 := enters_auto (b := _) rfl (by kernel_rfl)
theorem ok30 : CtrOk Go.Proofs.Try.prog ctr30 (F30 std) := ctr_of_body (autoEnv_ok follows_mixed) (mkOrc_ok (autoEnv_ok follows_mixed) gok30 _) enters30 (fun x => eq30 std x)
noncomputable def ctr31 : Ctr :=
  ⟨31, [.agg [.int Go.IntKind.i64, .int Go.IntKind.i64, .int Go.IntKind.i64, .int Go.IntKind.i64], .agg [.int Go.IntKind.i64, .int Go.IntKind.i64, .int Go.IntKind.i64, .int Go.IntKind.i64]], [], [(.ret, ⟨[(0, .bool)], [], 1⟩)]⟩
noncomputable def la31 : List LA :=
  []
noncomputable def ja31 : List JA :=
  []
noncomputable def gam31 : List CF :=
  []
noncomputable def an31 : Anns :=
  ⟨gam31, ja31, []⟩
noncomputable def G31 : (p : Prim) → (Int × (Int × (Int × (Int × (Int × (Int × (Int × (Int × Unit)))))))) → Option ((Bool × Unit)) :=
  fun p x =>
  opt.ret _ ((p.cmp Go.BinOp.lss (p.ar Go.BinOp.mul Go.IntKind.i64 x.2.2.2.1 x.2.2.2.2.2.2.1) (p.ar Go.BinOp.mul Go.IntKind.i64 x.2.2.2.2.2.2.2.1 x.2.2.1)), ())
noncomputable def F31 : Prim → Tup (ctr31).scs → Option (STup (scss (ctr31).outs)) :=
  fun p x => G31 p x
theorem eq31 (p : Prim) (x : Tup (ctr31).scs) : bodyRun opt p (autoEnv Go.Proofs.Try.prog) (mkOrc opt p (autoEnv Go.Proofs.Try.prog) 400 (an31) la31) 400 ctr31 x = G31 p x := by kernel_rfl
theorem gok31 : GamOk Go.Proofs.Try.prog gam31 := fun cf h => by cases h
theorem enters31 : Enters Go.Proofs.Try.prog 31 := enters_auto (b := _) rfl (by kernel_rfl)
theorem ok31 : CtrOk Go.Proofs.Try.prog ctr31 (F31 std) := ctr_of_body (autoEnv_ok follows_mixed) (mkOrc_ok (autoEnv_ok follows_mixed) gok31 _) enters31 (fun x => eq31 std x)
noncomputable def ctr32 : Ctr :=
  ⟨32, [.int Go.IntKind.i64, .int Go.IntKind.i64], [], [(.ret, ⟨[(0, .agg [.int Go.IntKind.i64, .int Go.IntKind.i64])], [], 1⟩)]⟩
noncomputable def la32 : List LA :=
  [⟨32, [false, false, true, true], ⟨⟨[(0, .int Go.IntKind.i64), (1, .int Go.IntKind.i64), (4, .bptr 0 0), (5, .int Go.IntKind.i64), (6, .int Go.IntKind.i64)], [.box [.int Go.IntKind.i64, .int Go.IntKind.i64]], 22⟩, [((Go.Am.AX.exit 0), ⟨[(0, .int Go.IntKind.i64), (1, .int Go.IntKind.i64), (4, .bptr 0 0), (5, .int Go.IntKind.i64)], [.box [.int Go.IntKind.i64, .int Go.IntKind.i64]], 22⟩)]⟩⟩]
noncomputable def ja32 : List JA :=
  []
noncomputable def gam32 : List CF :=
  []
noncomputable def an32 : Anns :=
  ⟨gam32, ja32, []⟩
noncomputable def b32_1 (p : Prim) : (Int × (Int × (Int × (Int × (Int × (Int × Unit)))))) → Option ((Int × (Int × (Int × (Int × (Int × (Int × Unit)))))) ⊕ (Int × (Int × (Int × (Int × (Int × Unit)))))) :=
  fun s117 => opt.run _ (
     opt.ask _ (p.cmp Go.BinOp.neq s117.2.2.2.2.2.1 (0 : Int)) (
      opt.need _ (p.cmp Go.BinOp.neq s117.2.2.2.2.2.1 (0 : Int)) <|
      opt.ret _ (Sum.inl (s117.1, (s117.2.1, (s117.2.2.1, (s117.2.2.2.1, (s117.2.2.2.2.2.1, ((p.ar Go.BinOp.rem Go.IntKind.i64 s117.2.2.2.2.1 s117.2.2.2.2.2.1), ())))))))) (
      opt.ret _ (Sum.inr (s117.1, (s117.2.1, (s117.2.2.1, (s117.2.2.2.1, (s117.2.2.2.2.1, ()))))))))
noncomputable def G32 : (p : Prim) → (Int × (Int × Unit)) → Option ((Int × (Int × Unit))) :=
  fun p x =>
  opt.bnd ((Int × (Int × (Int × (Int × (Int × Unit)))))) _ (
    iter (b32_1 p) ((0 : Int), ((0 : Int), (x.1, (x.2.1, (x.1, (x.2.1, ()))))))) fun y118 =>
  opt.need _ (p.cmp Go.BinOp.neq y118.2.2.2.2.1 (0 : Int)) <|
  opt.need _ (p.cmp Go.BinOp.neq y118.2.2.2.2.1 (0 : Int)) <|
  opt.ret _ ((p.ar Go.BinOp.quo Go.IntKind.i64 y118.2.2.1 y118.2.2.2.2.1), ((p.ar Go.BinOp.quo Go.IntKind.i64 y118.2.2.2.1 y118.2.2.2.2.1), ()))
noncomputable def F32 : Prim → Tup (ctr32).scs → Option (STup (scss (ctr32).outs)) :=
  fun p x => G32 p x
theorem eq32 (p : Prim) (x : Tup (ctr32).scs) : bodyRun opt p (autoEnv Go.Proofs.Try.prog) (mkOrc opt p (autoEnv Go.Proofs.Try.prog) 400 (an32) la32) 400 ctr32 x = G32 p x := by kernel_rfl
theorem gok32 : GamOk Go.Proofs.Try.prog gam32 := fun cf h => by cases h
theorem enters32 : Enters Go.Proofs.Try.prog 32 := enters_auto (b := _) rfl (by kernel_rfl)
theorem ok32 : CtrOk Go.Proofs.Try.prog ctr32 (F32 std) := ctr_of_body (autoEnv_ok follows_mixed) (mkOrc_ok (autoEnv_ok follows_mixed) gok32 _) enters32 (fun x => eq32 std x)
noncomputable def ctr47 : Ctr :=
  ⟨47, [.list 3], [], [(.ret, ⟨[(0, .vec 0 4)], [.row [(Go.Am.CK.int Go.IntKind.i64), (Go.Am.CK.int Go.IntKind.i64), (Go.Am.CK.int Go.IntKind.i64), (Go.Am.CK.int Go.IntKind.i64)]], 1⟩)]⟩
noncomputable def la47 : List LA :=
  [⟨47, [false, true, false, true, true, true], ⟨⟨[(0, .list 3), (3, .vec 0 1), (4, .vec 1 4), (5, .int Go.IntKind.i64)], [.row [(Go.Am.CK.int Go.IntKind.i64)], .row [(Go.Am.CK.int Go.IntKind.i64), (Go.Am.CK.int Go.IntKind.i64), (Go.Am.CK.int Go.IntKind.i64), (Go.Am.CK.int Go.IntKind.i64)]], 69⟩, [((Go.Am.AX.exit 0), ⟨[(4, .vec 0 4)], [.row [(Go.Am.CK.int Go.IntKind.i64), (Go.Am.CK.int Go.IntKind.i64), (Go.Am.CK.int Go.IntKind.i64), (Go.Am.CK.int Go.IntKind.i64)]], 69⟩)]⟩⟩,
   ⟨47, [false, true, false, true, false, false, true, false, false, true, false, true, true, true], ⟨⟨[(0, .list 3), (3, .vec 0 1), (4, .vec 1 4), (5, .int Go.IntKind.i64), (6, .bptr 2 0), (7, .int Go.IntKind.i64)], [.row [(Go.Am.CK.int Go.IntKind.i64)], .row [(Go.Am.CK.int Go.IntKind.i64), (Go.Am.CK.int Go.IntKind.i64), (Go.Am.CK.int Go.IntKind.i64), (Go.Am.CK.int Go.IntKind.i64)], .box [.int Go.IntKind.i64, .int Go.IntKind.i64, .int Go.IntKind.i64, .int Go.IntKind.i64]], 69⟩, [((Go.Am.AX.exit 2), ⟨[(0, .list 3), (3, .vec 0 1), (4, .vec 1 4), (5, .int Go.IntKind.i64), (6, .bptr 2 0)], [.row [(Go.Am.CK.int Go.IntKind.i64)], .row [(Go.Am.CK.int Go.IntKind.i64), (Go.Am.CK.int Go.IntKind.i64), (Go.Am.CK.int Go.IntKind.i64), (Go.Am.CK.int Go.IntKind.i64)], .box [.int Go.IntKind.i64, .int Go.IntKind.i64, .int Go.IntKind.i64, .int Go.IntKind.i64]], 69⟩)]⟩⟩,
   ⟨47, [false, true, false, true, false, false, true, false, false, true, false, true, false, false, true, false, false, true, false, true, true, true], ⟨⟨[(0, .list 3), (3, .vec 0 1), (4, .vec 1 4), (5, .int Go.IntKind.i64), (6, .bptr 2 0), (7, .int Go.IntKind.i64), (8, .bptr 3 0), (9, .int Go.IntKind.i64)], [.row [(Go.Am.CK.int Go.IntKind.i64)], .row [(Go.Am.CK.int Go.IntKind.i64), (Go.Am.CK.int Go.IntKind.i64), (Go.Am.CK.int Go.IntKind.i64), (Go.Am.CK.int Go.IntKind.i64)], .box [.int Go.IntKind.i64, .int Go.IntKind.i64, .int Go.IntKind.i64, .int Go.IntKind.i64], .box [.int Go.IntKind.i64, .int Go.IntKind.i64, .int Go.IntKind.i64, .int Go.IntKind.i64]], 69⟩, [((Go.Am.AX.exit 4), ⟨[(0, .list 3), (3, .vec 0 1), (4, .vec 1 4), (5, .int Go.IntKind.i64), (6, .bptr 2 0), (7, .int Go.IntKind.i64), (8, .bptr 3 0)], [.row [(Go.Am.CK.int Go.IntKind.i64)], .row [(Go.Am.CK.int Go.IntKind.i64), (Go.Am.CK.int Go.IntKind.i64), (Go.Am.CK.int Go.IntKind.i64), (Go.Am.CK.int Go.IntKind.i64)], .box [.int Go.IntKind.i64, .int Go.IntKind.i64, .int Go.IntKind.i64, .int Go.IntKind.i64], .box [.int Go.IntKind.i64, .int Go.IntKind.i64, .int Go.IntKind.i64, .int Go.IntKind.i64]], 69⟩)]⟩⟩]
noncomputable def ja47 : List JA :=
  [⟨47, [true, true, false, false, true, false, false, true, false, true, false, false, true, false, false, true, false, true, false, false, true, false, false, true, false, true, true, true], [(Go.Am.AX.normal, ⟨[(0, .list 3), (3, .vec 0 1), (4, .vec 1 4), (5, .int Go.IntKind.i64), (6, .bptr 2 0), (7, .int Go.IntKind.i64), (8, .bptr 3 0), (9, .int Go.IntKind.i64)], [.row [(Go.Am.CK.int Go.IntKind.i64)], .row [(Go.Am.CK.int Go.IntKind.i64), (Go.Am.CK.int Go.IntKind.i64), (Go.Am.CK.int Go.IntKind.i64), (Go.Am.CK.int Go.IntKind.i64)], .box [.int Go.IntKind.i64, .int Go.IntKind.i64, .int Go.IntKind.i64, .int Go.IntKind.i64], .box [.int Go.IntKind.i64, .int Go.IntKind.i64, .int Go.IntKind.i64, .int Go.IntKind.i64]], 69⟩)]⟩,
   ⟨47, [true, true, true, false, false, true, false, false, true, false, true, false, false, true, false, false, true, false, true, true, true], [(Go.Am.AX.normal, ⟨[(0, .list 3), (3, .vec 0 1), (4, .vec 1 4), (5, .int Go.IntKind.i64), (6, .bptr 2 0), (7, .int Go.IntKind.i64)], [.row [(Go.Am.CK.int Go.IntKind.i64)], .row [(Go.Am.CK.int Go.IntKind.i64), (Go.Am.CK.int Go.IntKind.i64), (Go.Am.CK.int Go.IntKind.i64), (Go.Am.CK.int Go.IntKind.i64)], .box [.int Go.IntKind.i64, .int Go.IntKind.i64, .int Go.IntKind.i64, .int Go.IntKind.i64]], 69⟩)]⟩,
   ⟨47, [false, true, true, false, false, true, false, false, true, false, true, false, false, true, false, false, true, false, true, true, true], [(Go.Am.AX.normal, ⟨[(0, .list 3), (3, .vec 0 1), (4, .vec 1 4), (5, .int Go.IntKind.i64), (6, .bptr 2 0), (7, .int Go.IntKind.i64), (8, .bptr 3 0), (62, .bool)], [.row [(Go.Am.CK.int Go.IntKind.i64)], .row [(Go.Am.CK.int Go.IntKind.i64), (Go.Am.CK.int Go.IntKind.i64), (Go.Am.CK.int Go.IntKind.i64), (Go.Am.CK.int Go.IntKind.i64)], .box [.int Go.IntKind.i64, .int Go.IntKind.i64, .int Go.IntKind.i64, .int Go.IntKind.i64], .box [.int Go.IntKind.i64, .int Go.IntKind.i64, .int Go.IntKind.i64, .int Go.IntKind.i64]], 69⟩)]⟩]
noncomputable def gam47 : List CF :=
  [⟨ctr31, F31⟩, ⟨ctr30, F30⟩, ⟨ctr28, F28⟩]
noncomputable def an47 : Anns :=
  ⟨gam47, ja47, []⟩
noncomputable def b47_3 (p : Prim) : (List (List (Go.Am.D)) × (List (List (Go.Am.D)) × (Int × (Int × (Int × (Int × (Int × (Int × (Int × (Int × (List (List (Go.Am.D)) × (Int × (Int × (Int × Unit)))))))))))))) → Option ((List (List (Go.Am.D)) × (List (List (Go.Am.D)) × (Int × (Int × (Int × (Int × (Int × (Int × (Int × (Int × (List (List (Go.Am.D)) × (Int × (Int × (Int × Unit)))))))))))))) ⊕ (List (List (Go.Am.D)) × (List (List (Go.Am.D)) × (Int × (Int × (Int × (Int × (Int × (Int × (Int × (Int × (List (List (Go.Am.D)) × (Int × (Int × Unit)))))))))))))) :=
  fun s192 => opt.run _ (
             opt.ask _ (p.cmp Go.BinOp.lss s192.2.2.2.2.2.2.2.2.2.2.2.2.2.1 (p.ofNat (p.len s192.1))) (
              opt.need _ (bif (p.cmp Go.BinOp.geq s192.2.2.2.2.2.2.2.2.2.2.2.2.1 (0 : Int)) then (p.cmp Go.BinOp.lss s192.2.2.2.2.2.2.2.2.2.2.2.2.1 (p.ofNat (p.len s192.1))) else Bool.false) <|
              opt.need _ (p.rowOk s192.1 (p.add 0 (p.nat s192.2.2.2.2.2.2.2.2.2.2.2.2.1)) [(Go.Am.CK.int Go.IntKind.i64)]) <|
              opt.need _ (bif (p.cmp Go.BinOp.geq s192.2.2.2.2.2.2.2.2.2.2.2.2.2.1 (0 : Int)) then (p.cmp Go.BinOp.lss s192.2.2.2.2.2.2.2.2.2.2.2.2.2.1 (p.ofNat (p.len s192.1))) else Bool.false) <|
              opt.need _ (p.rowOk s192.1 (p.add 0 (p.nat s192.2.2.2.2.2.2.2.2.2.2.2.2.2.1)) [(Go.Am.CK.int Go.IntKind.i64)]) <|
              opt.bnd ((Int × (Int × (Int × (Int × Unit))))) _ (G30 p (s192.2.2.2.2.2.2.2.2.2.2.1, ((p.rdI s192.1 (p.add 0 (p.nat s192.2.2.2.2.2.2.2.2.2.2.2.2.1)) 0), ((p.rdI s192.1 (p.add 0 (p.nat s192.2.2.2.2.2.2.2.2.2.2.2.2.2.1)) 0), ())))) fun y193 =>
              opt.bnd ((Bool × Unit)) _ (G31 p (y193.1, (y193.2.1, (y193.2.2.1, (y193.2.2.2.1, (s192.2.2.2.2.2.2.1, (s192.2.2.2.2.2.2.2.1, (s192.2.2.2.2.2.2.2.2.1, (s192.2.2.2.2.2.2.2.2.2.1, ()))))))))) fun y194 =>
              opt.bnd ((List (List (Go.Am.D)) × (List (List (Go.Am.D)) × (Int × (Int × (Int × (Int × (Int × (Int × (Int × (Int × (List (List (Go.Am.D)) × (Int × (Int × (Int × Unit))))))))))))))) _ (
                opt.run ((List (List (Go.Am.D)) × (List (List (Go.Am.D)) × (Int × (Int × (Int × (Int × (Int × (Int × (Int × (Int × (List (List (Go.Am.D)) × (Int × (Int × (Int × Unit))))))))))))))) (
                 opt.ask _ y194.1 (
                  opt.need _ (p.eqN 0 0) <|
                  opt.need _ (p.eqN (p.len s192.1) (p.len s192.1)) <|
                  opt.need _ (p.eqN 0 0) <|
                  opt.need _ (p.eqN (p.len s192.2.1) (p.len s192.2.1)) <|
                  opt.ret _ (s192.1, (s192.2.1, (s192.2.2.1, (s192.2.2.2.1, (s192.2.2.2.2.1, (s192.2.2.2.2.2.1, (y193.1, (y193.2.1, (y193.2.2.1, (y193.2.2.2.1, (s192.2.2.2.2.2.2.2.2.2.2.1, (s192.2.2.2.2.2.2.2.2.2.2.2.1, (s192.2.2.2.2.2.2.2.2.2.2.2.2.1, (s192.2.2.2.2.2.2.2.2.2.2.2.2.2.1, ()))))))))))))))) (
                  opt.need _ (p.eqN 0 0) <|
                  opt.need _ (p.eqN (p.len s192.1) (p.len s192.1)) <|
                  opt.need _ (p.eqN 0 0) <|
                  opt.need _ (p.eqN (p.len s192.2.1) (p.len s192.2.1)) <|
                  opt.ret _ (s192.1, (s192.2.1, (s192.2.2.1, (s192.2.2.2.1, (s192.2.2.2.2.1, (s192.2.2.2.2.2.1, (s192.2.2.2.2.2.2.1, (s192.2.2.2.2.2.2.2.1, (s192.2.2.2.2.2.2.2.2.1, (s192.2.2.2.2.2.2.2.2.2.1, (s192.2.2.2.2.2.2.2.2.2.2.1, (s192.2.2.2.2.2.2.2.2.2.2.2.1, (s192.2.2.2.2.2.2.2.2.2.2.2.2.1, (s192.2.2.2.2.2.2.2.2.2.2.2.2.2.1, ()))))))))))))))))) fun y195 =>
              opt.need _ (p.eqN 0 0) <|
              opt.need _ (p.eqN (p.len y195.1) (p.len y195.1)) <|
              opt.need _ (p.eqN 0 0) <|
              opt.need _ (p.eqN (p.len y195.2.1) (p.len y195.2.1)) <|
              opt.ret _ (Sum.inl (y195.1, (y195.2.1, (y195.2.2.1, (y195.2.2.2.1, (y195.2.2.2.2.1, (y195.2.2.2.2.2.1, (y195.2.2.2.2.2.2.1, (y195.2.2.2.2.2.2.2.1, (y195.2.2.2.2.2.2.2.2.1, (y195.2.2.2.2.2.2.2.2.2.1, (y195.2.2.2.2.2.2.2.2.2.2.1, (y195.2.2.2.2.2.2.2.2.2.2.2.1, (y195.2.2.2.2.2.2.2.2.2.2.2.2.1, ((p.ar Go.BinOp.add Go.IntKind.i64 y195.2.2.2.2.2.2.2.2.2.2.2.2.2.1 (1 : Int)), ())))))))))))))))) (
              opt.need _ (p.eqN 0 0) <|
              opt.need _ (p.eqN (p.len s192.1) (p.len s192.1)) <|
              opt.need _ (p.eqN 0 0) <|
              opt.need _ (p.eqN (p.len s192.2.1) (p.len s192.2.1)) <|
              opt.ret _ (Sum.inr (s192.1, (s192.2.1, (s192.2.2.1, (s192.2.2.2.1, (s192.2.2.2.2.1, (s192.2.2.2.2.2.1, (s192.2.2.2.2.2.2.1, (s192.2.2.2.2.2.2.2.1, (s192.2.2.2.2.2.2.2.2.1, (s192.2.2.2.2.2.2.2.2.2.1, (s192.2.2.2.2.2.2.2.2.2.2.1, (s192.2.2.2.2.2.2.2.2.2.2.2.1, (s192.2.2.2.2.2.2.2.2.2.2.2.2.1, ()))))))))))))))))
noncomputable def b47_2 (p : Prim) : (List (List (Go.Am.D)) × (List (List (Go.Am.D)) × (Int × (Int × (Int × (Int × (List (List (Go.Am.D)) × (Int × (Int × Unit))))))))) → Option ((List (List (Go.Am.D)) × (List (List (Go.Am.D)) × (Int × (Int × (Int × (Int × (List (List (Go.Am.D)) × (Int × (Int × Unit))))))))) ⊕ (List (List (Go.Am.D)) × (List (List (Go.Am.D)) × (Int × (Int × (Int × (Int × (List (List (Go.Am.D)) × (Int × Unit))))))))) :=
  fun s190 => opt.run _ (
         opt.ask _ (p.cmp Go.BinOp.leq s190.2.2.2.2.2.2.2.2.1 s190.2.2.2.2.2.2.2.1) (
          opt.need _ (bif (p.cmp Go.BinOp.geq s190.2.2.2.2.2.2.2.2.1 (0 : Int)) then (p.cmp Go.BinOp.lss s190.2.2.2.2.2.2.2.2.1 (p.ofNat (p.len s190.1))) else Bool.false) <|
          opt.need _ (p.rowOk s190.1 (p.add 0 (p.nat s190.2.2.2.2.2.2.2.2.1)) [(Go.Am.CK.int Go.IntKind.i64)]) <|
          opt.need _ (bif (p.cmp Go.BinOp.geq s190.2.2.2.2.2.2.2.1 (0 : Int)) then (p.cmp Go.BinOp.lss s190.2.2.2.2.2.2.2.1 (p.ofNat (p.len s190.1))) else Bool.false) <|
          opt.need _ (p.rowOk s190.1 (p.add 0 (p.nat s190.2.2.2.2.2.2.2.1)) [(Go.Am.CK.int Go.IntKind.i64)]) <|
          opt.bnd ((Int × (Int × (Int × (Int × Unit))))) _ (G30 p (s190.2.2.2.2.2.2.1, ((p.rdI s190.1 (p.add 0 (p.nat s190.2.2.2.2.2.2.2.2.1)) 0), ((p.rdI s190.1 (p.add 0 (p.nat s190.2.2.2.2.2.2.2.1)) 0), ())))) fun y191 =>
          opt.need _ (p.eqN 0 0) <|
          opt.need _ (p.eqN (p.len s190.1) (p.len s190.1)) <|
          opt.need _ (p.eqN 0 0) <|
          opt.need _ (p.eqN (p.len s190.2.1) (p.len s190.2.1)) <|
          opt.bnd ((List (List (Go.Am.D)) × (List (List (Go.Am.D)) × (Int × (Int × (Int × (Int × (Int × (Int × (Int × (Int × (List (List (Go.Am.D)) × (Int × (Int × Unit)))))))))))))) _ (
            iter (b47_3 p) (s190.1, (s190.2.1, (s190.2.2.1, (s190.2.2.2.1, (s190.2.2.2.2.1, (s190.2.2.2.2.2.1, (y191.1, (y191.2.1, (y191.2.2.1, (y191.2.2.2.1, (s190.2.2.2.2.2.2.1, (s190.2.2.2.2.2.2.2.1, (s190.2.2.2.2.2.2.2.2.1, ((p.ar Go.BinOp.add Go.IntKind.i64 s190.2.2.2.2.2.2.2.1 (1 : Int)), ()))))))))))))))) fun y196 =>
          opt.bnd ((List (List (Go.Am.D)) × (List (List (Go.Am.D)) × (Int × (Int × (Int × (Int × (Int × (Int × (Int × (Int × (List (List (Go.Am.D)) × (Int × (Int × (Bool × Unit))))))))))))))) _ (
            opt.run ((List (List (Go.Am.D)) × (List (List (Go.Am.D)) × (Int × (Int × (Int × (Int × (Int × (Int × (Int × (Int × (List (List (Go.Am.D)) × (Int × (Int × (Bool × Unit))))))))))))))) (
             opt.ask _ (p.cmp Go.BinOp.eql y196.2.2.2.2.2.2.2.2.2.2.2.2.1 (0 : Int)) (
              opt.need _ (p.eqN 0 0) <|
              opt.need _ (p.eqN (p.len y196.1) (p.len y196.1)) <|
              opt.need _ (p.eqN 0 0) <|
              opt.need _ (p.eqN (p.len y196.2.1) (p.len y196.2.1)) <|
              opt.ret _ (y196.1, (y196.2.1, (y196.2.2.1, (y196.2.2.2.1, (y196.2.2.2.2.1, (y196.2.2.2.2.2.1, (y196.2.2.2.2.2.2.1, (y196.2.2.2.2.2.2.2.1, (y196.2.2.2.2.2.2.2.2.1, (y196.2.2.2.2.2.2.2.2.2.1, (y196.2.2.2.2.2.2.2.2.2.2.1, (y196.2.2.2.2.2.2.2.2.2.2.2.1, (y196.2.2.2.2.2.2.2.2.2.2.2.2.1, (Bool.true, ()))))))))))))))) (
              opt.bnd ((Bool × Unit)) _ (G31 p (y196.2.2.1, (y196.2.2.2.1, (y196.2.2.2.2.1, (y196.2.2.2.2.2.1, (y196.2.2.2.2.2.2.1, (y196.2.2.2.2.2.2.2.1, (y196.2.2.2.2.2.2.2.2.1, (y196.2.2.2.2.2.2.2.2.2.1, ()))))))))) fun y197 =>
              opt.need _ (p.eqN 0 0) <|
              opt.need _ (p.eqN (p.len y196.1) (p.len y196.1)) <|
              opt.need _ (p.eqN 0 0) <|
              opt.need _ (p.eqN (p.len y196.2.1) (p.len y196.2.1)) <|
              opt.ret _ (y196.1, (y196.2.1, (y196.2.2.1, (y196.2.2.2.1, (y196.2.2.2.2.1, (y196.2.2.2.2.2.1, (y196.2.2.2.2.2.2.1, (y196.2.2.2.2.2.2.2.1, (y196.2.2.2.2.2.2.2.2.1, (y196.2.2.2.2.2.2.2.2.2.1, (y196.2.2.2.2.2.2.2.2.2.2.1, (y196.2.2.2.2.2.2.2.2.2.2.2.1, (y196.2.2.2.2.2.2.2.2.2.2.2.2.1, (y197.1, ()))))))))))))))))) fun y198 =>
          opt.bnd ((List (List (Go.Am.D)) × (List (List (Go.Am.D)) × (Int × (Int × (Int × (Int × (List (List (Go.Am.D)) × (Int × (Int × Unit)))))))))) _ (
            opt.run ((List (List (Go.Am.D)) × (List (List (Go.Am.D)) × (Int × (Int × (Int × (Int × (List (List (Go.Am.D)) × (Int × (Int × Unit)))))))))) (
             opt.ask _ y198.2.2.2.2.2.2.2.2.2.2.2.2.2.1 (
              opt.need _ (p.eqN 0 0) <|
              opt.need _ (p.eqN (p.len y198.1) (p.len y198.1)) <|
              opt.need _ (p.eqN 0 0) <|
              opt.need _ (p.eqN (p.len y198.2.1) (p.len y198.2.1)) <|
              opt.ret _ (y198.1, (y198.2.1, (y198.2.2.2.2.2.2.1, (y198.2.2.2.2.2.2.2.1, (y198.2.2.2.2.2.2.2.2.1, (y198.2.2.2.2.2.2.2.2.2.1, (y198.2.2.2.2.2.2.2.2.2.2.1, (y198.2.2.2.2.2.2.2.2.2.2.2.1, (y198.2.2.2.2.2.2.2.2.2.2.2.2.1, ())))))))))) (
              opt.need _ (p.eqN 0 0) <|
              opt.need _ (p.eqN (p.len y198.1) (p.len y198.1)) <|
              opt.need _ (p.eqN 0 0) <|
              opt.need _ (p.eqN (p.len y198.2.1) (p.len y198.2.1)) <|
              opt.ret _ (y198.1, (y198.2.1, (y198.2.2.1, (y198.2.2.2.1, (y198.2.2.2.2.1, (y198.2.2.2.2.2.1, (y198.2.2.2.2.2.2.2.2.2.2.1, (y198.2.2.2.2.2.2.2.2.2.2.2.1, (y198.2.2.2.2.2.2.2.2.2.2.2.2.1, ())))))))))))) fun y199 =>
          opt.need _ (p.eqN 0 0) <|
          opt.need _ (p.eqN (p.len y199.1) (p.len y199.1)) <|
          opt.need _ (p.eqN 0 0) <|
          opt.need _ (p.eqN (p.len y199.2.1) (p.len y199.2.1)) <|
          opt.ret _ (Sum.inl (y199.1, (y199.2.1, (y199.2.2.1, (y199.2.2.2.1, (y199.2.2.2.2.1, (y199.2.2.2.2.2.1, (y199.2.2.2.2.2.2.1, (y199.2.2.2.2.2.2.2.1, ((p.ar Go.BinOp.add Go.IntKind.i64 y199.2.2.2.2.2.2.2.2.1 (1 : Int)), ()))))))))))) (
          opt.need _ (p.eqN 0 0) <|
          opt.need _ (p.eqN (p.len s190.1) (p.len s190.1)) <|
          opt.need _ (p.eqN 0 0) <|
          opt.need _ (p.eqN (p.len s190.2.1) (p.len s190.2.1)) <|
          opt.ret _ (Sum.inr (s190.1, (s190.2.1, (s190.2.2.1, (s190.2.2.2.1, (s190.2.2.2.2.1, (s190.2.2.2.2.2.1, (s190.2.2.2.2.2.2.1, (s190.2.2.2.2.2.2.2.1, ())))))))))))
noncomputable def b47_1 (p : Prim) : (List (List (Go.Am.D)) × (List (List (Go.Am.D)) × (List (List (Go.Am.D)) × (Int × Unit)))) → Option ((List (List (Go.Am.D)) × (List (List (Go.Am.D)) × (List (List (Go.Am.D)) × (Int × Unit)))) ⊕ (List (List (Go.Am.D)) × Unit)) :=
  fun s189 => opt.run _ (
     opt.ask _ (p.cmp Go.BinOp.lss s189.2.2.2.1 (p.ofNat (p.len s189.1))) (
      opt.need _ (p.eqN 0 0) <|
      opt.need _ (p.eqN (p.len s189.1) (p.len s189.1)) <|
      opt.need _ (p.eqN 0 0) <|
      opt.need _ (p.eqN (p.len s189.2.1) (p.len s189.2.1)) <|
      opt.bnd ((List (List (Go.Am.D)) × (List (List (Go.Am.D)) × (Int × (Int × (Int × (Int × (List (List (Go.Am.D)) × (Int × Unit))))))))) _ (
        iter (b47_2 p) (s189.1, (s189.2.1, ((0 : Int), ((0 : Int), ((0 : Int), ((0 : Int), (s189.2.2.1, (s189.2.2.2.1, ((0 : Int), ())))))))))) fun y200 =>
      opt.need _ (p.and (p.leN (p.add 0 1) (p.len [[(Go.Am.D.int Go.IntKind.i64 y200.2.2.1), (Go.Am.D.int Go.IntKind.i64 y200.2.2.2.1), (Go.Am.D.int Go.IntKind.i64 y200.2.2.2.2.1), (Go.Am.D.int Go.IntKind.i64 y200.2.2.2.2.2.1)]])) (p.and (p.leN (p.add 0 (p.len y200.2.1)) (p.len y200.2.1)) (p.and (p.leN 1 1) (p.leN (p.add (p.len y200.2.1) 1) 1000000)))) <|
      opt.need _ (p.eqN 0 0) <|
      opt.need _ (p.eqN (p.len y200.1) (p.len y200.1)) <|
      opt.need _ (p.eqN 0 0) <|
      opt.need _ (p.eqN (p.add (p.len y200.2.1) 1) (p.len (p.app (p.cut y200.2.1 0 (p.len y200.2.1)) (p.cut [[(Go.Am.D.int Go.IntKind.i64 y200.2.2.1), (Go.Am.D.int Go.IntKind.i64 y200.2.2.2.1), (Go.Am.D.int Go.IntKind.i64 y200.2.2.2.2.1), (Go.Am.D.int Go.IntKind.i64 y200.2.2.2.2.2.1)]] 0 1)))) <|
      opt.ret _ (Sum.inl (y200.1, ((p.app (p.cut y200.2.1 0 (p.len y200.2.1)) (p.cut [[(Go.Am.D.int Go.IntKind.i64 y200.2.2.1), (Go.Am.D.int Go.IntKind.i64 y200.2.2.2.1), (Go.Am.D.int Go.IntKind.i64 y200.2.2.2.2.1), (Go.Am.D.int Go.IntKind.i64 y200.2.2.2.2.2.1)]] 0 1)), (y200.2.2.2.2.2.2.1, ((p.ar Go.BinOp.add Go.IntKind.i64 y200.2.2.2.2.2.2.2.1 (1 : Int)), ())))))) (
      opt.need _ (p.eqN 0 0) <|
      opt.need _ (p.eqN (p.len s189.2.1) (p.len s189.2.1)) <|
      opt.ret _ (Sum.inr (s189.2.1, ()))))
noncomputable def G47 : (p : Prim) → (List (List (Go.Am.D)) × Unit) → Option ((List (List (Go.Am.D)) × Unit)) :=
  fun p x =>
  opt.bnd ((List (List (Go.Am.D)) × Unit)) _ (G28 p (x.1, ())) fun y188 =>
  opt.need _ (p.eqN 0 0) <|
  opt.need _ (p.eqN (p.len y188.1) (p.len y188.1)) <|
  opt.bnd ((List (List (Go.Am.D)) × Unit)) _ (
    iter (b47_1 p) (y188.1, ([], (x.1, ((0 : Int), ()))))) fun y201 =>
  opt.need _ (p.eqN 0 0) <|
  opt.need _ (p.eqN (p.len y201.1) (p.len y201.1)) <|
  opt.ret _ (y201.1, ())
noncomputable def F47 : Prim → Tup (ctr47).scs → Option (STup (scss (ctr47).outs)) :=
  fun p x => G47 p x
theorem eq47 (p : Prim) (x : Tup (ctr47).scs) : bodyRun opt p (autoEnv Go.Proofs.Try.prog) (mkOrc opt p (autoEnv Go.Proofs.Try.prog) 400 (an47) la47) 400 ctr47 x = G47 p x := by kernel_rfl
theorem gok47 : GamOk Go.Proofs.Try.prog (gam47) := by
  intro cf h
  simp only [gam47, List.mem_cons, List.not_mem_nil, or_false] at h
  rcases h with rfl | rfl | rfl
  · exact ok31
  · exact ok30
  · exact ok28
theorem enters47 : Enters Go.Proofs.Try.prog 47 := enters_auto (b := _) rfl (by kernel_rfl)
theorem ok47 : CtrOk Go.Proofs.Try.prog ctr47 (F47 std) := ctr_of_body (autoEnv_ok follows_mixed) (mkOrc_ok (autoEnv_ok follows_mixed) gok47 _) enters47 (fun x => eq47 std x)
noncomputable def ctr40 : Ctr :=
  ⟨40, [.list 3], [], [(.ret, ⟨[(0, .vec 0 4)], [.row [(Go.Am.CK.int Go.IntKind.i64), (Go.Am.CK.int Go.IntKind.i64), (Go.Am.CK.int Go.IntKind.i64), (Go.Am.CK.int Go.IntKind.i64)]], 1⟩)]⟩
noncomputable def la40 : List LA :=
  [⟨40, [false, true, false, true, true, true, true], ⟨⟨[(0, .list 3), (3, .vec 0 1), (4, .vec 1 4), (5, .vec 2 4), (6, .int Go.IntKind.i64), (7, .int Go.IntKind.i64)], [.row [(Go.Am.CK.int Go.IntKind.i64)], .row [(Go.Am.CK.int Go.IntKind.i64), (Go.Am.CK.int Go.IntKind.i64), (Go.Am.CK.int Go.IntKind.i64), (Go.Am.CK.int Go.IntKind.i64)], .row [(Go.Am.CK.int Go.IntKind.i64), (Go.Am.CK.int Go.IntKind.i64), (Go.Am.CK.int Go.IntKind.i64), (Go.Am.CK.int Go.IntKind.i64)]], 51⟩, [((Go.Am.AX.exit 0), ⟨[(5, .vec 0 4)], [.row [(Go.Am.CK.int Go.IntKind.i64), (Go.Am.CK.int Go.IntKind.i64), (Go.Am.CK.int Go.IntKind.i64), (Go.Am.CK.int Go.IntKind.i64)]], 51⟩)]⟩⟩]
noncomputable def ja40 : List JA :=
  [⟨40, [true, false, false, true, false, false, true, false, true, true, true, true], [(Go.Am.AX.normal, ⟨[(0, .list 3), (3, .vec 0 1), (4, .vec 1 4), (5, .vec 2 4), (6, .int Go.IntKind.i64), (7, .int Go.IntKind.i64)], [.row [(Go.Am.CK.int Go.IntKind.i64)], .row [(Go.Am.CK.int Go.IntKind.i64), (Go.Am.CK.int Go.IntKind.i64), (Go.Am.CK.int Go.IntKind.i64), (Go.Am.CK.int Go.IntKind.i64)], .row [(Go.Am.CK.int Go.IntKind.i64), (Go.Am.CK.int Go.IntKind.i64), (Go.Am.CK.int Go.IntKind.i64), (Go.Am.CK.int Go.IntKind.i64)]], 51⟩)]⟩,
   ⟨40, [false, true, false, false, true, false, true, true, true, true], [(Go.Am.AX.normal, ⟨[(0, .list 3), (3, .vec 0 1), (4, .vec 1 4), (5, .vec 2 4), (6, .int Go.IntKind.i64), (7, .int Go.IntKind.i64)], [.row [(Go.Am.CK.int Go.IntKind.i64)], .row [(Go.Am.CK.int Go.IntKind.i64), (Go.Am.CK.int Go.IntKind.i64), (Go.Am.CK.int Go.IntKind.i64), (Go.Am.CK.int Go.IntKind.i64)], .row [(Go.Am.CK.int Go.IntKind.i64), (Go.Am.CK.int Go.IntKind.i64), (Go.Am.CK.int Go.IntKind.i64), (Go.Am.CK.int Go.IntKind.i64)]], 51⟩)]⟩]
noncomputable def gam40 : List CF :=
  [⟨ctr31, F31⟩, ⟨ctr30, F30⟩, ⟨ctr47, F47⟩, ⟨ctr28, F28⟩]
noncomputable def an40 : Anns :=
  ⟨gam40, ja40, []⟩
noncomputable def b40_1 (p : Prim) : (List (List (Go.Am.D)) × (List (List (Go.Am.D)) × (List (List (Go.Am.D)) × (List (List (Go.Am.D)) × (Int × (Int × Unit)))))) → Option ((List (List (Go.Am.D)) × (List (List (Go.Am.D)) × (List (List (Go.Am.D)) × (List (List (Go.Am.D)) × (Int × (Int × Unit)))))) ⊕ (List (List (Go.Am.D)) × Unit)) :=
  fun s232 => opt.run _ (
     opt.ask _ (p.cmp Go.BinOp.lss s232.2.2.2.2.2.1 (p.ofNat (p.len s232.1))) (
      opt.bnd ((List (List (Go.Am.D)) × (List (List (Go.Am.D)) × (List (List (Go.Am.D)) × (List (List (Go.Am.D)) × (Int × (Int × Unit))))))) _ (
        opt.run ((List (List (Go.Am.D)) × (List (List (Go.Am.D)) × (List (List (Go.Am.D)) × (List (List (Go.Am.D)) × (Int × (Int × Unit))))))) (
         opt.ask _ (p.cmp Go.BinOp.eql (p.ar Go.BinOp.add Go.IntKind.i64 s232.2.2.2.2.2.1 (1 : Int)) (p.ofNat (p.len s232.1))) (
          opt.bnd ((List (List (Go.Am.D)) × (List (List (Go.Am.D)) × (List (List (Go.Am.D)) × (List (List (Go.Am.D)) × (Int × (Int × Unit))))))) _ (
            opt.run ((List (List (Go.Am.D)) × (List (List (Go.Am.D)) × (List (List (Go.Am.D)) × (List (List (Go.Am.D)) × (Int × (Int × Unit))))))) (
             opt.need _ (bif (p.cmp Go.BinOp.geq s232.2.2.2.2.1 (0 : Int)) then (p.cmp Go.BinOp.lss s232.2.2.2.2.1 (p.ofNat (p.len s232.1))) else Bool.false) <|
             opt.need _ (p.rowOk s232.1 (p.add 0 (p.nat s232.2.2.2.2.1)) [(Go.Am.CK.int Go.IntKind.i64)]) <|
             opt.need _ (bif (p.cmp Go.BinOp.geq s232.2.2.2.2.2.1 (0 : Int)) then (p.cmp Go.BinOp.lss s232.2.2.2.2.2.1 (p.ofNat (p.len s232.1))) else Bool.false) <|
             opt.need _ (p.rowOk s232.1 (p.add 0 (p.nat s232.2.2.2.2.2.1)) [(Go.Am.CK.int Go.IntKind.i64)]) <|
             opt.bnd ((Int × (Int × (Int × (Int × Unit))))) _ (G30 p (s232.2.2.2.1, ((p.rdI s232.1 (p.add 0 (p.nat s232.2.2.2.2.1)) 0), ((p.rdI s232.1 (p.add 0 (p.nat s232.2.2.2.2.2.1)) 0), ())))) fun y233 =>
             opt.need _ (p.and (p.leN (p.add 0 1) (p.len [[(Go.Am.D.int Go.IntKind.i64 y233.1), (Go.Am.D.int Go.IntKind.i64 y233.2.1), (Go.Am.D.int Go.IntKind.i64 y233.2.2.1), (Go.Am.D.int Go.IntKind.i64 y233.2.2.2.1)]])) (p.and (p.leN (p.add 0 (p.len s232.2.2.1)) (p.len s232.2.2.1)) (p.and (p.leN 1 1) (p.leN (p.add (p.len s232.2.2.1) 1) 1000000)))) <|
             opt.need _ (p.eqN 0 0) <|
             opt.need _ (p.eqN (p.len s232.1) (p.len s232.1)) <|
             opt.need _ (p.eqN 0 0) <|
             opt.need _ (p.eqN (p.len s232.2.1) (p.len s232.2.1)) <|
             opt.need _ (p.eqN 0 0) <|
             opt.need _ (p.eqN (p.add (p.len s232.2.2.1) 1) (p.len (p.app (p.cut s232.2.2.1 0 (p.len s232.2.2.1)) (p.cut [[(Go.Am.D.int Go.IntKind.i64 y233.1), (Go.Am.D.int Go.IntKind.i64 y233.2.1), (Go.Am.D.int Go.IntKind.i64 y233.2.2.1), (Go.Am.D.int Go.IntKind.i64 y233.2.2.2.1)]] 0 1)))) <|
             opt.ret _ (s232.1, (s232.2.1, ((p.app (p.cut s232.2.2.1 0 (p.len s232.2.2.1)) (p.cut [[(Go.Am.D.int Go.IntKind.i64 y233.1), (Go.Am.D.int Go.IntKind.i64 y233.2.1), (Go.Am.D.int Go.IntKind.i64 y233.2.2.1), (Go.Am.D.int Go.IntKind.i64 y233.2.2.2.1)]] 0 1)), (s232.2.2.2.1, ((p.ar Go.BinOp.add Go.IntKind.i64 s232.2.2.2.2.2.1 (1 : Int)), (s232.2.2.2.2.2.1, ())))))))) fun y234 =>
          opt.need _ (p.eqN 0 0) <|
          opt.need _ (p.eqN (p.len y234.1) (p.len y234.1)) <|
          opt.need _ (p.eqN 0 0) <|
          opt.need _ (p.eqN (p.len y234.2.1) (p.len y234.2.1)) <|
          opt.need _ (p.eqN 0 0) <|
          opt.need _ (p.eqN (p.len y234.2.2.1) (p.len y234.2.2.1)) <|
          opt.ret _ (y234.1, (y234.2.1, (y234.2.2.1, (y234.2.2.2.1, (y234.2.2.2.2.1, (y234.2.2.2.2.2.1, ()))))))) (
          opt.need _ (bif (p.cmp Go.BinOp.geq s232.2.2.2.2.2.1 (0 : Int)) then (p.cmp Go.BinOp.lss s232.2.2.2.2.2.1 (p.ofNat (p.len s232.2.1))) else Bool.false) <|
          opt.need _ (p.rowOk s232.2.1 (p.add 0 (p.nat s232.2.2.2.2.2.1)) [(Go.Am.CK.int Go.IntKind.i64), (Go.Am.CK.int Go.IntKind.i64), (Go.Am.CK.int Go.IntKind.i64), (Go.Am.CK.int Go.IntKind.i64)]) <|
          opt.need _ (bif (p.cmp Go.BinOp.geq (p.ar Go.BinOp.add Go.IntKind.i64 s232.2.2.2.2.2.1 (1 : Int)) (0 : Int)) then (p.cmp Go.BinOp.lss (p.ar Go.BinOp.add Go.IntKind.i64 s232.2.2.2.2.2.1 (1 : Int)) (p.ofNat (p.len s232.2.1))) else Bool.false) <|
          opt.need _ (p.rowOk s232.2.1 (p.add 0 (p.nat (p.ar Go.BinOp.add Go.IntKind.i64 s232.2.2.2.2.2.1 (1 : Int)))) [(Go.Am.CK.int Go.IntKind.i64), (Go.Am.CK.int Go.IntKind.i64), (Go.Am.CK.int Go.IntKind.i64), (Go.Am.CK.int Go.IntKind.i64)]) <|
          opt.bnd ((Bool × Unit)) _ (G31 p ((p.rdI s232.2.1 (p.add 0 (p.nat s232.2.2.2.2.2.1)) 0), ((p.rdI s232.2.1 (p.add 0 (p.nat s232.2.2.2.2.2.1)) 1), ((p.rdI s232.2.1 (p.add 0 (p.nat s232.2.2.2.2.2.1)) 2), ((p.rdI s232.2.1 (p.add 0 (p.nat s232.2.2.2.2.2.1)) 3), ((p.rdI s232.2.1 (p.add 0 (p.nat (p.ar Go.BinOp.add Go.IntKind.i64 s232.2.2.2.2.2.1 (1 : Int)))) 0), ((p.rdI s232.2.1 (p.add 0 (p.nat (p.ar Go.BinOp.add Go.IntKind.i64 s232.2.2.2.2.2.1 (1 : Int)))) 1), ((p.rdI s232.2.1 (p.add 0 (p.nat (p.ar Go.BinOp.add Go.IntKind.i64 s232.2.2.2.2.2.1 (1 : Int)))) 2), ((p.rdI s232.2.1 (p.add 0 (p.nat (p.ar Go.BinOp.add Go.IntKind.i64 s232.2.2.2.2.2.1 (1 : Int)))) 3), ()))))))))) fun y235 =>
          opt.bnd ((List (List (Go.Am.D)) × (List (List (Go.Am.D)) × (List (List (Go.Am.D)) × (List (List (Go.Am.D)) × (Int × (Int × Unit))))))) _ (
            opt.run ((List (List (Go.Am.D)) × (List (List (Go.Am.D)) × (List (List (Go.Am.D)) × (List (List (Go.Am.D)) × (Int × (Int × Unit))))))) (
             opt.ask _ y235.1 (
              opt.need _ (bif (p.cmp Go.BinOp.geq s232.2.2.2.2.1 (0 : Int)) then (p.cmp Go.BinOp.lss s232.2.2.2.2.1 (p.ofNat (p.len s232.1))) else Bool.false) <|
              opt.need _ (p.rowOk s232.1 (p.add 0 (p.nat s232.2.2.2.2.1)) [(Go.Am.CK.int Go.IntKind.i64)]) <|
              opt.need _ (bif (p.cmp Go.BinOp.geq s232.2.2.2.2.2.1 (0 : Int)) then (p.cmp Go.BinOp.lss s232.2.2.2.2.2.1 (p.ofNat (p.len s232.1))) else Bool.false) <|
              opt.need _ (p.rowOk s232.1 (p.add 0 (p.nat s232.2.2.2.2.2.1)) [(Go.Am.CK.int Go.IntKind.i64)]) <|
              opt.bnd ((Int × (Int × (Int × (Int × Unit))))) _ (G30 p (s232.2.2.2.1, ((p.rdI s232.1 (p.add 0 (p.nat s232.2.2.2.2.1)) 0), ((p.rdI s232.1 (p.add 0 (p.nat s232.2.2.2.2.2.1)) 0), ())))) fun y236 =>
              opt.need _ (p.and (p.leN (p.add 0 1) (p.len [[(Go.Am.D.int Go.IntKind.i64 y236.1), (Go.Am.D.int Go.IntKind.i64 y236.2.1), (Go.Am.D.int Go.IntKind.i64 y236.2.2.1), (Go.Am.D.int Go.IntKind.i64 y236.2.2.2.1)]])) (p.and (p.leN (p.add 0 (p.len s232.2.2.1)) (p.len s232.2.2.1)) (p.and (p.leN 1 1) (p.leN (p.add (p.len s232.2.2.1) 1) 1000000)))) <|
              opt.need _ (p.eqN 0 0) <|
              opt.need _ (p.eqN (p.len s232.1) (p.len s232.1)) <|
              opt.need _ (p.eqN 0 0) <|
              opt.need _ (p.eqN (p.len s232.2.1) (p.len s232.2.1)) <|
              opt.need _ (p.eqN 0 0) <|
              opt.need _ (p.eqN (p.add (p.len s232.2.2.1) 1) (p.len (p.app (p.cut s232.2.2.1 0 (p.len s232.2.2.1)) (p.cut [[(Go.Am.D.int Go.IntKind.i64 y236.1), (Go.Am.D.int Go.IntKind.i64 y236.2.1), (Go.Am.D.int Go.IntKind.i64 y236.2.2.1), (Go.Am.D.int Go.IntKind.i64 y236.2.2.2.1)]] 0 1)))) <|
              opt.ret _ (s232.1, (s232.2.1, ((p.app (p.cut s232.2.2.1 0 (p.len s232.2.2.1)) (p.cut [[(Go.Am.D.int Go.IntKind.i64 y236.1), (Go.Am.D.int Go.IntKind.i64 y236.2.1), (Go.Am.D.int Go.IntKind.i64 y236.2.2.1), (Go.Am.D.int Go.IntKind.i64 y236.2.2.2.1)]] 0 1)), (s232.2.2.2.1, ((p.ar Go.BinOp.add Go.IntKind.i64 s232.2.2.2.2.2.1 (1 : Int)), (s232.2.2.2.2.2.1, ()))))))) (
              opt.need _ (p.eqN 0 0) <|
              opt.need _ (p.eqN (p.len s232.1) (p.len s232.1)) <|
              opt.need _ (p.eqN 0 0) <|
              opt.need _ (p.eqN (p.len s232.2.1) (p.len s232.2.1)) <|
              opt.need _ (p.eqN 0 0) <|
              opt.need _ (p.eqN (p.len s232.2.2.1) (p.len s232.2.2.1)) <|
              opt.ret _ (s232.1, (s232.2.1, (s232.2.2.1, (s232.2.2.2.1, (s232.2.2.2.2.1, (s232.2.2.2.2.2.1, ()))))))))) fun y237 =>
          opt.need _ (p.eqN 0 0) <|
          opt.need _ (p.eqN (p.len y237.1) (p.len y237.1)) <|
          opt.need _ (p.eqN 0 0) <|
          opt.need _ (p.eqN (p.len y237.2.1) (p.len y237.2.1)) <|
          opt.need _ (p.eqN 0 0) <|
          opt.need _ (p.eqN (p.len y237.2.2.1) (p.len y237.2.2.1)) <|
          opt.ret _ (y237.1, (y237.2.1, (y237.2.2.1, (y237.2.2.2.1, (y237.2.2.2.2.1, (y237.2.2.2.2.2.1, ()))))))))) fun y238 =>
      opt.need _ (p.eqN 0 0) <|
      opt.need _ (p.eqN (p.len y238.1) (p.len y238.1)) <|
      opt.need _ (p.eqN 0 0) <|
      opt.need _ (p.eqN (p.len y238.2.1) (p.len y238.2.1)) <|
      opt.need _ (p.eqN 0 0) <|
      opt.need _ (p.eqN (p.len y238.2.2.1) (p.len y238.2.2.1)) <|
      opt.ret _ (Sum.inl (y238.1, (y238.2.1, (y238.2.2.1, (y238.2.2.2.1, (y238.2.2.2.2.1, ((p.ar Go.BinOp.add Go.IntKind.i64 y238.2.2.2.2.2.1 (1 : Int)), ())))))))) (
      opt.need _ (p.eqN 0 0) <|
      opt.need _ (p.eqN (p.len s232.2.2.1) (p.len s232.2.2.1)) <|
      opt.ret _ (Sum.inr (s232.2.2.1, ()))))
noncomputable def G40 : (p : Prim) → (List (List (Go.Am.D)) × Unit) → Option ((List (List (Go.Am.D)) × Unit)) :=
  fun p x =>
  opt.bnd ((List (List (Go.Am.D)) × Unit)) _ (G28 p (x.1, ())) fun y230 =>
  opt.bnd ((List (List (Go.Am.D)) × Unit)) _ (G47 p (x.1, ())) fun y231 =>
  opt.need _ (p.eqN 0 0) <|
  opt.need _ (p.eqN (p.len y230.1) (p.len y230.1)) <|
  opt.need _ (p.eqN 0 0) <|
  opt.need _ (p.eqN (p.len y231.1) (p.len y231.1)) <|
  opt.bnd ((List (List (Go.Am.D)) × Unit)) _ (
    iter (b40_1 p) (y230.1, (y231.1, ([], (x.1, ((0 : Int), ((0 : Int), ()))))))) fun y239 =>
  opt.need _ (p.eqN 0 0) <|
  opt.need _ (p.eqN (p.len y239.1) (p.len y239.1)) <|
  opt.ret _ (y239.1, ())
noncomputable def F40 : Prim → Tup (ctr40).scs → Option (STup (scss (ctr40).outs)) :=
  fun p x => G40 p x
theorem eq40 (p : Prim) (x : Tup (ctr40).scs) : bodyRun opt p (autoEnv Go.Proofs.Try.prog) (mkOrc opt p (autoEnv Go.Proofs.Try.prog) 400 (an40) la40) 400 ctr40 x = G40 p x := by kernel_rfl
theorem gok40 : GamOk Go.Proofs.Try.prog (gam40) := by
  intro cf h
  simp only [gam40, List.mem_cons, List.not_mem_nil, or_false] at h
  rcases h with rfl | rfl | rfl | rfl
  · exact ok31
  · exact ok30
  · exact ok47
  · exact ok28
theorem enters40 : Enters Go.Proofs.Try.prog 40 := enters_auto (b := _) rfl (by kernel_rfl)
theorem ok40 : CtrOk Go.Proofs.Try.prog ctr40 (F40 std) := ctr_of_body (autoEnv_ok follows_mixed) (mkOrc_ok (autoEnv_ok follows_mixed) gok40 _) enters40 (fun x => eq40 std x)
noncomputable def ctr15 : Ctr :=
  ⟨15, [.list 3], [], [(.ret, ⟨[(0, .tuple [.vec 0 4, .int Go.IntKind.i64])], [.row [(Go.Am.CK.int Go.IntKind.i64), (Go.Am.CK.int Go.IntKind.i64), (Go.Am.CK.int Go.IntKind.i64), (Go.Am.CK.int Go.IntKind.i64)]], 1⟩)]⟩
noncomputable def la15 : List LA :=
  []
noncomputable def ja15 : List JA :=
  []
noncomputable def gam15 : List CF :=
  [⟨ctr40, F40⟩, ⟨ctr17, F17⟩]
noncomputable def an15 : Anns :=
  ⟨gam15, ja15, []⟩
noncomputable def G15 : (p : Prim) → (List (List (Go.Am.D)) × Unit) → Option ((List (List (Go.Am.D)) × (Int × Unit))) :=
  fun p x =>
  opt.bnd ((Int × Unit)) _ (G17 p (x.1, ())) fun y244 =>
  opt.ask _ (p.cmp Go.BinOp.neq y244.1 (0 : Int)) (
   opt.bnd ((Int × Unit)) _ (G17 p (x.1, ())) fun y245 =>
   opt.ret _ ([], (y245.1, ()))) (
   opt.bnd ((List (List (Go.Am.D)) × Unit)) _ (G40 p (x.1, ())) fun y246 =>
   opt.need _ (p.eqN 0 0) <|
   opt.need _ (p.eqN (p.len y246.1) (p.len y246.1)) <|
   opt.ret _ (y246.1, ((0 : Int), ())))
noncomputable def F15 : Prim → Tup (ctr15).scs → Option (STup (scss (ctr15).outs)) :=
  fun p x => G15 p x
theorem eq15 (p : Prim) (x : Tup (ctr15).scs) : bodyRun opt p (autoEnv Go.Proofs.Try.prog) (mkOrc opt p (autoEnv Go.Proofs.Try.prog) 400 (an15) la15) 400 ctr15 x = G15 p x := by kernel_rfl
theorem gok15 : GamOk Go.Proofs.Try.prog (gam15) := by
  intro cf h
  simp only [gam15, List.mem_cons, List.not_mem_nil, or_false] at h
  rcases h with rfl | rfl
  · exact ok40
  · exact ok17
theorem enters15 : Enters Go.Proofs.Try.prog 15 := enters_auto (b := _) rfl (by kernel_rfl)
theorem ok15 : CtrOk Go.Proofs.Try.prog ctr15 (F15 std) := ctr_of_body (autoEnv_ok follows_mixed) (mkOrc_ok (autoEnv_ok follows_mixed) gok15 _) enters15 (fun x => eq15 std x)
noncomputable def ctr22 : Ctr :=
  ⟨22, [.list 3, .int Go.IntKind.i64], [], [(.ret, ⟨[(0, .tuple [.agg [.int Go.IntKind.i64, .int Go.IntKind.i64], .int Go.IntKind.i64])], [], 1⟩)]⟩
noncomputable def la22 : List LA :=
  [⟨22, [false, false, true, true, true, true, true, true], ⟨⟨[(1, .int Go.IntKind.i64), (4, .bptr 0 0), (6, .vec 1 1), (7, .vec 2 4), (8, .int Go.IntKind.i64)], [.box [.int Go.IntKind.i64, .int Go.IntKind.i64], .row [(Go.Am.CK.int Go.IntKind.i64)], .row [(Go.Am.CK.int Go.IntKind.i64), (Go.Am.CK.int Go.IntKind.i64), (Go.Am.CK.int Go.IntKind.i64), (Go.Am.CK.int Go.IntKind.i64)]], 56⟩, [((Go.Am.AX.exit 0), ⟨[(4, .bptr 0 0), (7, .vec 1 4), (8, .int Go.IntKind.i64)], [.box [.int Go.IntKind.i64, .int Go.IntKind.i64], .row [(Go.Am.CK.int Go.IntKind.i64), (Go.Am.CK.int Go.IntKind.i64), (Go.Am.CK.int Go.IntKind.i64), (Go.Am.CK.int Go.IntKind.i64)]], 56⟩)]⟩⟩]
noncomputable def ja22 : List JA :=
  [⟨22, [false, false, false, false, false, true, true, true, true, true, true], [(Go.Am.AX.normal, ⟨[(1, .int Go.IntKind.i64), (4, .bptr 0 0), (6, .vec 1 1), (7, .vec 2 4), (8, .int Go.IntKind.i64), (42, .bool)], [.box [.int Go.IntKind.i64, .int Go.IntKind.i64], .row [(Go.Am.CK.int Go.IntKind.i64)], .row [(Go.Am.CK.int Go.IntKind.i64), (Go.Am.CK.int Go.IntKind.i64), (Go.Am.CK.int Go.IntKind.i64), (Go.Am.CK.int Go.IntKind.i64)]], 56⟩)]⟩,
   ⟨42, [false, true], [(Go.Am.AX.normal, ⟨[(6, .bool)], [.box [.int Go.IntKind.i64, .int Go.IntKind.i64]], 15⟩)]⟩]
noncomputable def gam22 : List CF :=
  [⟨ctr32, F32⟩, ⟨ctr47, F47⟩, ⟨ctr28, F28⟩, ⟨ctr17, F17⟩]
noncomputable def an22 : Anns :=
  ⟨gam22, ja22, []⟩
noncomputable def b22_1 (p : Prim) : (List (List (Go.Am.D)) × (List (List (Go.Am.D)) × (Int × (Int × (Int × (Int × Unit)))))) → Option ((List (List (Go.Am.D)) × (List (List (Go.Am.D)) × (Int × (Int × (Int × (Int × Unit)))))) ⊕ (List (List (Go.Am.D)) × (Int × (Int × (Int × Unit))))) :=
  fun s276 => opt.run _ (
        opt.bnd ((List (List (Go.Am.D)) × (List (List (Go.Am.D)) × (Int × (Int × (Int × (Int × (Bool × Unit)))))))) _ (
          opt.run ((List (List (Go.Am.D)) × (List (List (Go.Am.D)) × (Int × (Int × (Int × (Int × (Bool × Unit)))))))) (
           opt.ask _ (p.cmp Go.BinOp.lss (p.ar Go.BinOp.add Go.IntKind.i64 s276.2.2.2.2.2.1 (1 : Int)) (p.ofNat (p.len s276.1))) (
            opt.need _ (bif (p.cmp Go.BinOp.geq (p.ar Go.BinOp.add Go.IntKind.i64 s276.2.2.2.2.2.1 (1 : Int)) (0 : Int)) then (p.cmp Go.BinOp.lss (p.ar Go.BinOp.add Go.IntKind.i64 s276.2.2.2.2.2.1 (1 : Int)) (p.ofNat (p.len s276.1))) else Bool.false) <|
            opt.need _ (p.rowOk s276.1 (p.add 0 (p.nat (p.ar Go.BinOp.add Go.IntKind.i64 s276.2.2.2.2.2.1 (1 : Int)))) [(Go.Am.CK.int Go.IntKind.i64)]) <|
            opt.need _ (p.eqN 0 0) <|
            opt.need _ (p.eqN (p.len s276.1) (p.len s276.1)) <|
            opt.need _ (p.eqN 0 0) <|
            opt.need _ (p.eqN (p.len s276.2.1) (p.len s276.2.1)) <|
            opt.ret _ (s276.1, (s276.2.1, (s276.2.2.1, (s276.2.2.2.1, (s276.2.2.2.2.1, (s276.2.2.2.2.2.1, ((p.cmp Go.BinOp.leq (p.rdI s276.1 (p.add 0 (p.nat (p.ar Go.BinOp.add Go.IntKind.i64 s276.2.2.2.2.2.1 (1 : Int)))) 0) s276.2.2.2.2.1), ())))))))) (
            opt.need _ (p.eqN 0 0) <|
            opt.need _ (p.eqN (p.len s276.1) (p.len s276.1)) <|
            opt.need _ (p.eqN 0 0) <|
            opt.need _ (p.eqN (p.len s276.2.1) (p.len s276.2.1)) <|
            opt.ret _ (s276.1, (s276.2.1, (s276.2.2.1, (s276.2.2.2.1, (s276.2.2.2.2.1, (s276.2.2.2.2.2.1, (Bool.false, ())))))))))) fun y277 =>
        opt.ask _ y277.2.2.2.2.2.2.1 (
         opt.need _ (p.eqN 0 0) <|
         opt.need _ (p.eqN (p.len y277.1) (p.len y277.1)) <|
         opt.need _ (p.eqN 0 0) <|
         opt.need _ (p.eqN (p.len y277.2.1) (p.len y277.2.1)) <|
         opt.ret _ (Sum.inl (y277.1, (y277.2.1, (y277.2.2.1, (y277.2.2.2.1, (y277.2.2.2.2.1, ((p.ar Go.BinOp.add Go.IntKind.i64 y277.2.2.2.2.2.1 (1 : Int)), ())))))))) (
         opt.need _ (p.eqN 0 0) <|
         opt.need _ (p.eqN (p.len y277.2.1) (p.len y277.2.1)) <|
         opt.ret _ (Sum.inr (y277.2.1, (y277.2.2.1, (y277.2.2.2.1, (y277.2.2.2.2.2.1, ())))))))
noncomputable def G22 : (p : Prim) → (List (List (Go.Am.D)) × (Int × Unit)) → Option ((Int × (Int × (Int × Unit)))) :=
  fun p x =>
  opt.bnd ((Int × Unit)) _ (G17 p (x.1, ())) fun y271 =>
  opt.ask _ (p.cmp Go.BinOp.neq y271.1 (0 : Int)) (
   opt.bnd ((Int × Unit)) _ (G17 p (x.1, ())) fun y272 =>
   opt.ret _ ((0 : Int), ((0 : Int), (y272.1, ())))) (
   opt.bnd ((Int × (Int × (Bool × Unit)))) _ (
     opt.run ((Int × (Int × (Bool × Unit)))) (
      opt.ask _ (p.cmp Go.BinOp.geq x.2.1 (0 : Int)) (
       opt.ret _ ((0 : Int), ((0 : Int), ((p.cmp Go.BinOp.leq x.2.1 (10000 : Int)), ())))) (
       opt.ret _ ((0 : Int), ((0 : Int), (Bool.false, ())))))) fun y273 =>
   opt.ask _ (bif y273.2.2.1 then Bool.false else Bool.true) (
    opt.ret _ ((0 : Int), ((0 : Int), ((3 : Int), ())))) (
    opt.bnd ((List (List (Go.Am.D)) × Unit)) _ (G28 p (x.1, ())) fun y274 =>
    opt.bnd ((List (List (Go.Am.D)) × Unit)) _ (G47 p (x.1, ())) fun y275 =>
    opt.need _ (bif (p.cmp Go.BinOp.geq (0 : Int) (0 : Int)) then (p.cmp Go.BinOp.lss (0 : Int) (p.ofNat (p.len y274.1))) else Bool.false) <|
    opt.need _ (p.rowOk y274.1 (p.add 0 (p.nat (0 : Int))) [(Go.Am.CK.int Go.IntKind.i64)]) <|
    opt.ask _ (p.cmp Go.BinOp.lss x.2.1 (p.rdI y274.1 (p.add 0 (p.nat (0 : Int))) 0)) (
     opt.ret _ ((0 : Int), ((0 : Int), ((5 : Int), ())))) (
     opt.need _ (p.eqN 0 0) <|
     opt.need _ (p.eqN (p.len y274.1) (p.len y274.1)) <|
     opt.need _ (p.eqN 0 0) <|
     opt.need _ (p.eqN (p.len y275.1) (p.len y275.1)) <|
     opt.bnd ((List (List (Go.Am.D)) × (Int × (Int × (Int × Unit))))) _ (
       iter (b22_1 p) (y274.1, (y275.1, (y273.1, (y273.2.1, (x.2.1, ((0 : Int), ()))))))) fun y278 =>
     opt.need _ (bif (p.cmp Go.BinOp.geq y278.2.2.2.1 (0 : Int)) then (p.cmp Go.BinOp.lss y278.2.2.2.1 (p.ofNat (p.len y278.1))) else Bool.false) <|
     opt.need _ (p.rowOk y278.1 (p.add 0 (p.nat y278.2.2.2.1)) [(Go.Am.CK.int Go.IntKind.i64), (Go.Am.CK.int Go.IntKind.i64), (Go.Am.CK.int Go.IntKind.i64), (Go.Am.CK.int Go.IntKind.i64)]) <|
     opt.need _ (bif (p.cmp Go.BinOp.geq y278.2.2.2.1 (0 : Int)) then (p.cmp Go.BinOp.lss y278.2.2.2.1 (p.ofNat (p.len y278.1))) else Bool.false) <|
     opt.need _ (p.rowOk y278.1 (p.add 0 (p.nat y278.2.2.2.1)) [(Go.Am.CK.int Go.IntKind.i64), (Go.Am.CK.int Go.IntKind.i64), (Go.Am.CK.int Go.IntKind.i64), (Go.Am.CK.int Go.IntKind.i64)]) <|
     opt.bnd ((Int × (Int × Unit))) _ (G32 p ((p.rdI y278.1 (p.add 0 (p.nat y278.2.2.2.1)) 3), ((p.rdI y278.1 (p.add 0 (p.nat y278.2.2.2.1)) 2), ()))) fun y279 =>
     opt.ret _ (y279.1, (y279.2.1, ((0 : Int), ()))))))
noncomputable def F22 : Prim → Tup (ctr22).scs → Option (STup (scss (ctr22).outs)) :=
  fun p x => G22 p x
theorem eq22 (p : Prim) (x : Tup (ctr22).scs) : bodyRun opt p (autoEnv Go.Proofs.Try.prog) (mkOrc opt p (autoEnv Go.Proofs.Try.prog) 400 (an22) la22) 400 ctr22 x = G22 p x := by kernel_rfl
theorem gok22 : GamOk Go.Proofs.Try.prog (gam22) := by
  intro cf h
  simp only [gam22, List.mem_cons, List.not_mem_nil, or_false] at h
  rcases h with rfl | rfl | rfl | rfl
  · exact ok32
  · exact ok47
  · exact ok28
  · exact ok17
theorem enters22 : Enters Go.Proofs.Try.prog 22 := enters_auto (b := _) rfl (by kernel_rfl)
theorem ok22 : CtrOk Go.Proofs.Try.prog ctr22 (F22 std) := ctr_of_body (autoEnv_ok follows_mixed) (mkOrc_ok (autoEnv_ok follows_mixed) gok22 _) enters22 (fun x => eq22 std x)
noncomputable def ctr50 : Ctr :=
  ⟨50, [.list 3, .int Go.IntKind.i64], [], [(.ret, ⟨[(0, .agg [.int Go.IntKind.i64, .int Go.IntKind.i64])], [], 1⟩)]⟩
noncomputable def la50 : List LA :=
  [⟨50, [false, true, false, true, true, true], ⟨⟨[(1, .int Go.IntKind.i64), (4, .bptr 0 0), (5, .vec 1 1), (6, .vec 2 4), (7, .bptr 3 0), (8, .int Go.IntKind.i64)], [.box [.int Go.IntKind.i64, .int Go.IntKind.i64], .row [(Go.Am.CK.int Go.IntKind.i64)], .row [(Go.Am.CK.int Go.IntKind.i64), (Go.Am.CK.int Go.IntKind.i64), (Go.Am.CK.int Go.IntKind.i64), (Go.Am.CK.int Go.IntKind.i64)], .box [.int Go.IntKind.i64, .int Go.IntKind.i64]], 45⟩, [(Go.Am.AX.ret, ⟨[(4, .bptr 0 0)], [.box [.int Go.IntKind.i64, .int Go.IntKind.i64]], 45⟩), ((Go.Am.AX.exit 0), ⟨[(4, .bptr 0 0), (7, .bptr 1 0)], [.box [.int Go.IntKind.i64, .int Go.IntKind.i64], .box [.int Go.IntKind.i64, .int Go.IntKind.i64]], 45⟩)]⟩⟩]
noncomputable def ja50 : List JA :=
  []
noncomputable def gam50 : List CF :=
  [⟨ctr47, F47⟩, ⟨ctr28, F28⟩]
noncomputable def an50 : Anns :=
  ⟨gam50, ja50, []⟩
noncomputable def b50_1 (p : Prim) : (List (List (Go.Am.D)) × (List (List (Go.Am.D)) × (Int × (Int × (Int × (Int × (Int × (Int × Unit)))))))) → Option ((List (List (Go.Am.D)) × (List (List (Go.Am.D)) × (Int × (Int × (Int × (Int × (Int × (Int × Unit)))))))) ⊕ ((Int × (Int × Unit)) ⊕ (Int × (Int × (Int × (Int × Unit)))))) :=
  fun s306 => opt.run _ (
     opt.ask _ (p.cmp Go.BinOp.lss s306.2.2.2.2.2.2.2.1 (p.ofNat (p.len s306.1))) (
      opt.need _ (bif (p.cmp Go.BinOp.geq s306.2.2.2.2.2.2.2.1 (0 : Int)) then (p.cmp Go.BinOp.lss s306.2.2.2.2.2.2.2.1 (p.ofNat (p.len s306.2.1))) else Bool.false) <|
      opt.need _ (p.rowOk s306.2.1 (p.add 0 (p.nat s306.2.2.2.2.2.2.2.1)) [(Go.Am.CK.int Go.IntKind.i64), (Go.Am.CK.int Go.IntKind.i64), (Go.Am.CK.int Go.IntKind.i64), (Go.Am.CK.int Go.IntKind.i64)]) <|
      opt.need _ (bif (p.cmp Go.BinOp.geq s306.2.2.2.2.2.2.2.1 (0 : Int)) then (p.cmp Go.BinOp.lss s306.2.2.2.2.2.2.2.1 (p.ofNat (p.len s306.2.1))) else Bool.false) <|
      opt.need _ (p.rowOk s306.2.1 (p.add 0 (p.nat s306.2.2.2.2.2.2.2.1)) [(Go.Am.CK.int Go.IntKind.i64), (Go.Am.CK.int Go.IntKind.i64), (Go.Am.CK.int Go.IntKind.i64), (Go.Am.CK.int Go.IntKind.i64)]) <|
      opt.ask _ (p.cmp Go.BinOp.geq (p.rdI s306.2.1 (p.add 0 (p.nat s306.2.2.2.2.2.2.2.1)) 3) (p.ar Go.BinOp.mul Go.IntKind.i64 s306.2.2.2.2.2.2.1 (p.rdI s306.2.1 (p.add 0 (p.nat s306.2.2.2.2.2.2.2.1)) 2))) (
       opt.need _ (bif (p.cmp Go.BinOp.geq s306.2.2.2.2.2.2.2.1 (0 : Int)) then (p.cmp Go.BinOp.lss s306.2.2.2.2.2.2.2.1 (p.ofNat (p.len s306.1))) else Bool.false) <|
       opt.need _ (p.rowOk s306.1 (p.add 0 (p.nat s306.2.2.2.2.2.2.2.1)) [(Go.Am.CK.int Go.IntKind.i64)]) <|
       opt.ret _ (Sum.inr (Sum.inl (s306.2.2.2.2.1, ((p.rdI s306.1 (p.add 0 (p.nat s306.2.2.2.2.2.2.2.1)) 0), ()))))) (
       opt.need _ (bif (p.cmp Go.BinOp.geq s306.2.2.2.2.2.2.2.1 (0 : Int)) then (p.cmp Go.BinOp.lss s306.2.2.2.2.2.2.2.1 (p.ofNat (p.len s306.1))) else Bool.false) <|
       opt.need _ (p.rowOk s306.1 (p.add 0 (p.nat s306.2.2.2.2.2.2.2.1)) [(Go.Am.CK.int Go.IntKind.i64)]) <|
       opt.need _ (p.eqN 0 0) <|
       opt.need _ (p.eqN (p.len s306.1) (p.len s306.1)) <|
       opt.need _ (p.eqN 0 0) <|
       opt.need _ (p.eqN (p.len s306.2.1) (p.len s306.2.1)) <|
       opt.ret _ (Sum.inl (s306.1, (s306.2.1, (s306.2.2.1, (s306.2.2.2.1, ((p.rdI s306.1 (p.add 0 (p.nat s306.2.2.2.2.2.2.2.1)) 0), (s306.2.2.2.2.2.1, (s306.2.2.2.2.2.2.1, ((p.ar Go.BinOp.add Go.IntKind.i64 s306.2.2.2.2.2.2.2.1 (1 : Int)), ()))))))))))) (
      opt.ret _ (Sum.inr (Sum.inr (s306.2.2.1, (s306.2.2.2.1, (s306.2.2.2.2.1, (s306.2.2.2.2.2.1, ()))))))))
noncomputable def G50 : (p : Prim) → (List (List (Go.Am.D)) × (Int × Unit)) → Option ((Int × (Int × Unit))) :=
  fun p x =>
  opt.bnd ((List (List (Go.Am.D)) × Unit)) _ (G28 p (x.1, ())) fun y304 =>
  opt.bnd ((List (List (Go.Am.D)) × Unit)) _ (G47 p (x.1, ())) fun y305 =>
  opt.need _ (p.eqN 0 0) <|
  opt.need _ (p.eqN (p.len y304.1) (p.len y304.1)) <|
  opt.need _ (p.eqN 0 0) <|
  opt.need _ (p.eqN (p.len y305.1) (p.len y305.1)) <|
  opt.alt ((Int × (Int × Unit))) ((Int × (Int × (Int × (Int × Unit))))) _ (
    iter (b50_1 p) (y304.1, (y305.1, ((0 : Int), ((0 : Int), ((0 : Int), ((1073741824 : Int), (x.2.1, ((0 : Int), ()))))))))) (fun y307 =>
   opt.ret _ (y307.1, (y307.2.1, ()))) (fun y308 =>
   opt.bnd ((Int × (Int × (Int × (Int × Unit))))) _ (some y308) fun y309 =>
   opt.ret _ (y309.2.2.1, (y309.2.2.2.1, ())))
noncomputable def F50 : Prim → Tup (ctr50).scs → Option (STup (scss (ctr50).outs)) :=
  fun p x => G50 p x
theorem eq50 (p : Prim) (x : Tup (ctr50).scs) : bodyRun opt p (autoEnv Go.Proofs.Try.prog) (mkOrc opt p (autoEnv Go.Proofs.Try.prog) 400 (an50) la50) 400 ctr50 x = G50 p x := by kernel_rfl
theorem gok50 : GamOk Go.Proofs.Try.prog (gam50) := by
  intro cf h
  simp only [gam50, List.mem_cons, List.not_mem_nil, or_false] at h
  rcases h with rfl | rfl
  · exact ok47
  · exact ok28
theorem enters50 : Enters Go.Proofs.Try.prog 50 := enters_auto (b := _) rfl (by kernel_rfl)
theorem ok50 : CtrOk Go.Proofs.Try.prog ctr50 (F50 std) := ctr_of_body (autoEnv_ok follows_mixed) (mkOrc_ok (autoEnv_ok follows_mixed) gok50 _) enters50 (fun x => eq50 std x)
noncomputable def ctr24 : Ctr :=
  ⟨24, [.list 3, .int Go.IntKind.i64], [], [(.ret, ⟨[(0, .tuple [.agg [.int Go.IntKind.i64, .int Go.IntKind.i64], .int Go.IntKind.i64])], [], 1⟩)]⟩
noncomputable def la24 : List LA :=
  []
noncomputable def ja24 : List JA :=
  [⟨42, [false, true], [(Go.Am.AX.normal, ⟨[(6, .bool)], [.box [.int Go.IntKind.i64, .int Go.IntKind.i64]], 15⟩)]⟩]
noncomputable def gam24 : List CF :=
  [⟨ctr50, F50⟩, ⟨ctr17, F17⟩]
noncomputable def an24 : Anns :=
  ⟨gam24, ja24, []⟩
noncomputable def G24 : (p : Prim) → (List (List (Go.Am.D)) × (Int × Unit)) → Option ((Int × (Int × (Int × Unit)))) :=
  fun p x =>
  opt.bnd ((Int × Unit)) _ (G17 p (x.1, ())) fun y314 =>
  opt.ask _ (p.cmp Go.BinOp.neq y314.1 (0 : Int)) (
   opt.bnd ((Int × Unit)) _ (G17 p (x.1, ())) fun y315 =>
   opt.ret _ ((0 : Int), ((0 : Int), (y315.1, ())))) (
   opt.bnd ((Int × (Int × (Bool × Unit)))) _ (
     opt.run ((Int × (Int × (Bool × Unit)))) (
      opt.ask _ (p.cmp Go.BinOp.geq x.2.1 (1 : Int)) (
       opt.ret _ ((0 : Int), ((0 : Int), ((p.cmp Go.BinOp.leq x.2.1 (100 : Int)), ())))) (
       opt.ret _ ((0 : Int), ((0 : Int), (Bool.false, ())))))) fun y316 =>
   opt.ask _ (bif y316.2.2.1 then Bool.false else Bool.true) (
    opt.ret _ ((0 : Int), ((0 : Int), ((3 : Int), ())))) (
    opt.bnd ((Int × (Int × Unit))) _ (G50 p (x.1, (x.2.1, ()))) fun y317 =>
    opt.ret _ (y317.1, (y317.2.1, ((0 : Int), ())))))
noncomputable def F24 : Prim → Tup (ctr24).scs → Option (STup (scss (ctr24).outs)) :=
  fun p x => G24 p x
theorem eq24 (p : Prim) (x : Tup (ctr24).scs) : bodyRun opt p (autoEnv Go.Proofs.Try.prog) (mkOrc opt p (autoEnv Go.Proofs.Try.prog) 400 (an24) la24) 400 ctr24 x = G24 p x := by kernel_rfl
theorem gok24 : GamOk Go.Proofs.Try.prog (gam24) := by
  intro cf h
  simp only [gam24, List.mem_cons, List.not_mem_nil, or_false] at h
  rcases h with rfl | rfl
  · exact ok50
  · exact ok17
theorem enters24 : Enters Go.Proofs.Try.prog 24 := enters_auto (b := _) rfl (by kernel_rfl)
theorem ok24 : CtrOk Go.Proofs.Try.prog ctr24 (F24 std) := ctr_of_body (autoEnv_ok follows_mixed) (mkOrc_ok (autoEnv_ok follows_mixed) gok24 _) enters24 (fun x => eq24 std x)
noncomputable def ctr26 : Ctr :=
  ⟨26, [.list 1, .list 3, .int Go.IntKind.i64], [], [(.ret, ⟨[(0, .tuple [.agg [.int Go.IntKind.i64, .int Go.IntKind.i64], .int Go.IntKind.i64])], [], 1⟩)]⟩
noncomputable def la26 : List LA :=
  [⟨26, [false, true, false, true, true], ⟨⟨[(0, .list 1), (1, .list 3), (2, .int Go.IntKind.i64), (6, .bptr 0 0), (8, .int Go.IntKind.i64)], [.box [.int Go.IntKind.i64, .int Go.IntKind.i64]], 84⟩, [(Go.Am.AX.ret, ⟨[(6, .bptr 0 0), (7, .int Go.IntKind.i64)], [.box [.int Go.IntKind.i64, .int Go.IntKind.i64]], 84⟩), ((Go.Am.AX.exit 0), ⟨[(0, .list 1), (1, .list 3), (2, .int Go.IntKind.i64), (6, .bptr 0 0)], [.box [.int Go.IntKind.i64, .int Go.IntKind.i64]], 84⟩)]⟩⟩,
   ⟨26, [false, true, false, true, true, true, true, true, true, true], ⟨⟨[(0, .list 1), (2, .int Go.IntKind.i64), (6, .bptr 0 0), (9, .bptr 1 0), (10, .bptr 2 0), (11, .int Go.IntKind.i64)], [.box [.int Go.IntKind.i64, .int Go.IntKind.i64], .box [.int Go.IntKind.i64, .int Go.IntKind.i64], .box [.int Go.IntKind.i64, .int Go.IntKind.i64]], 84⟩, [((Go.Am.AX.exit 2), ⟨[(6, .bptr 0 0), (10, .bptr 1 0)], [.box [.int Go.IntKind.i64, .int Go.IntKind.i64], .box [.int Go.IntKind.i64, .int Go.IntKind.i64]], 84⟩)]⟩⟩]
noncomputable def ja26 : List JA :=
  [⟨26, [true, true, true, false, false, true, false, false, true, false, true, true, true, true, true, true, true], [(Go.Am.AX.normal, ⟨[(0, .list 1), (2, .int Go.IntKind.i64), (6, .bptr 0 0), (9, .bptr 1 0), (10, .bptr 2 0), (11, .int Go.IntKind.i64)], [.box [.int Go.IntKind.i64, .int Go.IntKind.i64], .box [.int Go.IntKind.i64, .int Go.IntKind.i64], .box [.int Go.IntKind.i64, .int Go.IntKind.i64]], 84⟩)]⟩,
   ⟨26, [true, false, true, false, false, true, false, false, true, false, true, true, true, true, true, true, true], [(Go.Am.AX.normal, ⟨[(0, .list 1), (2, .int Go.IntKind.i64), (6, .bptr 0 0), (9, .bptr 1 0), (10, .bptr 2 0), (11, .int Go.IntKind.i64), (12, .bptr 3 0)], [.box [.int Go.IntKind.i64, .int Go.IntKind.i64], .box [.int Go.IntKind.i64, .int Go.IntKind.i64], .box [.int Go.IntKind.i64, .int Go.IntKind.i64], .box [.int Go.IntKind.i64, .int Go.IntKind.i64]], 84⟩)]⟩,
   ⟨26, [false, false, true, false, false, true, false, false, true, false, true, true, true, true, true, true, true], [(Go.Am.AX.normal, ⟨[(0, .list 1), (2, .int Go.IntKind.i64), (6, .bptr 0 0), (9, .bptr 1 0), (10, .bptr 2 0), (11, .int Go.IntKind.i64), (12, .bptr 3 0), (69, .bool)], [.box [.int Go.IntKind.i64, .int Go.IntKind.i64], .box [.int Go.IntKind.i64, .int Go.IntKind.i64], .box [.int Go.IntKind.i64, .int Go.IntKind.i64], .box [.int Go.IntKind.i64, .int Go.IntKind.i64]], 84⟩)]⟩,
   ⟨42, [false, true], [(Go.Am.AX.normal, ⟨[(6, .bool)], [.box [.int Go.IntKind.i64, .int Go.IntKind.i64]], 15⟩)]⟩]
noncomputable def gam26 : List CF :=
  [⟨ctr50, F50⟩, ⟨ctr17, F17⟩]
noncomputable def an26 : Anns :=
  ⟨gam26, ja26, []⟩
noncomputable def b26_2 (p : Prim) : (Int × (Int × (Int × (Int × (Int × (Int × (List (List (Go.Am.D)) × (Int × (Int × Unit))))))))) → Option ((Int × (Int × (Int × (Int × (Int × (Int × (List (List (Go.Am.D)) × (Int × (Int × Unit))))))))) ⊕ (Int × (Int × (Int × (Int × Unit))))) :=
  fun s365 => opt.run _ (
         opt.ask _ (p.cmp Go.BinOp.lss s365.2.2.2.2.2.2.2.2.1 (p.ofNat (p.len s365.2.2.2.2.2.2.1))) (
          opt.need _ (p.rowOk s365.2.2.2.2.2.2.1 (p.nat s365.2.2.2.2.2.2.2.2.1) [(Go.Am.CK.list 3)]) <|
          opt.need _ (p.cmp Go.BinOp.geq s365.2.2.2.2.2.2.2.2.1 (0 : Int)) <|
          opt.bnd ((Int × (Int × Unit))) _ (G50 p ((p.rdL s365.2.2.2.2.2.2.1 (p.nat s365.2.2.2.2.2.2.2.2.1) 0), (s365.2.2.2.2.2.2.2.1, ()))) fun y366 =>
          opt.bnd ((Int × (Int × (Int × (Int × (Int × (Int × (Int × (Int × (List (List (Go.Am.D)) × (Int × (Int × (Bool × Unit))))))))))))) _ (
            opt.run ((Int × (Int × (Int × (Int × (Int × (Int × (Int × (Int × (List (List (Go.Am.D)) × (Int × (Int × (Bool × Unit))))))))))))) (
             opt.ask _ (p.cmp Go.BinOp.neq y366.2.1 (1073741824 : Int)) (
              opt.ret _ (s365.1, (s365.2.1, (s365.2.2.1, (s365.2.2.2.1, (s365.2.2.2.2.1, (s365.2.2.2.2.2.1, (y366.1, (y366.2.1, (s365.2.2.2.2.2.2.1, (s365.2.2.2.2.2.2.2.1, (s365.2.2.2.2.2.2.2.2.1, ((p.cmp Go.BinOp.leq y366.2.1 s365.2.2.1), ()))))))))))))) (
              opt.ret _ (s365.1, (s365.2.1, (s365.2.2.1, (s365.2.2.2.1, (s365.2.2.2.2.1, (s365.2.2.2.2.2.1, (y366.1, (y366.2.1, (s365.2.2.2.2.2.2.1, (s365.2.2.2.2.2.2.2.1, (s365.2.2.2.2.2.2.2.2.1, (Bool.false, ()))))))))))))))) fun y367 =>
          opt.bnd ((Int × (Int × (Int × (Int × (Int × (Int × (Int × (Int × (List (List (Go.Am.D)) × (Int × (Int × Unit)))))))))))) _ (
            opt.run ((Int × (Int × (Int × (Int × (Int × (Int × (Int × (Int × (List (List (Go.Am.D)) × (Int × (Int × Unit)))))))))))) (
             opt.ask _ y367.2.2.2.2.2.2.2.2.2.2.2.1 (
              opt.ret _ (y367.1, (y367.2.1, (y367.2.2.1, (y367.2.2.2.1, ((p.ar Go.BinOp.add Go.IntKind.i64 y367.2.2.2.2.1 (1 : Int)), (y367.2.2.2.2.2.1, (y367.2.2.2.2.2.2.1, (y367.2.2.2.2.2.2.2.1, (y367.2.2.2.2.2.2.2.2.1, (y367.2.2.2.2.2.2.2.2.2.1, (y367.2.2.2.2.2.2.2.2.2.2.1, ())))))))))))) (
              opt.ret _ (y367.1, (y367.2.1, (y367.2.2.1, (y367.2.2.2.1, (y367.2.2.2.2.1, (y367.2.2.2.2.2.1, (y367.2.2.2.2.2.2.1, (y367.2.2.2.2.2.2.2.1, (y367.2.2.2.2.2.2.2.2.1, (y367.2.2.2.2.2.2.2.2.2.1, (y367.2.2.2.2.2.2.2.2.2.2.1, ())))))))))))))) fun y368 =>
          opt.bnd ((Int × (Int × (Int × (Int × (Int × (Int × (List (List (Go.Am.D)) × (Int × (Int × Unit)))))))))) _ (
            opt.run ((Int × (Int × (Int × (Int × (Int × (Int × (List (List (Go.Am.D)) × (Int × (Int × Unit)))))))))) (
             opt.ask _ (p.cmp Go.BinOp.lss y368.2.2.2.2.2.2.1 y368.2.2.2.1) (
              opt.ret _ (y368.1, (y368.2.1, (y368.2.2.1, (y368.2.2.2.1, (y368.2.2.2.2.1, ((p.ar Go.BinOp.add Go.IntKind.i64 y368.2.2.2.2.2.1 (1 : Int)), (y368.2.2.2.2.2.2.2.2.1, (y368.2.2.2.2.2.2.2.2.2.1, (y368.2.2.2.2.2.2.2.2.2.2.1, ())))))))))) (
              opt.ret _ (y368.1, (y368.2.1, (y368.2.2.1, (y368.2.2.2.1, (y368.2.2.2.2.1, (y368.2.2.2.2.2.1, (y368.2.2.2.2.2.2.2.2.1, (y368.2.2.2.2.2.2.2.2.2.1, (y368.2.2.2.2.2.2.2.2.2.2.1, ())))))))))))) fun y369 =>
          opt.ret _ (Sum.inl (y369.1, (y369.2.1, (y369.2.2.1, (y369.2.2.2.1, (y369.2.2.2.2.1, (y369.2.2.2.2.2.1, (y369.2.2.2.2.2.2.1, (y369.2.2.2.2.2.2.2.1, ((p.ar Go.BinOp.add Go.IntKind.i64 y369.2.2.2.2.2.2.2.2.1 (1 : Int)), ()))))))))))) (
          opt.ret _ (Sum.inr (s365.1, (s365.2.1, (s365.2.2.2.2.1, (s365.2.2.2.2.2.1, ())))))))
noncomputable def b26_1 (p : Prim) : (Int × (Int × (List (List (Go.Am.D)) × (List (List (Go.Am.D)) × (Int × (Int × Unit)))))) → Option ((Int × (Int × (List (List (Go.Am.D)) × (List (List (Go.Am.D)) × (Int × (Int × Unit)))))) ⊕ ((Int × (Int × (Int × Unit))) ⊕ (Int × (Int × (List (List (Go.Am.D)) × (List (List (Go.Am.D)) × (Int × Unit))))))) :=
  fun s355 => opt.run _ (
      opt.ask _ (p.cmp Go.BinOp.lss s355.2.2.2.2.2.1 (p.ofNat (p.len s355.2.2.1))) (
       opt.need _ (p.rowOk s355.2.2.1 (p.nat s355.2.2.2.2.2.1) [(Go.Am.CK.list 3)]) <|
       opt.need _ (p.cmp Go.BinOp.geq s355.2.2.2.2.2.1 (0 : Int)) <|
       opt.bnd ((Int × Unit)) _ (G17 p ((p.rdL s355.2.2.1 (p.nat s355.2.2.2.2.2.1) 0), ())) fun y356 =>
       opt.ask _ (p.cmp Go.BinOp.neq y356.1 (0 : Int)) (
        opt.need _ (p.rowOk s355.2.2.1 (p.nat s355.2.2.2.2.2.1) [(Go.Am.CK.list 3)]) <|
        opt.need _ (p.cmp Go.BinOp.geq s355.2.2.2.2.2.1 (0 : Int)) <|
        opt.bnd ((Int × Unit)) _ (G17 p ((p.rdL s355.2.2.1 (p.nat s355.2.2.2.2.2.1) 0), ())) fun y357 =>
        opt.ret _ (Sum.inr (Sum.inl ((0 : Int), ((0 : Int), (y357.1, ())))))) (
        opt.ret _ (Sum.inl (s355.1, (s355.2.1, (s355.2.2.1, (s355.2.2.2.1, (s355.2.2.2.2.1, ((p.ar Go.BinOp.add Go.IntKind.i64 s355.2.2.2.2.2.1 (1 : Int)), ()))))))))) (
       opt.ret _ (Sum.inr (Sum.inr (s355.1, (s355.2.1, (s355.2.2.1, (s355.2.2.2.1, (s355.2.2.2.2.1, ())))))))))
noncomputable def G26 : (p : Prim) → (List (List (Go.Am.D)) × (List (List (Go.Am.D)) × (Int × Unit))) → Option ((Int × (Int × (Int × Unit)))) :=
  fun p x =>
  opt.ask _ (p.cmp Go.BinOp.gtr (p.ofNat (p.len x.1)) (8 : Int)) (
   opt.ret _ ((0 : Int), ((0 : Int), ((6 : Int), ())))) (
   opt.alt ((Int × (Int × (Int × Unit)))) ((Int × (Int × (List (List (Go.Am.D)) × (List (List (Go.Am.D)) × (Int × Unit)))))) _ (
     iter (b26_1 p) ((0 : Int), ((0 : Int), (x.1, (x.2.1, (x.2.2.1, ((0 : Int), ()))))))) (fun y358 =>
    opt.ret _ (y358.1, (y358.2.1, (y358.2.2.1, ())))) (fun y359 =>
    opt.bnd ((Int × (Int × (List (List (Go.Am.D)) × (List (List (Go.Am.D)) × (Int × Unit)))))) _ (some y359) fun y360 =>
    opt.bnd ((Int × Unit)) _ (G17 p (y360.2.2.2.1, ())) fun y361 =>
    opt.ask _ (p.cmp Go.BinOp.neq y361.1 (0 : Int)) (
     opt.bnd ((Int × Unit)) _ (G17 p (y360.2.2.2.1, ())) fun y362 =>
     opt.ret _ ((0 : Int), ((0 : Int), (y362.1, ())))) (
     opt.bnd ((Int × (Int × (Bool × Unit)))) _ (
       opt.run ((Int × (Int × (Bool × Unit)))) (
        opt.ask _ (p.cmp Go.BinOp.geq y360.2.2.2.2.1 (1 : Int)) (
         opt.ret _ (y360.1, (y360.2.1, ((p.cmp Go.BinOp.leq y360.2.2.2.2.1 (100 : Int)), ())))) (
         opt.ret _ (y360.1, (y360.2.1, (Bool.false, ())))))) fun y363 =>
     opt.ask _ (bif y363.2.2.1 then Bool.false else Bool.true) (
      opt.ret _ ((0 : Int), ((0 : Int), ((3 : Int), ())))) (
      opt.bnd ((Int × (Int × Unit))) _ (G50 p (y360.2.2.2.1, (y360.2.2.2.2.1, ()))) fun y364 =>
      opt.bnd ((Int × (Int × (Int × (Int × Unit))))) _ (
        iter (b26_2 p) (y363.1, (y363.2.1, (y364.1, (y364.2.1, ((0 : Int), ((0 : Int), (y360.2.2.1, (y360.2.2.2.2.1, ((0 : Int), ())))))))))) fun y370 =>
      opt.ret _ (y370.2.2.1, (y370.2.2.2.1, ((0 : Int), ())))))))
noncomputable def F26 : Prim → Tup (ctr26).scs → Option (STup (scss (ctr26).outs)) :=
  fun p x => G26 p x
theorem eq26 (p : Prim) (x : Tup (ctr26).scs) : bodyRun opt p (autoEnv Go.Proofs.Try.prog) (mkOrc opt p (autoEnv Go.Proofs.Try.prog) 400 (an26) la26) 400 ctr26 x = G26 p x := by kernel_rfl
theorem gok26 : GamOk Go.Proofs.Try.prog (gam26) := by
  intro cf h
  simp only [gam26, List.mem_cons, List.not_mem_nil, or_false] at h
  rcases h with rfl | rfl
  · exact ok50
  · exact ok17
theorem enters26 : Enters Go.Proofs.Try.prog 26 := enters_auto (b := _) rfl (by kernel_rfl)
theorem ok26 : CtrOk Go.Proofs.Try.prog ctr26 (F26 std) := ctr_of_body (autoEnv_ok follows_mixed) (mkOrc_ok (autoEnv_ok follows_mixed) gok26 _) enters26 (fun x => eq26 std x)
noncomputable def ctr20 : Ctr :=
  ⟨20, [.list 3, .list 4], [], [(.ret, ⟨[(0, .int Go.IntKind.i64)], [], 1⟩)]⟩
noncomputable def la20 : List LA :=
  [⟨20, [false, true, false, true, true, true, true], ⟨⟨[(0, .list 3), (1, .list 4), (5, .vec 0 1), (6, .int Go.IntKind.i64), (7, .int Go.IntKind.i64)], [.row [(Go.Am.CK.int Go.IntKind.i64)]], 128⟩, [(Go.Am.AX.ret, ⟨[(4, .int Go.IntKind.i64)], [], 128⟩), ((Go.Am.AX.exit 0), ⟨[(5, .vec 0 1), (6, .int Go.IntKind.i64)], [.row [(Go.Am.CK.int Go.IntKind.i64)]], 128⟩)]⟩⟩,
   ⟨20, [false, false, true, true, false, false, true, false, false, true, false, true, true, true, true], ⟨⟨[(0, .list 3), (1, .list 4), (5, .vec 0 1), (6, .int Go.IntKind.i64), (7, .int Go.IntKind.i64), (8, .bool)], [.row [(Go.Am.CK.int Go.IntKind.i64)]], 128⟩, [(Go.Am.AX.ret, ⟨[(4, .int Go.IntKind.i64)], [], 128⟩), ((Go.Am.AX.exit 2), ⟨[(0, .list 3), (1, .list 4), (5, .vec 0 1), (6, .int Go.IntKind.i64), (7, .int Go.IntKind.i64), (8, .bool)], [.row [(Go.Am.CK.int Go.IntKind.i64)]], 128⟩)]⟩⟩]
noncomputable def ja20 : List JA :=
  [⟨20, [false, false, false, false, false, true, true, false, false, true, false, false, true, false, true, true, true, true], [(Go.Am.AX.normal, ⟨[(0, .list 3), (1, .list 4), (5, .vec 0 1), (6, .int Go.IntKind.i64), (7, .int Go.IntKind.i64), (8, .bool), (81, .bool)], [.row [(Go.Am.CK.int Go.IntKind.i64)]], 128⟩)]⟩,
   ⟨20, [true, false, false, false, true, true, false, false, true, false, false, true, false, true, true, true, true], [(Go.Am.AX.ret, ⟨[(4, .int Go.IntKind.i64)], [], 128⟩), (Go.Am.AX.normal, ⟨[(0, .list 3), (1, .list 4), (5, .vec 0 1), (6, .int Go.IntKind.i64), (7, .int Go.IntKind.i64), (8, .bool)], [.row [(Go.Am.CK.int Go.IntKind.i64)]], 128⟩)]⟩,
   ⟨20, [false, true, false, false, true, false, true, true, true, true], [(Go.Am.AX.ret, ⟨[(4, .int Go.IntKind.i64)], [], 128⟩), (Go.Am.AX.normal, ⟨[(0, .list 3), (1, .list 4), (5, .vec 0 1), (6, .int Go.IntKind.i64), (7, .int Go.IntKind.i64)], [.row [(Go.Am.CK.int Go.IntKind.i64)]], 128⟩)]⟩]
noncomputable def gam20 : List CF :=
  [⟨ctr31, F31⟩, ⟨ctr30, F30⟩, ⟨ctr28, F28⟩, ⟨ctr17, F17⟩]
noncomputable def an20 : Anns :=
  ⟨gam20, ja20, []⟩
noncomputable def b20_3 (p : Prim) : (List (List (Go.Am.D)) × (List (List (Go.Am.D)) × (List (List (Go.Am.D)) × (Int × (Int × (Bool × Unit)))))) → Option ((List (List (Go.Am.D)) × (List (List (Go.Am.D)) × (List (List (Go.Am.D)) × (Int × (Int × (Bool × Unit)))))) ⊕ ((Int × Unit) ⊕ (List (List (Go.Am.D)) × (List (List (Go.Am.D)) × (List (List (Go.Am.D)) × (Int × (Int × (Bool × Unit)))))))) :=
  fun s75 => opt.run _ (
                 opt.bnd ((List (List (Go.Am.D)) × (List (List (Go.Am.D)) × (List (List (Go.Am.D)) × (Int × (Int × (Bool × (Bool × Unit)))))))) _ (
                   opt.run ((List (List (Go.Am.D)) × (List (List (Go.Am.D)) × (List (List (Go.Am.D)) × (Int × (Int × (Bool × (Bool × Unit)))))))) (
                    opt.ask _ (p.cmp Go.BinOp.lss s75.2.2.2.1 (p.ofNat (p.len s75.1))) (
                     opt.need _ (p.eqN 0 0) <|
                     opt.need _ (p.eqN (p.len s75.1) (p.len s75.1)) <|
                     opt.ret _ (s75.1, (s75.2.1, (s75.2.2.1, (s75.2.2.2.1, (s75.2.2.2.2.1, (s75.2.2.2.2.2.1, ((bif s75.2.2.2.2.2.1 then Bool.false else Bool.true), ())))))))) (
                     opt.need _ (p.eqN 0 0) <|
                     opt.need _ (p.eqN (p.len s75.1) (p.len s75.1)) <|
                     opt.ret _ (s75.1, (s75.2.1, (s75.2.2.1, (s75.2.2.2.1, (s75.2.2.2.2.1, (s75.2.2.2.2.2.1, (Bool.false, ())))))))))) fun y76 =>
                 opt.ask _ y76.2.2.2.2.2.2.1 (
                  opt.alt ((Int × Unit)) ((List (List (Go.Am.D)) × (List (List (Go.Am.D)) × (List (List (Go.Am.D)) × (Int × (Int × (Bool × Unit))))))) _ (
                    opt.run (((Int × Unit) ⊕ (List (List (Go.Am.D)) × (List (List (Go.Am.D)) × (List (List (Go.Am.D)) × (Int × (Int × (Bool × Unit)))))))) (
                     opt.need _ (bif (p.cmp Go.BinOp.geq y76.2.2.2.1 (0 : Int)) then (p.cmp Go.BinOp.lss y76.2.2.2.1 (p.ofNat (p.len y76.1))) else Bool.false) <|
                     opt.need _ (p.rowOk y76.1 (p.add 0 (p.nat y76.2.2.2.1)) [(Go.Am.CK.int Go.IntKind.i64)]) <|
                     opt.need _ (p.rowOk y76.2.2.1 (p.nat y76.2.2.2.2.1) [(Go.Am.CK.int Go.IntKind.i64), (Go.Am.CK.int Go.IntKind.i64), (Go.Am.CK.int Go.IntKind.i64), (Go.Am.CK.int Go.IntKind.i64)]) <|
                     opt.need _ (p.cmp Go.BinOp.geq y76.2.2.2.2.1 (0 : Int)) <|
                     opt.ask _ (p.cmp Go.BinOp.gtr (p.rdI y76.1 (p.add 0 (p.nat y76.2.2.2.1)) 0) (p.rdI y76.2.2.1 (p.nat y76.2.2.2.2.1) 1)) (
                      opt.ret _ (Sum.inl ((14 : Int), ()))) (
                      opt.need _ (p.rowOk y76.2.2.1 (p.nat y76.2.2.2.2.1) [(Go.Am.CK.int Go.IntKind.i64), (Go.Am.CK.int Go.IntKind.i64), (Go.Am.CK.int Go.IntKind.i64), (Go.Am.CK.int Go.IntKind.i64)]) <|
                      opt.need _ (p.cmp Go.BinOp.geq y76.2.2.2.2.1 (0 : Int)) <|
                      opt.need _ (bif (p.cmp Go.BinOp.geq y76.2.2.2.1 (0 : Int)) then (p.cmp Go.BinOp.lss y76.2.2.2.1 (p.ofNat (p.len y76.1))) else Bool.false) <|
                      opt.need _ (p.rowOk y76.1 (p.add 0 (p.nat y76.2.2.2.1)) [(Go.Am.CK.int Go.IntKind.i64)]) <|
                      opt.bnd ((Int × (Int × (Int × (Int × Unit))))) _ (G30 p (y76.2.1, ((p.rdI y76.2.2.1 (p.nat y76.2.2.2.2.1) 0), ((p.rdI y76.1 (p.add 0 (p.nat y76.2.2.2.1)) 0), ())))) fun y77 =>
                      opt.need _ (p.rowOk y76.2.2.1 (p.nat y76.2.2.2.2.1) [(Go.Am.CK.int Go.IntKind.i64), (Go.Am.CK.int Go.IntKind.i64), (Go.Am.CK.int Go.IntKind.i64), (Go.Am.CK.int Go.IntKind.i64)]) <|
                      opt.need _ (p.cmp Go.BinOp.geq y76.2.2.2.2.1 (0 : Int)) <|
                      opt.bnd ((Bool × Unit)) _ (G31 p (y77.1, (y77.2.1, (y77.2.2.1, (y77.2.2.2.1, ((p.rdI y76.2.2.1 (p.nat y76.2.2.2.2.1) 0), ((p.rdI y76.2.2.1 (p.nat y76.2.2.2.2.1) 1), ((p.rdI y76.2.2.1 (p.nat y76.2.2.2.2.1) 2), ((p.rdI y76.2.2.1 (p.nat y76.2.2.2.2.1) 3), ()))))))))) fun y78 =>
                      opt.ask _ y78.1 (
                       opt.ret _ (Sum.inl ((14 : Int), ()))) (
                       opt.need _ (bif (p.cmp Go.BinOp.geq y76.2.2.2.1 (0 : Int)) then (p.cmp Go.BinOp.lss y76.2.2.2.1 (p.ofNat (p.len y76.1))) else Bool.false) <|
                       opt.need _ (p.rowOk y76.1 (p.add 0 (p.nat y76.2.2.2.1)) [(Go.Am.CK.int Go.IntKind.i64)]) <|
                       opt.need _ (p.rowOk y76.2.2.1 (p.nat y76.2.2.2.2.1) [(Go.Am.CK.int Go.IntKind.i64), (Go.Am.CK.int Go.IntKind.i64), (Go.Am.CK.int Go.IntKind.i64), (Go.Am.CK.int Go.IntKind.i64)]) <|
                       opt.need _ (p.cmp Go.BinOp.geq y76.2.2.2.2.1 (0 : Int)) <|
                       opt.need _ (p.eqN 0 0) <|
                       opt.need _ (p.eqN (p.len y76.1) (p.len y76.1)) <|
                       opt.ret _ (Sum.inr (y76.1, (y76.2.1, (y76.2.2.1, ((p.ar Go.BinOp.add Go.IntKind.i64 y76.2.2.2.1 (1 : Int)), (y76.2.2.2.2.1, ((p.cmp Go.BinOp.eql (p.rdI y76.1 (p.add 0 (p.nat y76.2.2.2.1)) 0) (p.rdI y76.2.2.1 (p.nat y76.2.2.2.2.1) 1)), ()))))))))))) (fun y79 =>
                   opt.ret _ (Sum.inr (Sum.inl (y79.1, ())))) (fun y80 =>
                   opt.bnd ((List (List (Go.Am.D)) × (List (List (Go.Am.D)) × (List (List (Go.Am.D)) × (Int × (Int × (Bool × Unit))))))) _ (some y80) fun y81 =>
                   opt.need _ (p.eqN 0 0) <|
                   opt.need _ (p.eqN (p.len y81.1) (p.len y81.1)) <|
                   opt.ret _ (Sum.inl (y81.1, (y81.2.1, (y81.2.2.1, (y81.2.2.2.1, (y81.2.2.2.2.1, (y81.2.2.2.2.2.1, ()))))))))) (
                  opt.need _ (p.eqN 0 0) <|
                  opt.need _ (p.eqN (p.len y76.1) (p.len y76.1)) <|
                  opt.ret _ (Sum.inr (Sum.inr (y76.1, (y76.2.1, (y76.2.2.1, (y76.2.2.2.1, (y76.2.2.2.2.1, (y76.2.2.2.2.2.1, ()))))))))))
noncomputable def b20_2 (p : Prim) : (List (List (Go.Am.D)) × (List (List (Go.Am.D)) × (List (List (Go.Am.D)) × (Int × (Int × (Bool × Unit)))))) → Option ((List (List (Go.Am.D)) × (List (List (Go.Am.D)) × (List (List (Go.Am.D)) × (Int × (Int × (Bool × Unit)))))) ⊕ ((Int × Unit) ⊕ (List (List (Go.Am.D)) × (List (List (Go.Am.D)) × (List (List (Go.Am.D)) × (Int × (Int × (Bool × Unit)))))))) :=
  fun s65 => opt.run _ (
                  opt.bnd ((List (List (Go.Am.D)) × (List (List (Go.Am.D)) × (List (List (Go.Am.D)) × (Int × (Int × (Bool × (Bool × Unit)))))))) _ (
                    opt.run ((List (List (Go.Am.D)) × (List (List (Go.Am.D)) × (List (List (Go.Am.D)) × (Int × (Int × (Bool × (Bool × Unit)))))))) (
                     opt.ask _ (p.cmp Go.BinOp.lss s65.2.2.2.1 (p.ofNat (p.len s65.1))) (
                      opt.need _ (p.eqN 0 0) <|
                      opt.need _ (p.eqN (p.len s65.1) (p.len s65.1)) <|
                      opt.ret _ (s65.1, (s65.2.1, (s65.2.2.1, (s65.2.2.2.1, (s65.2.2.2.2.1, (s65.2.2.2.2.2.1, ((bif s65.2.2.2.2.2.1 then Bool.false else Bool.true), ())))))))) (
                      opt.need _ (p.eqN 0 0) <|
                      opt.need _ (p.eqN (p.len s65.1) (p.len s65.1)) <|
                      opt.ret _ (s65.1, (s65.2.1, (s65.2.2.1, (s65.2.2.2.1, (s65.2.2.2.2.1, (s65.2.2.2.2.2.1, (Bool.false, ())))))))))) fun y66 =>
                  opt.ask _ y66.2.2.2.2.2.2.1 (
                   opt.alt ((Int × Unit)) ((List (List (Go.Am.D)) × (List (List (Go.Am.D)) × (List (List (Go.Am.D)) × (Int × (Int × (Bool × Unit))))))) _ (
                     opt.run (((Int × Unit) ⊕ (List (List (Go.Am.D)) × (List (List (Go.Am.D)) × (List (List (Go.Am.D)) × (Int × (Int × (Bool × Unit)))))))) (
                      opt.need _ (bif (p.cmp Go.BinOp.geq y66.2.2.2.1 (0 : Int)) then (p.cmp Go.BinOp.lss y66.2.2.2.1 (p.ofNat (p.len y66.1))) else Bool.false) <|
                      opt.need _ (p.rowOk y66.1 (p.add 0 (p.nat y66.2.2.2.1)) [(Go.Am.CK.int Go.IntKind.i64)]) <|
                      opt.need _ (p.rowOk y66.2.2.1 (p.nat y66.2.2.2.2.1) [(Go.Am.CK.int Go.IntKind.i64), (Go.Am.CK.int Go.IntKind.i64), (Go.Am.CK.int Go.IntKind.i64), (Go.Am.CK.int Go.IntKind.i64)]) <|
                      opt.need _ (p.cmp Go.BinOp.geq y66.2.2.2.2.1 (0 : Int)) <|
                      opt.ask _ (p.cmp Go.BinOp.gtr (p.rdI y66.1 (p.add 0 (p.nat y66.2.2.2.1)) 0) (p.rdI y66.2.2.1 (p.nat y66.2.2.2.2.1) 1)) (
                       opt.ret _ (Sum.inl ((14 : Int), ()))) (
                       opt.need _ (p.rowOk y66.2.2.1 (p.nat y66.2.2.2.2.1) [(Go.Am.CK.int Go.IntKind.i64), (Go.Am.CK.int Go.IntKind.i64), (Go.Am.CK.int Go.IntKind.i64), (Go.Am.CK.int Go.IntKind.i64)]) <|
                       opt.need _ (p.cmp Go.BinOp.geq y66.2.2.2.2.1 (0 : Int)) <|
                       opt.need _ (bif (p.cmp Go.BinOp.geq y66.2.2.2.1 (0 : Int)) then (p.cmp Go.BinOp.lss y66.2.2.2.1 (p.ofNat (p.len y66.1))) else Bool.false) <|
                       opt.need _ (p.rowOk y66.1 (p.add 0 (p.nat y66.2.2.2.1)) [(Go.Am.CK.int Go.IntKind.i64)]) <|
                       opt.bnd ((Int × (Int × (Int × (Int × Unit))))) _ (G30 p (y66.2.1, ((p.rdI y66.2.2.1 (p.nat y66.2.2.2.2.1) 0), ((p.rdI y66.1 (p.add 0 (p.nat y66.2.2.2.1)) 0), ())))) fun y67 =>
                       opt.need _ (p.rowOk y66.2.2.1 (p.nat y66.2.2.2.2.1) [(Go.Am.CK.int Go.IntKind.i64), (Go.Am.CK.int Go.IntKind.i64), (Go.Am.CK.int Go.IntKind.i64), (Go.Am.CK.int Go.IntKind.i64)]) <|
                       opt.need _ (p.cmp Go.BinOp.geq y66.2.2.2.2.1 (0 : Int)) <|
                       opt.bnd ((Bool × Unit)) _ (G31 p (y67.1, (y67.2.1, (y67.2.2.1, (y67.2.2.2.1, ((p.rdI y66.2.2.1 (p.nat y66.2.2.2.2.1) 0), ((p.rdI y66.2.2.1 (p.nat y66.2.2.2.2.1) 1), ((p.rdI y66.2.2.1 (p.nat y66.2.2.2.2.1) 2), ((p.rdI y66.2.2.1 (p.nat y66.2.2.2.2.1) 3), ()))))))))) fun y68 =>
                       opt.ask _ y68.1 (
                        opt.ret _ (Sum.inl ((14 : Int), ()))) (
                        opt.need _ (bif (p.cmp Go.BinOp.geq y66.2.2.2.1 (0 : Int)) then (p.cmp Go.BinOp.lss y66.2.2.2.1 (p.ofNat (p.len y66.1))) else Bool.false) <|
                        opt.need _ (p.rowOk y66.1 (p.add 0 (p.nat y66.2.2.2.1)) [(Go.Am.CK.int Go.IntKind.i64)]) <|
                        opt.need _ (p.rowOk y66.2.2.1 (p.nat y66.2.2.2.2.1) [(Go.Am.CK.int Go.IntKind.i64), (Go.Am.CK.int Go.IntKind.i64), (Go.Am.CK.int Go.IntKind.i64), (Go.Am.CK.int Go.IntKind.i64)]) <|
                        opt.need _ (p.cmp Go.BinOp.geq y66.2.2.2.2.1 (0 : Int)) <|
                        opt.need _ (p.eqN 0 0) <|
                        opt.need _ (p.eqN (p.len y66.1) (p.len y66.1)) <|
                        opt.ret _ (Sum.inr (y66.1, (y66.2.1, (y66.2.2.1, ((p.ar Go.BinOp.add Go.IntKind.i64 y66.2.2.2.1 (1 : Int)), (y66.2.2.2.2.1, ((p.cmp Go.BinOp.eql (p.rdI y66.1 (p.add 0 (p.nat y66.2.2.2.1)) 0) (p.rdI y66.2.2.1 (p.nat y66.2.2.2.2.1) 1)), ()))))))))))) (fun y69 =>
                    opt.ret _ (Sum.inr (Sum.inl (y69.1, ())))) (fun y70 =>
                    opt.bnd ((List (List (Go.Am.D)) × (List (List (Go.Am.D)) × (List (List (Go.Am.D)) × (Int × (Int × (Bool × Unit))))))) _ (some y70) fun y71 =>
                    opt.need _ (p.eqN 0 0) <|
                    opt.need _ (p.eqN (p.len y71.1) (p.len y71.1)) <|
                    opt.ret _ (Sum.inl (y71.1, (y71.2.1, (y71.2.2.1, (y71.2.2.2.1, (y71.2.2.2.2.1, (y71.2.2.2.2.2.1, ()))))))))) (
                   opt.need _ (p.eqN 0 0) <|
                   opt.need _ (p.eqN (p.len y66.1) (p.len y66.1)) <|
                   opt.ret _ (Sum.inr (Sum.inr (y66.1, (y66.2.1, (y66.2.2.1, (y66.2.2.2.1, (y66.2.2.2.2.1, (y66.2.2.2.2.2.1, ()))))))))))
noncomputable def b20_1 (p : Prim) : (List (List (Go.Am.D)) × (List (List (Go.Am.D)) × (List (List (Go.Am.D)) × (Int × (Int × Unit))))) → Option ((List (List (Go.Am.D)) × (List (List (Go.Am.D)) × (List (List (Go.Am.D)) × (Int × (Int × Unit))))) ⊕ ((Int × Unit) ⊕ (List (List (Go.Am.D)) × (Int × Unit)))) :=
  fun s62 => opt.run _ (
      opt.ask _ (p.cmp Go.BinOp.lss s62.2.2.2.2.1 (p.ofNat (p.len s62.2.2.1))) (
       opt.alt ((Int × Unit)) ((List (List (Go.Am.D)) × (List (List (Go.Am.D)) × (List (List (Go.Am.D)) × (Int × (Int × Unit)))))) _ (
         opt.run (((Int × Unit) ⊕ (List (List (Go.Am.D)) × (List (List (Go.Am.D)) × (List (List (Go.Am.D)) × (Int × (Int × Unit))))))) (
          opt.ask _ (p.cmp Go.BinOp.eql s62.2.2.2.1 (p.ofNat (p.len s62.1))) (
           opt.ret _ (Sum.inl ((14 : Int), ()))) (
           opt.need _ (p.rowOk s62.2.2.1 (p.nat s62.2.2.2.2.1) [(Go.Am.CK.int Go.IntKind.i64), (Go.Am.CK.int Go.IntKind.i64), (Go.Am.CK.int Go.IntKind.i64), (Go.Am.CK.int Go.IntKind.i64)]) <|
           opt.need _ (p.cmp Go.BinOp.geq s62.2.2.2.2.1 (0 : Int)) <|
           opt.need _ (bif (p.cmp Go.BinOp.geq s62.2.2.2.1 (0 : Int)) then (p.cmp Go.BinOp.lss s62.2.2.2.1 (p.ofNat (p.len s62.1))) else Bool.false) <|
           opt.need _ (p.rowOk s62.1 (p.add 0 (p.nat s62.2.2.2.1)) [(Go.Am.CK.int Go.IntKind.i64)]) <|
           opt.ask _ (p.cmp Go.BinOp.neq (p.rdI s62.2.2.1 (p.nat s62.2.2.2.2.1) 0) (p.rdI s62.1 (p.add 0 (p.nat s62.2.2.2.1)) 0)) (
            opt.ret _ (Sum.inl ((14 : Int), ()))) (
            opt.need _ (p.rowOk s62.2.2.1 (p.nat s62.2.2.2.2.1) [(Go.Am.CK.int Go.IntKind.i64), (Go.Am.CK.int Go.IntKind.i64), (Go.Am.CK.int Go.IntKind.i64), (Go.Am.CK.int Go.IntKind.i64)]) <|
            opt.need _ (p.cmp Go.BinOp.geq s62.2.2.2.2.1 (0 : Int)) <|
            opt.need _ (p.rowOk s62.2.2.1 (p.nat s62.2.2.2.2.1) [(Go.Am.CK.int Go.IntKind.i64), (Go.Am.CK.int Go.IntKind.i64), (Go.Am.CK.int Go.IntKind.i64), (Go.Am.CK.int Go.IntKind.i64)]) <|
            opt.need _ (p.cmp Go.BinOp.geq s62.2.2.2.2.1 (0 : Int)) <|
            opt.need _ (p.rowOk s62.2.2.1 (p.nat s62.2.2.2.2.1) [(Go.Am.CK.int Go.IntKind.i64), (Go.Am.CK.int Go.IntKind.i64), (Go.Am.CK.int Go.IntKind.i64), (Go.Am.CK.int Go.IntKind.i64)]) <|
            opt.need _ (p.cmp Go.BinOp.geq s62.2.2.2.2.1 (0 : Int)) <|
            opt.bnd ((Int × (Int × (Int × (Int × Unit))))) _ (G30 p (s62.2.1, ((p.rdI s62.2.2.1 (p.nat s62.2.2.2.2.1) 0), ((p.rdI s62.2.2.1 (p.nat s62.2.2.2.2.1) 1), ())))) fun y63 =>
            opt.ask _ (bif (bif (p.cmp Go.BinOp.eql (p.rdI s62.2.2.1 (p.nat s62.2.2.2.2.1) 0) y63.1) then (bif (p.cmp Go.BinOp.eql (p.rdI s62.2.2.1 (p.nat s62.2.2.2.2.1) 1) y63.2.1) then (bif (p.cmp Go.BinOp.eql (p.rdI s62.2.2.1 (p.nat s62.2.2.2.2.1) 2) y63.2.2.1) then (bif (p.cmp Go.BinOp.eql (p.rdI s62.2.2.1 (p.nat s62.2.2.2.2.1) 3) y63.2.2.2.1) then Bool.true else Bool.false) else Bool.false) else Bool.false) else Bool.false) then Bool.false else Bool.true) (
             opt.ret _ (Sum.inl ((14 : Int), ()))) (
             opt.ask _ (p.cmp Go.BinOp.gtr s62.2.2.2.2.1 (0 : Int)) (
              opt.need _ (p.rowOk s62.2.2.1 (p.nat (p.ar Go.BinOp.sub Go.IntKind.i64 s62.2.2.2.2.1 (1 : Int))) [(Go.Am.CK.int Go.IntKind.i64), (Go.Am.CK.int Go.IntKind.i64), (Go.Am.CK.int Go.IntKind.i64), (Go.Am.CK.int Go.IntKind.i64)]) <|
              opt.need _ (p.cmp Go.BinOp.geq (p.ar Go.BinOp.sub Go.IntKind.i64 s62.2.2.2.2.1 (1 : Int)) (0 : Int)) <|
              opt.need _ (p.rowOk s62.2.2.1 (p.nat s62.2.2.2.2.1) [(Go.Am.CK.int Go.IntKind.i64), (Go.Am.CK.int Go.IntKind.i64), (Go.Am.CK.int Go.IntKind.i64), (Go.Am.CK.int Go.IntKind.i64)]) <|
              opt.need _ (p.cmp Go.BinOp.geq s62.2.2.2.2.1 (0 : Int)) <|
              opt.bnd ((Bool × Unit)) _ (G31 p ((p.rdI s62.2.2.1 (p.nat (p.ar Go.BinOp.sub Go.IntKind.i64 s62.2.2.2.2.1 (1 : Int))) 0), ((p.rdI s62.2.2.1 (p.nat (p.ar Go.BinOp.sub Go.IntKind.i64 s62.2.2.2.2.1 (1 : Int))) 1), ((p.rdI s62.2.2.1 (p.nat (p.ar Go.BinOp.sub Go.IntKind.i64 s62.2.2.2.2.1 (1 : Int))) 2), ((p.rdI s62.2.2.1 (p.nat (p.ar Go.BinOp.sub Go.IntKind.i64 s62.2.2.2.2.1 (1 : Int))) 3), ((p.rdI s62.2.2.1 (p.nat s62.2.2.2.2.1) 0), ((p.rdI s62.2.2.1 (p.nat s62.2.2.2.2.1) 1), ((p.rdI s62.2.2.1 (p.nat s62.2.2.2.2.1) 2), ((p.rdI s62.2.2.1 (p.nat s62.2.2.2.2.1) 3), ()))))))))) fun y64 =>
              opt.ask _ (bif y64.1 then Bool.false else Bool.true) (
               opt.ret _ (Sum.inl ((14 : Int), ()))) (
               opt.need _ (p.eqN 0 0) <|
               opt.need _ (p.eqN (p.len s62.1) (p.len s62.1)) <|
               opt.alt ((Int × Unit)) ((List (List (Go.Am.D)) × (List (List (Go.Am.D)) × (List (List (Go.Am.D)) × (Int × (Int × (Bool × Unit))))))) _ (
                 iter (b20_2 p) (s62.1, (s62.2.1, (s62.2.2.1, (s62.2.2.2.1, (s62.2.2.2.2.1, (Bool.false, ()))))))) (fun y72 =>
                opt.ret _ (Sum.inl (y72.1, ()))) (fun y73 =>
                opt.bnd ((List (List (Go.Am.D)) × (List (List (Go.Am.D)) × (List (List (Go.Am.D)) × (Int × (Int × (Bool × Unit))))))) _ (some y73) fun y74 =>
                opt.ask _ (bif y74.2.2.2.2.2.1 then Bool.false else Bool.true) (
                 opt.ret _ (Sum.inl ((14 : Int), ()))) (
                 opt.need _ (p.eqN 0 0) <|
                 opt.need _ (p.eqN (p.len y74.1) (p.len y74.1)) <|
                 opt.ret _ (Sum.inr (y74.1, (y74.2.1, (y74.2.2.1, (y74.2.2.2.1, (y74.2.2.2.2.1, ())))))))))) (
              opt.need _ (p.eqN 0 0) <|
              opt.need _ (p.eqN (p.len s62.1) (p.len s62.1)) <|
              opt.alt ((Int × Unit)) ((List (List (Go.Am.D)) × (List (List (Go.Am.D)) × (List (List (Go.Am.D)) × (Int × (Int × (Bool × Unit))))))) _ (
                iter (b20_3 p) (s62.1, (s62.2.1, (s62.2.2.1, (s62.2.2.2.1, (s62.2.2.2.2.1, (Bool.false, ()))))))) (fun y82 =>
               opt.ret _ (Sum.inl (y82.1, ()))) (fun y83 =>
               opt.bnd ((List (List (Go.Am.D)) × (List (List (Go.Am.D)) × (List (List (Go.Am.D)) × (Int × (Int × (Bool × Unit))))))) _ (some y83) fun y84 =>
               opt.ask _ (bif y84.2.2.2.2.2.1 then Bool.false else Bool.true) (
                opt.ret _ (Sum.inl ((14 : Int), ()))) (
                opt.need _ (p.eqN 0 0) <|
                opt.need _ (p.eqN (p.len y84.1) (p.len y84.1)) <|
                opt.ret _ (Sum.inr (y84.1, (y84.2.1, (y84.2.2.1, (y84.2.2.2.1, (y84.2.2.2.2.1, ())))))))))))))) (fun y85 =>
        opt.ret _ (Sum.inr (Sum.inl (y85.1, ())))) (fun y86 =>
        opt.bnd ((List (List (Go.Am.D)) × (List (List (Go.Am.D)) × (List (List (Go.Am.D)) × (Int × (Int × Unit)))))) _ (some y86) fun y87 =>
        opt.need _ (p.eqN 0 0) <|
        opt.need _ (p.eqN (p.len y87.1) (p.len y87.1)) <|
        opt.ret _ (Sum.inl (y87.1, (y87.2.1, (y87.2.2.1, (y87.2.2.2.1, ((p.ar Go.BinOp.add Go.IntKind.i64 y87.2.2.2.2.1 (1 : Int)), ())))))))) (
       opt.need _ (p.eqN 0 0) <|
       opt.need _ (p.eqN (p.len s62.1) (p.len s62.1)) <|
       opt.ret _ (Sum.inr (Sum.inr (s62.1, (s62.2.2.2.1, ()))))))
noncomputable def G20 : (p : Prim) → (List (List (Go.Am.D)) × (List (List (Go.Am.D)) × Unit)) → Option ((Int × Unit)) :=
  fun p x =>
  opt.bnd ((Int × Unit)) _ (G17 p (x.1, ())) fun y59 =>
  opt.ask _ (p.cmp Go.BinOp.neq y59.1 (0 : Int)) (
   opt.bnd ((Int × Unit)) _ (G17 p (x.1, ())) fun y60 =>
   opt.ret _ (y60.1, ())) (
   opt.bnd ((List (List (Go.Am.D)) × Unit)) _ (G28 p (x.1, ())) fun y61 =>
   opt.need _ (p.eqN 0 0) <|
   opt.need _ (p.eqN (p.len y61.1) (p.len y61.1)) <|
   opt.alt ((Int × Unit)) ((List (List (Go.Am.D)) × (Int × Unit))) _ (
     iter (b20_1 p) (y61.1, (x.1, (x.2.1, ((0 : Int), ((0 : Int), ())))))) (fun y88 =>
    opt.ret _ (y88.1, ())) (fun y89 =>
    opt.bnd ((List (List (Go.Am.D)) × (Int × Unit))) _ (some y89) fun y90 =>
    opt.ask _ (p.cmp Go.BinOp.neq y90.2.1 (p.ofNat (p.len y90.1))) (
     opt.ret _ ((14 : Int), ())) (
     opt.ret _ ((0 : Int), ()))))
noncomputable def F20 : Prim → Tup (ctr20).scs → Option (STup (scss (ctr20).outs)) :=
  fun p x => G20 p x
theorem eq20 (p : Prim) (x : Tup (ctr20).scs) : bodyRun opt p (autoEnv Go.Proofs.Try.prog) (mkOrc opt p (autoEnv Go.Proofs.Try.prog) 400 (an20) la20) 400 ctr20 x = G20 p x := by kernel_rfl
theorem gok20 : GamOk Go.Proofs.Try.prog (gam20) := by
  intro cf h
  simp only [gam20, List.mem_cons, List.not_mem_nil, or_false] at h
  rcases h with rfl | rfl | rfl | rfl
  · exact ok31
  · exact ok30
  · exact ok28
  · exact ok17
theorem enters20 : Enters Go.Proofs.Try.prog 20 := enters_auto (b := _) rfl (by kernel_rfl)
theorem ok20 : CtrOk Go.Proofs.Try.prog ctr20 (F20 std) := ctr_of_body (autoEnv_ok follows_mixed) (mkOrc_ok (autoEnv_ok follows_mixed) gok20 _) enters20 (fun x => eq20 std x)
noncomputable def ctr27 : Ctr :=
  ⟨27, [.list 3], [], [(.ret, ⟨[(0, .bool)], [], 1⟩)]⟩
noncomputable def la27 : List LA :=
  []
noncomputable def ja27 : List JA :=
  []
noncomputable def gam27 : List CF :=
  [⟨ctr17, F17⟩]
noncomputable def an27 : Anns :=
  ⟨gam27, ja27, []⟩
noncomputable def G27 : (p : Prim) → (List (List (Go.Am.D)) × Unit) → Option ((Bool × Unit)) :=
  fun p x =>
  opt.bnd ((Int × Unit)) _ (G17 p (x.1, ())) fun y98 =>
  opt.ret _ ((p.cmp Go.BinOp.eql y98.1 (0 : Int)), ())
noncomputable def F27 : Prim → Tup (ctr27).scs → Option (STup (scss (ctr27).outs)) :=
  fun p x => G27 p x
theorem eq27 (p : Prim) (x : Tup (ctr27).scs) : bodyRun opt p (autoEnv Go.Proofs.Try.prog) (mkOrc opt p (autoEnv Go.Proofs.Try.prog) 400 (an27) la27) 400 ctr27 x = G27 p x := by kernel_rfl
theorem gok27 : GamOk Go.Proofs.Try.prog (gam27) := by
  intro cf h
  simp only [gam27, List.mem_cons, List.not_mem_nil, or_false] at h
  rcases h with rfl
  · exact ok17
theorem enters27 : Enters Go.Proofs.Try.prog 27 := enters_auto (b := _) rfl (by kernel_rfl)
theorem ok27 : CtrOk Go.Proofs.Try.prog ctr27 (F27 std) := ctr_of_body (autoEnv_ok follows_mixed) (mkOrc_ok (autoEnv_ok follows_mixed) gok27 _) enters27 (fun x => eq27 std x)
noncomputable def ctr33 : Ctr :=
  ⟨33, [.agg [.int Go.IntKind.i64, .int Go.IntKind.i64]], [], [(.ret, ⟨[(0, .bool)], [], 1⟩)]⟩
noncomputable def la33 : List LA :=
  []
noncomputable def ja33 : List JA :=
  [⟨33, [false, true], [(Go.Am.AX.normal, ⟨[(2, .bool)], [], 24⟩)]⟩]
noncomputable def gam33 : List CF :=
  []
noncomputable def an33 : Anns :=
  ⟨gam33, ja33, []⟩
noncomputable def G33 : (p : Prim) → (Int × (Int × Unit)) → Option ((Bool × Unit)) :=
  fun p x =>
  opt.bnd ((Bool × Unit)) _ (
    opt.run ((Bool × Unit)) (
     opt.ask _ (p.cmp Go.BinOp.geq x.2.1 (1 : Int)) (
      opt.ask _ (p.cmp Go.BinOp.leq x.2.1 (1000 : Int)) (
       opt.ask _ (p.cmp Go.BinOp.geq x.1 (0 : Int)) (
        opt.ret _ ((p.cmp Go.BinOp.leq x.1 (p.ar Go.BinOp.mul Go.IntKind.i64 (100 : Int) x.2.1)), ())) (
        opt.ret _ (Bool.false, ()))) (
       opt.ret _ (Bool.false, ()))) (
      opt.ret _ (Bool.false, ())))) fun y107 =>
  opt.ret _ (y107.1, ())
noncomputable def F33 : Prim → Tup (ctr33).scs → Option (STup (scss (ctr33).outs)) :=
  fun p x => G33 p x
theorem eq33 (p : Prim) (x : Tup (ctr33).scs) : bodyRun opt p (autoEnv Go.Proofs.Try.prog) (mkOrc opt p (autoEnv Go.Proofs.Try.prog) 400 (an33) la33) 400 ctr33 x = G33 p x := by kernel_rfl
theorem gok33 : GamOk Go.Proofs.Try.prog gam33 := fun cf h => by cases h
theorem enters33 : Enters Go.Proofs.Try.prog 33 := enters_auto (b := _) rfl (by kernel_rfl)
theorem ok33 : CtrOk Go.Proofs.Try.prog ctr33 (F33 std) := ctr_of_body (autoEnv_ok follows_mixed) (mkOrc_ok (autoEnv_ok follows_mixed) gok33 _) enters33 (fun x => eq33 std x)
noncomputable def ctr34 : Ctr :=
  ⟨34, [.agg [.int Go.IntKind.i64, .int Go.IntKind.i64], .agg [.int Go.IntKind.i64, .int Go.IntKind.i64]], [], [(.ret, ⟨[(0, .bool)], [], 1⟩)]⟩
noncomputable def la34 : List LA :=
  []
noncomputable def ja34 : List JA :=
  []
noncomputable def gam34 : List CF :=
  []
noncomputable def an34 : Anns :=
  ⟨gam34, ja34, []⟩
noncomputable def G34 : (p : Prim) → (Int × (Int × (Int × (Int × Unit)))) → Option ((Bool × Unit)) :=
  fun p x =>
  opt.ret _ ((p.cmp Go.BinOp.lss (p.ar Go.BinOp.mul Go.IntKind.i64 x.1 x.2.2.2.1) (p.ar Go.BinOp.mul Go.IntKind.i64 x.2.2.1 x.2.1)), ())
noncomputable def F34 : Prim → Tup (ctr34).scs → Option (STup (scss (ctr34).outs)) :=
  fun p x => G34 p x
theorem eq34 (p : Prim) (x : Tup (ctr34).scs) : bodyRun opt p (autoEnv Go.Proofs.Try.prog) (mkOrc opt p (autoEnv Go.Proofs.Try.prog) 400 (an34) la34) 400 ctr34 x = G34 p x := by kernel_rfl
theorem gok34 : GamOk Go.Proofs.Try.prog gam34 := fun cf h => by cases h
theorem enters34 : Enters Go.Proofs.Try.prog 34 := enters_auto (b := _) rfl (by kernel_rfl)
theorem ok34 : CtrOk Go.Proofs.Try.prog ctr34 (F34 std) := ctr_of_body (autoEnv_ok follows_mixed) (mkOrc_ok (autoEnv_ok follows_mixed) gok34 _) enters34 (fun x => eq34 std x)
noncomputable def ctr54 : Ctr :=
  ⟨54, [.int Go.IntKind.i64, .bptr 0 0, .bptr 1 0], [.box [.int Go.IntKind.i64], .box [.int Go.IntKind.i64]], [(.ret, ⟨[(0, .bool)], [.box [.int Go.IntKind.i64], .box [.int Go.IntKind.i64]], 1⟩)]⟩
noncomputable def la54 : List LA :=
  []
noncomputable def ja54 : List JA :=
  [⟨54, [false, true], [(Go.Am.AX.normal, ⟨[(4, .bool)], [.box [.int Go.IntKind.i64], .box [.int Go.IntKind.i64]], 13⟩)]⟩]
noncomputable def gam54 : List CF :=
  []
noncomputable def an54 : Anns :=
  ⟨gam54, ja54, []⟩
noncomputable def G54 : (p : Prim) → (Int × (Int × (Int × Unit))) → Option ((Int × (Int × (Bool × Unit)))) :=
  fun p x =>
  opt.bnd ((Int × (Int × (Bool × Unit)))) _ (
    opt.run ((Int × (Int × (Bool × Unit)))) (
     opt.ask _ (p.cmp Go.BinOp.lss x.2.2.1 x.1) (
      opt.ret _ (x.1, (x.2.1, (Bool.true, ())))) (
      opt.ret _ (x.1, (x.2.1, ((p.cmp Go.BinOp.gtr x.2.2.1 x.2.1), ())))))) fun y28 =>
  opt.ret _ (y28.1, (y28.2.1, (y28.2.2.1, ())))
noncomputable def F54 : Prim → Tup (ctr54).scs → Option (STup (scss (ctr54).outs)) :=
  fun p x => G54 p x
theorem eq54 (p : Prim) (x : Tup (ctr54).scs) : bodyRun opt p (autoEnv Go.Proofs.Try.prog) (mkOrc opt p (autoEnv Go.Proofs.Try.prog) 400 (an54) la54) 400 ctr54 x = G54 p x := by kernel_rfl
theorem gok54 : GamOk Go.Proofs.Try.prog gam54 := fun cf h => by cases h
theorem enters54 : Enters Go.Proofs.Try.prog 54 := enters_auto (b := _) rfl (by kernel_rfl)
theorem ok54 : CtrOk Go.Proofs.Try.prog ctr54 (F54 std) := ctr_of_body (autoEnv_ok follows_mixed) (mkOrc_ok (autoEnv_ok follows_mixed) gok54 _) enters54 (fun x => eq54 std x)
noncomputable def ctr58 : Ctr :=
  ⟨58, [.full 0 1, .clo 54 [] [.bptr 1 0, .bptr 2 0]], [.row [(Go.Am.CK.int Go.IntKind.i64)], .box [.int Go.IntKind.i64], .box [.int Go.IntKind.i64]], [(.ret, ⟨[(0, .int Go.IntKind.i64)], [.row [(Go.Am.CK.int Go.IntKind.i64)], .box [.int Go.IntKind.i64], .box [.int Go.IntKind.i64]], 1⟩)]⟩
noncomputable def la58 : List LA :=
  [⟨58, [false, true, false, true], ⟨⟨[(0, .full 0 1), (1, .clo 54 [] [.bptr 1 0, .bptr 2 0]), (7, .int Go.IntKind.i64), (8, .int Go.IntKind.i64)], [.row [(Go.Am.CK.int Go.IntKind.i64)], .box [.int Go.IntKind.i64], .box [.int Go.IntKind.i64]], 19⟩, [(Go.Am.AX.ret, ⟨[(4, .int Go.IntKind.i64)], [.row [(Go.Am.CK.int Go.IntKind.i64)], .box [.int Go.IntKind.i64], .box [.int Go.IntKind.i64]], 19⟩), ((Go.Am.AX.exit 0), ⟨[], [.row [(Go.Am.CK.int Go.IntKind.i64)], .box [.int Go.IntKind.i64], .box [.int Go.IntKind.i64]], 19⟩)]⟩⟩]
noncomputable def ja58 : List JA :=
  []
noncomputable def gam58 : List CF :=
  [⟨ctr54, F54⟩]
noncomputable def an58 : Anns :=
  ⟨gam58, ja58, []⟩
noncomputable def b58_1 (p : Prim) : (List (List (Go.Am.D)) × (Int × (Int × (Int × (Int × Unit))))) → Option ((List (List (Go.Am.D)) × (Int × (Int × (Int × (Int × Unit))))) ⊕ ((List (List (Go.Am.D)) × (Int × (Int × (Int × Unit)))) ⊕ (List (List (Go.Am.D)) × (Int × (Int × Unit))))) :=
  fun s36 => opt.run _ (
     opt.ask _ (p.cmp Go.BinOp.lss s36.2.2.2.2.1 s36.2.2.2.1) (
      opt.need _ (bif (p.cmp Go.BinOp.geq s36.2.2.2.2.1 (0 : Int)) then (p.cmp Go.BinOp.lss s36.2.2.2.2.1 (p.ofNat (p.len s36.1))) else Bool.false) <|
      opt.need _ (p.rowOk s36.1 (p.add 0 (p.nat s36.2.2.2.2.1)) [(Go.Am.CK.int Go.IntKind.i64)]) <|
      opt.bnd ((Int × (Int × (Bool × Unit)))) _ (G54 p (s36.2.1, (s36.2.2.1, ((p.rdI s36.1 (p.add 0 (p.nat s36.2.2.2.2.1)) 0), ())))) fun y37 =>
      opt.ask _ y37.2.2.1 (
       opt.ret _ (Sum.inr (Sum.inl (s36.1, (y37.1, (y37.2.1, (s36.2.2.2.2.1, ()))))))) (
       opt.need _ (p.eqN 0 0) <|
       opt.need _ (p.eqN (p.len s36.1) (p.len s36.1)) <|
       opt.need _ (p.eqN (p.len s36.1) (p.len s36.1)) <|
       opt.ret _ (Sum.inl (s36.1, (y37.1, (y37.2.1, (s36.2.2.2.1, ((p.ar Go.BinOp.add Go.IntKind.i64 s36.2.2.2.2.1 (1 : Int)), ())))))))) (
      opt.ret _ (Sum.inr (Sum.inr (s36.1, (s36.2.1, (s36.2.2.1, ())))))))
noncomputable def G58 : (p : Prim) → (List (List (Go.Am.D)) × (Int × (Int × Unit))) → Option ((List (List (Go.Am.D)) × (Int × (Int × (Int × Unit))))) :=
  fun p x =>
  opt.need _ (p.eqN 0 0) <|
  opt.need _ (p.eqN (p.len x.1) (p.len x.1)) <|
  opt.need _ (p.eqN (p.len x.1) (p.len x.1)) <|
  opt.alt ((List (List (Go.Am.D)) × (Int × (Int × (Int × Unit))))) ((List (List (Go.Am.D)) × (Int × (Int × Unit)))) _ (
    iter (b58_1 p) (x.1, (x.2.1, (x.2.2.1, ((p.ofNat (p.len x.1)), ((0 : Int), ())))))) (fun y38 =>
   opt.ret _ (y38.1, (y38.2.1, (y38.2.2.1, (y38.2.2.2.1, ()))))) (fun y39 =>
   opt.bnd ((List (List (Go.Am.D)) × (Int × (Int × Unit)))) _ (some y39) fun y40 =>
   opt.ret _ (y40.1, (y40.2.1, (y40.2.2.1, ((-1 : Int), ())))))
noncomputable def F58 : Prim → Tup (ctr58).scs → Option (STup (scss (ctr58).outs)) :=
  fun p x => G58 p x
theorem eq58 (p : Prim) (x : Tup (ctr58).scs) : bodyRun opt p (autoEnv Go.Proofs.Try.prog) (mkOrc opt p (autoEnv Go.Proofs.Try.prog) 400 (an58) la58) 400 ctr58 x = G58 p x := by kernel_rfl
theorem gok58 : GamOk Go.Proofs.Try.prog (gam58) := by
  intro cf h
  simp only [gam58, List.mem_cons, List.not_mem_nil, or_false] at h
  rcases h with rfl
  · exact ok54
theorem enters58 : Enters Go.Proofs.Try.prog 58 := enters_auto (b := _) rfl (by kernel_rfl)
theorem ok58 : CtrOk Go.Proofs.Try.prog ctr58 (F58 std) := ctr_of_body (autoEnv_ok follows_mixed) (mkOrc_ok (autoEnv_ok follows_mixed) gok58 _) enters58 (fun x => eq58 std x)
noncomputable def ctr53 : Ctr :=
  ⟨53, [.full 0 1, .clo 54 [] [.bptr 1 0, .bptr 2 0]], [.row [(Go.Am.CK.int Go.IntKind.i64)], .box [.int Go.IntKind.i64], .box [.int Go.IntKind.i64]], [(.ret, ⟨[(0, .bool)], [.row [(Go.Am.CK.int Go.IntKind.i64)], .box [.int Go.IntKind.i64], .box [.int Go.IntKind.i64]], 1⟩)]⟩
noncomputable def la53 : List LA :=
  []
noncomputable def ja53 : List JA :=
  []
noncomputable def gam53 : List CF :=
  [⟨ctr58, F58⟩]
noncomputable def an53 : Anns :=
  ⟨gam53, ja53, []⟩
noncomputable def G53 : (p : Prim) → (List (List (Go.Am.D)) × (Int × (Int × Unit))) → Option ((List (List (Go.Am.D)) × (Int × (Int × (Bool × Unit))))) :=
  fun p x =>
  opt.need _ (p.eqN 0 0) <|
  opt.need _ (p.eqN (p.len x.1) (p.len x.1)) <|
  opt.need _ (p.eqN (p.len x.1) (p.len x.1)) <|
  opt.bnd ((List (List (Go.Am.D)) × (Int × (Int × (Int × Unit))))) _ (G58 p (x.1, (x.2.1, (x.2.2.1, ())))) fun y45 =>
  opt.ret _ (y45.1, (y45.2.1, (y45.2.2.1, ((p.cmp Go.BinOp.geq y45.2.2.2.1 (0 : Int)), ()))))
noncomputable def F53 : Prim → Tup (ctr53).scs → Option (STup (scss (ctr53).outs)) :=
  fun p x => G53 p x
theorem eq53 (p : Prim) (x : Tup (ctr53).scs) : bodyRun opt p (autoEnv Go.Proofs.Try.prog) (mkOrc opt p (autoEnv Go.Proofs.Try.prog) 400 (an53) la53) 400 ctr53 x = G53 p x := by kernel_rfl
theorem gok53 : GamOk Go.Proofs.Try.prog (gam53) := by
  intro cf h
  simp only [gam53, List.mem_cons, List.not_mem_nil, or_false] at h
  rcases h with rfl
  · exact ok58
theorem enters53 : Enters Go.Proofs.Try.prog 53 := enters_auto (b := _) rfl (by kernel_rfl)
theorem ok53 : CtrOk Go.Proofs.Try.prog ctr53 (F53 std) := ctr_of_body (autoEnv_ok follows_mixed) (mkOrc_ok (autoEnv_ok follows_mixed) gok53 _) enters53 (fun x => eq53 std x)
noncomputable def ctr16 : Ctr :=
  ⟨16, [.list 3], [], [(.ret, ⟨[(0, .int Go.IntKind.i64)], [], 1⟩)]⟩
noncomputable def la16 : List LA :=
  [⟨16, [false, true, false, true, true], ⟨⟨[(13, .list 3), (14, .int Go.IntKind.i64), (15, .int Go.IntKind.i64)], [], 39⟩, [(Go.Am.AX.ret, ⟨[(2, .int Go.IntKind.i64)], [], 39⟩), ((Go.Am.AX.exit 0), ⟨[], [], 39⟩)]⟩⟩]
noncomputable def ja16 : List JA :=
  [⟨16, [false, true, false, false, true, true, false, false, true, false, true, true], [(Go.Am.AX.normal, ⟨[(13, .list 3), (14, .int Go.IntKind.i64), (15, .int Go.IntKind.i64), (37, .bool)], [], 39⟩)]⟩,
   ⟨16, [false, false, true], [(Go.Am.AX.normal, ⟨[(0, .list 3), (12, .bool)], [], 39⟩)]⟩]
noncomputable def gam16 : List CF :=
  [⟨ctr53, F53⟩]
noncomputable def an16 : Anns :=
  ⟨gam16, ja16, []⟩
noncomputable def b16_1 (p : Prim) : (List (List (Go.Am.D)) × (Int × (Int × Unit))) → Option ((List (List (Go.Am.D)) × (Int × (Int × Unit))) ⊕ ((Int × Unit) ⊕ Unit)) :=
  fun s57 => opt.run _ (
      opt.ask _ (p.cmp Go.BinOp.lss s57.2.2.1 s57.2.1) (
       opt.need _ (p.rowOk s57.1 (p.nat s57.2.2.1) [(Go.Am.CK.int Go.IntKind.i64), (Go.Am.CK.int Go.IntKind.i64), (Go.Am.CK.int Go.IntKind.i64)]) <|
       opt.need _ (p.cmp Go.BinOp.geq s57.2.2.1 (0 : Int)) <|
       opt.bnd ((List (List (Go.Am.D)) × (Int × (Int × (Bool × Unit))))) _ (
         opt.run ((List (List (Go.Am.D)) × (Int × (Int × (Bool × Unit))))) (
          opt.need _ (p.eqN 0 0) <|
          opt.need _ (p.eqN 1 (p.len [[(Go.Am.D.int Go.IntKind.i64 (p.rdI s57.1 (p.nat s57.2.2.1) 0))]])) <|
          opt.need _ (p.eqN 1 (p.len [[(Go.Am.D.int Go.IntKind.i64 (p.rdI s57.1 (p.nat s57.2.2.1) 0))]])) <|
          opt.bnd ((List (List (Go.Am.D)) × (Int × (Int × (Bool × Unit))))) _ (G53 p ([[(Go.Am.D.int Go.IntKind.i64 (p.rdI s57.1 (p.nat s57.2.2.1) 0))]], ((1 : Int), ((10000 : Int), ())))) fun y58 =>
          opt.ask _ (bif (bif y58.2.2.2.1 then Bool.false else Bool.true) then Bool.false else Bool.true) (
           opt.ret _ (s57.1, (s57.2.1, (s57.2.2.1, (Bool.true, ()))))) (
           opt.need _ (p.eqN 0 0) <|
           opt.need _ (p.eqN 1 (p.len [[(Go.Am.D.int Go.IntKind.i64 (p.rdI s57.1 (p.nat s57.2.2.1) 1))]])) <|
           opt.need _ (p.eqN 1 (p.len [[(Go.Am.D.int Go.IntKind.i64 (p.rdI s57.1 (p.nat s57.2.2.1) 1))]])) <|
           opt.bnd ((List (List (Go.Am.D)) × (Int × (Int × (Bool × Unit))))) _ (G53 p ([[(Go.Am.D.int Go.IntKind.i64 (p.rdI s57.1 (p.nat s57.2.2.1) 1))]], ((0 : Int), ((100 : Int), ())))) fun y59 =>
           opt.ask _ (bif (bif y59.2.2.2.1 then Bool.false else Bool.true) then Bool.false else Bool.true) (
            opt.ret _ (s57.1, (s57.2.1, (s57.2.2.1, (Bool.true, ()))))) (
            opt.need _ (p.eqN 0 0) <|
            opt.need _ (p.eqN 1 (p.len [[(Go.Am.D.int Go.IntKind.i64 (p.rdI s57.1 (p.nat s57.2.2.1) 2))]])) <|
            opt.need _ (p.eqN 1 (p.len [[(Go.Am.D.int Go.IntKind.i64 (p.rdI s57.1 (p.nat s57.2.2.1) 2))]])) <|
            opt.bnd ((List (List (Go.Am.D)) × (Int × (Int × (Bool × Unit))))) _ (G53 p ([[(Go.Am.D.int Go.IntKind.i64 (p.rdI s57.1 (p.nat s57.2.2.1) 2))]], ((1 : Int), ((20 : Int), ())))) fun y60 =>
            opt.ret _ (s57.1, (s57.2.1, (s57.2.2.1, ((bif (bif y60.2.2.2.1 then Bool.false else Bool.true) then Bool.false else Bool.true), ())))))))) fun y61 =>
       opt.ask _ y61.2.2.2.1 (
        opt.ret _ (Sum.inr (Sum.inl ((2 : Int), ())))) (
        opt.ret _ (Sum.inl (y61.1, (y61.2.1, ((p.ar Go.BinOp.add Go.IntKind.i64 y61.2.2.1 (1 : Int)), ())))))) (
       opt.ret _ (Sum.inr (Sum.inr ()))))
noncomputable def G16 : (p : Prim) → (List (List (Go.Am.D)) × Unit) → Option ((Int × Unit)) :=
  fun p x =>
  opt.bnd ((List (List (Go.Am.D)) × (Bool × Unit))) _ (
    opt.run ((List (List (Go.Am.D)) × (Bool × Unit))) (
     opt.ask _ (p.cmp Go.BinOp.eql (p.ofNat (p.len x.1)) (0 : Int)) (
      opt.ret _ (x.1, (Bool.true, ()))) (
      opt.ret _ (x.1, ((p.cmp Go.BinOp.gtr (p.ofNat (p.len x.1)) (24 : Int)), ()))))) fun y56 =>
  opt.ask _ y56.2.1 (
   opt.ret _ ((6 : Int), ())) (
   opt.alt ((Int × Unit)) (Unit) _ (
     iter (b16_1 p) (y56.1, ((p.ofNat (p.len y56.1)), ((0 : Int), ())))) (fun y62 =>
    opt.ret _ (y62.1, ())) (fun y63 =>
    opt.bnd (Unit) _ (some y63) fun y64 =>
    opt.ret _ ((0 : Int), ())))
noncomputable def F16 : Prim → Tup (ctr16).scs → Option (STup (scss (ctr16).outs)) :=
  fun p x => G16 p x
theorem eq16 (p : Prim) (x : Tup (ctr16).scs) : bodyRun opt p (autoEnv Go.Proofs.Try.prog) (mkOrc opt p (autoEnv Go.Proofs.Try.prog) 400 (an16) la16) 400 ctr16 x = G16 p x := by kernel_rfl
theorem gok16 : GamOk Go.Proofs.Try.prog (gam16) := by
  intro cf h
  simp only [gam16, List.mem_cons, List.not_mem_nil, or_false] at h
  rcases h with rfl
  · exact ok53
theorem enters16 : Enters Go.Proofs.Try.prog 16 := enters_auto (b := _) rfl (by kernel_rfl)
theorem ok16 : CtrOk Go.Proofs.Try.prog ctr16 (F16 std) := ctr_of_body (autoEnv_ok follows_mixed) (mkOrc_ok (autoEnv_ok follows_mixed) gok16 _) enters16 (fun x => eq16 std x)
noncomputable def ctr43 : Ctr :=
  ⟨43, [.list 3], [], [(.ret, ⟨[(0, .vec 0 4)], [.row [(Go.Am.CK.int Go.IntKind.i64), (Go.Am.CK.int Go.IntKind.i64), (Go.Am.CK.int Go.IntKind.i64), (Go.Am.CK.int Go.IntKind.i64)]], 1⟩)]⟩
noncomputable def la43 : List LA :=
  [⟨43, [false, true, false, true, true], ⟨⟨[(3, .map 0), (11, .list 3), (12, .int Go.IntKind.i64), (13, .int Go.IntKind.i64)], [.map], 58⟩, [((Go.Am.AX.exit 0), ⟨[(3, .map 0)], [.map], 58⟩)]⟩⟩,
   ⟨43, [false, true, false, true, true, true, true], ⟨⟨[(3, .map 0), (7, .vec 2 4), (40, .vec 1 1), (41, .int Go.IntKind.i64), (42, .int Go.IntKind.i64)], [.map, .row [(Go.Am.CK.int Go.IntKind.i64)], .row [(Go.Am.CK.int Go.IntKind.i64), (Go.Am.CK.int Go.IntKind.i64), (Go.Am.CK.int Go.IntKind.i64), (Go.Am.CK.int Go.IntKind.i64)]], 58⟩, [((Go.Am.AX.exit 2), ⟨[(7, .vec 0 4)], [.row [(Go.Am.CK.int Go.IntKind.i64), (Go.Am.CK.int Go.IntKind.i64), (Go.Am.CK.int Go.IntKind.i64), (Go.Am.CK.int Go.IntKind.i64)]], 58⟩)]⟩⟩]
noncomputable def ja43 : List JA :=
  [⟨43, [false, true, true, false, false, true, false, true, true, true, true], [(Go.Am.AX.normal, ⟨[(3, .map 0), (7, .vec 1 4), (40, .vec 2 1), (41, .int Go.IntKind.i64), (42, .int Go.IntKind.i64)], [.map, .row [(Go.Am.CK.int Go.IntKind.i64), (Go.Am.CK.int Go.IntKind.i64), (Go.Am.CK.int Go.IntKind.i64), (Go.Am.CK.int Go.IntKind.i64)], .row [(Go.Am.CK.int Go.IntKind.i64)]], 58⟩)]⟩,
   ⟨43, [false, true, true, false, false, true, false, true, true], [(Go.Am.AX.normal, ⟨[(3, .map 0), (11, .list 3), (12, .int Go.IntKind.i64), (13, .int Go.IntKind.i64)], [.map], 58⟩)]⟩]
noncomputable def gam43 : List CF :=
  [⟨ctr55, F55⟩]
noncomputable def an43 : Anns :=
  ⟨gam43, ja43, []⟩
noncomputable def b43_2 (p : Prim) : (List ((Go.Am.D × Go.Am.D)) × (List (List (Go.Am.D)) × (List (List (Go.Am.D)) × (Int × (Int × Unit))))) → Option ((List ((Go.Am.D × Go.Am.D)) × (List (List (Go.Am.D)) × (List (List (Go.Am.D)) × (Int × (Int × Unit))))) ⊕ (List (List (Go.Am.D)) × Unit)) :=
  fun s101 => opt.run _ (
     opt.ask _ (p.cmp Go.BinOp.lss s101.2.2.2.2.1 s101.2.2.2.1) (
      opt.bnd ((List ((Go.Am.D × Go.Am.D)) × (List (List (Go.Am.D)) × (List (List (Go.Am.D)) × (Int × (Int × Unit)))))) _ (
        opt.run ((List ((Go.Am.D × Go.Am.D)) × (List (List (Go.Am.D)) × (List (List (Go.Am.D)) × (Int × (Int × Unit)))))) (
         opt.need _ (bif (p.cmp Go.BinOp.geq s101.2.2.2.2.1 (0 : Int)) then (p.cmp Go.BinOp.lss s101.2.2.2.2.1 (p.ofNat (p.len s101.2.1))) else Bool.false) <|
         opt.need _ (p.rowOk s101.2.1 (p.add 0 (p.nat s101.2.2.2.2.1)) [(Go.Am.CK.int Go.IntKind.i64)]) <|
         opt.need _ (p.mOk s101.1 [Go.Am.SK.i] Bool.false (Go.Am.D.int Go.IntKind.i64 (p.rdI s101.2.1 (p.add 0 (p.nat s101.2.2.2.2.1)) 0)) Bool.true [(Go.Am.CK.int Go.IntKind.i64), (Go.Am.CK.int Go.IntKind.i64)]) <|
         opt.ask _ (p.mhas s101.1 [Go.Am.SK.i] Bool.false (Go.Am.D.int Go.IntKind.i64 (p.rdI s101.2.1 (p.add 0 (p.nat s101.2.2.2.2.1)) 0))) (
          opt.need _ (bif (p.cmp Go.BinOp.geq (0 : Int) (0 : Int)) then (p.cmp Go.BinOp.lss (0 : Int) (p.ofNat 2)) else Bool.false) <|
          opt.need _ (bif (p.cmp Go.BinOp.geq (1 : Int) (0 : Int)) then (p.cmp Go.BinOp.lss (1 : Int) (p.ofNat 2)) else Bool.false) <|
          opt.need _ (p.and (p.leN (p.add 0 1) (p.len [[(Go.Am.D.int Go.IntKind.i64 (p.rdI s101.2.1 (p.add 0 (p.nat s101.2.2.2.2.1)) 0)), (Go.Am.D.int Go.IntKind.i64 (p.rdI s101.2.1 (p.add 0 (p.nat s101.2.2.2.2.1)) 0)), (Go.Am.D.int Go.IntKind.i64 (p.mI s101.1 [Go.Am.SK.i] Bool.false (Go.Am.D.int Go.IntKind.i64 (p.rdI s101.2.1 (p.add 0 (p.nat s101.2.2.2.2.1)) 0)) 0)), (Go.Am.D.int Go.IntKind.i64 (p.mI s101.1 [Go.Am.SK.i] Bool.false (Go.Am.D.int Go.IntKind.i64 (p.rdI s101.2.1 (p.add 0 (p.nat s101.2.2.2.2.1)) 0)) 1))]])) (p.and (p.leN (p.add 0 (p.len s101.2.2.1)) (p.len s101.2.2.1)) (p.and (p.leN 1 1) (p.leN (p.add (p.len s101.2.2.1) 1) 1000000)))) <|
          opt.need _ (p.mOk s101.1 [Go.Am.SK.i] Bool.false (Go.Am.D.int Go.IntKind.i64 (p.rdI s101.2.1 (p.add 0 (p.nat s101.2.2.2.2.1)) 0)) Bool.true [(Go.Am.CK.int Go.IntKind.i64), (Go.Am.CK.int Go.IntKind.i64)]) <|
          opt.ask _ (p.mhas s101.1 [Go.Am.SK.i] Bool.false (Go.Am.D.int Go.IntKind.i64 (p.rdI s101.2.1 (p.add 0 (p.nat s101.2.2.2.2.1)) 0))) (
           opt.need _ (p.eqN 0 0) <|
           opt.need _ (p.eqN (p.add (p.len s101.2.2.1) 1) (p.len (p.app (p.cut s101.2.2.1 0 (p.len s101.2.2.1)) (p.cut [[(Go.Am.D.int Go.IntKind.i64 (p.rdI s101.2.1 (p.add 0 (p.nat s101.2.2.2.2.1)) 0)), (Go.Am.D.int Go.IntKind.i64 (p.rdI s101.2.1 (p.add 0 (p.nat s101.2.2.2.2.1)) 0)), (Go.Am.D.int Go.IntKind.i64 (p.mI s101.1 [Go.Am.SK.i] Bool.false (Go.Am.D.int Go.IntKind.i64 (p.rdI s101.2.1 (p.add 0 (p.nat s101.2.2.2.2.1)) 0)) 0)), (Go.Am.D.int Go.IntKind.i64 (p.mI s101.1 [Go.Am.SK.i] Bool.false (Go.Am.D.int Go.IntKind.i64 (p.rdI s101.2.1 (p.add 0 (p.nat s101.2.2.2.2.1)) 0)) 1))]] 0 1)))) <|
           opt.need _ (p.eqN 0 0) <|
           opt.need _ (p.eqN (p.len s101.2.1) (p.len s101.2.1)) <|
           opt.ret _ ((p.mdel s101.1 (p.nat (p.ofNat (p.mpos s101.1 [Go.Am.SK.i] Bool.false (Go.Am.D.int Go.IntKind.i64 (p.rdI s101.2.1 (p.add 0 (p.nat s101.2.2.2.2.1)) 0)))))), ((p.app (p.cut s101.2.2.1 0 (p.len s101.2.2.1)) (p.cut [[(Go.Am.D.int Go.IntKind.i64 (p.rdI s101.2.1 (p.add 0 (p.nat s101.2.2.2.2.1)) 0)), (Go.Am.D.int Go.IntKind.i64 (p.rdI s101.2.1 (p.add 0 (p.nat s101.2.2.2.2.1)) 0)), (Go.Am.D.int Go.IntKind.i64 (p.mI s101.1 [Go.Am.SK.i] Bool.false (Go.Am.D.int Go.IntKind.i64 (p.rdI s101.2.1 (p.add 0 (p.nat s101.2.2.2.2.1)) 0)) 0)), (Go.Am.D.int Go.IntKind.i64 (p.mI s101.1 [Go.Am.SK.i] Bool.false (Go.Am.D.int Go.IntKind.i64 (p.rdI s101.2.1 (p.add 0 (p.nat s101.2.2.2.2.1)) 0)) 1))]] 0 1)), (s101.2.1, (s101.2.2.2.1, (s101.2.2.2.2.1, ())))))) (
           opt.need _ (p.eqN 0 0) <|
           opt.need _ (p.eqN (p.add (p.len s101.2.2.1) 1) (p.len (p.app (p.cut s101.2.2.1 0 (p.len s101.2.2.1)) (p.cut [[(Go.Am.D.int Go.IntKind.i64 (p.rdI s101.2.1 (p.add 0 (p.nat s101.2.2.2.2.1)) 0)), (Go.Am.D.int Go.IntKind.i64 (p.rdI s101.2.1 (p.add 0 (p.nat s101.2.2.2.2.1)) 0)), (Go.Am.D.int Go.IntKind.i64 (p.mI s101.1 [Go.Am.SK.i] Bool.false (Go.Am.D.int Go.IntKind.i64 (p.rdI s101.2.1 (p.add 0 (p.nat s101.2.2.2.2.1)) 0)) 0)), (Go.Am.D.int Go.IntKind.i64 (p.mI s101.1 [Go.Am.SK.i] Bool.false (Go.Am.D.int Go.IntKind.i64 (p.rdI s101.2.1 (p.add 0 (p.nat s101.2.2.2.2.1)) 0)) 1))]] 0 1)))) <|
           opt.need _ (p.eqN 0 0) <|
           opt.need _ (p.eqN (p.len s101.2.1) (p.len s101.2.1)) <|
           opt.ret _ (s101.1, ((p.app (p.cut s101.2.2.1 0 (p.len s101.2.2.1)) (p.cut [[(Go.Am.D.int Go.IntKind.i64 (p.rdI s101.2.1 (p.add 0 (p.nat s101.2.2.2.2.1)) 0)), (Go.Am.D.int Go.IntKind.i64 (p.rdI s101.2.1 (p.add 0 (p.nat s101.2.2.2.2.1)) 0)), (Go.Am.D.int Go.IntKind.i64 (p.mI s101.1 [Go.Am.SK.i] Bool.false (Go.Am.D.int Go.IntKind.i64 (p.rdI s101.2.1 (p.add 0 (p.nat s101.2.2.2.2.1)) 0)) 0)), (Go.Am.D.int Go.IntKind.i64 (p.mI s101.1 [Go.Am.SK.i] Bool.false (Go.Am.D.int Go.IntKind.i64 (p.rdI s101.2.1 (p.add 0 (p.nat s101.2.2.2.2.1)) 0)) 1))]] 0 1)), (s101.2.1, (s101.2.2.2.1, (s101.2.2.2.2.1, ()))))))) (
          opt.need _ (bif (p.cmp Go.BinOp.geq (0 : Int) (0 : Int)) then (p.cmp Go.BinOp.lss (0 : Int) (p.ofNat 2)) else Bool.false) <|
          opt.need _ (bif (p.cmp Go.BinOp.geq (1 : Int) (0 : Int)) then (p.cmp Go.BinOp.lss (1 : Int) (p.ofNat 2)) else Bool.false) <|
          opt.need _ (p.and (p.leN (p.add 0 1) (p.len [[(Go.Am.D.int Go.IntKind.i64 (p.rdI s101.2.1 (p.add 0 (p.nat s101.2.2.2.2.1)) 0)), (Go.Am.D.int Go.IntKind.i64 (p.rdI s101.2.1 (p.add 0 (p.nat s101.2.2.2.2.1)) 0)), (Go.Am.D.int Go.IntKind.i64 (0 : Int)), (Go.Am.D.int Go.IntKind.i64 (0 : Int))]])) (p.and (p.leN (p.add 0 (p.len s101.2.2.1)) (p.len s101.2.2.1)) (p.and (p.leN 1 1) (p.leN (p.add (p.len s101.2.2.1) 1) 1000000)))) <|
          opt.need _ (p.mOk s101.1 [Go.Am.SK.i] Bool.false (Go.Am.D.int Go.IntKind.i64 (p.rdI s101.2.1 (p.add 0 (p.nat s101.2.2.2.2.1)) 0)) Bool.true [(Go.Am.CK.int Go.IntKind.i64), (Go.Am.CK.int Go.IntKind.i64)]) <|
          opt.ask _ (p.mhas s101.1 [Go.Am.SK.i] Bool.false (Go.Am.D.int Go.IntKind.i64 (p.rdI s101.2.1 (p.add 0 (p.nat s101.2.2.2.2.1)) 0))) (
           opt.need _ (p.eqN 0 0) <|
           opt.need _ (p.eqN (p.add (p.len s101.2.2.1) 1) (p.len (p.app (p.cut s101.2.2.1 0 (p.len s101.2.2.1)) (p.cut [[(Go.Am.D.int Go.IntKind.i64 (p.rdI s101.2.1 (p.add 0 (p.nat s101.2.2.2.2.1)) 0)), (Go.Am.D.int Go.IntKind.i64 (p.rdI s101.2.1 (p.add 0 (p.nat s101.2.2.2.2.1)) 0)), (Go.Am.D.int Go.IntKind.i64 (0 : Int)), (Go.Am.D.int Go.IntKind.i64 (0 : Int))]] 0 1)))) <|
           opt.need _ (p.eqN 0 0) <|
           opt.need _ (p.eqN (p.len s101.2.1) (p.len s101.2.1)) <|
           opt.ret _ ((p.mdel s101.1 (p.nat (p.ofNat (p.mpos s101.1 [Go.Am.SK.i] Bool.false (Go.Am.D.int Go.IntKind.i64 (p.rdI s101.2.1 (p.add 0 (p.nat s101.2.2.2.2.1)) 0)))))), ((p.app (p.cut s101.2.2.1 0 (p.len s101.2.2.1)) (p.cut [[(Go.Am.D.int Go.IntKind.i64 (p.rdI s101.2.1 (p.add 0 (p.nat s101.2.2.2.2.1)) 0)), (Go.Am.D.int Go.IntKind.i64 (p.rdI s101.2.1 (p.add 0 (p.nat s101.2.2.2.2.1)) 0)), (Go.Am.D.int Go.IntKind.i64 (0 : Int)), (Go.Am.D.int Go.IntKind.i64 (0 : Int))]] 0 1)), (s101.2.1, (s101.2.2.2.1, (s101.2.2.2.2.1, ())))))) (
           opt.need _ (p.eqN 0 0) <|
           opt.need _ (p.eqN (p.add (p.len s101.2.2.1) 1) (p.len (p.app (p.cut s101.2.2.1 0 (p.len s101.2.2.1)) (p.cut [[(Go.Am.D.int Go.IntKind.i64 (p.rdI s101.2.1 (p.add 0 (p.nat s101.2.2.2.2.1)) 0)), (Go.Am.D.int Go.IntKind.i64 (p.rdI s101.2.1 (p.add 0 (p.nat s101.2.2.2.2.1)) 0)), (Go.Am.D.int Go.IntKind.i64 (0 : Int)), (Go.Am.D.int Go.IntKind.i64 (0 : Int))]] 0 1)))) <|
           opt.need _ (p.eqN 0 0) <|
           opt.need _ (p.eqN (p.len s101.2.1) (p.len s101.2.1)) <|
           opt.ret _ (s101.1, ((p.app (p.cut s101.2.2.1 0 (p.len s101.2.2.1)) (p.cut [[(Go.Am.D.int Go.IntKind.i64 (p.rdI s101.2.1 (p.add 0 (p.nat s101.2.2.2.2.1)) 0)), (Go.Am.D.int Go.IntKind.i64 (p.rdI s101.2.1 (p.add 0 (p.nat s101.2.2.2.2.1)) 0)), (Go.Am.D.int Go.IntKind.i64 (0 : Int)), (Go.Am.D.int Go.IntKind.i64 (0 : Int))]] 0 1)), (s101.2.1, (s101.2.2.2.1, (s101.2.2.2.2.1, ()))))))))) fun y102 =>
      opt.need _ (p.eqN 0 0) <|
      opt.need _ (p.eqN (p.len y102.2.1) (p.len y102.2.1)) <|
      opt.need _ (p.eqN 0 0) <|
      opt.need _ (p.eqN (p.len y102.2.2.1) (p.len y102.2.2.1)) <|
      opt.ret _ (Sum.inl (y102.1, (y102.2.2.1, (y102.2.1, (y102.2.2.2.1, ((p.ar Go.BinOp.add Go.IntKind.i64 y102.2.2.2.2.1 (1 : Int)), ()))))))) (
      opt.need _ (p.eqN 0 0) <|
      opt.need _ (p.eqN (p.len s101.2.2.1) (p.len s101.2.2.1)) <|
      opt.ret _ (Sum.inr (s101.2.2.1, ()))))
noncomputable def b43_1 (p : Prim) : (List ((Go.Am.D × Go.Am.D)) × (List (List (Go.Am.D)) × (Int × (Int × Unit)))) → Option ((List ((Go.Am.D × Go.Am.D)) × (List (List (Go.Am.D)) × (Int × (Int × Unit)))) ⊕ (List ((Go.Am.D × Go.Am.D)) × Unit)) :=
  fun s97 => opt.run _ (
     opt.ask _ (p.cmp Go.BinOp.lss s97.2.2.2.1 s97.2.2.1) (
      opt.bnd ((List ((Go.Am.D × Go.Am.D)) × (List (List (Go.Am.D)) × (Int × (Int × Unit))))) _ (
        opt.run ((List ((Go.Am.D × Go.Am.D)) × (List (List (Go.Am.D)) × (Int × (Int × Unit))))) (
         opt.need _ (p.rowOk s97.2.1 (p.nat s97.2.2.2.1) [(Go.Am.CK.int Go.IntKind.i64), (Go.Am.CK.int Go.IntKind.i64), (Go.Am.CK.int Go.IntKind.i64)]) <|
         opt.need _ (p.cmp Go.BinOp.geq s97.2.2.2.1 (0 : Int)) <|
         opt.need _ (p.mOk s97.1 [Go.Am.SK.i] Bool.false (Go.Am.D.int Go.IntKind.i64 (p.rdI s97.2.1 (p.nat s97.2.2.2.1) 0)) Bool.true [(Go.Am.CK.int Go.IntKind.i64), (Go.Am.CK.int Go.IntKind.i64)]) <|
         opt.ask _ (p.mhas s97.1 [Go.Am.SK.i] Bool.false (Go.Am.D.int Go.IntKind.i64 (p.rdI s97.2.1 (p.nat s97.2.2.2.1) 0))) (
          opt.need _ (bif (p.cmp Go.BinOp.geq (0 : Int) (0 : Int)) then (p.cmp Go.BinOp.lss (0 : Int) (p.ofNat 2)) else Bool.false) <|
          opt.need _ (bif (p.cmp Go.BinOp.geq (1 : Int) (0 : Int)) then (p.cmp Go.BinOp.lss (1 : Int) (p.ofNat 2)) else Bool.false) <|
          opt.need _ (p.mOk s97.1 [Go.Am.SK.i] Bool.false (Go.Am.D.int Go.IntKind.i64 (p.rdI s97.2.1 (p.nat s97.2.2.2.1) 0)) Bool.true [(Go.Am.CK.int Go.IntKind.i64), (Go.Am.CK.int Go.IntKind.i64)]) <|
          opt.ask _ (p.mhas s97.1 [Go.Am.SK.i] Bool.false (Go.Am.D.int Go.IntKind.i64 (p.rdI s97.2.1 (p.nat s97.2.2.2.1) 0))) (
           opt.ret _ ((p.mset s97.1 (p.nat (p.ofNat (p.mpos s97.1 [Go.Am.SK.i] Bool.false (Go.Am.D.int Go.IntKind.i64 (p.rdI s97.2.1 (p.nat s97.2.2.2.1) 0))))) (Go.Am.D.int Go.IntKind.i64 (p.rdI s97.2.1 (p.nat s97.2.2.2.1) 0)) (Go.Am.D.agg [(Go.Am.D.int Go.IntKind.i64 (p.ar Go.BinOp.add Go.IntKind.i64 (p.mI s97.1 [Go.Am.SK.i] Bool.false (Go.Am.D.int Go.IntKind.i64 (p.rdI s97.2.1 (p.nat s97.2.2.2.1) 0)) 0) (p.rdI s97.2.1 (p.nat s97.2.2.2.1) 2))), (Go.Am.D.int Go.IntKind.i64 (p.ar Go.BinOp.add Go.IntKind.i64 (p.mI s97.1 [Go.Am.SK.i] Bool.false (Go.Am.D.int Go.IntKind.i64 (p.rdI s97.2.1 (p.nat s97.2.2.2.1) 0)) 1) (p.ar Go.BinOp.mul Go.IntKind.i64 (p.rdI s97.2.1 (p.nat s97.2.2.2.1) 1) (p.rdI s97.2.1 (p.nat s97.2.2.2.1) 2))))])), (s97.2.1, (s97.2.2.1, (s97.2.2.2.1, ()))))) (
           opt.ret _ ((p.madd s97.1 (Go.Am.D.int Go.IntKind.i64 (p.rdI s97.2.1 (p.nat s97.2.2.2.1) 0)) (Go.Am.D.agg [(Go.Am.D.int Go.IntKind.i64 (p.ar Go.BinOp.add Go.IntKind.i64 (p.mI s97.1 [Go.Am.SK.i] Bool.false (Go.Am.D.int Go.IntKind.i64 (p.rdI s97.2.1 (p.nat s97.2.2.2.1) 0)) 0) (p.rdI s97.2.1 (p.nat s97.2.2.2.1) 2))), (Go.Am.D.int Go.IntKind.i64 (p.ar Go.BinOp.add Go.IntKind.i64 (p.mI s97.1 [Go.Am.SK.i] Bool.false (Go.Am.D.int Go.IntKind.i64 (p.rdI s97.2.1 (p.nat s97.2.2.2.1) 0)) 1) (p.ar Go.BinOp.mul Go.IntKind.i64 (p.rdI s97.2.1 (p.nat s97.2.2.2.1) 1) (p.rdI s97.2.1 (p.nat s97.2.2.2.1) 2))))])), (s97.2.1, (s97.2.2.1, (s97.2.2.2.1, ())))))) (
          opt.need _ (bif (p.cmp Go.BinOp.geq (0 : Int) (0 : Int)) then (p.cmp Go.BinOp.lss (0 : Int) (p.ofNat 2)) else Bool.false) <|
          opt.need _ (bif (p.cmp Go.BinOp.geq (1 : Int) (0 : Int)) then (p.cmp Go.BinOp.lss (1 : Int) (p.ofNat 2)) else Bool.false) <|
          opt.need _ (p.mOk s97.1 [Go.Am.SK.i] Bool.false (Go.Am.D.int Go.IntKind.i64 (p.rdI s97.2.1 (p.nat s97.2.2.2.1) 0)) Bool.true [(Go.Am.CK.int Go.IntKind.i64), (Go.Am.CK.int Go.IntKind.i64)]) <|
          opt.ask _ (p.mhas s97.1 [Go.Am.SK.i] Bool.false (Go.Am.D.int Go.IntKind.i64 (p.rdI s97.2.1 (p.nat s97.2.2.2.1) 0))) (
           opt.ret _ ((p.mset s97.1 (p.nat (p.ofNat (p.mpos s97.1 [Go.Am.SK.i] Bool.false (Go.Am.D.int Go.IntKind.i64 (p.rdI s97.2.1 (p.nat s97.2.2.2.1) 0))))) (Go.Am.D.int Go.IntKind.i64 (p.rdI s97.2.1 (p.nat s97.2.2.2.1) 0)) (Go.Am.D.agg [(Go.Am.D.int Go.IntKind.i64 (p.ar Go.BinOp.add Go.IntKind.i64 (0 : Int) (p.rdI s97.2.1 (p.nat s97.2.2.2.1) 2))), (Go.Am.D.int Go.IntKind.i64 (p.ar Go.BinOp.add Go.IntKind.i64 (0 : Int) (p.ar Go.BinOp.mul Go.IntKind.i64 (p.rdI s97.2.1 (p.nat s97.2.2.2.1) 1) (p.rdI s97.2.1 (p.nat s97.2.2.2.1) 2))))])), (s97.2.1, (s97.2.2.1, (s97.2.2.2.1, ()))))) (
           opt.ret _ ((p.madd s97.1 (Go.Am.D.int Go.IntKind.i64 (p.rdI s97.2.1 (p.nat s97.2.2.2.1) 0)) (Go.Am.D.agg [(Go.Am.D.int Go.IntKind.i64 (p.ar Go.BinOp.add Go.IntKind.i64 (0 : Int) (p.rdI s97.2.1 (p.nat s97.2.2.2.1) 2))), (Go.Am.D.int Go.IntKind.i64 (p.ar Go.BinOp.add Go.IntKind.i64 (0 : Int) (p.ar Go.BinOp.mul Go.IntKind.i64 (p.rdI s97.2.1 (p.nat s97.2.2.2.1) 1) (p.rdI s97.2.1 (p.nat s97.2.2.2.1) 2))))])), (s97.2.1, (s97.2.2.1, (s97.2.2.2.1, ())))))))) fun y98 =>
      opt.ret _ (Sum.inl (y98.1, (y98.2.1, (y98.2.2.1, ((p.ar Go.BinOp.add Go.IntKind.i64 y98.2.2.2.1 (1 : Int)), ())))))) (
      opt.ret _ (Sum.inr (s97.1, ()))))
noncomputable def G43 : (p : Prim) → (List (List (Go.Am.D)) × Unit) → Option ((List (List (Go.Am.D)) × Unit)) :=
  fun p x =>
  opt.bnd ((List ((Go.Am.D × Go.Am.D)) × Unit)) _ (
    iter (b43_1 p) ([], (x.1, ((p.ofNat (p.len x.1)), ((0 : Int), ()))))) fun y99 =>
  opt.bnd ((List ((Go.Am.D × Go.Am.D)) × (List (List (Go.Am.D)) × Unit))) _ (G55 p (y99.1, ())) fun y100 =>
  opt.need _ (p.eqN 0 0) <|
  opt.need _ (p.eqN (p.len y100.2.1) (p.len y100.2.1)) <|
  opt.bnd ((List (List (Go.Am.D)) × Unit)) _ (
    iter (b43_2 p) (y100.1, (y100.2.1, ([], ((p.ofNat (p.len y100.2.1)), ((0 : Int), ())))))) fun y103 =>
  opt.need _ (p.eqN 0 0) <|
  opt.need _ (p.eqN (p.len y103.1) (p.len y103.1)) <|
  opt.ret _ (y103.1, ())
noncomputable def F43 : Prim → Tup (ctr43).scs → Option (STup (scss (ctr43).outs)) :=
  fun p x => G43 p x
theorem eq43 (p : Prim) (x : Tup (ctr43).scs) : bodyRun opt p (autoEnv Go.Proofs.Try.prog) (mkOrc opt p (autoEnv Go.Proofs.Try.prog) 400 (an43) la43) 400 ctr43 x = G43 p x := by kernel_rfl
theorem gok43 : GamOk Go.Proofs.Try.prog (gam43) := by
  intro cf h
  simp only [gam43, List.mem_cons, List.not_mem_nil, or_false] at h
  rcases h with rfl
  · exact ok55
theorem enters43 : Enters Go.Proofs.Try.prog 43 := enters_auto (b := _) rfl (by kernel_rfl)
theorem ok43 : CtrOk Go.Proofs.Try.prog ctr43 (F43 std) := ctr_of_body (autoEnv_ok follows_mixed) (mkOrc_ok (autoEnv_ok follows_mixed) gok43 _) enters43 (fun x => eq43 std x)
noncomputable def ctr39 : Ctr :=
  ⟨39, [.list 3], [], [(.ret, ⟨[(0, .vec 0 4)], [.row [(Go.Am.CK.int Go.IntKind.i64), (Go.Am.CK.int Go.IntKind.i64), (Go.Am.CK.int Go.IntKind.i64), (Go.Am.CK.int Go.IntKind.i64)]], 1⟩)]⟩
noncomputable def la39 : List LA :=
  [⟨39, [false, true, false, true, true], ⟨⟨[(3, .vec 1 4), (9, .vec 0 4), (10, .int Go.IntKind.i64), (11, .int Go.IntKind.i64)], [.row [(Go.Am.CK.int Go.IntKind.i64), (Go.Am.CK.int Go.IntKind.i64), (Go.Am.CK.int Go.IntKind.i64), (Go.Am.CK.int Go.IntKind.i64)], .row [(Go.Am.CK.int Go.IntKind.i64), (Go.Am.CK.int Go.IntKind.i64), (Go.Am.CK.int Go.IntKind.i64), (Go.Am.CK.int Go.IntKind.i64)]], 46⟩, [((Go.Am.AX.exit 0), ⟨[(3, .vec 0 4)], [.row [(Go.Am.CK.int Go.IntKind.i64), (Go.Am.CK.int Go.IntKind.i64), (Go.Am.CK.int Go.IntKind.i64), (Go.Am.CK.int Go.IntKind.i64)]], 46⟩)]⟩⟩,
   ⟨39, [false, false, true, false, true, false, false, true, true, false, false, true, false, true, true], ⟨⟨[(3, .sl 0 4), (5, .bptr 1 0), (9, .vec 2 4), (10, .int Go.IntKind.i64), (11, .int Go.IntKind.i64)], [.row [(Go.Am.CK.int Go.IntKind.i64), (Go.Am.CK.int Go.IntKind.i64), (Go.Am.CK.int Go.IntKind.i64), (Go.Am.CK.int Go.IntKind.i64)], .box [.int Go.IntKind.i64, .int Go.IntKind.i64, .int Go.IntKind.i64, .int Go.IntKind.i64], .row [(Go.Am.CK.int Go.IntKind.i64), (Go.Am.CK.int Go.IntKind.i64), (Go.Am.CK.int Go.IntKind.i64), (Go.Am.CK.int Go.IntKind.i64)]], 46⟩, [((Go.Am.AX.exit 2), ⟨[(3, .sl 0 4), (5, .bptr 1 0), (9, .vec 2 4), (10, .int Go.IntKind.i64), (11, .int Go.IntKind.i64)], [.row [(Go.Am.CK.int Go.IntKind.i64), (Go.Am.CK.int Go.IntKind.i64), (Go.Am.CK.int Go.IntKind.i64), (Go.Am.CK.int Go.IntKind.i64)], .box [.int Go.IntKind.i64, .int Go.IntKind.i64, .int Go.IntKind.i64, .int Go.IntKind.i64], .row [(Go.Am.CK.int Go.IntKind.i64), (Go.Am.CK.int Go.IntKind.i64), (Go.Am.CK.int Go.IntKind.i64), (Go.Am.CK.int Go.IntKind.i64)]], 46⟩)]⟩⟩]
noncomputable def ja39 : List JA :=
  []
noncomputable def gam39 : List CF :=
  [⟨ctr43, F43⟩]
noncomputable def an39 : Anns :=
  ⟨gam39, ja39, []⟩
noncomputable def b39_2 (p : Prim) : (List (List (Go.Am.D)) × (List (List (Go.Am.D)) × (Int × (Int × (Int × (Int × (Nat × (Nat × (Int × (Int × Unit)))))))))) → Option ((List (List (Go.Am.D)) × (List (List (Go.Am.D)) × (Int × (Int × (Int × (Int × (Nat × (Nat × (Int × (Int × Unit)))))))))) ⊕ (List (List (Go.Am.D)) × (List (List (Go.Am.D)) × (Int × (Int × (Int × (Int × (Nat × (Nat × (Int × (Int × Unit))))))))))) :=
  fun s137 => opt.run _ (
         opt.ask _ (p.cmp Go.BinOp.gtr (p.ofNat s137.2.2.2.2.2.2.2.1) (0 : Int)) (
          opt.need _ (bif (p.cmp Go.BinOp.geq (p.ar Go.BinOp.sub Go.IntKind.i64 (p.ofNat s137.2.2.2.2.2.2.2.1) (1 : Int)) (0 : Int)) then (p.cmp Go.BinOp.lss (p.ar Go.BinOp.sub Go.IntKind.i64 (p.ofNat s137.2.2.2.2.2.2.2.1) (1 : Int)) (p.ofNat s137.2.2.2.2.2.2.2.1)) else Bool.false) <|
          opt.need _ (p.rowOk s137.1 (p.add s137.2.2.2.2.2.2.1 (p.nat (p.ar Go.BinOp.sub Go.IntKind.i64 (p.ofNat s137.2.2.2.2.2.2.2.1) (1 : Int)))) [(Go.Am.CK.int Go.IntKind.i64), (Go.Am.CK.int Go.IntKind.i64), (Go.Am.CK.int Go.IntKind.i64), (Go.Am.CK.int Go.IntKind.i64)]) <|
          opt.ask _ (p.cmp Go.BinOp.lss (p.ar Go.BinOp.mul Go.IntKind.i64 (p.rdI s137.1 (p.add s137.2.2.2.2.2.2.1 (p.nat (p.ar Go.BinOp.sub Go.IntKind.i64 (p.ofNat s137.2.2.2.2.2.2.2.1) (1 : Int)))) 3) s137.2.2.2.2.1) (p.ar Go.BinOp.mul Go.IntKind.i64 s137.2.2.2.2.2.1 (p.rdI s137.1 (p.add s137.2.2.2.2.2.2.1 (p.nat (p.ar Go.BinOp.sub Go.IntKind.i64 (p.ofNat s137.2.2.2.2.2.2.2.1) (1 : Int)))) 2))) (
           opt.need _ (p.eqN 0 0) <|
           opt.need _ (p.eqN (p.len s137.2.1) (p.len s137.2.1)) <|
           opt.ret _ (Sum.inr (s137.1, (s137.2.1, (s137.2.2.1, (s137.2.2.2.1, (s137.2.2.2.2.1, (s137.2.2.2.2.2.1, (s137.2.2.2.2.2.2.1, (s137.2.2.2.2.2.2.2.1, (s137.2.2.2.2.2.2.2.2.1, (s137.2.2.2.2.2.2.2.2.2.1, ())))))))))))) (
           opt.need _ (p.and (p.cmp Go.BinOp.geq (0 : Int) (0 : Int)) (p.and (p.cmp Go.BinOp.leq (0 : Int) (p.ar Go.BinOp.sub Go.IntKind.i64 (p.ofNat s137.2.2.2.2.2.2.2.1) (1 : Int))) (p.and (p.cmp Go.BinOp.leq (p.ar Go.BinOp.sub Go.IntKind.i64 (p.ofNat s137.2.2.2.2.2.2.2.1) (1 : Int)) (p.ar Go.BinOp.sub Go.IntKind.i64 (p.ofNat s137.2.2.2.2.2.2.2.1) (1 : Int))) (p.cmp Go.BinOp.leq (p.ar Go.BinOp.sub Go.IntKind.i64 (p.ofNat s137.2.2.2.2.2.2.2.1) (1 : Int)) (p.ofNat s137.2.2.2.2.2.2.2.1))))) <|
           opt.need _ (p.leN (p.add (p.add s137.2.2.2.2.2.2.1 (p.nat (0 : Int))) (p.sub (p.nat (p.ar Go.BinOp.sub Go.IntKind.i64 (p.ofNat s137.2.2.2.2.2.2.2.1) (1 : Int))) (p.nat (0 : Int)))) (p.len s137.1)) <|
           opt.need _ (p.eqN 0 0) <|
           opt.need _ (p.eqN (p.len s137.2.1) (p.len s137.2.1)) <|
           opt.ret _ (Sum.inl (s137.1, (s137.2.1, ((p.rdI s137.1 (p.add s137.2.2.2.2.2.2.1 (p.nat (p.ar Go.BinOp.sub Go.IntKind.i64 (p.ofNat s137.2.2.2.2.2.2.2.1) (1 : Int)))) 0), (s137.2.2.2.1, ((p.ar Go.BinOp.add Go.IntKind.i64 (p.rdI s137.1 (p.add s137.2.2.2.2.2.2.1 (p.nat (p.ar Go.BinOp.sub Go.IntKind.i64 (p.ofNat s137.2.2.2.2.2.2.2.1) (1 : Int)))) 2) s137.2.2.2.2.1), ((p.ar Go.BinOp.add Go.IntKind.i64 (p.rdI s137.1 (p.add s137.2.2.2.2.2.2.1 (p.nat (p.ar Go.BinOp.sub Go.IntKind.i64 (p.ofNat s137.2.2.2.2.2.2.2.1) (1 : Int)))) 3) s137.2.2.2.2.2.1), ((p.add s137.2.2.2.2.2.2.1 (p.nat (0 : Int))), ((p.sub (p.nat (p.ar Go.BinOp.sub Go.IntKind.i64 (p.ofNat s137.2.2.2.2.2.2.2.1) (1 : Int))) (p.nat (0 : Int))), (s137.2.2.2.2.2.2.2.2.1, (s137.2.2.2.2.2.2.2.2.2.1, ()))))))))))))) (
          opt.need _ (p.eqN 0 0) <|
          opt.need _ (p.eqN (p.len s137.2.1) (p.len s137.2.1)) <|
          opt.ret _ (Sum.inr (s137.1, (s137.2.1, (s137.2.2.1, (s137.2.2.2.1, (s137.2.2.2.2.1, (s137.2.2.2.2.2.1, (s137.2.2.2.2.2.2.1, (s137.2.2.2.2.2.2.2.1, (s137.2.2.2.2.2.2.2.2.1, (s137.2.2.2.2.2.2.2.2.2.1, ())))))))))))))
noncomputable def b39_1 (p : Prim) : (List (List (Go.Am.D)) × (List (List (Go.Am.D)) × (Int × (Int × Unit)))) → Option ((List (List (Go.Am.D)) × (List (List (Go.Am.D)) × (Int × (Int × Unit)))) ⊕ (List (List (Go.Am.D)) × Unit)) :=
  fun s136 => opt.run _ (
     opt.ask _ (p.cmp Go.BinOp.lss s136.2.2.2.1 s136.2.2.1) (
      opt.need _ (bif (p.cmp Go.BinOp.geq s136.2.2.2.1 (0 : Int)) then (p.cmp Go.BinOp.lss s136.2.2.2.1 (p.ofNat (p.len s136.1))) else Bool.false) <|
      opt.need _ (p.rowOk s136.1 (p.add 0 (p.nat s136.2.2.2.1)) [(Go.Am.CK.int Go.IntKind.i64), (Go.Am.CK.int Go.IntKind.i64), (Go.Am.CK.int Go.IntKind.i64), (Go.Am.CK.int Go.IntKind.i64)]) <|
      opt.need _ (p.eqN 0 0) <|
      opt.need _ (p.eqN (p.len s136.1) (p.len s136.1)) <|
      opt.bnd ((List (List (Go.Am.D)) × (List (List (Go.Am.D)) × (Int × (Int × (Int × (Int × (Nat × (Nat × (Int × (Int × Unit))))))))))) _ (
        iter (b39_2 p) (s136.2.1, (s136.1, ((p.rdI s136.1 (p.add 0 (p.nat s136.2.2.2.1)) 0), ((p.rdI s136.1 (p.add 0 (p.nat s136.2.2.2.1)) 1), ((p.rdI s136.1 (p.add 0 (p.nat s136.2.2.2.1)) 2), ((p.rdI s136.1 (p.add 0 (p.nat s136.2.2.2.1)) 3), (0, ((p.len s136.2.1), (s136.2.2.1, (s136.2.2.2.1, ()))))))))))) fun y138 =>
      opt.need _ (p.and (p.leN (p.add 0 1) (p.len [[(Go.Am.D.int Go.IntKind.i64 y138.2.2.1), (Go.Am.D.int Go.IntKind.i64 y138.2.2.2.1), (Go.Am.D.int Go.IntKind.i64 y138.2.2.2.2.1), (Go.Am.D.int Go.IntKind.i64 y138.2.2.2.2.2.1)]])) (p.and (p.leN (p.add y138.2.2.2.2.2.2.1 y138.2.2.2.2.2.2.2.1) (p.len y138.1)) (p.and (p.leN 1 1) (p.leN (p.add y138.2.2.2.2.2.2.2.1 1) 1000000)))) <|
      opt.need _ (p.eqN 0 0) <|
      opt.need _ (p.eqN (p.add y138.2.2.2.2.2.2.2.1 1) (p.len (p.app (p.cut y138.1 y138.2.2.2.2.2.2.1 y138.2.2.2.2.2.2.2.1) (p.cut [[(Go.Am.D.int Go.IntKind.i64 y138.2.2.1), (Go.Am.D.int Go.IntKind.i64 y138.2.2.2.1), (Go.Am.D.int Go.IntKind.i64 y138.2.2.2.2.1), (Go.Am.D.int Go.IntKind.i64 y138.2.2.2.2.2.1)]] 0 1)))) <|
      opt.need _ (p.eqN 0 0) <|
      opt.need _ (p.eqN (p.len y138.2.1) (p.len y138.2.1)) <|
      opt.ret _ (Sum.inl (y138.2.1, ((p.app (p.cut y138.1 y138.2.2.2.2.2.2.1 y138.2.2.2.2.2.2.2.1) (p.cut [[(Go.Am.D.int Go.IntKind.i64 y138.2.2.1), (Go.Am.D.int Go.IntKind.i64 y138.2.2.2.1), (Go.Am.D.int Go.IntKind.i64 y138.2.2.2.2.1), (Go.Am.D.int Go.IntKind.i64 y138.2.2.2.2.2.1)]] 0 1)), (y138.2.2.2.2.2.2.2.2.1, ((p.ar Go.BinOp.add Go.IntKind.i64 y138.2.2.2.2.2.2.2.2.2.1 (1 : Int)), ())))))) (
      opt.need _ (p.eqN 0 0) <|
      opt.need _ (p.eqN (p.len s136.2.1) (p.len s136.2.1)) <|
      opt.ret _ (Sum.inr (s136.2.1, ()))))
noncomputable def G39 : (p : Prim) → (List (List (Go.Am.D)) × Unit) → Option ((List (List (Go.Am.D)) × Unit)) :=
  fun p x =>
  opt.bnd ((List (List (Go.Am.D)) × Unit)) _ (G43 p (x.1, ())) fun y135 =>
  opt.need _ (p.eqN 0 0) <|
  opt.need _ (p.eqN (p.len y135.1) (p.len y135.1)) <|
  opt.bnd ((List (List (Go.Am.D)) × Unit)) _ (
    iter (b39_1 p) (y135.1, ([], ((p.ofNat (p.len y135.1)), ((0 : Int), ()))))) fun y139 =>
  opt.need _ (p.eqN 0 0) <|
  opt.need _ (p.eqN (p.len y139.1) (p.len y139.1)) <|
  opt.ret _ (y139.1, ())
noncomputable def F39 : Prim → Tup (ctr39).scs → Option (STup (scss (ctr39).outs)) :=
  fun p x => G39 p x
theorem eq39 (p : Prim) (x : Tup (ctr39).scs) : bodyRun opt p (autoEnv Go.Proofs.Try.prog) (mkOrc opt p (autoEnv Go.Proofs.Try.prog) 400 (an39) la39) 400 ctr39 x = G39 p x := by kernel_rfl
theorem gok39 : GamOk Go.Proofs.Try.prog (gam39) := by
  intro cf h
  simp only [gam39, List.mem_cons, List.not_mem_nil, or_false] at h
  rcases h with rfl
  · exact ok43
theorem enters39 : Enters Go.Proofs.Try.prog 39 := enters_auto (b := _) rfl (by kernel_rfl)
theorem ok39 : CtrOk Go.Proofs.Try.prog ctr39 (F39 std) := ctr_of_body (autoEnv_ok follows_mixed) (mkOrc_ok (autoEnv_ok follows_mixed) gok39 _) enters39 (fun x => eq39 std x)
noncomputable def ctr14 : Ctr :=
  ⟨14, [.list 3], [], [(.ret, ⟨[(0, .tuple [.vec 0 4, .int Go.IntKind.i64])], [.row [(Go.Am.CK.int Go.IntKind.i64), (Go.Am.CK.int Go.IntKind.i64), (Go.Am.CK.int Go.IntKind.i64), (Go.Am.CK.int Go.IntKind.i64)]], 1⟩)]⟩
noncomputable def la14 : List LA :=
  [⟨14, [false, true, false, true, true, true], ⟨⟨[(5, .vec 1 4), (14, .vec 0 4), (15, .int Go.IntKind.i64), (16, .int Go.IntKind.i64)], [.row [(Go.Am.CK.int Go.IntKind.i64), (Go.Am.CK.int Go.IntKind.i64), (Go.Am.CK.int Go.IntKind.i64), (Go.Am.CK.int Go.IntKind.i64)], .row [(Go.Am.CK.int Go.IntKind.i64), (Go.Am.CK.int Go.IntKind.i64), (Go.Am.CK.int Go.IntKind.i64), (Go.Am.CK.int Go.IntKind.i64)]], 27⟩, [((Go.Am.AX.exit 0), ⟨[(5, .vec 0 4)], [.row [(Go.Am.CK.int Go.IntKind.i64), (Go.Am.CK.int Go.IntKind.i64), (Go.Am.CK.int Go.IntKind.i64), (Go.Am.CK.int Go.IntKind.i64)]], 27⟩)]⟩⟩]
noncomputable def ja14 : List JA :=
  []
noncomputable def gam14 : List CF :=
  [⟨ctr39, F39⟩, ⟨ctr16, F16⟩]
noncomputable def an14 : Anns :=
  ⟨gam14, ja14, []⟩
noncomputable def b14_1 (p : Prim) : (List (List (Go.Am.D)) × (List (List (Go.Am.D)) × (Int × (Int × Unit)))) → Option ((List (List (Go.Am.D)) × (List (List (Go.Am.D)) × (Int × (Int × Unit)))) ⊕ (List (List (Go.Am.D)) × Unit)) :=
  fun s156 => opt.run _ (
      opt.ask _ (p.cmp Go.BinOp.lss s156.2.2.2.1 s156.2.2.1) (
       opt.need _ (bif (p.cmp Go.BinOp.geq s156.2.2.2.1 (0 : Int)) then (p.cmp Go.BinOp.lss s156.2.2.2.1 (p.ofNat (p.len s156.1))) else Bool.false) <|
       opt.need _ (p.rowOk s156.1 (p.add 0 (p.nat s156.2.2.2.1)) [(Go.Am.CK.int Go.IntKind.i64), (Go.Am.CK.int Go.IntKind.i64), (Go.Am.CK.int Go.IntKind.i64), (Go.Am.CK.int Go.IntKind.i64)]) <|
       opt.need _ (p.and (p.leN (p.add 0 1) (p.len [[(Go.Am.D.int Go.IntKind.i64 (p.rdI s156.1 (p.add 0 (p.nat s156.2.2.2.1)) 0)), (Go.Am.D.int Go.IntKind.i64 (p.rdI s156.1 (p.add 0 (p.nat s156.2.2.2.1)) 1)), (Go.Am.D.int Go.IntKind.i64 (p.rdI s156.1 (p.add 0 (p.nat s156.2.2.2.1)) 2)), (Go.Am.D.int Go.IntKind.i64 (p.rdI s156.1 (p.add 0 (p.nat s156.2.2.2.1)) 3))]])) (p.and (p.leN (p.add 0 (p.len s156.2.1)) (p.len s156.2.1)) (p.and (p.leN 1 1) (p.leN (p.add (p.len s156.2.1) 1) 1000000)))) <|
       opt.need _ (p.eqN 0 0) <|
       opt.need _ (p.eqN (p.add (p.len s156.2.1) 1) (p.len (p.app (p.cut s156.2.1 0 (p.len s156.2.1)) (p.cut [[(Go.Am.D.int Go.IntKind.i64 (p.rdI s156.1 (p.add 0 (p.nat s156.2.2.2.1)) 0)), (Go.Am.D.int Go.IntKind.i64 (p.rdI s156.1 (p.add 0 (p.nat s156.2.2.2.1)) 1)), (Go.Am.D.int Go.IntKind.i64 (p.rdI s156.1 (p.add 0 (p.nat s156.2.2.2.1)) 2)), (Go.Am.D.int Go.IntKind.i64 (p.rdI s156.1 (p.add 0 (p.nat s156.2.2.2.1)) 3))]] 0 1)))) <|
       opt.need _ (p.eqN 0 0) <|
       opt.need _ (p.eqN (p.len s156.1) (p.len s156.1)) <|
       opt.ret _ (Sum.inl (s156.1, ((p.app (p.cut s156.2.1 0 (p.len s156.2.1)) (p.cut [[(Go.Am.D.int Go.IntKind.i64 (p.rdI s156.1 (p.add 0 (p.nat s156.2.2.2.1)) 0)), (Go.Am.D.int Go.IntKind.i64 (p.rdI s156.1 (p.add 0 (p.nat s156.2.2.2.1)) 1)), (Go.Am.D.int Go.IntKind.i64 (p.rdI s156.1 (p.add 0 (p.nat s156.2.2.2.1)) 2)), (Go.Am.D.int Go.IntKind.i64 (p.rdI s156.1 (p.add 0 (p.nat s156.2.2.2.1)) 3))]] 0 1)), (s156.2.2.1, ((p.ar Go.BinOp.add Go.IntKind.i64 s156.2.2.2.1 (1 : Int)), ())))))) (
       opt.need _ (p.eqN 0 0) <|
       opt.need _ (p.eqN (p.len s156.2.1) (p.len s156.2.1)) <|
       opt.ret _ (Sum.inr (s156.2.1, ()))))
noncomputable def G14 : (p : Prim) → (List (List (Go.Am.D)) × Unit) → Option ((List (List (Go.Am.D)) × (Int × Unit))) :=
  fun p x =>
  opt.bnd ((Int × Unit)) _ (G16 p (x.1, ())) fun y154 =>
  opt.ask _ (p.cmp Go.BinOp.neq y154.1 (0 : Int)) (
   opt.ret _ ([], (y154.1, ()))) (
   opt.bnd ((List (List (Go.Am.D)) × Unit)) _ (G39 p (x.1, ())) fun y155 =>
   opt.need _ (p.eqN 0 0) <|
   opt.need _ (p.eqN (p.len y155.1) (p.len y155.1)) <|
   opt.bnd ((List (List (Go.Am.D)) × Unit)) _ (
     iter (b14_1 p) (y155.1, ([], ((p.ofNat (p.len y155.1)), ((0 : Int), ()))))) fun y157 =>
   opt.need _ (p.eqN 0 0) <|
   opt.need _ (p.eqN (p.len y157.1) (p.len y157.1)) <|
   opt.ret _ (y157.1, ((0 : Int), ())))
noncomputable def F14 : Prim → Tup (ctr14).scs → Option (STup (scss (ctr14).outs)) :=
  fun p x => G14 p x
theorem eq14 (p : Prim) (x : Tup (ctr14).scs) : bodyRun opt p (autoEnv Go.Proofs.Try.prog) (mkOrc opt p (autoEnv Go.Proofs.Try.prog) 400 (an14) la14) 400 ctr14 x = G14 p x := by kernel_rfl
theorem gok14 : GamOk Go.Proofs.Try.prog (gam14) := by
  intro cf h
  simp only [gam14, List.mem_cons, List.not_mem_nil, or_false] at h
  rcases h with rfl | rfl
  · exact ok39
  · exact ok16
theorem enters14 : Enters Go.Proofs.Try.prog 14 := enters_auto (b := _) rfl (by kernel_rfl)
theorem ok14 : CtrOk Go.Proofs.Try.prog ctr14 (F14 std) := ctr_of_body (autoEnv_ok follows_mixed) (mkOrc_ok (autoEnv_ok follows_mixed) gok14 _) enters14 (fun x => eq14 std x)
noncomputable def ctr44 : Ctr :=
  ⟨44, [.sl 0 4], [.row [(Go.Am.CK.int Go.IntKind.i64), (Go.Am.CK.int Go.IntKind.i64), (Go.Am.CK.int Go.IntKind.i64), (Go.Am.CK.int Go.IntKind.i64)]], [(.ret, ⟨[(0, .clo 57 [] [.bptr 1 0])], [.row [(Go.Am.CK.int Go.IntKind.i64), (Go.Am.CK.int Go.IntKind.i64), (Go.Am.CK.int Go.IntKind.i64), (Go.Am.CK.int Go.IntKind.i64)], .box [.sl 0 4]], 1⟩)]⟩
noncomputable def la44 : List LA :=
  []
noncomputable def ja44 : List JA :=
  []
noncomputable def gam44 : List CF :=
  []
noncomputable def an44 : Anns :=
  ⟨gam44, ja44, []⟩
noncomputable def G44 : (p : Prim) → (List (List (Go.Am.D)) × (Nat × (Nat × Unit))) → Option ((List (List (Go.Am.D)) × (Nat × (Nat × Unit)))) :=
  fun p x =>
  opt.ret _ (x.1, (x.2.1, (x.2.2.1, ())))
noncomputable def F44 : Prim → Tup (ctr44).scs → Option (STup (scss (ctr44).outs)) :=
  fun p x => G44 p x
theorem eq44 (p : Prim) (x : Tup (ctr44).scs) : bodyRun opt p (autoEnv Go.Proofs.Try.prog) (mkOrc opt p (autoEnv Go.Proofs.Try.prog) 400 (an44) la44) 400 ctr44 x = G44 p x := by kernel_rfl
theorem gok44 : GamOk Go.Proofs.Try.prog gam44 := fun cf h => by cases h
theorem enters44 : Enters Go.Proofs.Try.prog 44 := enters_auto (b := _) rfl (by kernel_rfl)
theorem ok44 : CtrOk Go.Proofs.Try.prog ctr44 (F44 std) := ctr_of_body (autoEnv_ok follows_mixed) (mkOrc_ok (autoEnv_ok follows_mixed) gok44 _) enters44 (fun x => eq44 std x)
noncomputable def ctr57 : Ctr :=
  ⟨57, [.yld 0, .bptr 1 0], [.loop Go.LoopState.ready Option.none 19 [Bool.false, Bool.true, Bool.false, Bool.true, Bool.true, Bool.true, Bool.true, Bool.true, Bool.true, Bool.false, Bool.false, Bool.true, Bool.true, Bool.false, Bool.false, Bool.true, Bool.false, Bool.true, Bool.true, Bool.true, Bool.true, Bool.true] 109 [(56, .clo 57 [] [.bptr 1 0]), (9, .bptr 6 0), (12, .bptr 5 0), (8, .int Go.IntKind.i64), (10, .int Go.IntKind.i64), (28, .int Go.IntKind.i64), (27, .full 3 4), (29, .int Go.IntKind.i64), (6, .vec 4 4), (7, .full 3 4), (11, .bptr 2 0)], .box [.sl 4 4], .box [.int Go.IntKind.i64, .int Go.IntKind.i64, .int Go.IntKind.i64, .int Go.IntKind.i64], .row [(Go.Am.CK.int Go.IntKind.i64), (Go.Am.CK.int Go.IntKind.i64), (Go.Am.CK.int Go.IntKind.i64), (Go.Am.CK.int Go.IntKind.i64)], .row [(Go.Am.CK.int Go.IntKind.i64), (Go.Am.CK.int Go.IntKind.i64), (Go.Am.CK.int Go.IntKind.i64), (Go.Am.CK.int Go.IntKind.i64)], .box [.bool], .box [.int Go.IntKind.i64, .int Go.IntKind.i64, .int Go.IntKind.i64, .int Go.IntKind.i64]], [(.ret, ⟨[(0, .tuple [])], [.loop Go.LoopState.ready Option.none 19 [Bool.false, Bool.true, Bool.false, Bool.true, Bool.true, Bool.true, Bool.true, Bool.true, Bool.true, Bool.false, Bool.false, Bool.true, Bool.true, Bool.false, Bool.false, Bool.true, Bool.false, Bool.true, Bool.true, Bool.true, Bool.true, Bool.true] 109 [(56, .clo 57 [] [.bptr 1 0]), (9, .bptr 6 0), (12, .bptr 5 0), (8, .int Go.IntKind.i64), (10, .int Go.IntKind.i64), (28, .int Go.IntKind.i64), (27, .full 3 4), (29, .int Go.IntKind.i64), (6, .vec 4 4), (7, .full 3 4), (11, .bptr 2 0)], .box [.sl 4 4], .box [.int Go.IntKind.i64, .int Go.IntKind.i64, .int Go.IntKind.i64, .int Go.IntKind.i64], .row [(Go.Am.CK.int Go.IntKind.i64), (Go.Am.CK.int Go.IntKind.i64), (Go.Am.CK.int Go.IntKind.i64), (Go.Am.CK.int Go.IntKind.i64)], .row [(Go.Am.CK.int Go.IntKind.i64), (Go.Am.CK.int Go.IntKind.i64), (Go.Am.CK.int Go.IntKind.i64), (Go.Am.CK.int Go.IntKind.i64)], .box [.bool], .box [.int Go.IntKind.i64, .int Go.IntKind.i64, .int Go.IntKind.i64, .int Go.IntKind.i64]], 1⟩)]⟩
noncomputable def la57 : List LA :=
  [⟨57, [false, true], ⟨⟨[(0, .yld 0), (1, .bptr 1 0), (8, .sl 4 4), (9, .int Go.IntKind.i64), (10, .int Go.IntKind.i64)], [.loop Go.LoopState.ready Option.none 19 [Bool.false, Bool.true, Bool.false, Bool.true, Bool.true, Bool.true, Bool.true, Bool.true, Bool.true, Bool.false, Bool.false, Bool.true, Bool.true, Bool.false, Bool.false, Bool.true, Bool.false, Bool.true, Bool.true, Bool.true, Bool.true, Bool.true] 109 [(56, .clo 57 [] [.bptr 1 0]), (9, .bptr 6 0), (12, .bptr 5 0), (8, .int Go.IntKind.i64), (10, .int Go.IntKind.i64), (28, .int Go.IntKind.i64), (27, .full 3 4), (29, .int Go.IntKind.i64), (6, .vec 4 4), (7, .full 3 4), (11, .bptr 2 0)], .box [.sl 4 4], .box [.int Go.IntKind.i64, .int Go.IntKind.i64, .int Go.IntKind.i64, .int Go.IntKind.i64], .row [(Go.Am.CK.int Go.IntKind.i64), (Go.Am.CK.int Go.IntKind.i64), (Go.Am.CK.int Go.IntKind.i64), (Go.Am.CK.int Go.IntKind.i64)], .row [(Go.Am.CK.int Go.IntKind.i64), (Go.Am.CK.int Go.IntKind.i64), (Go.Am.CK.int Go.IntKind.i64), (Go.Am.CK.int Go.IntKind.i64)], .box [.bool], .box [.int Go.IntKind.i64, .int Go.IntKind.i64, .int Go.IntKind.i64, .int Go.IntKind.i64]], 40⟩, [((Go.Am.AX.exit 0), ⟨[], [.loop Go.LoopState.ready Option.none 19 [Bool.false, Bool.true, Bool.false, Bool.true, Bool.true, Bool.true, Bool.true, Bool.true, Bool.true, Bool.false, Bool.false, Bool.true, Bool.true, Bool.false, Bool.false, Bool.true, Bool.false, Bool.true, Bool.true, Bool.true, Bool.true, Bool.true] 109 [(56, .clo 57 [] [.bptr 1 0]), (9, .bptr 6 0), (12, .bptr 5 0), (8, .int Go.IntKind.i64), (10, .int Go.IntKind.i64), (28, .int Go.IntKind.i64), (27, .full 3 4), (29, .int Go.IntKind.i64), (6, .vec 4 4), (7, .full 3 4), (11, .bptr 2 0)], .box [.sl 4 4], .box [.int Go.IntKind.i64, .int Go.IntKind.i64, .int Go.IntKind.i64, .int Go.IntKind.i64], .row [(Go.Am.CK.int Go.IntKind.i64), (Go.Am.CK.int Go.IntKind.i64), (Go.Am.CK.int Go.IntKind.i64), (Go.Am.CK.int Go.IntKind.i64)], .row [(Go.Am.CK.int Go.IntKind.i64), (Go.Am.CK.int Go.IntKind.i64), (Go.Am.CK.int Go.IntKind.i64), (Go.Am.CK.int Go.IntKind.i64)], .box [.bool], .box [.int Go.IntKind.i64, .int Go.IntKind.i64, .int Go.IntKind.i64, .int Go.IntKind.i64]], 40⟩)]⟩⟩,
   ⟨57, [false, true, false, false, true, false, true, true, false, false, true, true, false, false, true], ⟨⟨[(0, .yld 0), (1, .bptr 1 0), (4, .bptr 7 0), (5, .bptr 8 0), (8, .sl 4 4), (9, .int Go.IntKind.i64), (10, .int Go.IntKind.i64), (22, .sl 4 4), (23, .int Go.IntKind.i64), (24, .int Go.IntKind.i64)], [.loop Go.LoopState.ready Option.none 19 [Bool.false, Bool.true, Bool.false, Bool.true, Bool.true, Bool.true, Bool.true, Bool.true, Bool.true, Bool.false, Bool.false, Bool.true, Bool.true, Bool.false, Bool.false, Bool.true, Bool.false, Bool.true, Bool.true, Bool.true, Bool.true, Bool.true] 109 [(56, .clo 57 [] [.bptr 1 0]), (9, .bptr 6 0), (12, .bptr 5 0), (8, .int Go.IntKind.i64), (10, .int Go.IntKind.i64), (28, .int Go.IntKind.i64), (27, .full 3 4), (29, .int Go.IntKind.i64), (6, .vec 4 4), (7, .full 3 4), (11, .bptr 2 0)], .box [.sl 4 4], .box [.int Go.IntKind.i64, .int Go.IntKind.i64, .int Go.IntKind.i64, .int Go.IntKind.i64], .row [(Go.Am.CK.int Go.IntKind.i64), (Go.Am.CK.int Go.IntKind.i64), (Go.Am.CK.int Go.IntKind.i64), (Go.Am.CK.int Go.IntKind.i64)], .row [(Go.Am.CK.int Go.IntKind.i64), (Go.Am.CK.int Go.IntKind.i64), (Go.Am.CK.int Go.IntKind.i64), (Go.Am.CK.int Go.IntKind.i64)], .box [.bool], .box [.int Go.IntKind.i64, .int Go.IntKind.i64, .int Go.IntKind.i64, .int Go.IntKind.i64], .box [.int Go.IntKind.i64, .int Go.IntKind.i64, .int Go.IntKind.i64, .int Go.IntKind.i64], .box [.int Go.IntKind.i64, .int Go.IntKind.i64, .int Go.IntKind.i64, .int Go.IntKind.i64]], 40⟩, [((Go.Am.AX.exit 2), ⟨[(0, .yld 0), (1, .bptr 1 0), (4, .bptr 7 0), (5, .bptr 8 0), (8, .sl 4 4), (9, .int Go.IntKind.i64), (10, .int Go.IntKind.i64)], [.loop Go.LoopState.ready Option.none 19 [Bool.false, Bool.true, Bool.false, Bool.true, Bool.true, Bool.true, Bool.true, Bool.true, Bool.true, Bool.false, Bool.false, Bool.true, Bool.true, Bool.false, Bool.false, Bool.true, Bool.false, Bool.true, Bool.true, Bool.true, Bool.true, Bool.true] 109 [(56, .clo 57 [] [.bptr 1 0]), (9, .bptr 6 0), (12, .bptr 5 0), (8, .int Go.IntKind.i64), (10, .int Go.IntKind.i64), (28, .int Go.IntKind.i64), (27, .full 3 4), (29, .int Go.IntKind.i64), (6, .vec 4 4), (7, .full 3 4), (11, .bptr 2 0)], .box [.sl 4 4], .box [.int Go.IntKind.i64, .int Go.IntKind.i64, .int Go.IntKind.i64, .int Go.IntKind.i64], .row [(Go.Am.CK.int Go.IntKind.i64), (Go.Am.CK.int Go.IntKind.i64), (Go.Am.CK.int Go.IntKind.i64), (Go.Am.CK.int Go.IntKind.i64)], .row [(Go.Am.CK.int Go.IntKind.i64), (Go.Am.CK.int Go.IntKind.i64), (Go.Am.CK.int Go.IntKind.i64), (Go.Am.CK.int Go.IntKind.i64)], .box [.bool], .box [.int Go.IntKind.i64, .int Go.IntKind.i64, .int Go.IntKind.i64, .int Go.IntKind.i64], .box [.int Go.IntKind.i64, .int Go.IntKind.i64, .int Go.IntKind.i64, .int Go.IntKind.i64], .box [.int Go.IntKind.i64, .int Go.IntKind.i64, .int Go.IntKind.i64, .int Go.IntKind.i64]], 40⟩)]⟩⟩]
noncomputable def ja57 : List JA :=
  [⟨19, [true, false, true, false, true, false, true, true, true, true, true, true, false, false, true, true, false, false, true, false, true, true, true, true, true], [(Go.Am.AX.normal, ⟨[(6, .vec 4 4), (7, .full 3 4), (8, .int Go.IntKind.i64), (9, .bptr 6 0), (10, .int Go.IntKind.i64), (11, .bptr 2 0), (12, .bptr 5 0), (27, .full 3 4), (28, .int Go.IntKind.i64), (29, .int Go.IntKind.i64)], [.dead, .box [.sl 4 4], .box [.int Go.IntKind.i64, .int Go.IntKind.i64, .int Go.IntKind.i64, .int Go.IntKind.i64], .row [(Go.Am.CK.int Go.IntKind.i64), (Go.Am.CK.int Go.IntKind.i64), (Go.Am.CK.int Go.IntKind.i64), (Go.Am.CK.int Go.IntKind.i64)], .row [(Go.Am.CK.int Go.IntKind.i64), (Go.Am.CK.int Go.IntKind.i64), (Go.Am.CK.int Go.IntKind.i64), (Go.Am.CK.int Go.IntKind.i64)], .box [.bool], .box [.int Go.IntKind.i64, .int Go.IntKind.i64, .int Go.IntKind.i64, .int Go.IntKind.i64], .box [.int Go.IntKind.i64, .int Go.IntKind.i64, .int Go.IntKind.i64, .int Go.IntKind.i64]], 109⟩)]⟩,
   ⟨57, [true, false, true, true, false, false, true, true, false, false, true], [(Go.Am.AX.normal, ⟨[(0, .yld 0), (1, .bptr 1 0), (5, .bptr 7 0), (8, .sl 4 4), (9, .int Go.IntKind.i64), (10, .int Go.IntKind.i64)], [.loop Go.LoopState.ready Option.none 19 [Bool.false, Bool.true, Bool.false, Bool.true, Bool.true, Bool.true, Bool.true, Bool.true, Bool.true, Bool.false, Bool.false, Bool.true, Bool.true, Bool.false, Bool.false, Bool.true, Bool.false, Bool.true, Bool.true, Bool.true, Bool.true, Bool.true] 109 [(56, .clo 57 [] [.bptr 1 0]), (9, .bptr 6 0), (12, .bptr 5 0), (8, .int Go.IntKind.i64), (10, .int Go.IntKind.i64), (28, .int Go.IntKind.i64), (27, .full 3 4), (29, .int Go.IntKind.i64), (6, .vec 4 4), (7, .full 3 4), (11, .bptr 2 0)], .box [.sl 4 4], .box [.int Go.IntKind.i64, .int Go.IntKind.i64, .int Go.IntKind.i64, .int Go.IntKind.i64], .row [(Go.Am.CK.int Go.IntKind.i64), (Go.Am.CK.int Go.IntKind.i64), (Go.Am.CK.int Go.IntKind.i64), (Go.Am.CK.int Go.IntKind.i64)], .row [(Go.Am.CK.int Go.IntKind.i64), (Go.Am.CK.int Go.IntKind.i64), (Go.Am.CK.int Go.IntKind.i64), (Go.Am.CK.int Go.IntKind.i64)], .box [.bool], .box [.int Go.IntKind.i64, .int Go.IntKind.i64, .int Go.IntKind.i64, .int Go.IntKind.i64], .box [.int Go.IntKind.i64, .int Go.IntKind.i64, .int Go.IntKind.i64, .int Go.IntKind.i64]], 40⟩)]⟩]
noncomputable def gam57 : List CF :=
  []
noncomputable def an57 : Anns :=
  ⟨gam57, ja57, []⟩
noncomputable def b57_2 (p : Prim) : (List (List (Go.Am.D)) × (List (List (Go.Am.D)) × (Int × (Int × (Int × (Int × (Nat × (Nat × (Int × (Int × (Int × (Int × (Bool × (Int × (Int × (Int × (Int × (Int × (Int × (Int × (Int × (Int × (Int × (Int × (Int × (Nat × (Nat × (Int × (Int × (Nat × (Nat × (Int × (Int × Unit))))))))))))))))))))))))))))))))) → Option ((List (List (Go.Am.D)) × (List (List (Go.Am.D)) × (Int × (Int × (Int × (Int × (Nat × (Nat × (Int × (Int × (Int × (Int × (Bool × (Int × (Int × (Int × (Int × (Int × (Int × (Int × (Int × (Int × (Int × (Int × (Int × (Nat × (Nat × (Int × (Int × (Nat × (Nat × (Int × (Int × Unit))))))))))))))))))))))))))))))))) ⊕ (List (List (Go.Am.D)) × (List (List (Go.Am.D)) × (Int × (Int × (Int × (Int × (Nat × (Nat × (Int × (Int × (Int × (Int × (Bool × (Int × (Int × (Int × (Int × (Int × (Int × (Int × (Int × (Int × (Int × (Int × (Int × (Nat × (Nat × (Int × (Int × Unit)))))))))))))))))))))))))))))) :=
  fun s50 => opt.run _ (
             opt.ask _ (p.cmp Go.BinOp.lss s50.2.2.2.2.2.2.2.2.2.2.2.2.2.2.2.2.2.2.2.2.2.2.2.2.2.2.2.2.2.2.2.2.1 s50.2.2.2.2.2.2.2.2.2.2.2.2.2.2.2.2.2.2.2.2.2.2.2.2.2.2.2.2.2.2.2.1) (
              opt.need _ (bif (p.cmp Go.BinOp.geq s50.2.2.2.2.2.2.2.2.2.2.2.2.2.2.2.2.2.2.2.2.2.2.2.2.2.2.2.2.2.2.2.2.1 (0 : Int)) then (p.cmp Go.BinOp.lss s50.2.2.2.2.2.2.2.2.2.2.2.2.2.2.2.2.2.2.2.2.2.2.2.2.2.2.2.2.2.2.2.2.1 (p.ofNat s50.2.2.2.2.2.2.2.2.2.2.2.2.2.2.2.2.2.2.2.2.2.2.2.2.2.2.2.2.2.2.1)) else Bool.false) <|
              opt.need _ (p.rowOk s50.2.1 (p.add s50.2.2.2.2.2.2.2.2.2.2.2.2.2.2.2.2.2.2.2.2.2.2.2.2.2.2.2.2.2.1 (p.nat s50.2.2.2.2.2.2.2.2.2.2.2.2.2.2.2.2.2.2.2.2.2.2.2.2.2.2.2.2.2.2.2.2.1)) [(Go.Am.CK.int Go.IntKind.i64), (Go.Am.CK.int Go.IntKind.i64), (Go.Am.CK.int Go.IntKind.i64), (Go.Am.CK.int Go.IntKind.i64)]) <|
              opt.need _ (p.eqN 0 0) <|
              opt.need _ (p.eqN (p.len s50.1) (p.len s50.1)) <|
              opt.need _ (p.eqN (p.len s50.1) (p.len s50.1)) <|
              opt.need _ (p.eqN 0 0) <|
              opt.need _ (p.eqN (p.len s50.2.1) (p.len s50.2.1)) <|
              opt.need _ (p.eqN 0 0) <|
              opt.need _ (p.eqN (p.len s50.1) (p.len s50.1)) <|
              opt.need _ (p.eqN (p.len s50.1) (p.len s50.1)) <|
              opt.ret _ (Sum.inl (s50.1, (s50.2.1, (s50.2.2.1, (s50.2.2.2.1, (s50.2.2.2.2.1, (s50.2.2.2.2.2.1, (s50.2.2.2.2.2.2.1, (s50.2.2.2.2.2.2.2.1, (s50.2.2.2.2.2.2.2.2.1, (s50.2.2.2.2.2.2.2.2.2.1, (s50.2.2.2.2.2.2.2.2.2.2.1, (s50.2.2.2.2.2.2.2.2.2.2.2.1, (s50.2.2.2.2.2.2.2.2.2.2.2.2.1, (s50.2.2.2.2.2.2.2.2.2.2.2.2.2.1, (s50.2.2.2.2.2.2.2.2.2.2.2.2.2.2.1, (s50.2.2.2.2.2.2.2.2.2.2.2.2.2.2.2.1, (s50.2.2.2.2.2.2.2.2.2.2.2.2.2.2.2.2.1, (s50.2.2.2.2.2.2.2.2.2.2.2.2.2.2.2.2.2.1, (s50.2.2.2.2.2.2.2.2.2.2.2.2.2.2.2.2.2.2.1, (s50.2.2.2.2.2.2.2.2.2.2.2.2.2.2.2.2.2.2.2.1, (s50.2.2.2.2.2.2.2.2.2.2.2.2.2.2.2.2.2.2.2.2.1, (s50.2.2.2.2.2.2.2.2.2.2.2.2.2.2.2.2.2.2.2.2.2.1, ((p.rdI s50.2.1 (p.add s50.2.2.2.2.2.2.2.2.2.2.2.2.2.2.2.2.2.2.2.2.2.2.2.2.2.2.2.2.2.1 (p.nat s50.2.2.2.2.2.2.2.2.2.2.2.2.2.2.2.2.2.2.2.2.2.2.2.2.2.2.2.2.2.2.2.2.1)) 1), ((p.ar Go.BinOp.add Go.IntKind.i64 s50.2.2.2.2.2.2.2.2.2.2.2.2.2.2.2.2.2.2.2.2.2.2.2.1 (p.rdI s50.2.1 (p.add s50.2.2.2.2.2.2.2.2.2.2.2.2.2.2.2.2.2.2.2.2.2.2.2.2.2.2.2.2.2.1 (p.nat s50.2.2.2.2.2.2.2.2.2.2.2.2.2.2.2.2.2.2.2.2.2.2.2.2.2.2.2.2.2.2.2.2.1)) 2)), ((p.ar Go.BinOp.add Go.IntKind.i64 s50.2.2.2.2.2.2.2.2.2.2.2.2.2.2.2.2.2.2.2.2.2.2.2.2.1 (p.rdI s50.2.1 (p.add s50.2.2.2.2.2.2.2.2.2.2.2.2.2.2.2.2.2.2.2.2.2.2.2.2.2.2.2.2.2.1 (p.nat s50.2.2.2.2.2.2.2.2.2.2.2.2.2.2.2.2.2.2.2.2.2.2.2.2.2.2.2.2.2.2.2.2.1)) 3)), (s50.2.2.2.2.2.2.2.2.2.2.2.2.2.2.2.2.2.2.2.2.2.2.2.2.2.1, (s50.2.2.2.2.2.2.2.2.2.2.2.2.2.2.2.2.2.2.2.2.2.2.2.2.2.2.1, (s50.2.2.2.2.2.2.2.2.2.2.2.2.2.2.2.2.2.2.2.2.2.2.2.2.2.2.2.1, (s50.2.2.2.2.2.2.2.2.2.2.2.2.2.2.2.2.2.2.2.2.2.2.2.2.2.2.2.2.1, (s50.2.2.2.2.2.2.2.2.2.2.2.2.2.2.2.2.2.2.2.2.2.2.2.2.2.2.2.2.2.1, (s50.2.2.2.2.2.2.2.2.2.2.2.2.2.2.2.2.2.2.2.2.2.2.2.2.2.2.2.2.2.2.1, (s50.2.2.2.2.2.2.2.2.2.2.2.2.2.2.2.2.2.2.2.2.2.2.2.2.2.2.2.2.2.2.2.1, ((p.ar Go.BinOp.add Go.IntKind.i64 s50.2.2.2.2.2.2.2.2.2.2.2.2.2.2.2.2.2.2.2.2.2.2.2.2.2.2.2.2.2.2.2.2.1 (1 : Int)), ()))))))))))))))))))))))))))))))))))) (
              opt.need _ (p.eqN 0 0) <|
              opt.need _ (p.eqN (p.len s50.1) (p.len s50.1)) <|
              opt.need _ (p.eqN (p.len s50.1) (p.len s50.1)) <|
              opt.need _ (p.eqN 0 0) <|
              opt.need _ (p.eqN (p.len s50.2.1) (p.len s50.2.1)) <|
              opt.need _ (p.eqN 0 0) <|
              opt.need _ (p.eqN (p.len s50.1) (p.len s50.1)) <|
              opt.need _ (p.eqN (p.len s50.1) (p.len s50.1)) <|
              opt.ret _ (Sum.inr (s50.1, (s50.2.1, (s50.2.2.1, (s50.2.2.2.1, (s50.2.2.2.2.1, (s50.2.2.2.2.2.1, (s50.2.2.2.2.2.2.1, (s50.2.2.2.2.2.2.2.1, (s50.2.2.2.2.2.2.2.2.1, (s50.2.2.2.2.2.2.2.2.2.1, (s50.2.2.2.2.2.2.2.2.2.2.1, (s50.2.2.2.2.2.2.2.2.2.2.2.1, (s50.2.2.2.2.2.2.2.2.2.2.2.2.1, (s50.2.2.2.2.2.2.2.2.2.2.2.2.2.1, (s50.2.2.2.2.2.2.2.2.2.2.2.2.2.2.1, (s50.2.2.2.2.2.2.2.2.2.2.2.2.2.2.2.1, (s50.2.2.2.2.2.2.2.2.2.2.2.2.2.2.2.2.1, (s50.2.2.2.2.2.2.2.2.2.2.2.2.2.2.2.2.2.1, (s50.2.2.2.2.2.2.2.2.2.2.2.2.2.2.2.2.2.2.1, (s50.2.2.2.2.2.2.2.2.2.2.2.2.2.2.2.2.2.2.2.1, (s50.2.2.2.2.2.2.2.2.2.2.2.2.2.2.2.2.2.2.2.2.1, (s50.2.2.2.2.2.2.2.2.2.2.2.2.2.2.2.2.2.2.2.2.2.1, (s50.2.2.2.2.2.2.2.2.2.2.2.2.2.2.2.2.2.2.2.2.2.2.1, (s50.2.2.2.2.2.2.2.2.2.2.2.2.2.2.2.2.2.2.2.2.2.2.2.1, (s50.2.2.2.2.2.2.2.2.2.2.2.2.2.2.2.2.2.2.2.2.2.2.2.2.1, (s50.2.2.2.2.2.2.2.2.2.2.2.2.2.2.2.2.2.2.2.2.2.2.2.2.2.1, (s50.2.2.2.2.2.2.2.2.2.2.2.2.2.2.2.2.2.2.2.2.2.2.2.2.2.2.1, (s50.2.2.2.2.2.2.2.2.2.2.2.2.2.2.2.2.2.2.2.2.2.2.2.2.2.2.2.1, (s50.2.2.2.2.2.2.2.2.2.2.2.2.2.2.2.2.2.2.2.2.2.2.2.2.2.2.2.2.1, ()))))))))))))))))))))))))))))))))
noncomputable def b57_1 (p : Prim) : (List (List (Go.Am.D)) × (List (List (Go.Am.D)) × (Int × (Int × (Int × (Int × (Nat × (Nat × (Int × (Int × (Int × (Int × (Bool × (Int × (Int × (Int × (Int × (Nat × (Nat × (Int × (Int × Unit))))))))))))))))))))) → Option ((List (List (Go.Am.D)) × (List (List (Go.Am.D)) × (Int × (Int × (Int × (Int × (Nat × (Nat × (Int × (Int × (Int × (Int × (Bool × (Int × (Int × (Int × (Int × (Nat × (Nat × (Int × (Int × Unit))))))))))))))))))))) ⊕ (List (List (Go.Am.D)) × (List (List (Go.Am.D)) × (Int × (Int × (Int × (Int × (Nat × (Nat × (Int × (Int × (Int × (Int × (Bool × (Int × (Int × (Int × (Int × Unit)))))))))))))))))) :=
  fun s49 => opt.run _ (
     opt.ask _ (p.cmp Go.BinOp.lss s49.2.2.2.2.2.2.2.2.2.2.2.2.2.2.2.2.2.2.2.2.1 s49.2.2.2.2.2.2.2.2.2.2.2.2.2.2.2.2.2.2.2.1) (
      opt.need _ (bif (p.cmp Go.BinOp.geq s49.2.2.2.2.2.2.2.2.2.2.2.2.2.2.2.2.2.2.2.2.1 (0 : Int)) then (p.cmp Go.BinOp.lss s49.2.2.2.2.2.2.2.2.2.2.2.2.2.2.2.2.2.2.2.2.1 (p.ofNat s49.2.2.2.2.2.2.2.2.2.2.2.2.2.2.2.2.2.2.1)) else Bool.false) <|
      opt.need _ (p.rowOk s49.2.1 (p.add s49.2.2.2.2.2.2.2.2.2.2.2.2.2.2.2.2.2.1 (p.nat s49.2.2.2.2.2.2.2.2.2.2.2.2.2.2.2.2.2.2.2.2.1)) [(Go.Am.CK.int Go.IntKind.i64), (Go.Am.CK.int Go.IntKind.i64), (Go.Am.CK.int Go.IntKind.i64), (Go.Am.CK.int Go.IntKind.i64)]) <|
      opt.need _ (bif (p.cmp Go.BinOp.geq (0 : Int) (0 : Int)) then (p.cmp Go.BinOp.lss (0 : Int) (p.ofNat s49.2.2.2.2.2.2.2.1)) else Bool.false) <|
      opt.need _ (p.rowOk s49.2.1 (p.add s49.2.2.2.2.2.2.1 (p.nat (0 : Int))) [(Go.Am.CK.int Go.IntKind.i64), (Go.Am.CK.int Go.IntKind.i64), (Go.Am.CK.int Go.IntKind.i64), (Go.Am.CK.int Go.IntKind.i64)]) <|
      opt.bnd ((List (List (Go.Am.D)) × (List (List (Go.Am.D)) × (Int × (Int × (Int × (Int × (Nat × (Nat × (Int × (Int × (Int × (Int × (Bool × (Int × (Int × (Int × (Int × (Int × (Int × (Int × (Int × (Nat × (Nat × (Int × (Int × Unit)))))))))))))))))))))))))) _ (
        opt.run ((List (List (Go.Am.D)) × (List (List (Go.Am.D)) × (Int × (Int × (Int × (Int × (Nat × (Nat × (Int × (Int × (Int × (Int × (Bool × (Int × (Int × (Int × (Int × (Int × (Int × (Int × (Int × (Nat × (Nat × (Int × (Int × Unit)))))))))))))))))))))))))) (
         opt.ask _ (p.cmp Go.BinOp.gtr s49.2.2.2.2.2.2.2.2.2.2.2.2.2.2.2.2.2.2.2.2.1 (0 : Int)) (
          opt.need _ (p.and (p.cmp Go.BinOp.geq (1 : Int) (0 : Int)) (p.and (p.cmp Go.BinOp.leq (1 : Int) s49.2.2.2.2.2.2.2.2.2.2.2.2.2.2.2.2.2.2.2.2.1) (p.cmp Go.BinOp.leq s49.2.2.2.2.2.2.2.2.2.2.2.2.2.2.2.2.2.2.2.2.1 (p.ofNat s49.2.2.2.2.2.2.2.1)))) <|
          opt.need _ (p.eqN 0 0) <|
          opt.need _ (p.eqN (p.len s49.1) (p.len s49.1)) <|
          opt.need _ (p.eqN (p.len s49.1) (p.len s49.1)) <|
          opt.need _ (p.eqN 0 0) <|
          opt.need _ (p.eqN (p.len s49.2.1) (p.len s49.2.1)) <|
          opt.need _ (p.eqN 0 0) <|
          opt.need _ (p.eqN (p.len s49.1) (p.len s49.1)) <|
          opt.need _ (p.eqN (p.len s49.1) (p.len s49.1)) <|
          opt.bnd ((List (List (Go.Am.D)) × (List (List (Go.Am.D)) × (Int × (Int × (Int × (Int × (Nat × (Nat × (Int × (Int × (Int × (Int × (Bool × (Int × (Int × (Int × (Int × (Int × (Int × (Int × (Int × (Int × (Int × (Int × (Int × (Nat × (Nat × (Int × (Int × Unit)))))))))))))))))))))))))))))) _ (
            iter (b57_2 p) (s49.1, (s49.2.1, (s49.2.2.1, (s49.2.2.2.1, (s49.2.2.2.2.1, (s49.2.2.2.2.2.1, (s49.2.2.2.2.2.2.1, (s49.2.2.2.2.2.2.2.1, (s49.2.2.2.2.2.2.2.2.1, (s49.2.2.2.2.2.2.2.2.2.1, (s49.2.2.2.2.2.2.2.2.2.2.1, (s49.2.2.2.2.2.2.2.2.2.2.2.1, (s49.2.2.2.2.2.2.2.2.2.2.2.2.1, (s49.2.2.2.2.2.2.2.2.2.2.2.2.2.1, (s49.2.2.2.2.2.2.2.2.2.2.2.2.2.2.1, (s49.2.2.2.2.2.2.2.2.2.2.2.2.2.2.2.1, (s49.2.2.2.2.2.2.2.2.2.2.2.2.2.2.2.2.1, ((p.rdI s49.2.1 (p.add s49.2.2.2.2.2.2.2.2.2.2.2.2.2.2.2.2.2.1 (p.nat s49.2.2.2.2.2.2.2.2.2.2.2.2.2.2.2.2.2.2.2.2.1)) 0), ((p.rdI s49.2.1 (p.add s49.2.2.2.2.2.2.2.2.2.2.2.2.2.2.2.2.2.1 (p.nat s49.2.2.2.2.2.2.2.2.2.2.2.2.2.2.2.2.2.2.2.2.1)) 1), ((p.rdI s49.2.1 (p.add s49.2.2.2.2.2.2.2.2.2.2.2.2.2.2.2.2.2.1 (p.nat s49.2.2.2.2.2.2.2.2.2.2.2.2.2.2.2.2.2.2.2.2.1)) 2), ((p.rdI s49.2.1 (p.add s49.2.2.2.2.2.2.2.2.2.2.2.2.2.2.2.2.2.1 (p.nat s49.2.2.2.2.2.2.2.2.2.2.2.2.2.2.2.2.2.2.2.2.1)) 3), ((p.rdI s49.2.1 (p.add s49.2.2.2.2.2.2.1 (p.nat (0 : Int))) 0), ((p.rdI s49.2.1 (p.add s49.2.2.2.2.2.2.1 (p.nat (0 : Int))) 1), ((p.rdI s49.2.1 (p.add s49.2.2.2.2.2.2.1 (p.nat (0 : Int))) 2), ((p.rdI s49.2.1 (p.add s49.2.2.2.2.2.2.1 (p.nat (0 : Int))) 3), (s49.2.2.2.2.2.2.2.2.2.2.2.2.2.2.2.2.2.1, (s49.2.2.2.2.2.2.2.2.2.2.2.2.2.2.2.2.2.2.1, (s49.2.2.2.2.2.2.2.2.2.2.2.2.2.2.2.2.2.2.2.1, (s49.2.2.2.2.2.2.2.2.2.2.2.2.2.2.2.2.2.2.2.2.1, ((p.add s49.2.2.2.2.2.2.1 (p.nat (1 : Int))), ((p.sub (p.nat s49.2.2.2.2.2.2.2.2.2.2.2.2.2.2.2.2.2.2.2.2.1) (p.nat (1 : Int))), ((p.ofNat (p.sub (p.nat s49.2.2.2.2.2.2.2.2.2.2.2.2.2.2.2.2.2.2.2.2.1) (p.nat (1 : Int)))), ((0 : Int), ())))))))))))))))))))))))))))))))))) fun y51 =>
          opt.need _ (p.eqN 0 0) <|
          opt.need _ (p.eqN (p.len y51.1) (p.len y51.1)) <|
          opt.need _ (p.eqN (p.len y51.1) (p.len y51.1)) <|
          opt.need _ (p.eqN 0 0) <|
          opt.need _ (p.eqN (p.len y51.2.1) (p.len y51.2.1)) <|
          opt.need _ (p.eqN 0 0) <|
          opt.need _ (p.eqN (p.len y51.1) (p.len y51.1)) <|
          opt.need _ (p.eqN (p.len y51.1) (p.len y51.1)) <|
          opt.ret _ (y51.1, (y51.2.1, (y51.2.2.1, (y51.2.2.2.1, (y51.2.2.2.2.1, (y51.2.2.2.2.2.1, (y51.2.2.2.2.2.2.1, (y51.2.2.2.2.2.2.2.1, (y51.2.2.2.2.2.2.2.2.1, (y51.2.2.2.2.2.2.2.2.2.1, (y51.2.2.2.2.2.2.2.2.2.2.1, (y51.2.2.2.2.2.2.2.2.2.2.2.1, (y51.2.2.2.2.2.2.2.2.2.2.2.2.1, (y51.2.2.2.2.2.2.2.2.2.2.2.2.2.1, (y51.2.2.2.2.2.2.2.2.2.2.2.2.2.2.1, (y51.2.2.2.2.2.2.2.2.2.2.2.2.2.2.2.1, (y51.2.2.2.2.2.2.2.2.2.2.2.2.2.2.2.2.1, (y51.2.2.2.2.2.2.2.2.2.2.2.2.2.2.2.2.2.2.2.2.2.1, (y51.2.2.2.2.2.2.2.2.2.2.2.2.2.2.2.2.2.2.1, ((p.ar Go.BinOp.add Go.IntKind.i64 y51.2.2.2.2.2.2.2.2.2.2.2.2.2.2.2.2.2.2.2.2.2.2.2.1 y51.2.2.2.2.2.2.2.2.2.2.2.2.2.2.2.2.2.2.2.1), ((p.ar Go.BinOp.add Go.IntKind.i64 y51.2.2.2.2.2.2.2.2.2.2.2.2.2.2.2.2.2.2.2.2.2.2.2.2.1 y51.2.2.2.2.2.2.2.2.2.2.2.2.2.2.2.2.2.2.2.2.1), (y51.2.2.2.2.2.2.2.2.2.2.2.2.2.2.2.2.2.2.2.2.2.2.2.2.2.1, (y51.2.2.2.2.2.2.2.2.2.2.2.2.2.2.2.2.2.2.2.2.2.2.2.2.2.2.1, (y51.2.2.2.2.2.2.2.2.2.2.2.2.2.2.2.2.2.2.2.2.2.2.2.2.2.2.2.1, (y51.2.2.2.2.2.2.2.2.2.2.2.2.2.2.2.2.2.2.2.2.2.2.2.2.2.2.2.2.1, ())))))))))))))))))))))))))) (
          opt.need _ (p.eqN 0 0) <|
          opt.need _ (p.eqN (p.len s49.1) (p.len s49.1)) <|
          opt.need _ (p.eqN (p.len s49.1) (p.len s49.1)) <|
          opt.need _ (p.eqN 0 0) <|
          opt.need _ (p.eqN (p.len s49.2.1) (p.len s49.2.1)) <|
          opt.need _ (p.eqN 0 0) <|
          opt.need _ (p.eqN (p.len s49.1) (p.len s49.1)) <|
          opt.need _ (p.eqN (p.len s49.1) (p.len s49.1)) <|
          opt.ret _ (s49.1, (s49.2.1, (s49.2.2.1, (s49.2.2.2.1, (s49.2.2.2.2.1, (s49.2.2.2.2.2.1, (s49.2.2.2.2.2.2.1, (s49.2.2.2.2.2.2.2.1, (s49.2.2.2.2.2.2.2.2.1, (s49.2.2.2.2.2.2.2.2.2.1, (s49.2.2.2.2.2.2.2.2.2.2.1, (s49.2.2.2.2.2.2.2.2.2.2.2.1, (s49.2.2.2.2.2.2.2.2.2.2.2.2.1, (s49.2.2.2.2.2.2.2.2.2.2.2.2.2.1, (s49.2.2.2.2.2.2.2.2.2.2.2.2.2.2.1, (s49.2.2.2.2.2.2.2.2.2.2.2.2.2.2.2.1, (s49.2.2.2.2.2.2.2.2.2.2.2.2.2.2.2.2.1, ((p.rdI s49.2.1 (p.add s49.2.2.2.2.2.2.1 (p.nat (0 : Int))) 0), ((p.rdI s49.2.1 (p.add s49.2.2.2.2.2.2.1 (p.nat (0 : Int))) 1), ((p.rdI s49.2.1 (p.add s49.2.2.2.2.2.2.1 (p.nat (0 : Int))) 2), ((p.rdI s49.2.1 (p.add s49.2.2.2.2.2.2.1 (p.nat (0 : Int))) 3), (s49.2.2.2.2.2.2.2.2.2.2.2.2.2.2.2.2.2.1, (s49.2.2.2.2.2.2.2.2.2.2.2.2.2.2.2.2.2.2.1, (s49.2.2.2.2.2.2.2.2.2.2.2.2.2.2.2.2.2.2.2.1, (s49.2.2.2.2.2.2.2.2.2.2.2.2.2.2.2.2.2.2.2.2.1, ())))))))))))))))))))))))))))) fun y52 =>
      opt.bnd ((List (List (Go.Am.D)) × (List (List (Go.Am.D)) × (Nat × (Nat × (Int × (Int × (Int × (Int × (Bool × (Int × (Int × (Int × (Int × (Int × (Int × (Int × (Int × (Int × (Int × (Int × (Int × Unit)))))))))))))))))))))) _ (
        opt.run ((List (List (Go.Am.D)) × (List (List (Go.Am.D)) × (Nat × (Nat × (Int × (Int × (Int × (Int × (Bool × (Int × (Int × (Int × (Int × (Int × (Int × (Int × (Int × (Int × (Int × (Int × (Int × Unit)))))))))))))))))))))) (
         opt.ask _ y52.2.2.2.2.2.2.2.2.2.2.2.2.1 (
          opt.ask _ (bif (bif (p.cmp Go.BinOp.eql y52.2.2.2.2.2.2.2.2.2.2.2.2.2.2.2.2.2.2.2.1 (0 : Int)) then (bif (p.cmp Go.BinOp.eql y52.2.2.2.2.2.2.2.2.2.2.2.2.2.2.2.2.2.2.2.2.1 (0 : Int)) then Bool.true else Bool.false) else Bool.false) then Bool.false else Bool.true) (
           opt.need _ (p.eqN 0 0) <|
           opt.need _ (p.eqN (p.len y52.2.1) (p.len y52.2.1)) <|
           opt.need _ (p.eqN 0 0) <|
           opt.need _ (p.eqN (p.len y52.1) (p.len y52.1)) <|
           opt.need _ (p.eqN (p.len y52.1) (p.len y52.1)) <|
           opt.need _ (p.eqN 0 0) <|
           opt.need _ (p.eqN (p.len y52.1) (p.len y52.1)) <|
           opt.need _ (p.eqN (p.len y52.1) (p.len y52.1)) <|
           opt.ret _ (y52.1, (y52.2.1, (y52.2.2.2.2.2.2.1, (y52.2.2.2.2.2.2.2.1, (y52.2.2.2.2.2.2.2.2.2.2.2.2.2.2.2.2.2.1, (y52.2.2.2.2.2.2.2.2.2.2.2.2.2.2.2.2.2.2.1, (y52.2.2.2.2.2.2.2.2.2.2.2.2.2.2.2.2.2.2.2.1, (y52.2.2.2.2.2.2.2.2.2.2.2.2.2.2.2.2.2.2.2.2.1, ((bif (p.cmp Go.BinOp.lss (p.ar Go.BinOp.mul Go.IntKind.i64 y52.2.2.2.2.2.2.2.2.2.2.2.2.2.2.2.2.2.2.2.2.1 y52.2.2.2.2.2.2.2.2.2.2.2.2.2.2.2.1) (p.ar Go.BinOp.mul Go.IntKind.i64 y52.2.2.2.2.2.2.2.2.2.2.2.2.2.2.2.2.1 y52.2.2.2.2.2.2.2.2.2.2.2.2.2.2.2.2.2.2.2.1)) then Bool.false else Bool.true), (y52.2.2.2.2.2.2.2.2.2.2.2.2.2.1, (y52.2.2.2.2.2.2.2.2.2.2.2.2.2.2.1, (y52.2.2.2.2.2.2.2.2.2.2.2.2.2.2.2.1, (y52.2.2.2.2.2.2.2.2.2.2.2.2.2.2.2.2.1, (y52.2.2.2.2.2.2.2.2.2.2.2.2.2.2.2.2.2.1, (y52.2.2.2.2.2.2.2.2.2.2.2.2.2.2.2.2.2.2.1, (y52.2.2.2.2.2.2.2.2.2.2.2.2.2.2.2.2.2.2.2.1, (y52.2.2.2.2.2.2.2.2.2.2.2.2.2.2.2.2.2.2.2.2.1, (y52.2.2.1, (y52.2.2.2.1, (y52.2.2.2.2.1, (y52.2.2.2.2.2.1, ())))))))))))))))))))))) (
           opt.need _ (p.eqN 0 0) <|
           opt.need _ (p.eqN (p.len y52.2.1) (p.len y52.2.1)) <|
           opt.need _ (p.eqN 0 0) <|
           opt.need _ (p.eqN (p.len y52.1) (p.len y52.1)) <|
           opt.need _ (p.eqN (p.len y52.1) (p.len y52.1)) <|
           opt.need _ (p.eqN 0 0) <|
           opt.need _ (p.eqN (p.len y52.1) (p.len y52.1)) <|
           opt.need _ (p.eqN (p.len y52.1) (p.len y52.1)) <|
           opt.ret _ (y52.1, (y52.2.1, (y52.2.2.2.2.2.2.1, (y52.2.2.2.2.2.2.2.1, (y52.2.2.2.2.2.2.2.2.2.2.2.2.2.2.2.2.2.1, (y52.2.2.2.2.2.2.2.2.2.2.2.2.2.2.2.2.2.2.1, (y52.2.2.2.2.2.2.2.2.2.2.2.2.2.2.2.2.2.2.2.1, (y52.2.2.2.2.2.2.2.2.2.2.2.2.2.2.2.2.2.2.2.2.1, (Bool.false, (y52.2.2.2.2.2.2.2.2.2.2.2.2.2.1, (y52.2.2.2.2.2.2.2.2.2.2.2.2.2.2.1, (y52.2.2.2.2.2.2.2.2.2.2.2.2.2.2.2.1, (y52.2.2.2.2.2.2.2.2.2.2.2.2.2.2.2.2.1, (y52.2.2.2.2.2.2.2.2.2.2.2.2.2.2.2.2.2.1, (y52.2.2.2.2.2.2.2.2.2.2.2.2.2.2.2.2.2.2.1, (y52.2.2.2.2.2.2.2.2.2.2.2.2.2.2.2.2.2.2.2.1, (y52.2.2.2.2.2.2.2.2.2.2.2.2.2.2.2.2.2.2.2.2.1, (y52.2.2.1, (y52.2.2.2.1, (y52.2.2.2.2.1, (y52.2.2.2.2.2.1, ()))))))))))))))))))))))) (
          opt.need _ (p.eqN 0 0) <|
          opt.need _ (p.eqN (p.len y52.2.1) (p.len y52.2.1)) <|
          opt.need _ (p.eqN 0 0) <|
          opt.need _ (p.eqN (p.len y52.1) (p.len y52.1)) <|
          opt.need _ (p.eqN (p.len y52.1) (p.len y52.1)) <|
          opt.need _ (p.eqN 0 0) <|
          opt.need _ (p.eqN (p.len y52.1) (p.len y52.1)) <|
          opt.need _ (p.eqN (p.len y52.1) (p.len y52.1)) <|
          opt.ret _ (y52.1, (y52.2.1, (y52.2.2.2.2.2.2.1, (y52.2.2.2.2.2.2.2.1, (y52.2.2.2.2.2.2.2.2.2.2.2.2.2.2.2.2.2.1, (y52.2.2.2.2.2.2.2.2.2.2.2.2.2.2.2.2.2.2.1, (y52.2.2.2.2.2.2.2.2.2.2.2.2.2.2.2.2.2.2.2.1, (y52.2.2.2.2.2.2.2.2.2.2.2.2.2.2.2.2.2.2.2.2.1, (Bool.false, (y52.2.2.2.2.2.2.2.2.2.2.2.2.2.1, (y52.2.2.2.2.2.2.2.2.2.2.2.2.2.2.1, (y52.2.2.2.2.2.2.2.2.2.2.2.2.2.2.2.1, (y52.2.2.2.2.2.2.2.2.2.2.2.2.2.2.2.2.1, (y52.2.2.2.2.2.2.2.2.2.2.2.2.2.2.2.2.2.1, (y52.2.2.2.2.2.2.2.2.2.2.2.2.2.2.2.2.2.2.1, (y52.2.2.2.2.2.2.2.2.2.2.2.2.2.2.2.2.2.2.2.1, (y52.2.2.2.2.2.2.2.2.2.2.2.2.2.2.2.2.2.2.2.2.1, (y52.2.2.1, (y52.2.2.2.1, (y52.2.2.2.2.1, (y52.2.2.2.2.2.1, ())))))))))))))))))))))))) fun y53 =>
      opt.need _ (p.eqN 0 0) <|
      opt.need _ (p.eqN (p.len y52.1) (p.len y53.1)) <|
      opt.need _ (p.eqN (p.len y52.1) (p.len y53.1)) <|
      opt.need _ (p.eqN 0 0) <|
      opt.need _ (p.eqN (p.len y52.2.1) (p.len y53.2.1)) <|
      opt.need _ (p.eqN 0 0) <|
      opt.need _ (p.eqN (p.len y52.1) (p.len y53.1)) <|
      opt.need _ (p.eqN (p.len y52.1) (p.len y53.1)) <|
      opt.ret _ (Sum.inl (y53.1, (y53.2.1, (y52.2.2.1, (y52.2.2.2.1, (y52.2.2.2.2.1, (y52.2.2.2.2.2.1, (y53.2.2.1, (y53.2.2.2.1, (y53.2.2.2.2.1, (y53.2.2.2.2.2.1, (y53.2.2.2.2.2.2.1, (y53.2.2.2.2.2.2.2.1, (y53.2.2.2.2.2.2.2.2.1, (y53.2.2.2.2.2.2.2.2.2.1, (y53.2.2.2.2.2.2.2.2.2.2.1, (y53.2.2.2.2.2.2.2.2.2.2.2.1, (y53.2.2.2.2.2.2.2.2.2.2.2.2.1, (y52.2.2.2.2.2.2.2.2.2.2.2.2.2.2.2.2.2.2.2.2.2.1, (y52.2.2.2.2.2.2.2.2.2.2.2.2.2.2.2.2.2.2.2.2.2.2.1, (y52.2.2.2.2.2.2.2.2.2.2.2.2.2.2.2.2.2.2.2.2.2.2.2.1, ((p.ar Go.BinOp.add Go.IntKind.i64 y52.2.2.2.2.2.2.2.2.2.2.2.2.2.2.2.2.2.2.2.2.2.2.2.2.1 (1 : Int)), ()))))))))))))))))))))))) (
      opt.need _ (p.eqN 0 0) <|
      opt.need _ (p.eqN (p.len s49.1) (p.len s49.1)) <|
      opt.need _ (p.eqN (p.len s49.1) (p.len s49.1)) <|
      opt.need _ (p.eqN 0 0) <|
      opt.need _ (p.eqN (p.len s49.2.1) (p.len s49.2.1)) <|
      opt.need _ (p.eqN 0 0) <|
      opt.need _ (p.eqN (p.len s49.1) (p.len s49.1)) <|
      opt.need _ (p.eqN (p.len s49.1) (p.len s49.1)) <|
      opt.ret _ (Sum.inr (s49.1, (s49.2.1, (s49.2.2.1, (s49.2.2.2.1, (s49.2.2.2.2.1, (s49.2.2.2.2.2.1, (s49.2.2.2.2.2.2.1, (s49.2.2.2.2.2.2.2.1, (s49.2.2.2.2.2.2.2.2.1, (s49.2.2.2.2.2.2.2.2.2.1, (s49.2.2.2.2.2.2.2.2.2.2.1, (s49.2.2.2.2.2.2.2.2.2.2.2.1, (s49.2.2.2.2.2.2.2.2.2.2.2.2.1, (s49.2.2.2.2.2.2.2.2.2.2.2.2.2.1, (s49.2.2.2.2.2.2.2.2.2.2.2.2.2.2.1, (s49.2.2.2.2.2.2.2.2.2.2.2.2.2.2.2.1, (s49.2.2.2.2.2.2.2.2.2.2.2.2.2.2.2.2.1, ()))))))))))))))))))))
noncomputable def G57 : (p : Prim) → (List (List (Go.Am.D)) × (List (List (Go.Am.D)) × (Int × (Int × (Int × (Int × (Nat × (Nat × (Int × (Int × (Int × (Int × (Bool × (Int × (Int × (Int × (Int × Unit))))))))))))))))) → Option ((List (List (Go.Am.D)) × (List (List (Go.Am.D)) × (Int × (Int × (Int × (Int × (Nat × (Nat × (Int × (Int × (Int × (Int × (Bool × (Int × (Int × (Int × (Int × Unit)))))))))))))))))) :=
  fun p x =>
  opt.need _ (p.eqN 0 0) <|
  opt.need _ (p.eqN (p.len x.1) (p.len x.1)) <|
  opt.need _ (p.eqN (p.len x.1) (p.len x.1)) <|
  opt.need _ (p.eqN 0 0) <|
  opt.need _ (p.eqN (p.len x.2.1) (p.len x.2.1)) <|
  opt.need _ (p.eqN 0 0) <|
  opt.need _ (p.eqN (p.len x.1) (p.len x.1)) <|
  opt.need _ (p.eqN (p.len x.1) (p.len x.1)) <|
  opt.bnd ((List (List (Go.Am.D)) × (List (List (Go.Am.D)) × (Int × (Int × (Int × (Int × (Nat × (Nat × (Int × (Int × (Int × (Int × (Bool × (Int × (Int × (Int × (Int × Unit)))))))))))))))))) _ (
    iter (b57_1 p) (x.1, (x.2.1, (x.2.2.1, (x.2.2.2.1, (x.2.2.2.2.1, (x.2.2.2.2.2.1, (x.2.2.2.2.2.2.1, (x.2.2.2.2.2.2.2.1, (x.2.2.2.2.2.2.2.2.1, (x.2.2.2.2.2.2.2.2.2.1, (x.2.2.2.2.2.2.2.2.2.2.1, (x.2.2.2.2.2.2.2.2.2.2.2.1, (x.2.2.2.2.2.2.2.2.2.2.2.2.1, (x.2.2.2.2.2.2.2.2.2.2.2.2.2.1, (x.2.2.2.2.2.2.2.2.2.2.2.2.2.2.1, (x.2.2.2.2.2.2.2.2.2.2.2.2.2.2.2.1, (x.2.2.2.2.2.2.2.2.2.2.2.2.2.2.2.2.1, (x.2.2.2.2.2.2.1, (x.2.2.2.2.2.2.2.1, ((p.ofNat x.2.2.2.2.2.2.2.1), ((0 : Int), ())))))))))))))))))))))) fun y54 =>
  opt.need _ (p.eqN 0 0) <|
  opt.need _ (p.eqN (p.len y54.1) (p.len y54.1)) <|
  opt.need _ (p.eqN (p.len y54.1) (p.len y54.1)) <|
  opt.need _ (p.eqN 0 0) <|
  opt.need _ (p.eqN (p.len y54.2.1) (p.len y54.2.1)) <|
  opt.need _ (p.eqN 0 0) <|
  opt.need _ (p.eqN (p.len y54.1) (p.len y54.1)) <|
  opt.need _ (p.eqN (p.len y54.1) (p.len y54.1)) <|
  opt.ret _ (y54.1, (y54.2.1, (y54.2.2.1, (y54.2.2.2.1, (y54.2.2.2.2.1, (y54.2.2.2.2.2.1, (y54.2.2.2.2.2.2.1, (y54.2.2.2.2.2.2.2.1, (y54.2.2.2.2.2.2.2.2.1, (y54.2.2.2.2.2.2.2.2.2.1, (y54.2.2.2.2.2.2.2.2.2.2.1, (y54.2.2.2.2.2.2.2.2.2.2.2.1, (y54.2.2.2.2.2.2.2.2.2.2.2.2.1, (y54.2.2.2.2.2.2.2.2.2.2.2.2.2.1, (y54.2.2.2.2.2.2.2.2.2.2.2.2.2.2.1, (y54.2.2.2.2.2.2.2.2.2.2.2.2.2.2.2.1, (y54.2.2.2.2.2.2.2.2.2.2.2.2.2.2.2.2.1, ())))))))))))))))))
noncomputable def F57 : Prim → Tup (ctr57).scs → Option (STup (scss (ctr57).outs)) :=
  fun p x => G57 p x
theorem eq57 (p : Prim) (x : Tup (ctr57).scs) : bodyRun opt p (autoEnv Go.Proofs.Try.prog) (mkOrc opt p (autoEnv Go.Proofs.Try.prog) 400 (an57) la57) 400 ctr57 x = G57 p x := by kernel_rfl
theorem gok57 : GamOk Go.Proofs.Try.prog gam57 := fun cf h => by cases h
theorem enters57 : Enters Go.Proofs.Try.prog 57 := enters_auto (b := _) rfl (by kernel_rfl)
theorem ok57 : CtrOk Go.Proofs.Try.prog ctr57 (F57 std) := ctr_of_body (autoEnv_ok follows_mixed) (mkOrc_ok (autoEnv_ok follows_mixed) gok57 _) enters57 (fun x => eq57 std x)
noncomputable def ctr57_1 : Ctr :=
  ⟨57, [.yld 0, .bptr 1 0], [.loop Go.LoopState.ready Option.none 19 [Bool.false, Bool.true, Bool.false, Bool.true, Bool.true, Bool.true, Bool.true, Bool.true, Bool.true, Bool.false, Bool.false, Bool.true, Bool.true, Bool.false, Bool.false, Bool.true, Bool.false, Bool.true, Bool.true, Bool.true, Bool.true, Bool.true] 109 [(56, .clo 57 [] [.bptr 1 0]), (9, .bptr 6 0), (12, .bptr 5 0), (8, .int Go.IntKind.i64), (10, .int Go.IntKind.i64), (28, .int Go.IntKind.i64), (27, .full 3 4), (29, .int Go.IntKind.i64), (6, .sl 4 4), (7, .full 3 4), (11, .bptr 2 0)], .box [.sl 4 4], .box [.int Go.IntKind.i64, .int Go.IntKind.i64, .int Go.IntKind.i64, .int Go.IntKind.i64], .row [(Go.Am.CK.int Go.IntKind.i64), (Go.Am.CK.int Go.IntKind.i64), (Go.Am.CK.int Go.IntKind.i64), (Go.Am.CK.int Go.IntKind.i64)], .row [(Go.Am.CK.int Go.IntKind.i64), (Go.Am.CK.int Go.IntKind.i64), (Go.Am.CK.int Go.IntKind.i64), (Go.Am.CK.int Go.IntKind.i64)], .box [.bool], .box [.int Go.IntKind.i64, .int Go.IntKind.i64, .int Go.IntKind.i64, .int Go.IntKind.i64]], [(.ret, ⟨[(0, .tuple [])], [.loop Go.LoopState.ready Option.none 19 [Bool.false, Bool.true, Bool.false, Bool.true, Bool.true, Bool.true, Bool.true, Bool.true, Bool.true, Bool.false, Bool.false, Bool.true, Bool.true, Bool.false, Bool.false, Bool.true, Bool.false, Bool.true, Bool.true, Bool.true, Bool.true, Bool.true] 109 [(56, .clo 57 [] [.bptr 1 0]), (9, .bptr 6 0), (12, .bptr 5 0), (8, .int Go.IntKind.i64), (10, .int Go.IntKind.i64), (28, .int Go.IntKind.i64), (27, .full 3 4), (29, .int Go.IntKind.i64), (6, .sl 4 4), (7, .full 3 4), (11, .bptr 2 0)], .box [.sl 4 4], .box [.int Go.IntKind.i64, .int Go.IntKind.i64, .int Go.IntKind.i64, .int Go.IntKind.i64], .row [(Go.Am.CK.int Go.IntKind.i64), (Go.Am.CK.int Go.IntKind.i64), (Go.Am.CK.int Go.IntKind.i64), (Go.Am.CK.int Go.IntKind.i64)], .row [(Go.Am.CK.int Go.IntKind.i64), (Go.Am.CK.int Go.IntKind.i64), (Go.Am.CK.int Go.IntKind.i64), (Go.Am.CK.int Go.IntKind.i64)], .box [.bool], .box [.int Go.IntKind.i64, .int Go.IntKind.i64, .int Go.IntKind.i64, .int Go.IntKind.i64]], 1⟩)]⟩
noncomputable def la57_1 : List LA :=
  [⟨57, [false, true], ⟨⟨[(0, .yld 0), (1, .bptr 1 0), (8, .sl 4 4), (9, .int Go.IntKind.i64), (10, .int Go.IntKind.i64)], [.loop Go.LoopState.ready Option.none 19 [Bool.false, Bool.true, Bool.false, Bool.true, Bool.true, Bool.true, Bool.true, Bool.true, Bool.true, Bool.false, Bool.false, Bool.true, Bool.true, Bool.false, Bool.false, Bool.true, Bool.false, Bool.true, Bool.true, Bool.true, Bool.true, Bool.true] 109 [(56, .clo 57 [] [.bptr 1 0]), (9, .bptr 6 0), (12, .bptr 5 0), (8, .int Go.IntKind.i64), (10, .int Go.IntKind.i64), (28, .int Go.IntKind.i64), (27, .full 3 4), (29, .int Go.IntKind.i64), (6, .sl 4 4), (7, .full 3 4), (11, .bptr 2 0)], .box [.sl 4 4], .box [.int Go.IntKind.i64, .int Go.IntKind.i64, .int Go.IntKind.i64, .int Go.IntKind.i64], .row [(Go.Am.CK.int Go.IntKind.i64), (Go.Am.CK.int Go.IntKind.i64), (Go.Am.CK.int Go.IntKind.i64), (Go.Am.CK.int Go.IntKind.i64)], .row [(Go.Am.CK.int Go.IntKind.i64), (Go.Am.CK.int Go.IntKind.i64), (Go.Am.CK.int Go.IntKind.i64), (Go.Am.CK.int Go.IntKind.i64)], .box [.bool], .box [.int Go.IntKind.i64, .int Go.IntKind.i64, .int Go.IntKind.i64, .int Go.IntKind.i64]], 40⟩, [((Go.Am.AX.exit 0), ⟨[], [.loop Go.LoopState.ready Option.none 19 [Bool.false, Bool.true, Bool.false, Bool.true, Bool.true, Bool.true, Bool.true, Bool.true, Bool.true, Bool.false, Bool.false, Bool.true, Bool.true, Bool.false, Bool.false, Bool.true, Bool.false, Bool.true, Bool.true, Bool.true, Bool.true, Bool.true] 109 [(56, .clo 57 [] [.bptr 1 0]), (9, .bptr 6 0), (12, .bptr 5 0), (8, .int Go.IntKind.i64), (10, .int Go.IntKind.i64), (28, .int Go.IntKind.i64), (27, .full 3 4), (29, .int Go.IntKind.i64), (6, .sl 4 4), (7, .full 3 4), (11, .bptr 2 0)], .box [.sl 4 4], .box [.int Go.IntKind.i64, .int Go.IntKind.i64, .int Go.IntKind.i64, .int Go.IntKind.i64], .row [(Go.Am.CK.int Go.IntKind.i64), (Go.Am.CK.int Go.IntKind.i64), (Go.Am.CK.int Go.IntKind.i64), (Go.Am.CK.int Go.IntKind.i64)], .row [(Go.Am.CK.int Go.IntKind.i64), (Go.Am.CK.int Go.IntKind.i64), (Go.Am.CK.int Go.IntKind.i64), (Go.Am.CK.int Go.IntKind.i64)], .box [.bool], .box [.int Go.IntKind.i64, .int Go.IntKind.i64, .int Go.IntKind.i64, .int Go.IntKind.i64]], 40⟩)]⟩⟩,
   ⟨57, [false, true, false, false, true, false, true, true, false, false, true, true, false, false, true], ⟨⟨[(0, .yld 0), (1, .bptr 1 0), (4, .bptr 7 0), (5, .bptr 8 0), (8, .sl 4 4), (9, .int Go.IntKind.i64), (10, .int Go.IntKind.i64), (22, .sl 4 4), (23, .int Go.IntKind.i64), (24, .int Go.IntKind.i64)], [.loop Go.LoopState.ready Option.none 19 [Bool.false, Bool.true, Bool.false, Bool.true, Bool.true, Bool.true, Bool.true, Bool.true, Bool.true, Bool.false, Bool.false, Bool.true, Bool.true, Bool.false, Bool.false, Bool.true, Bool.false, Bool.true, Bool.true, Bool.true, Bool.true, Bool.true] 109 [(56, .clo 57 [] [.bptr 1 0]), (9, .bptr 6 0), (12, .bptr 5 0), (8, .int Go.IntKind.i64), (10, .int Go.IntKind.i64), (28, .int Go.IntKind.i64), (27, .full 3 4), (29, .int Go.IntKind.i64), (6, .sl 4 4), (7, .full 3 4), (11, .bptr 2 0)], .box [.sl 4 4], .box [.int Go.IntKind.i64, .int Go.IntKind.i64, .int Go.IntKind.i64, .int Go.IntKind.i64], .row [(Go.Am.CK.int Go.IntKind.i64), (Go.Am.CK.int Go.IntKind.i64), (Go.Am.CK.int Go.IntKind.i64), (Go.Am.CK.int Go.IntKind.i64)], .row [(Go.Am.CK.int Go.IntKind.i64), (Go.Am.CK.int Go.IntKind.i64), (Go.Am.CK.int Go.IntKind.i64), (Go.Am.CK.int Go.IntKind.i64)], .box [.bool], .box [.int Go.IntKind.i64, .int Go.IntKind.i64, .int Go.IntKind.i64, .int Go.IntKind.i64], .box [.int Go.IntKind.i64, .int Go.IntKind.i64, .int Go.IntKind.i64, .int Go.IntKind.i64], .box [.int Go.IntKind.i64, .int Go.IntKind.i64, .int Go.IntKind.i64, .int Go.IntKind.i64]], 40⟩, [((Go.Am.AX.exit 2), ⟨[(0, .yld 0), (1, .bptr 1 0), (4, .bptr 7 0), (5, .bptr 8 0), (8, .sl 4 4), (9, .int Go.IntKind.i64), (10, .int Go.IntKind.i64)], [.loop Go.LoopState.ready Option.none 19 [Bool.false, Bool.true, Bool.false, Bool.true, Bool.true, Bool.true, Bool.true, Bool.true, Bool.true, Bool.false, Bool.false, Bool.true, Bool.true, Bool.false, Bool.false, Bool.true, Bool.false, Bool.true, Bool.true, Bool.true, Bool.true, Bool.true] 109 [(56, .clo 57 [] [.bptr 1 0]), (9, .bptr 6 0), (12, .bptr 5 0), (8, .int Go.IntKind.i64), (10, .int Go.IntKind.i64), (28, .int Go.IntKind.i64), (27, .full 3 4), (29, .int Go.IntKind.i64), (6, .sl 4 4), (7, .full 3 4), (11, .bptr 2 0)], .box [.sl 4 4], .box [.int Go.IntKind.i64, .int Go.IntKind.i64, .int Go.IntKind.i64, .int Go.IntKind.i64], .row [(Go.Am.CK.int Go.IntKind.i64), (Go.Am.CK.int Go.IntKind.i64), (Go.Am.CK.int Go.IntKind.i64), (Go.Am.CK.int Go.IntKind.i64)], .row [(Go.Am.CK.int Go.IntKind.i64), (Go.Am.CK.int Go.IntKind.i64), (Go.Am.CK.int Go.IntKind.i64), (Go.Am.CK.int Go.IntKind.i64)], .box [.bool], .box [.int Go.IntKind.i64, .int Go.IntKind.i64, .int Go.IntKind.i64, .int Go.IntKind.i64], .box [.int Go.IntKind.i64, .int Go.IntKind.i64, .int Go.IntKind.i64, .int Go.IntKind.i64], .box [.int Go.IntKind.i64, .int Go.IntKind.i64, .int Go.IntKind.i64, .int Go.IntKind.i64]], 40⟩)]⟩⟩]
noncomputable def ja57_1 : List JA :=
  [⟨19, [true, false, true, false, true, false, true, true, true, true, true, true, false, false, true, true, false, false, true, false, true, true, true, true, true], [(Go.Am.AX.normal, ⟨[(6, .sl 4 4), (7, .full 3 4), (8, .int Go.IntKind.i64), (9, .bptr 6 0), (10, .int Go.IntKind.i64), (11, .bptr 2 0), (12, .bptr 5 0), (27, .full 3 4), (28, .int Go.IntKind.i64), (29, .int Go.IntKind.i64)], [.dead, .box [.sl 4 4], .box [.int Go.IntKind.i64, .int Go.IntKind.i64, .int Go.IntKind.i64, .int Go.IntKind.i64], .row [(Go.Am.CK.int Go.IntKind.i64), (Go.Am.CK.int Go.IntKind.i64), (Go.Am.CK.int Go.IntKind.i64), (Go.Am.CK.int Go.IntKind.i64)], .row [(Go.Am.CK.int Go.IntKind.i64), (Go.Am.CK.int Go.IntKind.i64), (Go.Am.CK.int Go.IntKind.i64), (Go.Am.CK.int Go.IntKind.i64)], .box [.bool], .box [.int Go.IntKind.i64, .int Go.IntKind.i64, .int Go.IntKind.i64, .int Go.IntKind.i64], .box [.int Go.IntKind.i64, .int Go.IntKind.i64, .int Go.IntKind.i64, .int Go.IntKind.i64]], 109⟩)]⟩,
   ⟨57, [true, false, true, true, false, false, true, true, false, false, true], [(Go.Am.AX.normal, ⟨[(0, .yld 0), (1, .bptr 1 0), (5, .bptr 7 0), (8, .sl 4 4), (9, .int Go.IntKind.i64), (10, .int Go.IntKind.i64)], [.loop Go.LoopState.ready Option.none 19 [Bool.false, Bool.true, Bool.false, Bool.true, Bool.true, Bool.true, Bool.true, Bool.true, Bool.true, Bool.false, Bool.false, Bool.true, Bool.true, Bool.false, Bool.false, Bool.true, Bool.false, Bool.true, Bool.true, Bool.true, Bool.true, Bool.true] 109 [(56, .clo 57 [] [.bptr 1 0]), (9, .bptr 6 0), (12, .bptr 5 0), (8, .int Go.IntKind.i64), (10, .int Go.IntKind.i64), (28, .int Go.IntKind.i64), (27, .full 3 4), (29, .int Go.IntKind.i64), (6, .sl 4 4), (7, .full 3 4), (11, .bptr 2 0)], .box [.sl 4 4], .box [.int Go.IntKind.i64, .int Go.IntKind.i64, .int Go.IntKind.i64, .int Go.IntKind.i64], .row [(Go.Am.CK.int Go.IntKind.i64), (Go.Am.CK.int Go.IntKind.i64), (Go.Am.CK.int Go.IntKind.i64), (Go.Am.CK.int Go.IntKind.i64)], .row [(Go.Am.CK.int Go.IntKind.i64), (Go.Am.CK.int Go.IntKind.i64), (Go.Am.CK.int Go.IntKind.i64), (Go.Am.CK.int Go.IntKind.i64)], .box [.bool], .box [.int Go.IntKind.i64, .int Go.IntKind.i64, .int Go.IntKind.i64, .int Go.IntKind.i64], .box [.int Go.IntKind.i64, .int Go.IntKind.i64, .int Go.IntKind.i64, .int Go.IntKind.i64]], 40⟩)]⟩]
noncomputable def gam57_1 : List CF :=
  []
noncomputable def an57_1 : Anns :=
  ⟨gam57_1, ja57_1, []⟩
noncomputable def b57_1_2 (p : Prim) : (List (List (Go.Am.D)) × (List (List (Go.Am.D)) × (Int × (Int × (Int × (Int × (Nat × (Nat × (Nat × (Nat × (Int × (Int × (Int × (Int × (Bool × (Int × (Int × (Int × (Int × (Int × (Int × (Int × (Int × (Int × (Int × (Int × (Int × (Nat × (Nat × (Int × (Int × (Nat × (Nat × (Int × (Int × Unit))))))))))))))))))))))))))))))))))) → Option ((List (List (Go.Am.D)) × (List (List (Go.Am.D)) × (Int × (Int × (Int × (Int × (Nat × (Nat × (Nat × (Nat × (Int × (Int × (Int × (Int × (Bool × (Int × (Int × (Int × (Int × (Int × (Int × (Int × (Int × (Int × (Int × (Int × (Int × (Nat × (Nat × (Int × (Int × (Nat × (Nat × (Int × (Int × Unit))))))))))))))))))))))))))))))))))) ⊕ (List (List (Go.Am.D)) × (List (List (Go.Am.D)) × (Int × (Int × (Int × (Int × (Nat × (Nat × (Nat × (Nat × (Int × (Int × (Int × (Int × (Bool × (Int × (Int × (Int × (Int × (Int × (Int × (Int × (Int × (Int × (Int × (Int × (Int × (Nat × (Nat × (Int × (Int × Unit)))))))))))))))))))))))))))))))) :=
  fun s100 => opt.run _ (
             opt.ask _ (p.cmp Go.BinOp.lss s100.2.2.2.2.2.2.2.2.2.2.2.2.2.2.2.2.2.2.2.2.2.2.2.2.2.2.2.2.2.2.2.2.2.2.1 s100.2.2.2.2.2.2.2.2.2.2.2.2.2.2.2.2.2.2.2.2.2.2.2.2.2.2.2.2.2.2.2.2.2.1) (
              opt.need _ (bif (p.cmp Go.BinOp.geq s100.2.2.2.2.2.2.2.2.2.2.2.2.2.2.2.2.2.2.2.2.2.2.2.2.2.2.2.2.2.2.2.2.2.2.1 (0 : Int)) then (p.cmp Go.BinOp.lss s100.2.2.2.2.2.2.2.2.2.2.2.2.2.2.2.2.2.2.2.2.2.2.2.2.2.2.2.2.2.2.2.2.2.2.1 (p.ofNat s100.2.2.2.2.2.2.2.2.2.2.2.2.2.2.2.2.2.2.2.2.2.2.2.2.2.2.2.2.2.2.2.2.1)) else Bool.false) <|
              opt.need _ (p.rowOk s100.2.1 (p.add s100.2.2.2.2.2.2.2.2.2.2.2.2.2.2.2.2.2.2.2.2.2.2.2.2.2.2.2.2.2.2.2.1 (p.nat s100.2.2.2.2.2.2.2.2.2.2.2.2.2.2.2.2.2.2.2.2.2.2.2.2.2.2.2.2.2.2.2.2.2.2.1)) [(Go.Am.CK.int Go.IntKind.i64), (Go.Am.CK.int Go.IntKind.i64), (Go.Am.CK.int Go.IntKind.i64), (Go.Am.CK.int Go.IntKind.i64)]) <|
              opt.need _ (p.eqN 0 0) <|
              opt.need _ (p.eqN (p.len s100.1) (p.len s100.1)) <|
              opt.need _ (p.eqN (p.len s100.1) (p.len s100.1)) <|
              opt.need _ (p.eqN 0 0) <|
              opt.need _ (p.eqN (p.len s100.1) (p.len s100.1)) <|
              opt.need _ (p.eqN (p.len s100.1) (p.len s100.1)) <|
              opt.ret _ (Sum.inl (s100.1, (s100.2.1, (s100.2.2.1, (s100.2.2.2.1, (s100.2.2.2.2.1, (s100.2.2.2.2.2.1, (s100.2.2.2.2.2.2.1, (s100.2.2.2.2.2.2.2.1, (s100.2.2.2.2.2.2.2.2.1, (s100.2.2.2.2.2.2.2.2.2.1, (s100.2.2.2.2.2.2.2.2.2.2.1, (s100.2.2.2.2.2.2.2.2.2.2.2.1, (s100.2.2.2.2.2.2.2.2.2.2.2.2.1, (s100.2.2.2.2.2.2.2.2.2.2.2.2.2.1, (s100.2.2.2.2.2.2.2.2.2.2.2.2.2.2.1, (s100.2.2.2.2.2.2.2.2.2.2.2.2.2.2.2.1, (s100.2.2.2.2.2.2.2.2.2.2.2.2.2.2.2.2.1, (s100.2.2.2.2.2.2.2.2.2.2.2.2.2.2.2.2.2.1, (s100.2.2.2.2.2.2.2.2.2.2.2.2.2.2.2.2.2.2.1, (s100.2.2.2.2.2.2.2.2.2.2.2.2.2.2.2.2.2.2.2.1, (s100.2.2.2.2.2.2.2.2.2.2.2.2.2.2.2.2.2.2.2.2.1, (s100.2.2.2.2.2.2.2.2.2.2.2.2.2.2.2.2.2.2.2.2.2.1, (s100.2.2.2.2.2.2.2.2.2.2.2.2.2.2.2.2.2.2.2.2.2.2.1, (s100.2.2.2.2.2.2.2.2.2.2.2.2.2.2.2.2.2.2.2.2.2.2.2.1, ((p.rdI s100.2.1 (p.add s100.2.2.2.2.2.2.2.2.2.2.2.2.2.2.2.2.2.2.2.2.2.2.2.2.2.2.2.2.2.2.2.1 (p.nat s100.2.2.2.2.2.2.2.2.2.2.2.2.2.2.2.2.2.2.2.2.2.2.2.2.2.2.2.2.2.2.2.2.2.2.1)) 1), ((p.ar Go.BinOp.add Go.IntKind.i64 s100.2.2.2.2.2.2.2.2.2.2.2.2.2.2.2.2.2.2.2.2.2.2.2.2.2.1 (p.rdI s100.2.1 (p.add s100.2.2.2.2.2.2.2.2.2.2.2.2.2.2.2.2.2.2.2.2.2.2.2.2.2.2.2.2.2.2.2.1 (p.nat s100.2.2.2.2.2.2.2.2.2.2.2.2.2.2.2.2.2.2.2.2.2.2.2.2.2.2.2.2.2.2.2.2.2.2.1)) 2)), ((p.ar Go.BinOp.add Go.IntKind.i64 s100.2.2.2.2.2.2.2.2.2.2.2.2.2.2.2.2.2.2.2.2.2.2.2.2.2.2.1 (p.rdI s100.2.1 (p.add s100.2.2.2.2.2.2.2.2.2.2.2.2.2.2.2.2.2.2.2.2.2.2.2.2.2.2.2.2.2.2.2.1 (p.nat s100.2.2.2.2.2.2.2.2.2.2.2.2.2.2.2.2.2.2.2.2.2.2.2.2.2.2.2.2.2.2.2.2.2.2.1)) 3)), (s100.2.2.2.2.2.2.2.2.2.2.2.2.2.2.2.2.2.2.2.2.2.2.2.2.2.2.2.1, (s100.2.2.2.2.2.2.2.2.2.2.2.2.2.2.2.2.2.2.2.2.2.2.2.2.2.2.2.2.1, (s100.2.2.2.2.2.2.2.2.2.2.2.2.2.2.2.2.2.2.2.2.2.2.2.2.2.2.2.2.2.1, (s100.2.2.2.2.2.2.2.2.2.2.2.2.2.2.2.2.2.2.2.2.2.2.2.2.2.2.2.2.2.2.1, (s100.2.2.2.2.2.2.2.2.2.2.2.2.2.2.2.2.2.2.2.2.2.2.2.2.2.2.2.2.2.2.2.1, (s100.2.2.2.2.2.2.2.2.2.2.2.2.2.2.2.2.2.2.2.2.2.2.2.2.2.2.2.2.2.2.2.2.1, (s100.2.2.2.2.2.2.2.2.2.2.2.2.2.2.2.2.2.2.2.2.2.2.2.2.2.2.2.2.2.2.2.2.2.1, ((p.ar Go.BinOp.add Go.IntKind.i64 s100.2.2.2.2.2.2.2.2.2.2.2.2.2.2.2.2.2.2.2.2.2.2.2.2.2.2.2.2.2.2.2.2.2.2.1 (1 : Int)), ()))))))))))))))))))))))))))))))))))))) (
              opt.need _ (p.eqN 0 0) <|
              opt.need _ (p.eqN (p.len s100.1) (p.len s100.1)) <|
              opt.need _ (p.eqN (p.len s100.1) (p.len s100.1)) <|
              opt.need _ (p.eqN 0 0) <|
              opt.need _ (p.eqN (p.len s100.1) (p.len s100.1)) <|
              opt.need _ (p.eqN (p.len s100.1) (p.len s100.1)) <|
              opt.ret _ (Sum.inr (s100.1, (s100.2.1, (s100.2.2.1, (s100.2.2.2.1, (s100.2.2.2.2.1, (s100.2.2.2.2.2.1, (s100.2.2.2.2.2.2.1, (s100.2.2.2.2.2.2.2.1, (s100.2.2.2.2.2.2.2.2.1, (s100.2.2.2.2.2.2.2.2.2.1, (s100.2.2.2.2.2.2.2.2.2.2.1, (s100.2.2.2.2.2.2.2.2.2.2.2.1, (s100.2.2.2.2.2.2.2.2.2.2.2.2.1, (s100.2.2.2.2.2.2.2.2.2.2.2.2.2.1, (s100.2.2.2.2.2.2.2.2.2.2.2.2.2.2.1, (s100.2.2.2.2.2.2.2.2.2.2.2.2.2.2.2.1, (s100.2.2.2.2.2.2.2.2.2.2.2.2.2.2.2.2.1, (s100.2.2.2.2.2.2.2.2.2.2.2.2.2.2.2.2.2.1, (s100.2.2.2.2.2.2.2.2.2.2.2.2.2.2.2.2.2.2.1, (s100.2.2.2.2.2.2.2.2.2.2.2.2.2.2.2.2.2.2.2.1, (s100.2.2.2.2.2.2.2.2.2.2.2.2.2.2.2.2.2.2.2.2.1, (s100.2.2.2.2.2.2.2.2.2.2.2.2.2.2.2.2.2.2.2.2.2.1, (s100.2.2.2.2.2.2.2.2.2.2.2.2.2.2.2.2.2.2.2.2.2.2.1, (s100.2.2.2.2.2.2.2.2.2.2.2.2.2.2.2.2.2.2.2.2.2.2.2.1, (s100.2.2.2.2.2.2.2.2.2.2.2.2.2.2.2.2.2.2.2.2.2.2.2.2.1, (s100.2.2.2.2.2.2.2.2.2.2.2.2.2.2.2.2.2.2.2.2.2.2.2.2.2.1, (s100.2.2.2.2.2.2.2.2.2.2.2.2.2.2.2.2.2.2.2.2.2.2.2.2.2.2.1, (s100.2.2.2.2.2.2.2.2.2.2.2.2.2.2.2.2.2.2.2.2.2.2.2.2.2.2.2.1, (s100.2.2.2.2.2.2.2.2.2.2.2.2.2.2.2.2.2.2.2.2.2.2.2.2.2.2.2.2.1, (s100.2.2.2.2.2.2.2.2.2.2.2.2.2.2.2.2.2.2.2.2.2.2.2.2.2.2.2.2.2.1, (s100.2.2.2.2.2.2.2.2.2.2.2.2.2.2.2.2.2.2.2.2.2.2.2.2.2.2.2.2.2.2.1, ()))))))))))))))))))))))))))))))))))
noncomputable def b57_1_1 (p : Prim) : (List (List (Go.Am.D)) × (List (List (Go.Am.D)) × (Int × (Int × (Int × (Int × (Nat × (Nat × (Nat × (Nat × (Int × (Int × (Int × (Int × (Bool × (Int × (Int × (Int × (Int × (Nat × (Nat × (Int × (Int × Unit))))))))))))))))))))))) → Option ((List (List (Go.Am.D)) × (List (List (Go.Am.D)) × (Int × (Int × (Int × (Int × (Nat × (Nat × (Nat × (Nat × (Int × (Int × (Int × (Int × (Bool × (Int × (Int × (Int × (Int × (Nat × (Nat × (Int × (Int × Unit))))))))))))))))))))))) ⊕ (List (List (Go.Am.D)) × (List (List (Go.Am.D)) × (Int × (Int × (Int × (Int × (Nat × (Nat × (Nat × (Nat × (Int × (Int × (Int × (Int × (Bool × (Int × (Int × (Int × (Int × Unit)))))))))))))))))))) :=
  fun s99 => opt.run _ (
     opt.ask _ (p.cmp Go.BinOp.lss s99.2.2.2.2.2.2.2.2.2.2.2.2.2.2.2.2.2.2.2.2.2.2.1 s99.2.2.2.2.2.2.2.2.2.2.2.2.2.2.2.2.2.2.2.2.2.1) (
      opt.need _ (bif (p.cmp Go.BinOp.geq s99.2.2.2.2.2.2.2.2.2.2.2.2.2.2.2.2.2.2.2.2.2.2.1 (0 : Int)) then (p.cmp Go.BinOp.lss s99.2.2.2.2.2.2.2.2.2.2.2.2.2.2.2.2.2.2.2.2.2.2.1 (p.ofNat s99.2.2.2.2.2.2.2.2.2.2.2.2.2.2.2.2.2.2.2.2.1)) else Bool.false) <|
      opt.need _ (p.rowOk s99.2.1 (p.add s99.2.2.2.2.2.2.2.2.2.2.2.2.2.2.2.2.2.2.2.1 (p.nat s99.2.2.2.2.2.2.2.2.2.2.2.2.2.2.2.2.2.2.2.2.2.2.1)) [(Go.Am.CK.int Go.IntKind.i64), (Go.Am.CK.int Go.IntKind.i64), (Go.Am.CK.int Go.IntKind.i64), (Go.Am.CK.int Go.IntKind.i64)]) <|
      opt.need _ (bif (p.cmp Go.BinOp.geq (0 : Int) (0 : Int)) then (p.cmp Go.BinOp.lss (0 : Int) (p.ofNat s99.2.2.2.2.2.2.2.2.2.1)) else Bool.false) <|
      opt.need _ (p.rowOk s99.2.1 (p.add s99.2.2.2.2.2.2.2.2.1 (p.nat (0 : Int))) [(Go.Am.CK.int Go.IntKind.i64), (Go.Am.CK.int Go.IntKind.i64), (Go.Am.CK.int Go.IntKind.i64), (Go.Am.CK.int Go.IntKind.i64)]) <|
      opt.bnd ((List (List (Go.Am.D)) × (List (List (Go.Am.D)) × (Int × (Int × (Int × (Int × (Nat × (Nat × (Nat × (Nat × (Int × (Int × (Int × (Int × (Bool × (Int × (Int × (Int × (Int × (Int × (Int × (Int × (Int × (Nat × (Nat × (Int × (Int × Unit)))))))))))))))))))))))))))) _ (
        opt.run ((List (List (Go.Am.D)) × (List (List (Go.Am.D)) × (Int × (Int × (Int × (Int × (Nat × (Nat × (Nat × (Nat × (Int × (Int × (Int × (Int × (Bool × (Int × (Int × (Int × (Int × (Int × (Int × (Int × (Int × (Nat × (Nat × (Int × (Int × Unit)))))))))))))))))))))))))))) (
         opt.ask _ (p.cmp Go.BinOp.gtr s99.2.2.2.2.2.2.2.2.2.2.2.2.2.2.2.2.2.2.2.2.2.2.1 (0 : Int)) (
          opt.need _ (p.and (p.cmp Go.BinOp.geq (1 : Int) (0 : Int)) (p.and (p.cmp Go.BinOp.leq (1 : Int) s99.2.2.2.2.2.2.2.2.2.2.2.2.2.2.2.2.2.2.2.2.2.2.1) (p.cmp Go.BinOp.leq s99.2.2.2.2.2.2.2.2.2.2.2.2.2.2.2.2.2.2.2.2.2.2.1 (p.ofNat s99.2.2.2.2.2.2.2.2.2.1)))) <|
          opt.need _ (p.eqN 0 0) <|
          opt.need _ (p.eqN (p.len s99.1) (p.len s99.1)) <|
          opt.need _ (p.eqN (p.len s99.1) (p.len s99.1)) <|
          opt.need _ (p.eqN 0 0) <|
          opt.need _ (p.eqN (p.len s99.1) (p.len s99.1)) <|
          opt.need _ (p.eqN (p.len s99.1) (p.len s99.1)) <|
          opt.bnd ((List (List (Go.Am.D)) × (List (List (Go.Am.D)) × (Int × (Int × (Int × (Int × (Nat × (Nat × (Nat × (Nat × (Int × (Int × (Int × (Int × (Bool × (Int × (Int × (Int × (Int × (Int × (Int × (Int × (Int × (Int × (Int × (Int × (Int × (Nat × (Nat × (Int × (Int × Unit)))))))))))))))))))))))))))))))) _ (
            iter (b57_1_2 p) (s99.1, (s99.2.1, (s99.2.2.1, (s99.2.2.2.1, (s99.2.2.2.2.1, (s99.2.2.2.2.2.1, (s99.2.2.2.2.2.2.1, (s99.2.2.2.2.2.2.2.1, (s99.2.2.2.2.2.2.2.2.1, (s99.2.2.2.2.2.2.2.2.2.1, (s99.2.2.2.2.2.2.2.2.2.2.1, (s99.2.2.2.2.2.2.2.2.2.2.2.1, (s99.2.2.2.2.2.2.2.2.2.2.2.2.1, (s99.2.2.2.2.2.2.2.2.2.2.2.2.2.1, (s99.2.2.2.2.2.2.2.2.2.2.2.2.2.2.1, (s99.2.2.2.2.2.2.2.2.2.2.2.2.2.2.2.1, (s99.2.2.2.2.2.2.2.2.2.2.2.2.2.2.2.2.1, (s99.2.2.2.2.2.2.2.2.2.2.2.2.2.2.2.2.2.1, (s99.2.2.2.2.2.2.2.2.2.2.2.2.2.2.2.2.2.2.1, ((p.rdI s99.2.1 (p.add s99.2.2.2.2.2.2.2.2.2.2.2.2.2.2.2.2.2.2.2.1 (p.nat s99.2.2.2.2.2.2.2.2.2.2.2.2.2.2.2.2.2.2.2.2.2.2.1)) 0), ((p.rdI s99.2.1 (p.add s99.2.2.2.2.2.2.2.2.2.2.2.2.2.2.2.2.2.2.2.1 (p.nat s99.2.2.2.2.2.2.2.2.2.2.2.2.2.2.2.2.2.2.2.2.2.2.1)) 1), ((p.rdI s99.2.1 (p.add s99.2.2.2.2.2.2.2.2.2.2.2.2.2.2.2.2.2.2.2.1 (p.nat s99.2.2.2.2.2.2.2.2.2.2.2.2.2.2.2.2.2.2.2.2.2.2.1)) 2), ((p.rdI s99.2.1 (p.add s99.2.2.2.2.2.2.2.2.2.2.2.2.2.2.2.2.2.2.2.1 (p.nat s99.2.2.2.2.2.2.2.2.2.2.2.2.2.2.2.2.2.2.2.2.2.2.1)) 3), ((p.rdI s99.2.1 (p.add s99.2.2.2.2.2.2.2.2.1 (p.nat (0 : Int))) 0), ((p.rdI s99.2.1 (p.add s99.2.2.2.2.2.2.2.2.1 (p.nat (0 : Int))) 1), ((p.rdI s99.2.1 (p.add s99.2.2.2.2.2.2.2.2.1 (p.nat (0 : Int))) 2), ((p.rdI s99.2.1 (p.add s99.2.2.2.2.2.2.2.2.1 (p.nat (0 : Int))) 3), (s99.2.2.2.2.2.2.2.2.2.2.2.2.2.2.2.2.2.2.2.1, (s99.2.2.2.2.2.2.2.2.2.2.2.2.2.2.2.2.2.2.2.2.1, (s99.2.2.2.2.2.2.2.2.2.2.2.2.2.2.2.2.2.2.2.2.2.1, (s99.2.2.2.2.2.2.2.2.2.2.2.2.2.2.2.2.2.2.2.2.2.2.1, ((p.add s99.2.2.2.2.2.2.2.2.1 (p.nat (1 : Int))), ((p.sub (p.nat s99.2.2.2.2.2.2.2.2.2.2.2.2.2.2.2.2.2.2.2.2.2.2.1) (p.nat (1 : Int))), ((p.ofNat (p.sub (p.nat s99.2.2.2.2.2.2.2.2.2.2.2.2.2.2.2.2.2.2.2.2.2.2.1) (p.nat (1 : Int)))), ((0 : Int), ())))))))))))))))))))))))))))))))))))) fun y101 =>
          opt.need _ (p.eqN 0 0) <|
          opt.need _ (p.eqN (p.len y101.1) (p.len y101.1)) <|
          opt.need _ (p.eqN (p.len y101.1) (p.len y101.1)) <|
          opt.need _ (p.eqN 0 0) <|
          opt.need _ (p.eqN (p.len y101.1) (p.len y101.1)) <|
          opt.need _ (p.eqN (p.len y101.1) (p.len y101.1)) <|
          opt.ret _ (y101.1, (y101.2.1, (y101.2.2.1, (y101.2.2.2.1, (y101.2.2.2.2.1, (y101.2.2.2.2.2.1, (y101.2.2.2.2.2.2.1, (y101.2.2.2.2.2.2.2.1, (y101.2.2.2.2.2.2.2.2.1, (y101.2.2.2.2.2.2.2.2.2.1, (y101.2.2.2.2.2.2.2.2.2.2.1, (y101.2.2.2.2.2.2.2.2.2.2.2.1, (y101.2.2.2.2.2.2.2.2.2.2.2.2.1, (y101.2.2.2.2.2.2.2.2.2.2.2.2.2.1, (y101.2.2.2.2.2.2.2.2.2.2.2.2.2.2.1, (y101.2.2.2.2.2.2.2.2.2.2.2.2.2.2.2.1, (y101.2.2.2.2.2.2.2.2.2.2.2.2.2.2.2.2.1, (y101.2.2.2.2.2.2.2.2.2.2.2.2.2.2.2.2.2.1, (y101.2.2.2.2.2.2.2.2.2.2.2.2.2.2.2.2.2.2.1, (y101.2.2.2.2.2.2.2.2.2.2.2.2.2.2.2.2.2.2.2.2.2.2.2.1, (y101.2.2.2.2.2.2.2.2.2.2.2.2.2.2.2.2.2.2.2.2.1, ((p.ar Go.BinOp.add Go.IntKind.i64 y101.2.2.2.2.2.2.2.2.2.2.2.2.2.2.2.2.2.2.2.2.2.2.2.2.2.1 y101.2.2.2.2.2.2.2.2.2.2.2.2.2.2.2.2.2.2.2.2.2.1), ((p.ar Go.BinOp.add Go.IntKind.i64 y101.2.2.2.2.2.2.2.2.2.2.2.2.2.2.2.2.2.2.2.2.2.2.2.2.2.2.1 y101.2.2.2.2.2.2.2.2.2.2.2.2.2.2.2.2.2.2.2.2.2.2.1), (y101.2.2.2.2.2.2.2.2.2.2.2.2.2.2.2.2.2.2.2.2.2.2.2.2.2.2.2.1, (y101.2.2.2.2.2.2.2.2.2.2.2.2.2.2.2.2.2.2.2.2.2.2.2.2.2.2.2.2.1, (y101.2.2.2.2.2.2.2.2.2.2.2.2.2.2.2.2.2.2.2.2.2.2.2.2.2.2.2.2.2.1, (y101.2.2.2.2.2.2.2.2.2.2.2.2.2.2.2.2.2.2.2.2.2.2.2.2.2.2.2.2.2.2.1, ())))))))))))))))))))))))))))) (
          opt.need _ (p.eqN 0 0) <|
          opt.need _ (p.eqN (p.len s99.1) (p.len s99.1)) <|
          opt.need _ (p.eqN (p.len s99.1) (p.len s99.1)) <|
          opt.need _ (p.eqN 0 0) <|
          opt.need _ (p.eqN (p.len s99.1) (p.len s99.1)) <|
          opt.need _ (p.eqN (p.len s99.1) (p.len s99.1)) <|
          opt.ret _ (s99.1, (s99.2.1, (s99.2.2.1, (s99.2.2.2.1, (s99.2.2.2.2.1, (s99.2.2.2.2.2.1, (s99.2.2.2.2.2.2.1, (s99.2.2.2.2.2.2.2.1, (s99.2.2.2.2.2.2.2.2.1, (s99.2.2.2.2.2.2.2.2.2.1, (s99.2.2.2.2.2.2.2.2.2.2.1, (s99.2.2.2.2.2.2.2.2.2.2.2.1, (s99.2.2.2.2.2.2.2.2.2.2.2.2.1, (s99.2.2.2.2.2.2.2.2.2.2.2.2.2.1, (s99.2.2.2.2.2.2.2.2.2.2.2.2.2.2.1, (s99.2.2.2.2.2.2.2.2.2.2.2.2.2.2.2.1, (s99.2.2.2.2.2.2.2.2.2.2.2.2.2.2.2.2.1, (s99.2.2.2.2.2.2.2.2.2.2.2.2.2.2.2.2.2.1, (s99.2.2.2.2.2.2.2.2.2.2.2.2.2.2.2.2.2.2.1, ((p.rdI s99.2.1 (p.add s99.2.2.2.2.2.2.2.2.1 (p.nat (0 : Int))) 0), ((p.rdI s99.2.1 (p.add s99.2.2.2.2.2.2.2.2.1 (p.nat (0 : Int))) 1), ((p.rdI s99.2.1 (p.add s99.2.2.2.2.2.2.2.2.1 (p.nat (0 : Int))) 2), ((p.rdI s99.2.1 (p.add s99.2.2.2.2.2.2.2.2.1 (p.nat (0 : Int))) 3), (s99.2.2.2.2.2.2.2.2.2.2.2.2.2.2.2.2.2.2.2.1, (s99.2.2.2.2.2.2.2.2.2.2.2.2.2.2.2.2.2.2.2.2.1, (s99.2.2.2.2.2.2.2.2.2.2.2.2.2.2.2.2.2.2.2.2.2.1, (s99.2.2.2.2.2.2.2.2.2.2.2.2.2.2.2.2.2.2.2.2.2.2.1, ())))))))))))))))))))))))))))))) fun y102 =>
      opt.bnd ((List (List (Go.Am.D)) × (List (List (Go.Am.D)) × (Nat × (Nat × (Int × (Int × (Int × (Int × (Bool × (Int × (Int × (Int × (Int × (Int × (Int × (Int × (Int × (Nat × (Nat × (Int × (Int × (Int × (Int × Unit)))))))))))))))))))))))) _ (
        opt.run ((List (List (Go.Am.D)) × (List (List (Go.Am.D)) × (Nat × (Nat × (Int × (Int × (Int × (Int × (Bool × (Int × (Int × (Int × (Int × (Int × (Int × (Int × (Int × (Nat × (Nat × (Int × (Int × (Int × (Int × Unit)))))))))))))))))))))))) (
         opt.ask _ y102.2.2.2.2.2.2.2.2.2.2.2.2.2.2.1 (
          opt.ask _ (bif (bif (p.cmp Go.BinOp.eql y102.2.2.2.2.2.2.2.2.2.2.2.2.2.2.2.2.2.2.2.2.2.1 (0 : Int)) then (bif (p.cmp Go.BinOp.eql y102.2.2.2.2.2.2.2.2.2.2.2.2.2.2.2.2.2.2.2.2.2.2.1 (0 : Int)) then Bool.true else Bool.false) else Bool.false) then Bool.false else Bool.true) (
           opt.need _ (p.eqN 0 0) <|
           opt.need _ (p.eqN (p.len y102.1) (p.len y102.1)) <|
           opt.need _ (p.eqN (p.len y102.1) (p.len y102.1)) <|
           opt.need _ (p.eqN 0 0) <|
           opt.need _ (p.eqN (p.len y102.1) (p.len y102.1)) <|
           opt.need _ (p.eqN (p.len y102.1) (p.len y102.1)) <|
           opt.ret _ (y102.1, (y102.2.1, (y102.2.2.2.2.2.2.2.2.1, (y102.2.2.2.2.2.2.2.2.2.1, (y102.2.2.2.2.2.2.2.2.2.2.2.2.2.2.2.2.2.2.2.1, (y102.2.2.2.2.2.2.2.2.2.2.2.2.2.2.2.2.2.2.2.2.1, (y102.2.2.2.2.2.2.2.2.2.2.2.2.2.2.2.2.2.2.2.2.2.1, (y102.2.2.2.2.2.2.2.2.2.2.2.2.2.2.2.2.2.2.2.2.2.2.1, ((bif (p.cmp Go.BinOp.lss (p.ar Go.BinOp.mul Go.IntKind.i64 y102.2.2.2.2.2.2.2.2.2.2.2.2.2.2.2.2.2.2.2.2.2.2.1 y102.2.2.2.2.2.2.2.2.2.2.2.2.2.2.2.2.2.1) (p.ar Go.BinOp.mul Go.IntKind.i64 y102.2.2.2.2.2.2.2.2.2.2.2.2.2.2.2.2.2.2.1 y102.2.2.2.2.2.2.2.2.2.2.2.2.2.2.2.2.2.2.2.2.2.1)) then Bool.false else Bool.true), (y102.2.2.2.2.2.2.2.2.2.2.2.2.2.2.2.1, (y102.2.2.2.2.2.2.2.2.2.2.2.2.2.2.2.2.1, (y102.2.2.2.2.2.2.2.2.2.2.2.2.2.2.2.2.2.1, (y102.2.2.2.2.2.2.2.2.2.2.2.2.2.2.2.2.2.2.1, (y102.2.2.2.2.2.2.2.2.2.2.2.2.2.2.2.2.2.2.2.1, (y102.2.2.2.2.2.2.2.2.2.2.2.2.2.2.2.2.2.2.2.2.1, (y102.2.2.2.2.2.2.2.2.2.2.2.2.2.2.2.2.2.2.2.2.2.1, (y102.2.2.2.2.2.2.2.2.2.2.2.2.2.2.2.2.2.2.2.2.2.2.1, (y102.2.2.2.2.2.2.1, (y102.2.2.2.2.2.2.2.1, (y102.2.2.1, (y102.2.2.2.1, (y102.2.2.2.2.1, (y102.2.2.2.2.2.1, ())))))))))))))))))))))))) (
           opt.need _ (p.eqN 0 0) <|
           opt.need _ (p.eqN (p.len y102.1) (p.len y102.1)) <|
           opt.need _ (p.eqN (p.len y102.1) (p.len y102.1)) <|
           opt.need _ (p.eqN 0 0) <|
           opt.need _ (p.eqN (p.len y102.1) (p.len y102.1)) <|
           opt.need _ (p.eqN (p.len y102.1) (p.len y102.1)) <|
           opt.ret _ (y102.1, (y102.2.1, (y102.2.2.2.2.2.2.2.2.1, (y102.2.2.2.2.2.2.2.2.2.1, (y102.2.2.2.2.2.2.2.2.2.2.2.2.2.2.2.2.2.2.2.1, (y102.2.2.2.2.2.2.2.2.2.2.2.2.2.2.2.2.2.2.2.2.1, (y102.2.2.2.2.2.2.2.2.2.2.2.2.2.2.2.2.2.2.2.2.2.1, (y102.2.2.2.2.2.2.2.2.2.2.2.2.2.2.2.2.2.2.2.2.2.2.1, (Bool.false, (y102.2.2.2.2.2.2.2.2.2.2.2.2.2.2.2.1, (y102.2.2.2.2.2.2.2.2.2.2.2.2.2.2.2.2.1, (y102.2.2.2.2.2.2.2.2.2.2.2.2.2.2.2.2.2.1, (y102.2.2.2.2.2.2.2.2.2.2.2.2.2.2.2.2.2.2.1, (y102.2.2.2.2.2.2.2.2.2.2.2.2.2.2.2.2.2.2.2.1, (y102.2.2.2.2.2.2.2.2.2.2.2.2.2.2.2.2.2.2.2.2.1, (y102.2.2.2.2.2.2.2.2.2.2.2.2.2.2.2.2.2.2.2.2.2.1, (y102.2.2.2.2.2.2.2.2.2.2.2.2.2.2.2.2.2.2.2.2.2.2.1, (y102.2.2.2.2.2.2.1, (y102.2.2.2.2.2.2.2.1, (y102.2.2.1, (y102.2.2.2.1, (y102.2.2.2.2.1, (y102.2.2.2.2.2.1, ()))))))))))))))))))))))))) (
          opt.need _ (p.eqN 0 0) <|
          opt.need _ (p.eqN (p.len y102.1) (p.len y102.1)) <|
          opt.need _ (p.eqN (p.len y102.1) (p.len y102.1)) <|
          opt.need _ (p.eqN 0 0) <|
          opt.need _ (p.eqN (p.len y102.1) (p.len y102.1)) <|
          opt.need _ (p.eqN (p.len y102.1) (p.len y102.1)) <|
          opt.ret _ (y102.1, (y102.2.1, (y102.2.2.2.2.2.2.2.2.1, (y102.2.2.2.2.2.2.2.2.2.1, (y102.2.2.2.2.2.2.2.2.2.2.2.2.2.2.2.2.2.2.2.1, (y102.2.2.2.2.2.2.2.2.2.2.2.2.2.2.2.2.2.2.2.2.1, (y102.2.2.2.2.2.2.2.2.2.2.2.2.2.2.2.2.2.2.2.2.2.1, (y102.2.2.2.2.2.2.2.2.2.2.2.2.2.2.2.2.2.2.2.2.2.2.1, (Bool.false, (y102.2.2.2.2.2.2.2.2.2.2.2.2.2.2.2.1, (y102.2.2.2.2.2.2.2.2.2.2.2.2.2.2.2.2.1, (y102.2.2.2.2.2.2.2.2.2.2.2.2.2.2.2.2.2.1, (y102.2.2.2.2.2.2.2.2.2.2.2.2.2.2.2.2.2.2.1, (y102.2.2.2.2.2.2.2.2.2.2.2.2.2.2.2.2.2.2.2.1, (y102.2.2.2.2.2.2.2.2.2.2.2.2.2.2.2.2.2.2.2.2.1, (y102.2.2.2.2.2.2.2.2.2.2.2.2.2.2.2.2.2.2.2.2.2.1, (y102.2.2.2.2.2.2.2.2.2.2.2.2.2.2.2.2.2.2.2.2.2.2.1, (y102.2.2.2.2.2.2.1, (y102.2.2.2.2.2.2.2.1, (y102.2.2.1, (y102.2.2.2.1, (y102.2.2.2.2.1, (y102.2.2.2.2.2.1, ())))))))))))))))))))))))))) fun y103 =>
      opt.need _ (p.eqN 0 0) <|
      opt.need _ (p.eqN (p.len y102.1) (p.len y103.1)) <|
      opt.need _ (p.eqN (p.len y102.1) (p.len y103.1)) <|
      opt.need _ (p.eqN 0 0) <|
      opt.need _ (p.eqN (p.len y102.1) (p.len y103.1)) <|
      opt.need _ (p.eqN (p.len y102.1) (p.len y103.1)) <|
      opt.ret _ (Sum.inl (y103.1, (y103.2.1, (y102.2.2.1, (y102.2.2.2.1, (y102.2.2.2.2.1, (y102.2.2.2.2.2.1, (y102.2.2.2.2.2.2.1, (y102.2.2.2.2.2.2.2.1, (y103.2.2.1, (y103.2.2.2.1, (y103.2.2.2.2.1, (y103.2.2.2.2.2.1, (y103.2.2.2.2.2.2.1, (y103.2.2.2.2.2.2.2.1, (y103.2.2.2.2.2.2.2.2.1, (y103.2.2.2.2.2.2.2.2.2.1, (y103.2.2.2.2.2.2.2.2.2.2.1, (y103.2.2.2.2.2.2.2.2.2.2.2.1, (y103.2.2.2.2.2.2.2.2.2.2.2.2.1, (y102.2.2.2.2.2.2.2.2.2.2.2.2.2.2.2.2.2.2.2.2.2.2.2.1, (y102.2.2.2.2.2.2.2.2.2.2.2.2.2.2.2.2.2.2.2.2.2.2.2.2.1, (y102.2.2.2.2.2.2.2.2.2.2.2.2.2.2.2.2.2.2.2.2.2.2.2.2.2.1, ((p.ar Go.BinOp.add Go.IntKind.i64 y102.2.2.2.2.2.2.2.2.2.2.2.2.2.2.2.2.2.2.2.2.2.2.2.2.2.2.1 (1 : Int)), ()))))))))))))))))))))))))) (
      opt.need _ (p.eqN 0 0) <|
      opt.need _ (p.eqN (p.len s99.1) (p.len s99.1)) <|
      opt.need _ (p.eqN (p.len s99.1) (p.len s99.1)) <|
      opt.need _ (p.eqN 0 0) <|
      opt.need _ (p.eqN (p.len s99.1) (p.len s99.1)) <|
      opt.need _ (p.eqN (p.len s99.1) (p.len s99.1)) <|
      opt.ret _ (Sum.inr (s99.1, (s99.2.1, (s99.2.2.1, (s99.2.2.2.1, (s99.2.2.2.2.1, (s99.2.2.2.2.2.1, (s99.2.2.2.2.2.2.1, (s99.2.2.2.2.2.2.2.1, (s99.2.2.2.2.2.2.2.2.1, (s99.2.2.2.2.2.2.2.2.2.1, (s99.2.2.2.2.2.2.2.2.2.2.1, (s99.2.2.2.2.2.2.2.2.2.2.2.1, (s99.2.2.2.2.2.2.2.2.2.2.2.2.1, (s99.2.2.2.2.2.2.2.2.2.2.2.2.2.1, (s99.2.2.2.2.2.2.2.2.2.2.2.2.2.2.1, (s99.2.2.2.2.2.2.2.2.2.2.2.2.2.2.2.1, (s99.2.2.2.2.2.2.2.2.2.2.2.2.2.2.2.2.1, (s99.2.2.2.2.2.2.2.2.2.2.2.2.2.2.2.2.2.1, (s99.2.2.2.2.2.2.2.2.2.2.2.2.2.2.2.2.2.2.1, ()))))))))))))))))))))))
noncomputable def G57_1 : (p : Prim) → (List (List (Go.Am.D)) × (List (List (Go.Am.D)) × (Int × (Int × (Int × (Int × (Nat × (Nat × (Nat × (Nat × (Int × (Int × (Int × (Int × (Bool × (Int × (Int × (Int × (Int × Unit))))))))))))))))))) → Option ((List (List (Go.Am.D)) × (List (List (Go.Am.D)) × (Int × (Int × (Int × (Int × (Nat × (Nat × (Nat × (Nat × (Int × (Int × (Int × (Int × (Bool × (Int × (Int × (Int × (Int × Unit)))))))))))))))))))) :=
  fun p x =>
  opt.need _ (p.eqN 0 0) <|
  opt.need _ (p.eqN (p.len x.1) (p.len x.1)) <|
  opt.need _ (p.eqN (p.len x.1) (p.len x.1)) <|
  opt.need _ (p.eqN 0 0) <|
  opt.need _ (p.eqN (p.len x.1) (p.len x.1)) <|
  opt.need _ (p.eqN (p.len x.1) (p.len x.1)) <|
  opt.bnd ((List (List (Go.Am.D)) × (List (List (Go.Am.D)) × (Int × (Int × (Int × (Int × (Nat × (Nat × (Nat × (Nat × (Int × (Int × (Int × (Int × (Bool × (Int × (Int × (Int × (Int × Unit)))))))))))))))))))) _ (
    iter (b57_1_1 p) (x.1, (x.2.1, (x.2.2.1, (x.2.2.2.1, (x.2.2.2.2.1, (x.2.2.2.2.2.1, (x.2.2.2.2.2.2.1, (x.2.2.2.2.2.2.2.1, (x.2.2.2.2.2.2.2.2.1, (x.2.2.2.2.2.2.2.2.2.1, (x.2.2.2.2.2.2.2.2.2.2.1, (x.2.2.2.2.2.2.2.2.2.2.2.1, (x.2.2.2.2.2.2.2.2.2.2.2.2.1, (x.2.2.2.2.2.2.2.2.2.2.2.2.2.1, (x.2.2.2.2.2.2.2.2.2.2.2.2.2.2.1, (x.2.2.2.2.2.2.2.2.2.2.2.2.2.2.2.1, (x.2.2.2.2.2.2.2.2.2.2.2.2.2.2.2.2.1, (x.2.2.2.2.2.2.2.2.2.2.2.2.2.2.2.2.2.1, (x.2.2.2.2.2.2.2.2.2.2.2.2.2.2.2.2.2.2.1, (x.2.2.2.2.2.2.2.2.1, (x.2.2.2.2.2.2.2.2.2.1, ((p.ofNat x.2.2.2.2.2.2.2.2.2.1), ((0 : Int), ())))))))))))))))))))))))) fun y104 =>
  opt.need _ (p.eqN 0 0) <|
  opt.need _ (p.eqN (p.len y104.1) (p.len y104.1)) <|
  opt.need _ (p.eqN (p.len y104.1) (p.len y104.1)) <|
  opt.need _ (p.eqN 0 0) <|
  opt.need _ (p.eqN (p.len y104.1) (p.len y104.1)) <|
  opt.need _ (p.eqN (p.len y104.1) (p.len y104.1)) <|
  opt.ret _ (y104.1, (y104.2.1, (y104.2.2.1, (y104.2.2.2.1, (y104.2.2.2.2.1, (y104.2.2.2.2.2.1, (y104.2.2.2.2.2.2.1, (y104.2.2.2.2.2.2.2.1, (y104.2.2.2.2.2.2.2.2.1, (y104.2.2.2.2.2.2.2.2.2.1, (y104.2.2.2.2.2.2.2.2.2.2.1, (y104.2.2.2.2.2.2.2.2.2.2.2.1, (y104.2.2.2.2.2.2.2.2.2.2.2.2.1, (y104.2.2.2.2.2.2.2.2.2.2.2.2.2.1, (y104.2.2.2.2.2.2.2.2.2.2.2.2.2.2.1, (y104.2.2.2.2.2.2.2.2.2.2.2.2.2.2.2.1, (y104.2.2.2.2.2.2.2.2.2.2.2.2.2.2.2.2.1, (y104.2.2.2.2.2.2.2.2.2.2.2.2.2.2.2.2.2.1, (y104.2.2.2.2.2.2.2.2.2.2.2.2.2.2.2.2.2.2.1, ())))))))))))))))))))
noncomputable def F57_1 : Prim → Tup (ctr57_1).scs → Option (STup (scss (ctr57_1).outs)) :=
  fun p x => G57_1 p x
theorem eq57_1 (p : Prim) (x : Tup (ctr57_1).scs) : bodyRun opt p (autoEnv Go.Proofs.Try.prog) (mkOrc opt p (autoEnv Go.Proofs.Try.prog) 400 (an57_1) la57_1) 400 ctr57_1 x = G57_1 p x := by kernel_rfl
theorem gok57_1 : GamOk Go.Proofs.Try.prog gam57_1 := fun cf h => by cases h
theorem enters57_1 : Enters Go.Proofs.Try.prog 57 := enters_auto (b := _) rfl (by kernel_rfl)
theorem ok57_1 : CtrOk Go.Proofs.Try.prog ctr57_1 (F57_1 std) := ctr_of_body (autoEnv_ok follows_mixed) (mkOrc_ok (autoEnv_ok follows_mixed) gok57_1 _) enters57_1 (fun x => eq57_1 std x)
noncomputable def ctr19 : Ctr :=
  ⟨19, [.list 3, .list 4], [], [(.ret, ⟨[(0, .int Go.IntKind.i64)], [], 1⟩)]⟩
noncomputable def la19 : List LA :=
  [⟨19, [false, true, false, true, true, true, true, true], ⟨⟨[(6, .sl 0 4), (7, .full 1 4), (27, .full 1 4), (28, .int Go.IntKind.i64), (29, .int Go.IntKind.i64)], [.row [(Go.Am.CK.int Go.IntKind.i64), (Go.Am.CK.int Go.IntKind.i64), (Go.Am.CK.int Go.IntKind.i64), (Go.Am.CK.int Go.IntKind.i64)], .row [(Go.Am.CK.int Go.IntKind.i64), (Go.Am.CK.int Go.IntKind.i64), (Go.Am.CK.int Go.IntKind.i64), (Go.Am.CK.int Go.IntKind.i64)]], 109⟩, [(Go.Am.AX.ret, ⟨[(4, .int Go.IntKind.i64)], [], 109⟩), ((Go.Am.AX.exit 0), ⟨[(6, .sl 0 4)], [.row [(Go.Am.CK.int Go.IntKind.i64), (Go.Am.CK.int Go.IntKind.i64), (Go.Am.CK.int Go.IntKind.i64), (Go.Am.CK.int Go.IntKind.i64)]], 109⟩)]⟩⟩,
   ⟨19, [false, false, true, true, false, false, true, true, false, false, true, false, true, true, true, true, true], ⟨⟨[(6, .sl 0 4), (7, .full 1 4), (8, .int Go.IntKind.i64), (9, .bptr 2 0), (10, .int Go.IntKind.i64), (27, .full 1 4), (28, .int Go.IntKind.i64), (29, .int Go.IntKind.i64)], [.row [(Go.Am.CK.int Go.IntKind.i64), (Go.Am.CK.int Go.IntKind.i64), (Go.Am.CK.int Go.IntKind.i64), (Go.Am.CK.int Go.IntKind.i64)], .row [(Go.Am.CK.int Go.IntKind.i64), (Go.Am.CK.int Go.IntKind.i64), (Go.Am.CK.int Go.IntKind.i64), (Go.Am.CK.int Go.IntKind.i64)], .box [.int Go.IntKind.i64, .int Go.IntKind.i64, .int Go.IntKind.i64, .int Go.IntKind.i64]], 109⟩, [((Go.Am.AX.exit 2), ⟨[(6, .sl 0 4), (7, .full 1 4), (8, .int Go.IntKind.i64), (9, .bptr 2 0), (10, .int Go.IntKind.i64), (27, .full 1 4), (28, .int Go.IntKind.i64), (29, .int Go.IntKind.i64)], [.row [(Go.Am.CK.int Go.IntKind.i64), (Go.Am.CK.int Go.IntKind.i64), (Go.Am.CK.int Go.IntKind.i64), (Go.Am.CK.int Go.IntKind.i64)], .row [(Go.Am.CK.int Go.IntKind.i64), (Go.Am.CK.int Go.IntKind.i64), (Go.Am.CK.int Go.IntKind.i64), (Go.Am.CK.int Go.IntKind.i64)], .box [.int Go.IntKind.i64, .int Go.IntKind.i64, .int Go.IntKind.i64, .int Go.IntKind.i64]], 109⟩)]⟩⟩]
noncomputable def ja19 : List JA :=
  [⟨19, [false, true, true, false, false, true, false, true, true, true, true, true], [(Go.Am.AX.ret, ⟨[(4, .int Go.IntKind.i64)], [], 109⟩), (Go.Am.AX.normal, ⟨[(6, .sl 0 4), (7, .full 1 4), (27, .full 1 4), (28, .int Go.IntKind.i64), (29, .int Go.IntKind.i64)], [.row [(Go.Am.CK.int Go.IntKind.i64), (Go.Am.CK.int Go.IntKind.i64), (Go.Am.CK.int Go.IntKind.i64), (Go.Am.CK.int Go.IntKind.i64)], .row [(Go.Am.CK.int Go.IntKind.i64), (Go.Am.CK.int Go.IntKind.i64), (Go.Am.CK.int Go.IntKind.i64), (Go.Am.CK.int Go.IntKind.i64)]], 109⟩)]⟩]
noncomputable def gam19 : List CF :=
  [⟨ctr57_1, F57_1⟩, ⟨ctr57, F57⟩, ⟨ctr44, F44⟩, ⟨ctr43, F43⟩, ⟨ctr16, F16⟩]
noncomputable def an19 : Anns :=
  ⟨gam19, ja19, []⟩
noncomputable def b19_2 (p : Prim) : (List (List (Go.Am.D)) × (List (List (Go.Am.D)) × (Int × (Int × (Int × (Int × (Nat × (Nat × (Int × (Int × (Int × (Int × Unit)))))))))))) → Option ((List (List (Go.Am.D)) × (List (List (Go.Am.D)) × (Int × (Int × (Int × (Int × (Nat × (Nat × (Int × (Int × (Int × (Int × Unit)))))))))))) ⊕ (List (List (Go.Am.D)) × (List (List (Go.Am.D)) × (Int × (Int × (Int × (Int × (Nat × (Nat × (Int × (Int × (Int × (Int × Unit))))))))))))) :=
  fun s121 => opt.run _ (
             opt.ask _ (p.cmp Go.BinOp.lss s121.2.2.2.2.2.2.2.2.2.1 (p.ofNat s121.2.2.2.2.2.2.2.1)) (
              opt.need _ (bif (p.cmp Go.BinOp.geq s121.2.2.2.2.2.2.2.2.2.1 (0 : Int)) then (p.cmp Go.BinOp.lss s121.2.2.2.2.2.2.2.2.2.1 (p.ofNat s121.2.2.2.2.2.2.2.1)) else Bool.false) <|
              opt.need _ (p.rowOk s121.1 (p.add s121.2.2.2.2.2.2.1 (p.nat s121.2.2.2.2.2.2.2.2.2.1)) [(Go.Am.CK.int Go.IntKind.i64), (Go.Am.CK.int Go.IntKind.i64), (Go.Am.CK.int Go.IntKind.i64), (Go.Am.CK.int Go.IntKind.i64)]) <|
              opt.ask _ (p.cmp Go.BinOp.leq (p.rdI s121.1 (p.add s121.2.2.2.2.2.2.1 (p.nat s121.2.2.2.2.2.2.2.2.2.1)) 1) s121.2.2.2.1) (
               opt.need _ (p.eqN 0 0) <|
               opt.need _ (p.eqN (p.len s121.2.1) (p.len s121.2.1)) <|
               opt.need _ (p.eqN (p.len s121.2.1) (p.len s121.2.1)) <|
               opt.need _ (p.eqN 0 0) <|
               opt.need _ (p.eqN (p.len s121.2.1) (p.len s121.2.1)) <|
               opt.need _ (p.eqN (p.len s121.2.1) (p.len s121.2.1)) <|
               opt.ret _ (Sum.inl (s121.1, (s121.2.1, (s121.2.2.1, (s121.2.2.2.1, (s121.2.2.2.2.1, (s121.2.2.2.2.2.1, (s121.2.2.2.2.2.2.1, (s121.2.2.2.2.2.2.2.1, (s121.2.2.2.2.2.2.2.2.1, ((p.ar Go.BinOp.add Go.IntKind.i64 s121.2.2.2.2.2.2.2.2.2.1 (1 : Int)), (s121.2.2.2.2.2.2.2.2.2.2.1, (s121.2.2.2.2.2.2.2.2.2.2.2.1, ())))))))))))))) (
               opt.need _ (p.eqN 0 0) <|
               opt.need _ (p.eqN (p.len s121.2.1) (p.len s121.2.1)) <|
               opt.need _ (p.eqN (p.len s121.2.1) (p.len s121.2.1)) <|
               opt.need _ (p.eqN 0 0) <|
               opt.need _ (p.eqN (p.len s121.2.1) (p.len s121.2.1)) <|
               opt.need _ (p.eqN (p.len s121.2.1) (p.len s121.2.1)) <|
               opt.ret _ (Sum.inr (s121.1, (s121.2.1, (s121.2.2.1, (s121.2.2.2.1, (s121.2.2.2.2.1, (s121.2.2.2.2.2.1, (s121.2.2.2.2.2.2.1, (s121.2.2.2.2.2.2.2.1, (s121.2.2.2.2.2.2.2.2.1, (s121.2.2.2.2.2.2.2.2.2.1, (s121.2.2.2.2.2.2.2.2.2.2.1, (s121.2.2.2.2.2.2.2.2.2.2.2.1, ()))))))))))))))) (
              opt.need _ (p.eqN 0 0) <|
              opt.need _ (p.eqN (p.len s121.2.1) (p.len s121.2.1)) <|
              opt.need _ (p.eqN (p.len s121.2.1) (p.len s121.2.1)) <|
              opt.need _ (p.eqN 0 0) <|
              opt.need _ (p.eqN (p.len s121.2.1) (p.len s121.2.1)) <|
              opt.need _ (p.eqN (p.len s121.2.1) (p.len s121.2.1)) <|
              opt.ret _ (Sum.inr (s121.1, (s121.2.1, (s121.2.2.1, (s121.2.2.2.1, (s121.2.2.2.2.1, (s121.2.2.2.2.2.1, (s121.2.2.2.2.2.2.1, (s121.2.2.2.2.2.2.2.1, (s121.2.2.2.2.2.2.2.2.1, (s121.2.2.2.2.2.2.2.2.2.1, (s121.2.2.2.2.2.2.2.2.2.2.1, (s121.2.2.2.2.2.2.2.2.2.2.2.1, ())))))))))))))))
noncomputable def b19_1 (p : Prim) : (List (List (Go.Am.D)) × (List (List (Go.Am.D)) × (Nat × (Nat × (Int × (Int × Unit)))))) → Option ((List (List (Go.Am.D)) × (List (List (Go.Am.D)) × (Nat × (Nat × (Int × (Int × Unit)))))) ⊕ ((Int × Unit) ⊕ (List (List (Go.Am.D)) × (Nat × (Nat × Unit))))) :=
  fun s120 => opt.run _ (
      opt.ask _ (p.cmp Go.BinOp.lss s120.2.2.2.2.2.1 s120.2.2.2.2.1) (
       opt.alt ((Int × Unit)) ((List (List (Go.Am.D)) × (List (List (Go.Am.D)) × (Nat × (Nat × (Int × (Int × Unit))))))) _ (
         opt.run (((Int × Unit) ⊕ (List (List (Go.Am.D)) × (List (List (Go.Am.D)) × (Nat × (Nat × (Int × (Int × Unit)))))))) (
          opt.need _ (bif (p.cmp Go.BinOp.geq s120.2.2.2.2.2.1 (0 : Int)) then (p.cmp Go.BinOp.lss s120.2.2.2.2.2.1 (p.ofNat (p.len s120.2.1))) else Bool.false) <|
          opt.need _ (p.rowOk s120.2.1 (p.add 0 (p.nat s120.2.2.2.2.2.1)) [(Go.Am.CK.int Go.IntKind.i64), (Go.Am.CK.int Go.IntKind.i64), (Go.Am.CK.int Go.IntKind.i64), (Go.Am.CK.int Go.IntKind.i64)]) <|
          opt.need _ (p.eqN 0 0) <|
          opt.need _ (p.eqN (p.len s120.2.1) (p.len s120.2.1)) <|
          opt.need _ (p.eqN (p.len s120.2.1) (p.len s120.2.1)) <|
          opt.need _ (p.eqN 0 0) <|
          opt.need _ (p.eqN (p.len s120.2.1) (p.len s120.2.1)) <|
          opt.need _ (p.eqN (p.len s120.2.1) (p.len s120.2.1)) <|
          opt.bnd ((List (List (Go.Am.D)) × (List (List (Go.Am.D)) × (Int × (Int × (Int × (Int × (Nat × (Nat × (Int × (Int × (Int × (Int × Unit))))))))))))) _ (
            iter (b19_2 p) (s120.1, (s120.2.1, ((p.rdI s120.2.1 (p.add 0 (p.nat s120.2.2.2.2.2.1)) 0), ((p.rdI s120.2.1 (p.add 0 (p.nat s120.2.2.2.2.2.1)) 1), ((p.rdI s120.2.1 (p.add 0 (p.nat s120.2.2.2.2.2.1)) 2), ((p.rdI s120.2.1 (p.add 0 (p.nat s120.2.2.2.2.2.1)) 3), (s120.2.2.1, (s120.2.2.2.1, (s120.2.2.2.2.2.1, ((0 : Int), (s120.2.2.2.2.1, (s120.2.2.2.2.2.1, ()))))))))))))) fun y122 =>
          opt.ask _ (p.cmp Go.BinOp.eql y122.2.2.2.2.2.2.2.2.2.1 (0 : Int)) (
           opt.ret _ (Sum.inl ((14 : Int), ()))) (
           opt.need _ (p.and (p.cmp Go.BinOp.geq (0 : Int) (0 : Int)) (p.and (p.cmp Go.BinOp.leq (0 : Int) y122.2.2.2.2.2.2.2.2.2.1) (p.cmp Go.BinOp.leq y122.2.2.2.2.2.2.2.2.2.1 (p.ofNat y122.2.2.2.2.2.2.2.1)))) <|
           opt.bnd ((List (List (Go.Am.D)) × (Nat × (Nat × Unit)))) _ (G44 p (y122.1, ((p.add y122.2.2.2.2.2.2.1 (p.nat (0 : Int))), ((p.sub (p.nat y122.2.2.2.2.2.2.2.2.2.1) (p.nat (0 : Int))), ())))) fun y123 =>
           opt.need _ (p.eqN 0 0) <|
           opt.need _ (p.eqN (p.len y122.2.1) (p.len y122.2.1)) <|
           opt.need _ (p.eqN (p.len y122.2.1) (p.len y122.2.1)) <|
           opt.need _ (p.eqN 0 0) <|
           opt.need _ (p.eqN (p.len y122.2.1) (p.len y122.2.1)) <|
           opt.need _ (p.eqN (p.len y122.2.1) (p.len y122.2.1)) <|
           opt.bnd ((List (List (Go.Am.D)) × (List (List (Go.Am.D)) × (Int × (Int × (Int × (Int × (Nat × (Nat × (Nat × (Nat × (Int × (Int × (Int × (Int × (Bool × (Int × (Int × (Int × (Int × Unit)))))))))))))))))))) _ (G57_1 p (y122.2.1, (y123.1, (y122.2.2.2.2.2.2.2.2.1, (y122.2.2.2.2.2.2.2.2.2.1, (y122.2.2.2.2.2.2.2.2.2.2.1, (y122.2.2.2.2.2.2.2.2.2.2.2.1, (y122.2.2.2.2.2.2.1, (y122.2.2.2.2.2.2.2.1, (y123.2.1, (y123.2.2.1, ((0 : Int), ((0 : Int), ((0 : Int), ((0 : Int), (Bool.true, (y122.2.2.1, (y122.2.2.2.1, (y122.2.2.2.2.1, (y122.2.2.2.2.2.1, ())))))))))))))))))))) fun y124 =>
           opt.ask _ (bif (bif (p.cmp Go.BinOp.eql y124.2.2.2.2.2.2.2.2.2.2.1 y124.2.2.2.2.2.2.2.2.2.2.2.2.2.2.2.1) then (bif (p.cmp Go.BinOp.eql y124.2.2.2.2.2.2.2.2.2.2.2.1 y124.2.2.2.2.2.2.2.2.2.2.2.2.2.2.2.2.1) then (bif (p.cmp Go.BinOp.eql y124.2.2.2.2.2.2.2.2.2.2.2.2.1 y124.2.2.2.2.2.2.2.2.2.2.2.2.2.2.2.2.2.1) then (bif (p.cmp Go.BinOp.eql y124.2.2.2.2.2.2.2.2.2.2.2.2.2.1 y124.2.2.2.2.2.2.2.2.2.2.2.2.2.2.2.2.2.2.1) then Bool.true else Bool.false) else Bool.false) else Bool.false) else Bool.false) then Bool.false else Bool.true) (
            opt.ret _ (Sum.inl ((14 : Int), ()))) (
            opt.ask _ (bif y124.2.2.2.2.2.2.2.2.2.2.2.2.2.2.1 then Bool.false else Bool.true) (
             opt.ret _ (Sum.inl ((14 : Int), ()))) (
             opt.ask _ (p.cmp Go.BinOp.gtr y122.2.2.2.2.2.2.2.2.1 (0 : Int)) (
              opt.need _ (bif (p.cmp Go.BinOp.geq (p.ar Go.BinOp.sub Go.IntKind.i64 y122.2.2.2.2.2.2.2.2.1 (1 : Int)) (0 : Int)) then (p.cmp Go.BinOp.lss (p.ar Go.BinOp.sub Go.IntKind.i64 y122.2.2.2.2.2.2.2.2.1 (1 : Int)) (p.ofNat (p.len y122.2.1))) else Bool.false) <|
              opt.need _ (p.rowOk y124.1 (p.add 0 (p.nat (p.ar Go.BinOp.sub Go.IntKind.i64 y122.2.2.2.2.2.2.2.2.1 (1 : Int)))) [(Go.Am.CK.int Go.IntKind.i64), (Go.Am.CK.int Go.IntKind.i64), (Go.Am.CK.int Go.IntKind.i64), (Go.Am.CK.int Go.IntKind.i64)]) <|
              opt.ask _ (bif (p.cmp Go.BinOp.lss (p.ar Go.BinOp.mul Go.IntKind.i64 (p.rdI y124.1 (p.add 0 (p.nat (p.ar Go.BinOp.sub Go.IntKind.i64 y122.2.2.2.2.2.2.2.2.1 (1 : Int)))) 3) y124.2.2.2.2.2.2.2.2.2.2.2.2.2.2.2.2.2.1) (p.ar Go.BinOp.mul Go.IntKind.i64 y124.2.2.2.2.2.2.2.2.2.2.2.2.2.2.2.2.2.2.1 (p.rdI y124.1 (p.add 0 (p.nat (p.ar Go.BinOp.sub Go.IntKind.i64 y122.2.2.2.2.2.2.2.2.1 (1 : Int)))) 2))) then Bool.false else Bool.true) (
               opt.ret _ (Sum.inl ((14 : Int), ()))) (
               opt.need _ (p.and (p.cmp Go.BinOp.geq y122.2.2.2.2.2.2.2.2.2.1 (0 : Int)) (p.and (p.cmp Go.BinOp.leq y122.2.2.2.2.2.2.2.2.2.1 (p.ofNat y122.2.2.2.2.2.2.2.1)) (p.cmp Go.BinOp.leq (p.ofNat y122.2.2.2.2.2.2.2.1) (p.ofNat y122.2.2.2.2.2.2.2.1)))) <|
               opt.need _ (p.eqN 0 0) <|
               opt.need _ (p.eqN (p.len y122.2.1) (p.len y124.1)) <|
               opt.need _ (p.eqN (p.len y122.2.1) (p.len y124.1)) <|
               opt.need _ (p.eqN 0 0) <|
               opt.need _ (p.eqN (p.len y122.2.1) (p.len y124.1)) <|
               opt.need _ (p.eqN (p.len y122.2.1) (p.len y124.1)) <|
               opt.ret _ (Sum.inr (y124.2.1, (y124.1, ((p.add y122.2.2.2.2.2.2.1 (p.nat y122.2.2.2.2.2.2.2.2.2.1)), ((p.sub (p.nat (p.ofNat y122.2.2.2.2.2.2.2.1)) (p.nat y122.2.2.2.2.2.2.2.2.2.1)), (y122.2.2.2.2.2.2.2.2.2.2.1, (y122.2.2.2.2.2.2.2.2.2.2.2.1, ()))))))))) (
              opt.need _ (p.and (p.cmp Go.BinOp.geq y122.2.2.2.2.2.2.2.2.2.1 (0 : Int)) (p.and (p.cmp Go.BinOp.leq y122.2.2.2.2.2.2.2.2.2.1 (p.ofNat y122.2.2.2.2.2.2.2.1)) (p.cmp Go.BinOp.leq (p.ofNat y122.2.2.2.2.2.2.2.1) (p.ofNat y122.2.2.2.2.2.2.2.1)))) <|
              opt.need _ (p.eqN 0 0) <|
              opt.need _ (p.eqN (p.len y122.2.1) (p.len y124.1)) <|
              opt.need _ (p.eqN (p.len y122.2.1) (p.len y124.1)) <|
              opt.need _ (p.eqN 0 0) <|
              opt.need _ (p.eqN (p.len y122.2.1) (p.len y124.1)) <|
              opt.need _ (p.eqN (p.len y122.2.1) (p.len y124.1)) <|
              opt.ret _ (Sum.inr (y124.2.1, (y124.1, ((p.add y122.2.2.2.2.2.2.1 (p.nat y122.2.2.2.2.2.2.2.2.2.1)), ((p.sub (p.nat (p.ofNat y122.2.2.2.2.2.2.2.1)) (p.nat y122.2.2.2.2.2.2.2.2.2.1)), (y122.2.2.2.2.2.2.2.2.2.2.1, (y122.2.2.2.2.2.2.2.2.2.2.2.1, ()))))))))))))) (fun y125 =>
        opt.ret _ (Sum.inr (Sum.inl (y125.1, ())))) (fun y126 =>
        opt.bnd ((List (List (Go.Am.D)) × (List (List (Go.Am.D)) × (Nat × (Nat × (Int × (Int × Unit))))))) _ (some y126) fun y127 =>
        opt.need _ (p.eqN 0 0) <|
        opt.need _ (p.eqN (p.len y127.2.1) (p.len y127.2.1)) <|
        opt.need _ (p.eqN (p.len y127.2.1) (p.len y127.2.1)) <|
        opt.need _ (p.eqN 0 0) <|
        opt.need _ (p.eqN (p.len y127.2.1) (p.len y127.2.1)) <|
        opt.need _ (p.eqN (p.len y127.2.1) (p.len y127.2.1)) <|
        opt.ret _ (Sum.inl (y127.1, (y127.2.1, (y127.2.2.1, (y127.2.2.2.1, (y127.2.2.2.2.1, ((p.ar Go.BinOp.add Go.IntKind.i64 y127.2.2.2.2.2.1 (1 : Int)), ()))))))))) (
       opt.ret _ (Sum.inr (Sum.inr (s120.1, (s120.2.2.1, (s120.2.2.2.1, ())))))))
noncomputable def G19 : (p : Prim) → (List (List (Go.Am.D)) × (List (List (Go.Am.D)) × Unit)) → Option ((Int × Unit)) :=
  fun p x =>
  opt.bnd ((Int × Unit)) _ (G16 p (x.1, ())) fun y118 =>
  opt.ask _ (p.cmp Go.BinOp.neq y118.1 (0 : Int)) (
   opt.ret _ (y118.1, ())) (
   opt.bnd ((List (List (Go.Am.D)) × Unit)) _ (G43 p (x.1, ())) fun y119 =>
   opt.need _ (p.and (p.cmp Go.BinOp.geq (p.ofNat (p.len x.2.1)) (0 : Int)) (p.and (p.cmp Go.BinOp.leq (p.ofNat (p.len x.2.1)) (p.ofNat (p.len x.2.1))) (p.cmp Go.BinOp.leq (p.ofNat (p.len x.2.1)) (1000000 : Int)))) <|
   opt.need _ (p.and Bool.true (p.and (p.leN (p.len x.2.1) (p.nat (p.ofNat (p.len x.2.1)))) (p.leN (p.add 0 (p.nat (p.ofNat (p.len x.2.1)))) (p.len (p.rep (p.nat (p.ofNat (p.len x.2.1))) [(Go.Am.D.int Go.IntKind.i64 (0 : Int)), (Go.Am.D.int Go.IntKind.i64 (0 : Int)), (Go.Am.D.int Go.IntKind.i64 (0 : Int)), (Go.Am.D.int Go.IntKind.i64 (0 : Int))]))))) <|
   opt.need _ (p.eqN 0 0) <|
   opt.need _ (p.eqN (p.nat (p.ofNat (p.len x.2.1))) (p.len (p.splice (p.rep (p.nat (p.ofNat (p.len x.2.1))) [(Go.Am.D.int Go.IntKind.i64 (0 : Int)), (Go.Am.D.int Go.IntKind.i64 (0 : Int)), (Go.Am.D.int Go.IntKind.i64 (0 : Int)), (Go.Am.D.int Go.IntKind.i64 (0 : Int))]) 0 x.2.1))) <|
   opt.need _ (p.eqN (p.nat (p.ofNat (p.len x.2.1))) (p.len (p.splice (p.rep (p.nat (p.ofNat (p.len x.2.1))) [(Go.Am.D.int Go.IntKind.i64 (0 : Int)), (Go.Am.D.int Go.IntKind.i64 (0 : Int)), (Go.Am.D.int Go.IntKind.i64 (0 : Int)), (Go.Am.D.int Go.IntKind.i64 (0 : Int))]) 0 x.2.1))) <|
   opt.need _ (p.eqN 0 0) <|
   opt.need _ (p.eqN (p.nat (p.ofNat (p.len x.2.1))) (p.len (p.splice (p.rep (p.nat (p.ofNat (p.len x.2.1))) [(Go.Am.D.int Go.IntKind.i64 (0 : Int)), (Go.Am.D.int Go.IntKind.i64 (0 : Int)), (Go.Am.D.int Go.IntKind.i64 (0 : Int)), (Go.Am.D.int Go.IntKind.i64 (0 : Int))]) 0 x.2.1))) <|
   opt.need _ (p.eqN (p.nat (p.ofNat (p.len x.2.1))) (p.len (p.splice (p.rep (p.nat (p.ofNat (p.len x.2.1))) [(Go.Am.D.int Go.IntKind.i64 (0 : Int)), (Go.Am.D.int Go.IntKind.i64 (0 : Int)), (Go.Am.D.int Go.IntKind.i64 (0 : Int)), (Go.Am.D.int Go.IntKind.i64 (0 : Int))]) 0 x.2.1))) <|
   opt.alt ((Int × Unit)) ((List (List (Go.Am.D)) × (Nat × (Nat × Unit)))) _ (
     iter (b19_1 p) (y119.1, ((p.splice (p.rep (p.nat (p.ofNat (p.len x.2.1))) [(Go.Am.D.int Go.IntKind.i64 (0 : Int)), (Go.Am.D.int Go.IntKind.i64 (0 : Int)), (Go.Am.D.int Go.IntKind.i64 (0 : Int)), (Go.Am.D.int Go.IntKind.i64 (0 : Int))]) 0 x.2.1), (0, ((p.len y119.1), ((p.ofNat (p.nat (p.ofNat (p.len x.2.1)))), ((0 : Int), ()))))))) (fun y128 =>
    opt.ret _ (y128.1, ())) (fun y129 =>
    opt.bnd ((List (List (Go.Am.D)) × (Nat × (Nat × Unit)))) _ (some y129) fun y130 =>
    opt.ask _ (p.cmp Go.BinOp.gtr (p.ofNat y130.2.2.1) (0 : Int)) (
     opt.ret _ ((14 : Int), ())) (
     opt.ret _ ((0 : Int), ()))))
noncomputable def F19 : Prim → Tup (ctr19).scs → Option (STup (scss (ctr19).outs)) :=
  fun p x => G19 p x
theorem eq19 (p : Prim) (x : Tup (ctr19).scs) : bodyRun opt p (autoEnv Go.Proofs.Try.prog) (mkOrc opt p (autoEnv Go.Proofs.Try.prog) 400 (an19) la19) 400 ctr19 x = G19 p x := by kernel_rfl
theorem gok19 : GamOk Go.Proofs.Try.prog (gam19) := by
  intro cf h
  simp only [gam19, List.mem_cons, List.not_mem_nil, or_false] at h
  rcases h with rfl | rfl | rfl | rfl | rfl
  · exact ok57_1
  · exact ok57
  · exact ok44
  · exact ok43
  · exact ok16
theorem enters19 : Enters Go.Proofs.Try.prog 19 := enters_auto (b := _) rfl (by kernel_rfl)
theorem ok19 : CtrOk Go.Proofs.Try.prog ctr19 (F19 std) := ctr_of_body (autoEnv_ok follows_mixed) (mkOrc_ok (autoEnv_ok follows_mixed) gok19 _) enters19 (fun x => eq19 std x)
noncomputable def ctr46 : Ctr :=
  ⟨46, [.agg [.int Go.IntKind.i64, .int Go.IntKind.i64, .int Go.IntKind.i64, .int Go.IntKind.i64]], [], [(.ret, ⟨[(0, .agg [.int Go.IntKind.i64, .int Go.IntKind.i64])], [], 1⟩)]⟩
noncomputable def la46 : List LA :=
  [⟨46, [false, false, true, true], ⟨⟨[(1, .bptr 0 0), (2, .bptr 1 0), (3, .int Go.IntKind.i64), (4, .int Go.IntKind.i64)], [.box [.int Go.IntKind.i64, .int Go.IntKind.i64, .int Go.IntKind.i64, .int Go.IntKind.i64], .box [.int Go.IntKind.i64, .int Go.IntKind.i64]], 28⟩, [((Go.Am.AX.exit 0), ⟨[(1, .bptr 0 0), (2, .bptr 1 0), (3, .int Go.IntKind.i64)], [.box [.int Go.IntKind.i64, .int Go.IntKind.i64, .int Go.IntKind.i64, .int Go.IntKind.i64], .box [.int Go.IntKind.i64, .int Go.IntKind.i64]], 28⟩)]⟩⟩]
noncomputable def ja46 : List JA :=
  []
noncomputable def gam46 : List CF :=
  []
noncomputable def an46 : Anns :=
  ⟨gam46, ja46, []⟩
noncomputable def b46_1 (p : Prim) : (Int × (Int × (Int × (Int × (Int × (Int × (Int × (Int × Unit)))))))) → Option ((Int × (Int × (Int × (Int × (Int × (Int × (Int × (Int × Unit)))))))) ⊕ (Int × (Int × (Int × (Int × (Int × (Int × (Int × Unit)))))))) :=
  fun s62 => opt.run _ (
     opt.ask _ (p.cmp Go.BinOp.neq s62.2.2.2.2.2.2.2.1 (0 : Int)) (
      opt.need _ (p.cmp Go.BinOp.neq s62.2.2.2.2.2.2.2.1 (0 : Int)) <|
      opt.ret _ (Sum.inl (s62.1, (s62.2.1, (s62.2.2.1, (s62.2.2.2.1, (s62.2.2.2.2.1, (s62.2.2.2.2.2.1, (s62.2.2.2.2.2.2.2.1, ((p.ar Go.BinOp.rem Go.IntKind.i64 s62.2.2.2.2.2.2.1 s62.2.2.2.2.2.2.2.1), ())))))))))) (
      opt.ret _ (Sum.inr (s62.1, (s62.2.1, (s62.2.2.1, (s62.2.2.2.1, (s62.2.2.2.2.1, (s62.2.2.2.2.2.1, (s62.2.2.2.2.2.2.1, ()))))))))))
noncomputable def G46 : (p : Prim) → (Int × (Int × (Int × (Int × Unit)))) → Option ((Int × (Int × Unit))) :=
  fun p x =>
  opt.bnd ((Int × (Int × (Int × (Int × (Int × (Int × (Int × Unit)))))))) _ (
    iter (b46_1 p) (x.1, (x.2.1, (x.2.2.1, (x.2.2.2.1, ((0 : Int), ((0 : Int), (x.2.2.2.1, (x.2.2.1, ()))))))))) fun y63 =>
  opt.need _ (p.cmp Go.BinOp.neq y63.2.2.2.2.2.2.1 (0 : Int)) <|
  opt.need _ (p.cmp Go.BinOp.neq y63.2.2.2.2.2.2.1 (0 : Int)) <|
  opt.ret _ ((p.ar Go.BinOp.quo Go.IntKind.i64 y63.2.2.2.1 y63.2.2.2.2.2.2.1), ((p.ar Go.BinOp.quo Go.IntKind.i64 y63.2.2.1 y63.2.2.2.2.2.2.1), ()))
noncomputable def F46 : Prim → Tup (ctr46).scs → Option (STup (scss (ctr46).outs)) :=
  fun p x => G46 p x
theorem eq46 (p : Prim) (x : Tup (ctr46).scs) : bodyRun opt p (autoEnv Go.Proofs.Try.prog) (mkOrc opt p (autoEnv Go.Proofs.Try.prog) 400 (an46) la46) 400 ctr46 x = G46 p x := by kernel_rfl
theorem gok46 : GamOk Go.Proofs.Try.prog gam46 := fun cf h => by cases h
theorem enters46 : Enters Go.Proofs.Try.prog 46 := enters_auto (b := _) rfl (by kernel_rfl)
theorem ok46 : CtrOk Go.Proofs.Try.prog ctr46 (F46 std) := ctr_of_body (autoEnv_ok follows_mixed) (mkOrc_ok (autoEnv_ok follows_mixed) gok46 _) enters46 (fun x => eq46 std x)
noncomputable def ctr21 : Ctr :=
  ⟨21, [.list 3, .int Go.IntKind.i64], [], [(.ret, ⟨[(0, .tuple [.agg [.int Go.IntKind.i64, .int Go.IntKind.i64], .int Go.IntKind.i64])], [], 1⟩)]⟩
noncomputable def la21 : List LA :=
  [⟨21, [false, true, false, true, true, true, true], ⟨⟨[(1, .int Go.IntKind.i64), (4, .bptr 0 0), (7, .bptr 1 0), (22, .vec 2 4), (23, .int Go.IntKind.i64), (24, .int Go.IntKind.i64)], [.box [.int Go.IntKind.i64, .int Go.IntKind.i64], .box [.int Go.IntKind.i64, .int Go.IntKind.i64, .int Go.IntKind.i64, .int Go.IntKind.i64], .row [(Go.Am.CK.int Go.IntKind.i64), (Go.Am.CK.int Go.IntKind.i64), (Go.Am.CK.int Go.IntKind.i64), (Go.Am.CK.int Go.IntKind.i64)]], 41⟩, [((Go.Am.AX.exit 0), ⟨[(4, .bptr 0 0), (7, .bptr 1 0)], [.box [.int Go.IntKind.i64, .int Go.IntKind.i64], .box [.int Go.IntKind.i64, .int Go.IntKind.i64, .int Go.IntKind.i64, .int Go.IntKind.i64]], 41⟩)]⟩⟩]
noncomputable def ja21 : List JA :=
  [⟨21, [true, true, false, false, true, true, false, false, true, false, true, true, true, true], [(Go.Am.AX.normal, ⟨[(1, .int Go.IntKind.i64), (4, .bptr 0 0), (7, .bptr 1 0), (22, .vec 2 4), (23, .int Go.IntKind.i64), (24, .int Go.IntKind.i64)], [.box [.int Go.IntKind.i64, .int Go.IntKind.i64], .box [.int Go.IntKind.i64, .int Go.IntKind.i64, .int Go.IntKind.i64, .int Go.IntKind.i64], .row [(Go.Am.CK.int Go.IntKind.i64), (Go.Am.CK.int Go.IntKind.i64), (Go.Am.CK.int Go.IntKind.i64), (Go.Am.CK.int Go.IntKind.i64)]], 41⟩)]⟩]
noncomputable def gam21 : List CF :=
  [⟨ctr46, F46⟩, ⟨ctr39, F39⟩, ⟨ctr53, F53⟩, ⟨ctr16, F16⟩]
noncomputable def an21 : Anns :=
  ⟨gam21, ja21, []⟩
noncomputable def b21_1 (p : Prim) : (List (List (Go.Am.D)) × (Int × (Int × (Int × (Int × (Int × (Int × (Int × (Int × (Int × Unit)))))))))) → Option ((List (List (Go.Am.D)) × (Int × (Int × (Int × (Int × (Int × (Int × (Int × (Int × (Int × Unit)))))))))) ⊕ (Int × (Int × (Int × (Int × (Int × (Int × Unit))))))) :=
  fun s71 => opt.run _ (
       opt.ask _ (p.cmp Go.BinOp.lss s71.2.2.2.2.2.2.2.2.2.1 s71.2.2.2.2.2.2.2.2.1) (
        opt.need _ (bif (p.cmp Go.BinOp.geq s71.2.2.2.2.2.2.2.2.2.1 (0 : Int)) then (p.cmp Go.BinOp.lss s71.2.2.2.2.2.2.2.2.2.1 (p.ofNat (p.len s71.1))) else Bool.false) <|
        opt.need _ (p.rowOk s71.1 (p.add 0 (p.nat s71.2.2.2.2.2.2.2.2.2.1)) [(Go.Am.CK.int Go.IntKind.i64), (Go.Am.CK.int Go.IntKind.i64), (Go.Am.CK.int Go.IntKind.i64), (Go.Am.CK.int Go.IntKind.i64)]) <|
        opt.bnd ((List (List (Go.Am.D)) × (Int × (Int × (Int × (Int × (Int × (Int × (Int × (Int × (Int × Unit))))))))))) _ (
          opt.run ((List (List (Go.Am.D)) × (Int × (Int × (Int × (Int × (Int × (Int × (Int × (Int × (Int × Unit))))))))))) (
           opt.ask _ (p.cmp Go.BinOp.leq (p.rdI s71.1 (p.add 0 (p.nat s71.2.2.2.2.2.2.2.2.2.1)) 0) s71.2.2.2.2.2.2.2.1) (
            opt.need _ (p.eqN 0 0) <|
            opt.need _ (p.eqN (p.len s71.1) (p.len s71.1)) <|
            opt.ret _ (s71.1, (s71.2.1, (s71.2.2.1, ((p.rdI s71.1 (p.add 0 (p.nat s71.2.2.2.2.2.2.2.2.2.1)) 0), ((p.rdI s71.1 (p.add 0 (p.nat s71.2.2.2.2.2.2.2.2.2.1)) 1), ((p.rdI s71.1 (p.add 0 (p.nat s71.2.2.2.2.2.2.2.2.2.1)) 2), ((p.rdI s71.1 (p.add 0 (p.nat s71.2.2.2.2.2.2.2.2.2.1)) 3), (s71.2.2.2.2.2.2.2.1, (s71.2.2.2.2.2.2.2.2.1, (s71.2.2.2.2.2.2.2.2.2.1, ()))))))))))) (
            opt.need _ (p.eqN 0 0) <|
            opt.need _ (p.eqN (p.len s71.1) (p.len s71.1)) <|
            opt.ret _ (s71.1, (s71.2.1, (s71.2.2.1, (s71.2.2.2.1, (s71.2.2.2.2.1, (s71.2.2.2.2.2.1, (s71.2.2.2.2.2.2.1, (s71.2.2.2.2.2.2.2.1, (s71.2.2.2.2.2.2.2.2.1, (s71.2.2.2.2.2.2.2.2.2.1, ()))))))))))))) fun y72 =>
        opt.need _ (p.eqN 0 0) <|
        opt.need _ (p.eqN (p.len y72.1) (p.len y72.1)) <|
        opt.ret _ (Sum.inl (y72.1, (y72.2.1, (y72.2.2.1, (y72.2.2.2.1, (y72.2.2.2.2.1, (y72.2.2.2.2.2.1, (y72.2.2.2.2.2.2.1, (y72.2.2.2.2.2.2.2.1, (y72.2.2.2.2.2.2.2.2.1, ((p.ar Go.BinOp.add Go.IntKind.i64 y72.2.2.2.2.2.2.2.2.2.1 (1 : Int)), ())))))))))))) (
        opt.ret _ (Sum.inr (s71.2.1, (s71.2.2.1, (s71.2.2.2.1, (s71.2.2.2.2.1, (s71.2.2.2.2.2.1, (s71.2.2.2.2.2.2.1, ())))))))))
noncomputable def G21 : (p : Prim) → (List (List (Go.Am.D)) × (Int × Unit)) → Option ((Int × (Int × (Int × Unit)))) :=
  fun p x =>
  opt.bnd ((Int × Unit)) _ (G16 p (x.1, ())) fun y68 =>
  opt.ask _ (p.cmp Go.BinOp.neq y68.1 (0 : Int)) (
   opt.ret _ ((0 : Int), ((0 : Int), (y68.1, ())))) (
   opt.need _ (p.eqN 0 0) <|
   opt.need _ (p.eqN 1 (p.len [[(Go.Am.D.int Go.IntKind.i64 x.2.1)]])) <|
   opt.need _ (p.eqN 1 (p.len [[(Go.Am.D.int Go.IntKind.i64 x.2.1)]])) <|
   opt.bnd ((List (List (Go.Am.D)) × (Int × (Int × (Bool × Unit))))) _ (G53 p ([[(Go.Am.D.int Go.IntKind.i64 x.2.1)]], ((0 : Int), ((10000 : Int), ())))) fun y69 =>
   opt.ask _ (bif (bif y69.2.2.2.1 then Bool.false else Bool.true) then Bool.false else Bool.true) (
    opt.ret _ ((0 : Int), ((0 : Int), ((3 : Int), ())))) (
    opt.bnd ((List (List (Go.Am.D)) × Unit)) _ (G39 p (x.1, ())) fun y70 =>
    opt.need _ (p.eqN 0 0) <|
    opt.need _ (p.eqN (p.len y70.1) (p.len y70.1)) <|
    opt.bnd ((Int × (Int × (Int × (Int × (Int × (Int × Unit))))))) _ (
      iter (b21_1 p) (y70.1, ((0 : Int), ((0 : Int), ((0 : Int), ((0 : Int), ((0 : Int), ((0 : Int), (x.2.1, ((p.ofNat (p.len y70.1)), ((0 : Int), ()))))))))))) fun y73 =>
    opt.ask _ (bif (p.cmp Go.BinOp.eql y73.2.2.1 (0 : Int)) then (bif (p.cmp Go.BinOp.eql y73.2.2.2.1 (0 : Int)) then (bif (p.cmp Go.BinOp.eql y73.2.2.2.2.1 (0 : Int)) then (bif (p.cmp Go.BinOp.eql y73.2.2.2.2.2.1 (0 : Int)) then Bool.true else Bool.false) else Bool.false) else Bool.false) else Bool.false) (
     opt.ret _ ((0 : Int), ((0 : Int), ((5 : Int), ())))) (
     opt.bnd ((Int × (Int × Unit))) _ (G46 p (y73.2.2.1, (y73.2.2.2.1, (y73.2.2.2.2.1, (y73.2.2.2.2.2.1, ()))))) fun y74 =>
     opt.ret _ (y74.1, (y74.2.1, ((0 : Int), ()))))))
noncomputable def F21 : Prim → Tup (ctr21).scs → Option (STup (scss (ctr21).outs)) :=
  fun p x => G21 p x
theorem eq21 (p : Prim) (x : Tup (ctr21).scs) : bodyRun opt p (autoEnv Go.Proofs.Try.prog) (mkOrc opt p (autoEnv Go.Proofs.Try.prog) 400 (an21) la21) 400 ctr21 x = G21 p x := by kernel_rfl
theorem gok21 : GamOk Go.Proofs.Try.prog (gam21) := by
  intro cf h
  simp only [gam21, List.mem_cons, List.not_mem_nil, or_false] at h
  rcases h with rfl | rfl | rfl | rfl
  · exact ok46
  · exact ok39
  · exact ok53
  · exact ok16
theorem enters21 : Enters Go.Proofs.Try.prog 21 := enters_auto (b := _) rfl (by kernel_rfl)
theorem ok21 : CtrOk Go.Proofs.Try.prog ctr21 (F21 std) := ctr_of_body (autoEnv_ok follows_mixed) (mkOrc_ok (autoEnv_ok follows_mixed) gok21 _) enters21 (fun x => eq21 std x)
noncomputable def ctr49 : Ctr :=
  ⟨49, [.agg [.int Go.IntKind.i64, .int Go.IntKind.i64, .int Go.IntKind.i64, .int Go.IntKind.i64], .bptr 0 0], [.box [.int Go.IntKind.i64]], [(.ret, ⟨[(0, .bool)], [.box [.int Go.IntKind.i64]], 1⟩)]⟩
noncomputable def la49 : List LA :=
  []
noncomputable def ja49 : List JA :=
  []
noncomputable def gam49 : List CF :=
  []
noncomputable def an49 : Anns :=
  ⟨gam49, ja49, []⟩
noncomputable def G49 : (p : Prim) → (Int × (Int × (Int × (Int × (Int × Unit))))) → Option ((Int × (Bool × Unit))) :=
  fun p x =>
  opt.ret _ (x.1, ((p.cmp Go.BinOp.geq x.2.2.2.2.1 (p.ar Go.BinOp.mul Go.IntKind.i64 x.1 x.2.2.2.1)), ()))
noncomputable def F49 : Prim → Tup (ctr49).scs → Option (STup (scss (ctr49).outs)) :=
  fun p x => G49 p x
theorem eq49 (p : Prim) (x : Tup (ctr49).scs) : bodyRun opt p (autoEnv Go.Proofs.Try.prog) (mkOrc opt p (autoEnv Go.Proofs.Try.prog) 400 (an49) la49) 400 ctr49 x = G49 p x := by kernel_rfl
theorem gok49 : GamOk Go.Proofs.Try.prog gam49 := fun cf h => by cases h
theorem enters49 : Enters Go.Proofs.Try.prog 49 := enters_auto (b := _) rfl (by kernel_rfl)
theorem ok49 : CtrOk Go.Proofs.Try.prog ctr49 (F49 std) := ctr_of_body (autoEnv_ok follows_mixed) (mkOrc_ok (autoEnv_ok follows_mixed) gok49 _) enters49 (fun x => eq49 std x)
noncomputable def ctr48 : Ctr :=
  ⟨48, [.list 3, .clo 49 [] [.bptr 0 0]], [.box [.int Go.IntKind.i64]], [(.ret, ⟨[(0, .agg [.int Go.IntKind.i64, .int Go.IntKind.i64])], [.box [.int Go.IntKind.i64]], 1⟩)]⟩
noncomputable def la48 : List LA :=
  [⟨48, [false, true, false, true, true], ⟨⟨[(1, .clo 49 [] [.bptr 0 0]), (4, .bptr 1 0), (5, .bptr 2 0), (10, .vec 3 4), (11, .int Go.IntKind.i64), (12, .int Go.IntKind.i64)], [.box [.int Go.IntKind.i64], .box [.int Go.IntKind.i64, .int Go.IntKind.i64], .box [.int Go.IntKind.i64, .int Go.IntKind.i64], .row [(Go.Am.CK.int Go.IntKind.i64), (Go.Am.CK.int Go.IntKind.i64), (Go.Am.CK.int Go.IntKind.i64), (Go.Am.CK.int Go.IntKind.i64)]], 30⟩, [(Go.Am.AX.ret, ⟨[(4, .bptr 1 0)], [.box [.int Go.IntKind.i64], .box [.int Go.IntKind.i64, .int Go.IntKind.i64]], 30⟩), ((Go.Am.AX.exit 0), ⟨[(4, .bptr 1 0), (5, .bptr 2 0)], [.box [.int Go.IntKind.i64], .box [.int Go.IntKind.i64, .int Go.IntKind.i64], .box [.int Go.IntKind.i64, .int Go.IntKind.i64]], 30⟩)]⟩⟩]
noncomputable def ja48 : List JA :=
  []
noncomputable def gam48 : List CF :=
  [⟨ctr49, F49⟩, ⟨ctr39, F39⟩]
noncomputable def an48 : Anns :=
  ⟨gam48, ja48, []⟩
noncomputable def b48_1 (p : Prim) : (List (List (Go.Am.D)) × (Int × (Int × (Int × (Int × (Int × (Int × (Int × Unit)))))))) → Option ((List (List (Go.Am.D)) × (Int × (Int × (Int × (Int × (Int × (Int × (Int × Unit)))))))) ⊕ ((Int × (Int × (Int × Unit))) ⊕ (Int × (Int × (Int × (Int × (Int × Unit))))))) :=
  fun s103 => opt.run _ (
     opt.ask _ (p.cmp Go.BinOp.lss s103.2.2.2.2.2.2.2.1 s103.2.2.2.2.2.2.1) (
      opt.need _ (bif (p.cmp Go.BinOp.geq s103.2.2.2.2.2.2.2.1 (0 : Int)) then (p.cmp Go.BinOp.lss s103.2.2.2.2.2.2.2.1 (p.ofNat (p.len s103.1))) else Bool.false) <|
      opt.need _ (p.rowOk s103.1 (p.add 0 (p.nat s103.2.2.2.2.2.2.2.1)) [(Go.Am.CK.int Go.IntKind.i64), (Go.Am.CK.int Go.IntKind.i64), (Go.Am.CK.int Go.IntKind.i64), (Go.Am.CK.int Go.IntKind.i64)]) <|
      opt.bnd ((Int × (Bool × Unit))) _ (G49 p (s103.2.1, ((p.rdI s103.1 (p.add 0 (p.nat s103.2.2.2.2.2.2.2.1)) 0), ((p.rdI s103.1 (p.add 0 (p.nat s103.2.2.2.2.2.2.2.1)) 1), ((p.rdI s103.1 (p.add 0 (p.nat s103.2.2.2.2.2.2.2.1)) 2), ((p.rdI s103.1 (p.add 0 (p.nat s103.2.2.2.2.2.2.2.1)) 3), ())))))) fun y104 =>
      opt.ask _ y104.2.1 (
       opt.ret _ (Sum.inr (Sum.inl (y104.1, (s103.2.2.2.2.1, ((p.rdI s103.1 (p.add 0 (p.nat s103.2.2.2.2.2.2.2.1)) 0), ())))))) (
       opt.need _ (p.eqN 0 0) <|
       opt.need _ (p.eqN (p.len s103.1) (p.len s103.1)) <|
       opt.ret _ (Sum.inl (s103.1, (y104.1, (s103.2.2.1, (s103.2.2.2.1, ((p.rdI s103.1 (p.add 0 (p.nat s103.2.2.2.2.2.2.2.1)) 1), (s103.2.2.2.2.2.1, (s103.2.2.2.2.2.2.1, ((p.ar Go.BinOp.add Go.IntKind.i64 s103.2.2.2.2.2.2.2.1 (1 : Int)), ()))))))))))) (
      opt.ret _ (Sum.inr (Sum.inr (s103.2.1, (s103.2.2.1, (s103.2.2.2.1, (s103.2.2.2.2.1, (s103.2.2.2.2.2.1, ())))))))))
noncomputable def G48 : (p : Prim) → (Int × (List (List (Go.Am.D)) × Unit)) → Option ((Int × (Int × (Int × Unit)))) :=
  fun p x =>
  opt.bnd ((List (List (Go.Am.D)) × Unit)) _ (G39 p (x.2.1, ())) fun y102 =>
  opt.need _ (p.eqN 0 0) <|
  opt.need _ (p.eqN (p.len y102.1) (p.len y102.1)) <|
  opt.alt ((Int × (Int × (Int × Unit)))) ((Int × (Int × (Int × (Int × (Int × Unit)))))) _ (
    iter (b48_1 p) (y102.1, (x.1, ((0 : Int), ((0 : Int), ((0 : Int), ((1073741824 : Int), ((p.ofNat (p.len y102.1)), ((0 : Int), ()))))))))) (fun y105 =>
   opt.ret _ (y105.1, (y105.2.1, (y105.2.2.1, ())))) (fun y106 =>
   opt.bnd ((Int × (Int × (Int × (Int × (Int × Unit)))))) _ (some y106) fun y107 =>
   opt.ret _ (y107.1, (y107.2.2.2.1, (y107.2.2.2.2.1, ()))))
noncomputable def F48 : Prim → Tup (ctr48).scs → Option (STup (scss (ctr48).outs)) :=
  fun p x => G48 p x
theorem eq48 (p : Prim) (x : Tup (ctr48).scs) : bodyRun opt p (autoEnv Go.Proofs.Try.prog) (mkOrc opt p (autoEnv Go.Proofs.Try.prog) 400 (an48) la48) 400 ctr48 x = G48 p x := by kernel_rfl
theorem gok48 : GamOk Go.Proofs.Try.prog (gam48) := by
  intro cf h
  simp only [gam48, List.mem_cons, List.not_mem_nil, or_false] at h
  rcases h with rfl | rfl
  · exact ok49
  · exact ok39
theorem enters48 : Enters Go.Proofs.Try.prog 48 := enters_auto (b := _) rfl (by kernel_rfl)
theorem ok48 : CtrOk Go.Proofs.Try.prog ctr48 (F48 std) := ctr_of_body (autoEnv_ok follows_mixed) (mkOrc_ok (autoEnv_ok follows_mixed) gok48 _) enters48 (fun x => eq48 std x)
noncomputable def ctr23 : Ctr :=
  ⟨23, [.list 3, .int Go.IntKind.i64], [], [(.ret, ⟨[(0, .tuple [.agg [.int Go.IntKind.i64, .int Go.IntKind.i64], .int Go.IntKind.i64])], [], 1⟩)]⟩
noncomputable def la23 : List LA :=
  []
noncomputable def ja23 : List JA :=
  []
noncomputable def gam23 : List CF :=
  [⟨ctr48, F48⟩, ⟨ctr53, F53⟩, ⟨ctr16, F16⟩]
noncomputable def an23 : Anns :=
  ⟨gam23, ja23, []⟩
noncomputable def G23 : (p : Prim) → (List (List (Go.Am.D)) × (Int × Unit)) → Option ((Int × (Int × (Int × Unit)))) :=
  fun p x =>
  opt.bnd ((Int × Unit)) _ (G16 p (x.1, ())) fun y112 =>
  opt.ask _ (p.cmp Go.BinOp.neq y112.1 (0 : Int)) (
   opt.ret _ ((0 : Int), ((0 : Int), (y112.1, ())))) (
   opt.need _ (p.eqN 0 0) <|
   opt.need _ (p.eqN 1 (p.len [[(Go.Am.D.int Go.IntKind.i64 x.2.1)]])) <|
   opt.need _ (p.eqN 1 (p.len [[(Go.Am.D.int Go.IntKind.i64 x.2.1)]])) <|
   opt.bnd ((List (List (Go.Am.D)) × (Int × (Int × (Bool × Unit))))) _ (G53 p ([[(Go.Am.D.int Go.IntKind.i64 x.2.1)]], ((1 : Int), ((100 : Int), ())))) fun y113 =>
   opt.ask _ (bif (bif y113.2.2.2.1 then Bool.false else Bool.true) then Bool.false else Bool.true) (
    opt.ret _ ((0 : Int), ((0 : Int), ((3 : Int), ())))) (
    opt.bnd ((Int × (Int × (Int × Unit)))) _ (G48 p (x.2.1, (x.1, ()))) fun y114 =>
    opt.ret _ (y114.2.1, (y114.2.2.1, ((0 : Int), ())))))
noncomputable def F23 : Prim → Tup (ctr23).scs → Option (STup (scss (ctr23).outs)) :=
  fun p x => G23 p x
theorem eq23 (p : Prim) (x : Tup (ctr23).scs) : bodyRun opt p (autoEnv Go.Proofs.Try.prog) (mkOrc opt p (autoEnv Go.Proofs.Try.prog) 400 (an23) la23) 400 ctr23 x = G23 p x := by kernel_rfl
theorem gok23 : GamOk Go.Proofs.Try.prog (gam23) := by
  intro cf h
  simp only [gam23, List.mem_cons, List.not_mem_nil, or_false] at h
  rcases h with rfl | rfl | rfl
  · exact ok48
  · exact ok53
  · exact ok16
theorem enters23 : Enters Go.Proofs.Try.prog 23 := enters_auto (b := _) rfl (by kernel_rfl)
theorem ok23 : CtrOk Go.Proofs.Try.prog ctr23 (F23 std) := ctr_of_body (autoEnv_ok follows_mixed) (mkOrc_ok (autoEnv_ok follows_mixed) gok23 _) enters23 (fun x => eq23 std x)
noncomputable def ctr25 : Ctr :=
  ⟨25, [.list 1, .list 3, .int Go.IntKind.i64], [], [(.ret, ⟨[(0, .tuple [.agg [.int Go.IntKind.i64, .int Go.IntKind.i64], .int Go.IntKind.i64])], [], 1⟩)]⟩
noncomputable def la25 : List LA :=
  [⟨25, [false, true, false, true, true], ⟨⟨[(0, .list 1), (1, .list 3), (2, .int Go.IntKind.i64), (6, .bptr 0 0), (22, .list 1), (23, .int Go.IntKind.i64), (24, .int Go.IntKind.i64)], [.box [.int Go.IntKind.i64, .int Go.IntKind.i64]], 77⟩, [(Go.Am.AX.ret, ⟨[(6, .bptr 0 0), (7, .int Go.IntKind.i64)], [.box [.int Go.IntKind.i64, .int Go.IntKind.i64]], 77⟩), ((Go.Am.AX.exit 0), ⟨[(0, .list 1), (1, .list 3), (2, .int Go.IntKind.i64), (6, .bptr 0 0)], [.box [.int Go.IntKind.i64, .int Go.IntKind.i64]], 77⟩)]⟩⟩,
   ⟨25, [false, true, false, true, true, true, true, true, true], ⟨⟨[(2, .int Go.IntKind.i64), (6, .bptr 0 0), (11, .bptr 1 0), (13, .bptr 2 0), (45, .list 1), (46, .int Go.IntKind.i64), (47, .int Go.IntKind.i64)], [.box [.int Go.IntKind.i64, .int Go.IntKind.i64], .box [.int Go.IntKind.i64, .int Go.IntKind.i64], .box [.int Go.IntKind.i64, .int Go.IntKind.i64]], 77⟩, [((Go.Am.AX.exit 2), ⟨[(6, .bptr 0 0), (13, .bptr 1 0)], [.box [.int Go.IntKind.i64, .int Go.IntKind.i64], .box [.int Go.IntKind.i64, .int Go.IntKind.i64]], 77⟩)]⟩⟩]
noncomputable def ja25 : List JA :=
  [⟨25, [true, false, true, true, false, false, true, true, false, false, true, false, true, true, true, true, true, true], [(Go.Am.AX.normal, ⟨[(2, .int Go.IntKind.i64), (6, .bptr 0 0), (11, .bptr 1 0), (13, .bptr 2 0), (16, .bptr 3 0), (45, .list 1), (46, .int Go.IntKind.i64), (47, .int Go.IntKind.i64)], [.box [.int Go.IntKind.i64, .int Go.IntKind.i64], .box [.int Go.IntKind.i64, .int Go.IntKind.i64], .box [.int Go.IntKind.i64, .int Go.IntKind.i64], .box [.int Go.IntKind.i64, .int Go.IntKind.i64]], 77⟩)]⟩,
   ⟨25, [true, true, true, true, false, false, true, true, false, false, true, false, true, true, true, true, true, true], [(Go.Am.AX.normal, ⟨[(2, .int Go.IntKind.i64), (6, .bptr 0 0), (11, .bptr 1 0), (13, .bptr 2 0), (45, .list 1), (46, .int Go.IntKind.i64), (47, .int Go.IntKind.i64)], [.box [.int Go.IntKind.i64, .int Go.IntKind.i64], .box [.int Go.IntKind.i64, .int Go.IntKind.i64], .box [.int Go.IntKind.i64, .int Go.IntKind.i64]], 77⟩)]⟩]
noncomputable def gam25 : List CF :=
  [⟨ctr23, F23⟩, ⟨ctr16, F16⟩]
noncomputable def an25 : Anns :=
  ⟨gam25, ja25, []⟩
noncomputable def b25_2 (p : Prim) : (Int × (Int × (Int × (Int × (Int × (Int × (Int × (List (List (Go.Am.D)) × (Int × (Int × Unit)))))))))) → Option ((Int × (Int × (Int × (Int × (Int × (Int × (Int × (List (List (Go.Am.D)) × (Int × (Int × Unit)))))))))) ⊕ (Int × (Int × (Int × (Int × Unit))))) :=
  fun s150 => opt.run _ (
        opt.ask _ (p.cmp Go.BinOp.lss s150.2.2.2.2.2.2.2.2.2.1 s150.2.2.2.2.2.2.2.2.1) (
         opt.need _ (p.rowOk s150.2.2.2.2.2.2.2.1 (p.nat s150.2.2.2.2.2.2.2.2.2.1) [(Go.Am.CK.list 3)]) <|
         opt.need _ (p.cmp Go.BinOp.geq s150.2.2.2.2.2.2.2.2.2.1 (0 : Int)) <|
         opt.bnd ((Int × (Int × (Int × Unit)))) _ (G23 p ((p.rdL s150.2.2.2.2.2.2.2.1 (p.nat s150.2.2.2.2.2.2.2.2.2.1) 0), (s150.2.2.2.2.2.2.1, ()))) fun y151 =>
         opt.bnd ((Int × (Int × (Int × (Int × (Int × (Int × (Int × (Int × (Int × (List (List (Go.Am.D)) × (Int × (Int × Unit))))))))))))) _ (
           opt.run ((Int × (Int × (Int × (Int × (Int × (Int × (Int × (Int × (Int × (List (List (Go.Am.D)) × (Int × (Int × Unit))))))))))))) (
            opt.ask _ (p.cmp Go.BinOp.leq y151.2.1 s150.2.2.1) (
             opt.ret _ (s150.1, (s150.2.1, (s150.2.2.1, (s150.2.2.2.1, ((p.ar Go.BinOp.add Go.IntKind.i64 s150.2.2.2.2.1 (1 : Int)), (s150.2.2.2.2.2.1, (y151.1, (y151.2.1, (s150.2.2.2.2.2.2.1, (s150.2.2.2.2.2.2.2.1, (s150.2.2.2.2.2.2.2.2.1, (s150.2.2.2.2.2.2.2.2.2.1, ()))))))))))))) (
             opt.ret _ (s150.1, (s150.2.1, (s150.2.2.1, (s150.2.2.2.1, (s150.2.2.2.2.1, (s150.2.2.2.2.2.1, (y151.1, (y151.2.1, (s150.2.2.2.2.2.2.1, (s150.2.2.2.2.2.2.2.1, (s150.2.2.2.2.2.2.2.2.1, (s150.2.2.2.2.2.2.2.2.2.1, ()))))))))))))))) fun y152 =>
         opt.bnd ((Int × (Int × (Int × (Int × (Int × (Int × (Int × (List (List (Go.Am.D)) × (Int × (Int × Unit))))))))))) _ (
           opt.run ((Int × (Int × (Int × (Int × (Int × (Int × (Int × (List (List (Go.Am.D)) × (Int × (Int × Unit))))))))))) (
            opt.ask _ (p.cmp Go.BinOp.lss y152.2.2.2.2.2.2.1 y152.2.2.2.1) (
             opt.ret _ (y152.1, (y152.2.1, (y152.2.2.1, (y152.2.2.2.1, (y152.2.2.2.2.1, ((p.ar Go.BinOp.add Go.IntKind.i64 y152.2.2.2.2.2.1 (1 : Int)), (y152.2.2.2.2.2.2.2.2.1, (y152.2.2.2.2.2.2.2.2.2.1, (y152.2.2.2.2.2.2.2.2.2.2.1, (y152.2.2.2.2.2.2.2.2.2.2.2.1, ()))))))))))) (
             opt.ret _ (y152.1, (y152.2.1, (y152.2.2.1, (y152.2.2.2.1, (y152.2.2.2.2.1, (y152.2.2.2.2.2.1, (y152.2.2.2.2.2.2.2.2.1, (y152.2.2.2.2.2.2.2.2.2.1, (y152.2.2.2.2.2.2.2.2.2.2.1, (y152.2.2.2.2.2.2.2.2.2.2.2.1, ()))))))))))))) fun y153 =>
         opt.ret _ (Sum.inl (y153.1, (y153.2.1, (y153.2.2.1, (y153.2.2.2.1, (y153.2.2.2.2.1, (y153.2.2.2.2.2.1, (y153.2.2.2.2.2.2.1, (y153.2.2.2.2.2.2.2.1, (y153.2.2.2.2.2.2.2.2.1, ((p.ar Go.BinOp.add Go.IntKind.i64 y153.2.2.2.2.2.2.2.2.2.1 (1 : Int)), ())))))))))))) (
         opt.ret _ (Sum.inr (s150.1, (s150.2.1, (s150.2.2.2.2.1, (s150.2.2.2.2.2.1, ())))))))
noncomputable def b25_1 (p : Prim) : (Int × (Int × (List (List (Go.Am.D)) × (List (List (Go.Am.D)) × (Int × (List (List (Go.Am.D)) × (Int × (Int × Unit)))))))) → Option ((Int × (Int × (List (List (Go.Am.D)) × (List (List (Go.Am.D)) × (Int × (List (List (Go.Am.D)) × (Int × (Int × Unit)))))))) ⊕ ((Int × (Int × (Int × Unit))) ⊕ (Int × (Int × (List (List (Go.Am.D)) × (List (List (Go.Am.D)) × (Int × Unit))))))) :=
  fun s144 => opt.run _ (
      opt.ask _ (p.cmp Go.BinOp.lss s144.2.2.2.2.2.2.2.1 s144.2.2.2.2.2.2.1) (
       opt.need _ (p.rowOk s144.2.2.2.2.2.1 (p.nat s144.2.2.2.2.2.2.2.1) [(Go.Am.CK.list 3)]) <|
       opt.need _ (p.cmp Go.BinOp.geq s144.2.2.2.2.2.2.2.1 (0 : Int)) <|
       opt.bnd ((Int × Unit)) _ (G16 p ((p.rdL s144.2.2.2.2.2.1 (p.nat s144.2.2.2.2.2.2.2.1) 0), ())) fun y145 =>
       opt.ask _ (p.cmp Go.BinOp.neq y145.1 (0 : Int)) (
        opt.ret _ (Sum.inr (Sum.inl ((0 : Int), ((0 : Int), (y145.1, ())))))) (
        opt.ret _ (Sum.inl (s144.1, (s144.2.1, (s144.2.2.1, (s144.2.2.2.1, (s144.2.2.2.2.1, (s144.2.2.2.2.2.1, (s144.2.2.2.2.2.2.1, ((p.ar Go.BinOp.add Go.IntKind.i64 s144.2.2.2.2.2.2.2.1 (1 : Int)), ()))))))))))) (
       opt.ret _ (Sum.inr (Sum.inr (s144.1, (s144.2.1, (s144.2.2.1, (s144.2.2.2.1, (s144.2.2.2.2.1, ())))))))))
noncomputable def G25 : (p : Prim) → (List (List (Go.Am.D)) × (List (List (Go.Am.D)) × (Int × Unit))) → Option ((Int × (Int × (Int × Unit)))) :=
  fun p x =>
  opt.ask _ (p.cmp Go.BinOp.gtr (p.ofNat (p.len x.1)) (8 : Int)) (
   opt.ret _ ((0 : Int), ((0 : Int), ((6 : Int), ())))) (
   opt.alt ((Int × (Int × (Int × Unit)))) ((Int × (Int × (List (List (Go.Am.D)) × (List (List (Go.Am.D)) × (Int × Unit)))))) _ (
     iter (b25_1 p) ((0 : Int), ((0 : Int), (x.1, (x.2.1, (x.2.2.1, (x.1, ((p.ofNat (p.len x.1)), ((0 : Int), ()))))))))) (fun y146 =>
    opt.ret _ (y146.1, (y146.2.1, (y146.2.2.1, ())))) (fun y147 =>
    opt.bnd ((Int × (Int × (List (List (Go.Am.D)) × (List (List (Go.Am.D)) × (Int × Unit)))))) _ (some y147) fun y148 =>
    opt.bnd ((Int × (Int × (Int × Unit)))) _ (G23 p (y148.2.2.2.1, (y148.2.2.2.2.1, ()))) fun y149 =>
    opt.ask _ (p.cmp Go.BinOp.neq y149.2.2.1 (0 : Int)) (
     opt.ret _ ((0 : Int), ((0 : Int), (y149.2.2.1, ())))) (
     opt.bnd ((Int × (Int × (Int × (Int × Unit))))) _ (
       iter (b25_2 p) (y148.1, (y148.2.1, (y149.1, (y149.2.1, ((0 : Int), ((0 : Int), (y148.2.2.2.2.1, (y148.2.2.1, ((p.ofNat (p.len y148.2.2.1)), ((0 : Int), ()))))))))))) fun y154 =>
     opt.ret _ (y154.2.2.1, (y154.2.2.2.1, ((0 : Int), ()))))))
noncomputable def F25 : Prim → Tup (ctr25).scs → Option (STup (scss (ctr25).outs)) :=
  fun p x => G25 p x
theorem eq25 (p : Prim) (x : Tup (ctr25).scs) : bodyRun opt p (autoEnv Go.Proofs.Try.prog) (mkOrc opt p (autoEnv Go.Proofs.Try.prog) 400 (an25) la25) 400 ctr25 x = G25 p x := by kernel_rfl
theorem gok25 : GamOk Go.Proofs.Try.prog (gam25) := by
  intro cf h
  simp only [gam25, List.mem_cons, List.not_mem_nil, or_false] at h
  rcases h with rfl | rfl
  · exact ok23
  · exact ok16
theorem enters25 : Enters Go.Proofs.Try.prog 25 := enters_auto (b := _) rfl (by kernel_rfl)
theorem ok25 : CtrOk Go.Proofs.Try.prog ctr25 (F25 std) := ctr_of_body (autoEnv_ok follows_mixed) (mkOrc_ok (autoEnv_ok follows_mixed) gok25 _) enters25 (fun x => eq25 std x)
noncomputable def ctr35 : Ctr :=
  ⟨35, [.list 3, .int Go.IntKind.i64, .list 1, .int Go.IntKind.i64], [], [(.ret, ⟨[(0, .tuple [.int Go.IntKind.i64, .bool])], [], 1⟩)]⟩
noncomputable def la35 : List LA :=
  []
noncomputable def ja35 : List JA :=
  [⟨35, [false, false, true, true], [(Go.Am.AX.normal, ⟨[(2, .list 1), (3, .int Go.IntKind.i64), (10, .bptr 0 0), (42, .bool)], [.box [.int Go.IntKind.i64, .int Go.IntKind.i64]], 67⟩)]⟩,
   ⟨35, [true, false, true, true, true, true], [(Go.Am.AX.normal, ⟨[(10, .bptr 0 0), (12, .int Go.IntKind.i64)], [.box [.int Go.IntKind.i64, .int Go.IntKind.i64]], 67⟩)]⟩]
noncomputable def gam35 : List CF :=
  [⟨ctr23, F23⟩]
noncomputable def an35 : Anns :=
  ⟨gam35, ja35, []⟩
noncomputable def G35 : (p : Prim) → (List (List (Go.Am.D)) × (Int × (List (List (Go.Am.D)) × (Int × Unit)))) → Option ((Int × (Bool × Unit))) :=
  fun p x =>
  opt.bnd ((Int × (Int × (Int × Unit)))) _ (G23 p (x.1, (x.2.1, ()))) fun y167 =>
  opt.bnd ((Int × (Int × (List (List (Go.Am.D)) × (Int × (Bool × Unit)))))) _ (
    opt.run ((Int × (Int × (List (List (Go.Am.D)) × (Int × (Bool × Unit)))))) (
     opt.ask _ (p.cmp Go.BinOp.neq y167.2.2.1 (0 : Int)) (
      opt.ret _ (y167.1, (y167.2.1, (x.2.2.1, (x.2.2.2.1, (Bool.true, ())))))) (
      opt.ask _ (p.cmp Go.BinOp.lss y167.1 (0 : Int)) (
       opt.ret _ (y167.1, (y167.2.1, (x.2.2.1, (x.2.2.2.1, (Bool.true, ())))))) (
       opt.ask _ (p.cmp Go.BinOp.gtr y167.1 (10000 : Int)) (
        opt.ret _ (y167.1, (y167.2.1, (x.2.2.1, (x.2.2.2.1, (Bool.true, ())))))) (
        opt.ask _ (p.cmp Go.BinOp.leq y167.2.1 y167.1) (
         opt.ret _ (y167.1, (y167.2.1, (x.2.2.1, (x.2.2.2.1, (Bool.true, ())))))) (
         opt.ret _ (y167.1, (y167.2.1, (x.2.2.1, (x.2.2.2.1, ((p.cmp Go.BinOp.gtr y167.2.1 (1073741824 : Int)), ()))))))))))) fun y168 =>
  opt.ask _ y168.2.2.2.2.1 (
   opt.ret _ ((0 : Int), (Bool.false, ()))) (
   opt.bnd ((Int × (Int × (Int × Unit)))) _ (
     opt.run ((Int × (Int × (Int × Unit)))) (
      opt.ask _ (p.cmp Go.BinOp.gtr (p.ofNat (p.len y168.2.2.1)) (0 : Int)) (
       opt.need _ (p.cmp Go.BinOp.neq (p.ofNat (p.len y168.2.2.1)) (0 : Int)) <|
       opt.need _ (p.rowOk y168.2.2.1 (p.nat (p.ar Go.BinOp.rem Go.IntKind.i64 y168.2.2.2.1 (p.ofNat (p.len y168.2.2.1)))) [(Go.Am.CK.int Go.IntKind.u32)]) <|
       opt.need _ (p.cmp Go.BinOp.geq (p.ar Go.BinOp.rem Go.IntKind.i64 y168.2.2.2.1 (p.ofNat (p.len y168.2.2.1))) (0 : Int)) <|
       opt.ret _ (y168.1, (y168.2.1, ((p.cvt Go.IntKind.i64 (p.rdI y168.2.2.1 (p.nat (p.ar Go.BinOp.rem Go.IntKind.i64 y168.2.2.2.1 (p.ofNat (p.len y168.2.2.1)))) 0)), ())))) (
       opt.ret _ (y168.1, (y168.2.1, ((0 : Int), ())))))) fun y169 =>
   opt.need _ (p.cmp Go.BinOp.neq (p.ar Go.BinOp.mul Go.IntKind.i64 (1000 : Int) (p.ar Go.BinOp.sub Go.IntKind.i64 y169.2.1 y169.1)) (0 : Int)) <|
   opt.ret _ ((p.ar Go.BinOp.add Go.IntKind.i64 (p.ar Go.BinOp.add Go.IntKind.i64 (p.ar Go.BinOp.mul Go.IntKind.i64 (1000 : Int) y169.1) (1 : Int)) (p.ar Go.BinOp.rem Go.IntKind.i64 y169.2.2.1 (p.ar Go.BinOp.mul Go.IntKind.i64 (1000 : Int) (p.ar Go.BinOp.sub Go.IntKind.i64 y169.2.1 y169.1)))), (Bool.true, ())))
noncomputable def F35 : Prim → Tup (ctr35).scs → Option (STup (scss (ctr35).outs)) :=
  fun p x => G35 p x
theorem eq35 (p : Prim) (x : Tup (ctr35).scs) : bodyRun opt p (autoEnv Go.Proofs.Try.prog) (mkOrc opt p (autoEnv Go.Proofs.Try.prog) 400 (an35) la35) 400 ctr35 x = G35 p x := by kernel_rfl
theorem gok35 : GamOk Go.Proofs.Try.prog (gam35) := by
  intro cf h
  simp only [gam35, List.mem_cons, List.not_mem_nil, or_false] at h
  rcases h with rfl
  · exact ok23
theorem enters35 : Enters Go.Proofs.Try.prog 35 := enters_auto (b := _) rfl (by kernel_rfl)
theorem ok35 : CtrOk Go.Proofs.Try.prog ctr35 (F35 std) := ctr_of_body (autoEnv_ok follows_mixed) (mkOrc_ok (autoEnv_ok follows_mixed) gok35 _) enters35 (fun x => eq35 std x)
end Go.Am
end
