/- Texts of this claim. -/
import Derived.Test.YtnmgimjamahalaaGl
import Derived.Test.YtnmgimjamahalaaProg
import Derived.KernelRfl
section
set_option linter.unusedVariables false
set_option maxRecDepth 100000
set_option maxHeartbeats 0
namespace Go.Am
noncomputable def ctr29 : Ctr :=
  ⟨29, [.list 3, .list 1], [], [(.ret, ⟨[(0, .vec 0 1)], [.row [(Go.Am.CK.int Go.IntKind.i64)]], 1⟩)]⟩
noncomputable def la29 : List LA :=
  [⟨29, [false, true, false, true, true, true], ⟨⟨[(0, .list 3), (1, .list 1), (5, .int Go.IntKind.i64), (6, .vec 0 1), (7, .int Go.IntKind.i64)], [.row [(Go.Am.CK.int Go.IntKind.i64)]], 34⟩, [((Go.Am.AX.exit 0), ⟨[(6, .vec 0 1)], [.row [(Go.Am.CK.int Go.IntKind.i64)]], 34⟩)]⟩⟩]
noncomputable def ja29 : List JA :=
  [⟨29, [true, false, false, false, true, false, false, true, false, true, true, true], [(Go.Am.AX.normal, ⟨[(0, .list 3), (1, .list 1), (5, .int Go.IntKind.i64), (6, .vec 0 1), (7, .int Go.IntKind.i64)], [.row [(Go.Am.CK.int Go.IntKind.i64)]], 34⟩)]⟩]
noncomputable def gam29 : List CF :=
  [⟨ctr28, F28⟩]
noncomputable def an29 : Anns :=
  ⟨gam29, ja29, []⟩
noncomputable def b29_1 (p : Prim) : (List (List (Go.Am.D)) × (List (List (Go.Am.D)) × (List (List (Go.Am.D)) × (Int × (Int × Unit))))) → Option ((List (List (Go.Am.D)) × (List (List (Go.Am.D)) × (List (List (Go.Am.D)) × (Int × (Int × Unit))))) ⊕ (List (List (Go.Am.D)) × Unit)) :=
  fun s249 => opt.run _ (
     opt.bnd ((List (List (Go.Am.D)) × Unit)) _ (G28 p (s249.2.1, ())) fun y250 =>
     opt.ask _ (p.cmp Go.BinOp.lss s249.2.2.2.2.1 (p.ofNat (p.len y250.1))) (
      opt.bnd ((List (List (Go.Am.D)) × (List (List (Go.Am.D)) × (List (List (Go.Am.D)) × (Int × (Int × Unit)))))) _ (
        opt.run ((List (List (Go.Am.D)) × (List (List (Go.Am.D)) × (List (List (Go.Am.D)) × (Int × (Int × Unit)))))) (
         opt.ask _ (p.cmp Go.BinOp.gtr (p.ofNat (p.len s249.2.2.1)) (0 : Int)) (
          opt.need _ (p.cmp Go.BinOp.neq (p.ofNat (p.len s249.2.2.1)) (0 : Int)) <|
          opt.need _ (p.rowOk s249.2.2.1 (p.nat (p.ar Go.BinOp.rem Go.IntKind.i64 s249.2.2.2.2.1 (p.ofNat (p.len s249.2.2.1)))) [(Go.Am.CK.int Go.IntKind.u16)]) <|
          opt.need _ (p.cmp Go.BinOp.geq (p.ar Go.BinOp.rem Go.IntKind.i64 s249.2.2.2.2.1 (p.ofNat (p.len s249.2.2.1))) (0 : Int)) <|
          opt.need _ (p.cmp Go.BinOp.neq (100 : Int) (0 : Int)) <|
          opt.need _ (p.eqN 0 0) <|
          opt.need _ (p.eqN (p.len s249.1) (p.len s249.1)) <|
          opt.ret _ (s249.1, (s249.2.1, (s249.2.2.1, ((p.ar Go.BinOp.add Go.IntKind.i64 s249.2.2.2.1 (p.cvt Go.IntKind.i64 (p.ar Go.BinOp.rem Go.IntKind.u16 (p.rdI s249.2.2.1 (p.nat (p.ar Go.BinOp.rem Go.IntKind.i64 s249.2.2.2.2.1 (p.ofNat (p.len s249.2.2.1)))) 0) (100 : Int)))), (s249.2.2.2.2.1, ())))))) (
          opt.need _ (p.eqN 0 0) <|
          opt.need _ (p.eqN (p.len s249.1) (p.len s249.1)) <|
          opt.ret _ (s249.1, (s249.2.1, (s249.2.2.1, (s249.2.2.2.1, (s249.2.2.2.2.1, ())))))))) fun y251 =>
      opt.need _ (p.and (p.leN (p.add 0 1) (p.len [[(Go.Am.D.int Go.IntKind.i64 y251.2.2.2.1)]])) (p.and (p.leN (p.add 0 (p.len y251.1)) (p.len y251.1)) (p.and (p.leN 1 1) (p.leN (p.add (p.len y251.1) 1) 1000000)))) <|
      opt.need _ (p.eqN 0 0) <|
      opt.need _ (p.eqN (p.add (p.len y251.1) 1) (p.len (p.app (p.cut y251.1 0 (p.len y251.1)) (p.cut [[(Go.Am.D.int Go.IntKind.i64 y251.2.2.2.1)]] 0 1)))) <|
      opt.ret _ (Sum.inl ((p.app (p.cut y251.1 0 (p.len y251.1)) (p.cut [[(Go.Am.D.int Go.IntKind.i64 y251.2.2.2.1)]] 0 1)), (y251.2.1, (y251.2.2.1, (y251.2.2.2.1, ((p.ar Go.BinOp.add Go.IntKind.i64 y251.2.2.2.2.1 (1 : Int)), ()))))))) (
      opt.need _ (p.eqN 0 0) <|
      opt.need _ (p.eqN (p.len s249.1) (p.len s249.1)) <|
      opt.ret _ (Sum.inr (s249.1, ()))))
noncomputable def G29 : (p : Prim) → (List (List (Go.Am.D)) × (List (List (Go.Am.D)) × Unit)) → Option ((List (List (Go.Am.D)) × Unit)) :=
  fun p x =>
  opt.bnd ((List (List (Go.Am.D)) × Unit)) _ (
    iter (b29_1 p) ([], (x.1, (x.2.1, ((0 : Int), ((0 : Int), ())))))) fun y252 =>
  opt.need _ (p.eqN 0 0) <|
  opt.need _ (p.eqN (p.len y252.1) (p.len y252.1)) <|
  opt.ret _ (y252.1, ())
noncomputable def F29 : Prim → Tup (ctr29).scs → Option (STup (scss (ctr29).outs)) :=
  fun p x => G29 p x
theorem eq29 (p : Prim) (x : Tup (ctr29).scs) : bodyRun opt p (autoEnv Go.Proofs.Try.prog) (mkOrc opt p (autoEnv Go.Proofs.Try.prog) 400 (an29) la29) 400 ctr29 x = G29 p x := by kernel_rfl
theorem gok29 : GamOk Go.Proofs.Try.prog (gam29) := by
  intro cf h
  simp only [gam29, List.mem_cons, List.not_mem_nil, or_false] at h
  rcases h with rfl
  · exact ok28
theorem enters29 : Enters Go.Proofs.Try.prog 29 := enters_auto (b := _) rfl (by kernel_rfl)
theorem ok29 : CtrOk Go.Proofs.Try.prog ctr29 (F29 std) := ctr_of_body (autoEnv_ok follows_mixed) (mkOrc_ok (autoEnv_ok follows_mixed) gok29 _) enters29 (fun x => eq29 std x)
noncomputable def ctr7 : Ctr :=
  ⟨7, [.list 3, .list 1, .list 4], [], [(.ret, ⟨[(0, .bool)], [], 1⟩)]⟩
noncomputable def la7 : List LA :=
  [⟨7, [false, true, false, true, true], ⟨⟨[(0, .list 3), (1, .list 1), (2, .list 4), (7, .int Go.IntKind.i64)], [], 172⟩, [(Go.Am.AX.ret, ⟨[(6, .bool)], [], 172⟩), ((Go.Am.AX.exit 0), ⟨[(0, .list 3), (1, .list 1), (2, .list 4)], [], 172⟩)]⟩⟩,
   ⟨7, [false, true, false, true, true, true, true, true, true, true], ⟨⟨[(0, .list 3), (8, .vec 0 4), (10, .vec 1 1), (11, .vec 2 1), (12, .int Go.IntKind.i64)], [.row [(Go.Am.CK.int Go.IntKind.i64), (Go.Am.CK.int Go.IntKind.i64), (Go.Am.CK.int Go.IntKind.i64), (Go.Am.CK.int Go.IntKind.i64)], .row [(Go.Am.CK.int Go.IntKind.i64)], .row [(Go.Am.CK.int Go.IntKind.i64)]], 172⟩, [(Go.Am.AX.ret, ⟨[(6, .bool)], [], 172⟩), ((Go.Am.AX.exit 2), ⟨[], [], 172⟩)]⟩⟩,
   ⟨7, [false, true, false, true, false, false, true, false, false, true, false, true, true, true, true, true, true, true], ⟨⟨[(0, .list 3), (8, .vec 0 4), (10, .vec 1 1), (11, .vec 2 1), (12, .int Go.IntKind.i64), (13, .int Go.IntKind.i64), (14, .int Go.IntKind.i64)], [.row [(Go.Am.CK.int Go.IntKind.i64), (Go.Am.CK.int Go.IntKind.i64), (Go.Am.CK.int Go.IntKind.i64), (Go.Am.CK.int Go.IntKind.i64)], .row [(Go.Am.CK.int Go.IntKind.i64)], .row [(Go.Am.CK.int Go.IntKind.i64)]], 172⟩, [((Go.Am.AX.exit 4), ⟨[(0, .list 3), (8, .vec 0 4), (10, .vec 1 1), (11, .vec 2 1), (12, .int Go.IntKind.i64), (13, .int Go.IntKind.i64)], [.row [(Go.Am.CK.int Go.IntKind.i64), (Go.Am.CK.int Go.IntKind.i64), (Go.Am.CK.int Go.IntKind.i64), (Go.Am.CK.int Go.IntKind.i64)], .row [(Go.Am.CK.int Go.IntKind.i64)], .row [(Go.Am.CK.int Go.IntKind.i64)]], 172⟩)]⟩⟩]
noncomputable def ja7 : List JA :=
  [⟨7, [false, false, false, true, false, false, true, false, true, true], [(Go.Am.AX.normal, ⟨[(0, .list 3), (1, .list 1), (2, .list 4), (7, .int Go.IntKind.i64), (65, .bool)], [], 172⟩)]⟩,
   ⟨7, [false, true, false, false, true, false, true, false, false, true, false, false, true, false, true, true, true, true, true, true, true], [(Go.Am.AX.normal, ⟨[(0, .list 3), (8, .vec 0 4), (10, .vec 1 1), (11, .vec 2 1), (12, .int Go.IntKind.i64), (13, .int Go.IntKind.i64), (14, .int Go.IntKind.i64)], [.row [(Go.Am.CK.int Go.IntKind.i64), (Go.Am.CK.int Go.IntKind.i64), (Go.Am.CK.int Go.IntKind.i64), (Go.Am.CK.int Go.IntKind.i64)], .row [(Go.Am.CK.int Go.IntKind.i64)], .row [(Go.Am.CK.int Go.IntKind.i64)]], 172⟩)]⟩,
   ⟨7, [false, false, true, true, true, true, true], [(Go.Am.AX.normal, ⟨[(0, .list 3), (1, .list 1), (8, .vec 0 4), (95, .bool)], [.row [(Go.Am.CK.int Go.IntKind.i64), (Go.Am.CK.int Go.IntKind.i64), (Go.Am.CK.int Go.IntKind.i64), (Go.Am.CK.int Go.IntKind.i64)]], 172⟩)]⟩,
   ⟨7, [false, false, true, true, true, true], [(Go.Am.AX.normal, ⟨[(0, .list 3), (1, .list 1), (2, .list 4), (8, .vec 0 4), (85, .bool)], [.row [(Go.Am.CK.int Go.IntKind.i64), (Go.Am.CK.int Go.IntKind.i64), (Go.Am.CK.int Go.IntKind.i64), (Go.Am.CK.int Go.IntKind.i64)]], 172⟩)]⟩,
   ⟨7, [false, false, true], [(Go.Am.AX.normal, ⟨[(0, .list 3), (1, .list 1), (2, .list 4), (28, .bool)], [], 172⟩)]⟩]
noncomputable def gam7 : List CF :=
  [⟨ctr30, F30⟩, ⟨ctr29, F29⟩, ⟨ctr28, F28⟩, ⟨ctr18, F18⟩, ⟨ctr20, F20⟩, ⟨ctr19, F19⟩, ⟨ctr14, F14⟩, ⟨ctr13, F13⟩, ⟨ctr27, F27⟩]
noncomputable def an7 : Anns :=
  ⟨gam7, ja7, []⟩
noncomputable def b7_3 (p : Prim) : (List (List (Go.Am.D)) × (List (List (Go.Am.D)) × (List (List (Go.Am.D)) × (List (List (Go.Am.D)) × (Int × (Int × (Int × Unit))))))) → Option ((List (List (Go.Am.D)) × (List (List (Go.Am.D)) × (List (List (Go.Am.D)) × (List (List (Go.Am.D)) × (Int × (Int × (Int × Unit))))))) ⊕ (List (List (Go.Am.D)) × (List (List (Go.Am.D)) × (List (List (Go.Am.D)) × (List (List (Go.Am.D)) × (Int × (Int × Unit))))))) :=
  fun s295 => opt.run _ (
             opt.ask _ (p.cmp Go.BinOp.lss s295.2.2.2.2.2.2.1 (p.ofNat (p.len s295.2.1))) (
              opt.bnd ((List (List (Go.Am.D)) × (List (List (Go.Am.D)) × (List (List (Go.Am.D)) × (List (List (Go.Am.D)) × (Int × (Int × (Int × Unit)))))))) _ (
                opt.run ((List (List (Go.Am.D)) × (List (List (Go.Am.D)) × (List (List (Go.Am.D)) × (List (List (Go.Am.D)) × (Int × (Int × (Int × Unit)))))))) (
                 opt.need _ (bif (p.cmp Go.BinOp.geq s295.2.2.2.2.2.2.1 (0 : Int)) then (p.cmp Go.BinOp.lss s295.2.2.2.2.2.2.1 (p.ofNat (p.len s295.2.1))) else Bool.false) <|
                 opt.need _ (p.rowOk s295.2.1 (p.add 0 (p.nat s295.2.2.2.2.2.2.1)) [(Go.Am.CK.int Go.IntKind.i64)]) <|
                 opt.need _ (bif (p.cmp Go.BinOp.geq s295.2.2.2.2.1 (0 : Int)) then (p.cmp Go.BinOp.lss s295.2.2.2.2.1 (p.ofNat (p.len s295.1))) else Bool.false) <|
                 opt.need _ (p.rowOk s295.1 (p.add 0 (p.nat s295.2.2.2.2.1)) [(Go.Am.CK.int Go.IntKind.i64), (Go.Am.CK.int Go.IntKind.i64), (Go.Am.CK.int Go.IntKind.i64), (Go.Am.CK.int Go.IntKind.i64)]) <|
                 opt.ask _ (p.cmp Go.BinOp.lss (p.rdI s295.2.1 (p.add 0 (p.nat s295.2.2.2.2.2.2.1)) 0) (p.rdI s295.1 (p.add 0 (p.nat s295.2.2.2.2.1)) 0)) (
                  opt.need _ (p.eqN 0 0) <|
                  opt.need _ (p.eqN (p.len s295.1) (p.len s295.1)) <|
                  opt.need _ (p.eqN 0 0) <|
                  opt.need _ (p.eqN (p.len s295.2.1) (p.len s295.2.1)) <|
                  opt.need _ (p.eqN 0 0) <|
                  opt.need _ (p.eqN (p.len s295.2.2.1) (p.len s295.2.2.1)) <|
                  opt.ret _ (s295.1, (s295.2.1, (s295.2.2.1, (s295.2.2.2.1, (s295.2.2.2.2.1, (s295.2.2.2.2.2.1, (s295.2.2.2.2.2.2.1, ())))))))) (
                  opt.need _ (bif (p.cmp Go.BinOp.geq s295.2.2.2.2.2.2.1 (0 : Int)) then (p.cmp Go.BinOp.lss s295.2.2.2.2.2.2.1 (p.ofNat (p.len s295.2.1))) else Bool.false) <|
                  opt.need _ (p.rowOk s295.2.1 (p.add 0 (p.nat s295.2.2.2.2.2.2.1)) [(Go.Am.CK.int Go.IntKind.i64)]) <|
                  opt.need _ (bif (p.cmp Go.BinOp.geq s295.2.2.2.2.1 (0 : Int)) then (p.cmp Go.BinOp.lss s295.2.2.2.2.1 (p.ofNat (p.len s295.1))) else Bool.false) <|
                  opt.need _ (p.rowOk s295.1 (p.add 0 (p.nat s295.2.2.2.2.1)) [(Go.Am.CK.int Go.IntKind.i64), (Go.Am.CK.int Go.IntKind.i64), (Go.Am.CK.int Go.IntKind.i64), (Go.Am.CK.int Go.IntKind.i64)]) <|
                  opt.ask _ (p.cmp Go.BinOp.gtr (p.rdI s295.2.1 (p.add 0 (p.nat s295.2.2.2.2.2.2.1)) 0) (p.rdI s295.1 (p.add 0 (p.nat s295.2.2.2.2.1)) 1)) (
                   opt.need _ (p.eqN 0 0) <|
                   opt.need _ (p.eqN (p.len s295.1) (p.len s295.1)) <|
                   opt.need _ (p.eqN 0 0) <|
                   opt.need _ (p.eqN (p.len s295.2.1) (p.len s295.2.1)) <|
                   opt.need _ (p.eqN 0 0) <|
                   opt.need _ (p.eqN (p.len s295.2.2.1) (p.len s295.2.2.1)) <|
                   opt.ret _ (s295.1, (s295.2.1, (s295.2.2.1, (s295.2.2.2.1, (s295.2.2.2.2.1, (s295.2.2.2.2.2.1, (s295.2.2.2.2.2.2.1, ())))))))) (
                   opt.need _ (bif (p.cmp Go.BinOp.geq s295.2.2.2.2.2.2.1 (0 : Int)) then (p.cmp Go.BinOp.lss s295.2.2.2.2.2.2.1 (p.ofNat (p.len s295.2.1))) else Bool.false) <|
                   opt.need _ (p.rowOk s295.2.1 (p.add 0 (p.nat s295.2.2.2.2.2.2.1)) [(Go.Am.CK.int Go.IntKind.i64)]) <|
                   opt.need _ (bif (p.cmp Go.BinOp.geq s295.2.2.2.2.2.2.1 (0 : Int)) then (p.cmp Go.BinOp.lss s295.2.2.2.2.2.2.1 (p.ofNat (p.len s295.2.1))) else Bool.false) <|
                   opt.need _ (p.rowOk s295.2.1 (p.add 0 (p.nat s295.2.2.2.2.2.2.1)) [(Go.Am.CK.int Go.IntKind.i64)]) <|
                   opt.bnd ((Int × (Int × (Int × (Int × Unit))))) _ (G30 p (s295.2.2.2.1, ((p.rdI s295.2.1 (p.add 0 (p.nat s295.2.2.2.2.2.2.1)) 0), ((p.rdI s295.2.1 (p.add 0 (p.nat s295.2.2.2.2.2.2.1)) 0), ())))) fun y296 =>
                   opt.need _ (bif (p.cmp Go.BinOp.geq s295.2.2.2.2.1 (0 : Int)) then (p.cmp Go.BinOp.lss s295.2.2.2.2.1 (p.ofNat (p.len s295.1))) else Bool.false) <|
                   opt.need _ (p.rowOk s295.1 (p.add 0 (p.nat s295.2.2.2.2.1)) [(Go.Am.CK.int Go.IntKind.i64), (Go.Am.CK.int Go.IntKind.i64), (Go.Am.CK.int Go.IntKind.i64), (Go.Am.CK.int Go.IntKind.i64)]) <|
                   opt.need _ (bif (p.cmp Go.BinOp.geq s295.2.2.2.2.1 (0 : Int)) then (p.cmp Go.BinOp.lss s295.2.2.2.2.1 (p.ofNat (p.len s295.1))) else Bool.false) <|
                   opt.need _ (p.rowOk s295.1 (p.add 0 (p.nat s295.2.2.2.2.1)) [(Go.Am.CK.int Go.IntKind.i64), (Go.Am.CK.int Go.IntKind.i64), (Go.Am.CK.int Go.IntKind.i64), (Go.Am.CK.int Go.IntKind.i64)]) <|
                   opt.need _ (bif (p.cmp Go.BinOp.geq s295.2.2.2.2.2.2.1 (0 : Int)) then (p.cmp Go.BinOp.lss s295.2.2.2.2.2.2.1 (p.ofNat (p.len s295.2.2.1))) else Bool.false) <|
                   opt.need _ (p.rowOk s295.2.2.1 (p.add 0 (p.nat s295.2.2.2.2.2.2.1)) [(Go.Am.CK.int Go.IntKind.i64)]) <|
                   opt.need _ (p.eqN 0 0) <|
                   opt.need _ (p.eqN (p.len s295.1) (p.len s295.1)) <|
                   opt.need _ (p.eqN 0 0) <|
                   opt.need _ (p.eqN (p.len s295.2.1) (p.len s295.2.1)) <|
                   opt.need _ (p.eqN 0 0) <|
                   opt.need _ (p.eqN (p.len s295.2.2.1) (p.len s295.2.2.1)) <|
                   opt.ret _ (s295.1, (s295.2.1, (s295.2.2.1, (s295.2.2.2.1, (s295.2.2.2.2.1, ((p.ar Go.BinOp.add Go.IntKind.i64 s295.2.2.2.2.2.1 (p.ar Go.BinOp.mul Go.IntKind.i64 (p.ar Go.BinOp.sub Go.IntKind.i64 (p.ar Go.BinOp.mul Go.IntKind.i64 y296.2.2.2.1 (p.rdI s295.1 (p.add 0 (p.nat s295.2.2.2.2.1)) 2)) (p.ar Go.BinOp.mul Go.IntKind.i64 (p.rdI s295.1 (p.add 0 (p.nat s295.2.2.2.2.1)) 3) y296.2.2.1)) (p.rdI s295.2.2.1 (p.add 0 (p.nat s295.2.2.2.2.2.2.1)) 0))), (s295.2.2.2.2.2.2.1, ()))))))))))) fun y297 =>
              opt.need _ (p.eqN 0 0) <|
              opt.need _ (p.eqN (p.len y297.1) (p.len y297.1)) <|
              opt.need _ (p.eqN 0 0) <|
              opt.need _ (p.eqN (p.len y297.2.1) (p.len y297.2.1)) <|
              opt.need _ (p.eqN 0 0) <|
              opt.need _ (p.eqN (p.len y297.2.2.1) (p.len y297.2.2.1)) <|
              opt.ret _ (Sum.inl (y297.1, (y297.2.1, (y297.2.2.1, (y297.2.2.2.1, (y297.2.2.2.2.1, (y297.2.2.2.2.2.1, ((p.ar Go.BinOp.add Go.IntKind.i64 y297.2.2.2.2.2.2.1 (1 : Int)), ()))))))))) (
              opt.need _ (p.eqN 0 0) <|
              opt.need _ (p.eqN (p.len s295.1) (p.len s295.1)) <|
              opt.need _ (p.eqN 0 0) <|
              opt.need _ (p.eqN (p.len s295.2.1) (p.len s295.2.1)) <|
              opt.need _ (p.eqN 0 0) <|
              opt.need _ (p.eqN (p.len s295.2.2.1) (p.len s295.2.2.1)) <|
              opt.ret _ (Sum.inr (s295.1, (s295.2.1, (s295.2.2.1, (s295.2.2.2.1, (s295.2.2.2.2.1, (s295.2.2.2.2.2.1, ())))))))))
noncomputable def b7_2 (p : Prim) : (List (List (Go.Am.D)) × (List (List (Go.Am.D)) × (List (List (Go.Am.D)) × (List (List (Go.Am.D)) × (Int × Unit))))) → Option ((List (List (Go.Am.D)) × (List (List (Go.Am.D)) × (List (List (Go.Am.D)) × (List (List (Go.Am.D)) × (Int × Unit))))) ⊕ ((Bool × Unit) ⊕ Unit)) :=
  fun s294 => opt.run _ (
         opt.ask _ (p.cmp Go.BinOp.lss s294.2.2.2.2.1 (p.ofNat (p.len s294.1))) (
          opt.need _ (p.eqN 0 0) <|
          opt.need _ (p.eqN (p.len s294.1) (p.len s294.1)) <|
          opt.need _ (p.eqN 0 0) <|
          opt.need _ (p.eqN (p.len s294.2.1) (p.len s294.2.1)) <|
          opt.need _ (p.eqN 0 0) <|
          opt.need _ (p.eqN (p.len s294.2.2.1) (p.len s294.2.2.1)) <|
          opt.bnd ((List (List (Go.Am.D)) × (List (List (Go.Am.D)) × (List (List (Go.Am.D)) × (List (List (Go.Am.D)) × (Int × (Int × Unit))))))) _ (
            iter (b7_3 p) (s294.1, (s294.2.1, (s294.2.2.1, (s294.2.2.2.1, (s294.2.2.2.2.1, ((0 : Int), ((0 : Int), ())))))))) fun y298 =>
          opt.ask _ (p.cmp Go.BinOp.gtr y298.2.2.2.2.2.1 (0 : Int)) (
           opt.ret _ (Sum.inr (Sum.inl (Bool.false, ())))) (
           opt.need _ (p.eqN 0 0) <|
           opt.need _ (p.eqN (p.len y298.1) (p.len y298.1)) <|
           opt.need _ (p.eqN 0 0) <|
           opt.need _ (p.eqN (p.len y298.2.1) (p.len y298.2.1)) <|
           opt.need _ (p.eqN 0 0) <|
           opt.need _ (p.eqN (p.len y298.2.2.1) (p.len y298.2.2.1)) <|
           opt.ret _ (Sum.inl (y298.1, (y298.2.1, (y298.2.2.1, (y298.2.2.2.1, ((p.ar Go.BinOp.add Go.IntKind.i64 y298.2.2.2.2.1 (1 : Int)), ())))))))) (
          opt.ret _ (Sum.inr (Sum.inr ()))))
noncomputable def b7_1 (p : Prim) : (List (List (Go.Am.D)) × (List (List (Go.Am.D)) × (List (List (Go.Am.D)) × (Int × Unit)))) → Option ((List (List (Go.Am.D)) × (List (List (Go.Am.D)) × (List (List (Go.Am.D)) × (Int × Unit)))) ⊕ ((Bool × Unit) ⊕ (List (List (Go.Am.D)) × (List (List (Go.Am.D)) × (List (List (Go.Am.D)) × Unit))))) :=
  fun s279 => opt.run _ (
      opt.ask _ (p.cmp Go.BinOp.lss s279.2.2.2.1 (p.ofNat (p.len s279.2.2.1))) (
       opt.bnd ((List (List (Go.Am.D)) × (List (List (Go.Am.D)) × (List (List (Go.Am.D)) × (Int × (Bool × Unit)))))) _ (
         opt.run ((List (List (Go.Am.D)) × (List (List (Go.Am.D)) × (List (List (Go.Am.D)) × (Int × (Bool × Unit)))))) (
          opt.need _ (p.rowOk s279.2.2.1 (p.nat s279.2.2.2.1) [(Go.Am.CK.int Go.IntKind.i64), (Go.Am.CK.int Go.IntKind.i64), (Go.Am.CK.int Go.IntKind.i64), (Go.Am.CK.int Go.IntKind.i64)]) <|
          opt.need _ (p.cmp Go.BinOp.geq s279.2.2.2.1 (0 : Int)) <|
          opt.ask _ (p.cmp Go.BinOp.lss (p.rdI s279.2.2.1 (p.nat s279.2.2.2.1) 2) (-1099511627776 : Int)) (
           opt.ret _ (s279.1, (s279.2.1, (s279.2.2.1, (s279.2.2.2.1, (Bool.true, ())))))) (
           opt.need _ (p.rowOk s279.2.2.1 (p.nat s279.2.2.2.1) [(Go.Am.CK.int Go.IntKind.i64), (Go.Am.CK.int Go.IntKind.i64), (Go.Am.CK.int Go.IntKind.i64), (Go.Am.CK.int Go.IntKind.i64)]) <|
           opt.need _ (p.cmp Go.BinOp.geq s279.2.2.2.1 (0 : Int)) <|
           opt.ask _ (p.cmp Go.BinOp.gtr (p.rdI s279.2.2.1 (p.nat s279.2.2.2.1) 2) (1099511627776 : Int)) (
            opt.ret _ (s279.1, (s279.2.1, (s279.2.2.1, (s279.2.2.2.1, (Bool.true, ())))))) (
            opt.need _ (p.rowOk s279.2.2.1 (p.nat s279.2.2.2.1) [(Go.Am.CK.int Go.IntKind.i64), (Go.Am.CK.int Go.IntKind.i64), (Go.Am.CK.int Go.IntKind.i64), (Go.Am.CK.int Go.IntKind.i64)]) <|
            opt.need _ (p.cmp Go.BinOp.geq s279.2.2.2.1 (0 : Int)) <|
            opt.ask _ (p.cmp Go.BinOp.lss (p.rdI s279.2.2.1 (p.nat s279.2.2.2.1) 3) (-1099511627776 : Int)) (
             opt.ret _ (s279.1, (s279.2.1, (s279.2.2.1, (s279.2.2.2.1, (Bool.true, ())))))) (
             opt.need _ (p.rowOk s279.2.2.1 (p.nat s279.2.2.2.1) [(Go.Am.CK.int Go.IntKind.i64), (Go.Am.CK.int Go.IntKind.i64), (Go.Am.CK.int Go.IntKind.i64), (Go.Am.CK.int Go.IntKind.i64)]) <|
             opt.need _ (p.cmp Go.BinOp.geq s279.2.2.2.1 (0 : Int)) <|
             opt.ret _ (s279.1, (s279.2.1, (s279.2.2.1, (s279.2.2.2.1, ((p.cmp Go.BinOp.gtr (p.rdI s279.2.2.1 (p.nat s279.2.2.2.1) 3) (1099511627776 : Int)), ())))))))))) fun y280 =>
       opt.ask _ y280.2.2.2.2.1 (
        opt.bnd ((Bool × Unit)) _ (G13 p ()) fun y281 =>
        opt.ret _ (Sum.inr (Sum.inl (y281.1, ())))) (
        opt.ret _ (Sum.inl (y280.1, (y280.2.1, (y280.2.2.1, ((p.ar Go.BinOp.add Go.IntKind.i64 y280.2.2.2.1 (1 : Int)), ()))))))) (
       opt.ret _ (Sum.inr (Sum.inr (s279.1, (s279.2.1, (s279.2.2.1, ())))))))
noncomputable def G7 : (p : Prim) → (List (List (Go.Am.D)) × (List (List (Go.Am.D)) × (List (List (Go.Am.D)) × Unit))) → Option ((Bool × Unit)) :=
  fun p x =>
  opt.bnd ((List (List (Go.Am.D)) × (List (List (Go.Am.D)) × (List (List (Go.Am.D)) × (Bool × Unit))))) _ (
    opt.run ((List (List (Go.Am.D)) × (List (List (Go.Am.D)) × (List (List (Go.Am.D)) × (Bool × Unit))))) (
     opt.bnd ((Bool × Unit)) _ (G27 p (x.1, ())) fun y276 =>
     opt.ask _ (bif y276.1 then Bool.false else Bool.true) (
      opt.ret _ (x.1, (x.2.1, (x.2.2.1, (Bool.true, ()))))) (
      opt.ask _ (p.cmp Go.BinOp.gtr (p.ofNat (p.len x.2.1)) (40 : Int)) (
       opt.ret _ (x.1, (x.2.1, (x.2.2.1, (Bool.true, ()))))) (
       opt.ret _ (x.1, (x.2.1, (x.2.2.1, ((p.cmp Go.BinOp.gtr (p.ofNat (p.len x.2.2.1)) (30 : Int)), ())))))))) fun y277 =>
  opt.ask _ y277.2.2.2.1 (
   opt.bnd ((Bool × Unit)) _ (G13 p ()) fun y278 =>
   opt.ret _ (y278.1, ())) (
   opt.alt ((Bool × Unit)) ((List (List (Go.Am.D)) × (List (List (Go.Am.D)) × (List (List (Go.Am.D)) × Unit)))) _ (
     iter (b7_1 p) (y277.1, (y277.2.1, (y277.2.2.1, ((0 : Int), ()))))) (fun y282 =>
    opt.ret _ (y282.1, ())) (fun y283 =>
    opt.bnd ((List (List (Go.Am.D)) × (List (List (Go.Am.D)) × (List (List (Go.Am.D)) × Unit)))) _ (some y283) fun y284 =>
    opt.bnd ((List (List (Go.Am.D)) × (Int × Unit))) _ (G14 p (y284.1, ())) fun y285 =>
    opt.bnd ((List (List (Go.Am.D)) × (List (List (Go.Am.D)) × (List (List (Go.Am.D)) × (List (List (Go.Am.D)) × (Bool × Unit)))))) _ (
      opt.run ((List (List (Go.Am.D)) × (List (List (Go.Am.D)) × (List (List (Go.Am.D)) × (List (List (Go.Am.D)) × (Bool × Unit)))))) (
       opt.ask _ (p.cmp Go.BinOp.neq y285.2.1 (0 : Int)) (
        opt.need _ (p.eqN 0 0) <|
        opt.need _ (p.eqN (p.len y285.1) (p.len y285.1)) <|
        opt.ret _ (y285.1, (y284.1, (y284.2.1, (y284.2.2.1, (Bool.true, ())))))) (
        opt.need _ (p.and Bool.true (p.and (p.leN (p.add 0 (p.len y285.1)) (p.len y285.1)) Bool.true)) <|
        opt.bnd ((Int × Unit)) _ (G19 p (y284.1, ((p.cut y285.1 0 (p.len y285.1)), ()))) fun y286 =>
        opt.ask _ (p.cmp Go.BinOp.neq y286.1 (0 : Int)) (
         opt.need _ (p.eqN 0 0) <|
         opt.need _ (p.eqN (p.len y285.1) (p.len y285.1)) <|
         opt.ret _ (y285.1, (y284.1, (y284.2.1, (y284.2.2.1, (Bool.true, ())))))) (
         opt.need _ (p.and Bool.true (p.and (p.leN (p.add 0 (p.len y285.1)) (p.len y285.1)) Bool.true)) <|
         opt.bnd ((Int × Unit)) _ (G20 p (y284.1, ((p.cut y285.1 0 (p.len y285.1)), ()))) fun y287 =>
         opt.need _ (p.eqN 0 0) <|
         opt.need _ (p.eqN (p.len y285.1) (p.len y285.1)) <|
         opt.ret _ (y285.1, (y284.1, (y284.2.1, (y284.2.2.1, ((p.cmp Go.BinOp.neq y287.1 (0 : Int)), ()))))))))) fun y288 =>
    opt.ask _ y288.2.2.2.2.1 (
     opt.ret _ (Bool.false, ())) (
     opt.bnd ((List (List (Go.Am.D)) × (List (List (Go.Am.D)) × (List (List (Go.Am.D)) × (Bool × Unit))))) _ (
       opt.run ((List (List (Go.Am.D)) × (List (List (Go.Am.D)) × (List (List (Go.Am.D)) × (Bool × Unit))))) (
        opt.bnd ((Int × Unit)) _ (G19 p (y288.2.1, (y288.2.2.2.1, ()))) fun y289 =>
        opt.ask _ (p.cmp Go.BinOp.eql y289.1 (0 : Int)) (
         opt.need _ (p.and Bool.true (p.and (p.leN (p.add 0 (p.len y288.1)) (p.len y288.1)) Bool.true)) <|
         opt.bnd ((Bool × Unit)) _ (G18 p (y288.2.2.2.1, ((p.cut y288.1 0 (p.len y288.1)), ()))) fun y290 =>
         opt.need _ (p.eqN 0 0) <|
         opt.need _ (p.eqN (p.len y288.1) (p.len y288.1)) <|
         opt.ret _ (y288.1, (y288.2.1, (y288.2.2.1, ((bif y290.1 then Bool.false else Bool.true), ()))))) (
         opt.need _ (p.eqN 0 0) <|
         opt.need _ (p.eqN (p.len y288.1) (p.len y288.1)) <|
         opt.ret _ (y288.1, (y288.2.1, (y288.2.2.1, (Bool.false, ()))))))) fun y291 =>
     opt.ask _ y291.2.2.2.1 (
      opt.ret _ (Bool.false, ())) (
      opt.bnd ((List (List (Go.Am.D)) × Unit)) _ (G28 p (y291.2.1, ())) fun y292 =>
      opt.bnd ((List (List (Go.Am.D)) × Unit)) _ (G29 p (y291.2.1, (y291.2.2.1, ()))) fun y293 =>
      opt.need _ (p.eqN 0 0) <|
      opt.need _ (p.eqN (p.len y291.1) (p.len y291.1)) <|
      opt.need _ (p.eqN 0 0) <|
      opt.need _ (p.eqN (p.len y292.1) (p.len y292.1)) <|
      opt.need _ (p.eqN 0 0) <|
      opt.need _ (p.eqN (p.len y293.1) (p.len y293.1)) <|
      opt.alt ((Bool × Unit)) (Unit) _ (
        iter (b7_2 p) (y291.1, (y292.1, (y293.1, (y291.2.1, ((0 : Int), ())))))) (fun y299 =>
       opt.ret _ (y299.1, ())) (fun y300 =>
       opt.bnd (Unit) _ (some y300) fun y301 =>
       opt.bnd ((Bool × Unit)) _ (G13 p ()) fun y302 =>
       opt.ret _ (y302.1, ()))))))
noncomputable def F7 : Prim → Tup (ctr7).scs → Option (STup (scss (ctr7).outs)) :=
  fun p x => G7 p x
theorem eq7 (p : Prim) (x : Tup (ctr7).scs) : bodyRun opt p (autoEnv Go.Proofs.Try.prog) (mkOrc opt p (autoEnv Go.Proofs.Try.prog) 400 (an7) la7) 400 ctr7 x = G7 p x := by kernel_rfl
theorem gok7 : GamOk Go.Proofs.Try.prog (gam7) := by
  intro cf h
  simp only [gam7, List.mem_cons, List.not_mem_nil, or_false] at h
  rcases h with rfl | rfl | rfl | rfl | rfl | rfl | rfl | rfl | rfl
  · exact ok30
  · exact ok29
  · exact ok28
  · exact ok18
  · exact ok20
  · exact ok19
  · exact ok14
  · exact ok13
  · exact ok27
theorem enters7 : Enters Go.Proofs.Try.prog 7 := enters_auto (b := _) rfl (by kernel_rfl)
theorem ok7 : CtrOk Go.Proofs.Try.prog ctr7 (F7 std) := ctr_of_body (autoEnv_ok follows_mixed) (mkOrc_ok (autoEnv_ok follows_mixed) gok7 _) enters7 (fun x => eq7 std x)
end Go.Am
end
