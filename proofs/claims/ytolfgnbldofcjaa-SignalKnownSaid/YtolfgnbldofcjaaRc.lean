/- Texts of this claim. -/
import Derived.Test.YtolfgnbldofcjaaRa
import Derived.Test.YtolfgnbldofcjaaProg
import Derived.KernelRfl
import Derived.Test.YtolfgnbldofcjaaRb
section
set_option linter.unusedVariables false
set_option maxRecDepth 100000
set_option maxHeartbeats 0
namespace Go.Am
noncomputable def ctr55 : Ctr :=
 ⟨55, [.list 2], [], [(.ret, ⟨[(0, .bool)], [], 1⟩)]⟩
noncomputable def la55 : List LA :=
 []
noncomputable def ja55 : List JA :=
 [⟨55, [false, true], 0, [(AX.normal, ⟨[(2, .bool)], [], 11⟩)]⟩]
noncomputable def gam55 : List CF :=
 []
noncomputable def an55 : Anns :=
 ⟨gam55, ja55, []⟩
noncomputable def G55 : (p : Prim) → (List (List (D)) × Unit) → Option ((Bool × Unit)) :=
 fun p x =>
 opt.bnd ((Bool × Unit)) _ (
 opt.run ((Bool × Unit)) (
 opt.ask _ (p.cmp .geq (p.ofNat (p.len x.1)) (1 : Int)) (
 opt.ret _ ((p.cmp .leq (p.ofNat (p.len x.1)) (12 : Int)), ())) (
 opt.ret _ (Bool.false, ())))) fun y8 =>
 opt.ret _ (y8.1, ())
noncomputable def F55 : Prim → Tup (ctr55).scs → Option (STup (scss (ctr55).outs)) :=
 fun p x => G55 p x
theorem eq55 (p : Prim) (x : Tup (ctr55).scs) : bodyRun opt p (autoEnv Go.Proofs.Try.prog) (mkOrc opt p (autoEnv Go.Proofs.Try.prog) 400 (an55) la55) 400 ctr55 x = G55 p x := by kernel_rfl
theorem gok55 : GamOk Go.Proofs.Try.prog gam55 := fun cf h => by cases h
theorem enters55 : Enters Go.Proofs.Try.prog 55 := enters_auto (b := _) rfl (by kernel_rfl)
theorem ok55 : CtrOk Go.Proofs.Try.prog ctr55 (F55 std) := ctr_of_body (autoEnv_ok follows_mixed) (mkOrc_ok (autoEnv_ok follows_mixed) gok55 _) enters55 (fun x => eq55 std x)
noncomputable def ctr56 : Ctr :=
 ⟨56, [.list 2, .int .i64, .int .i64], [], [(.ret, ⟨[(0, .bool)], [], 1⟩)]⟩
noncomputable def la56 : List LA :=
 [⟨56, [false, true, false, true], 0, ⟨⟨[(0, .list 2), (1, .int .i64), (2, .int .i64), (7, .int .i64)], [], 48⟩, [(AX.ret, ⟨[(6, .bool)], [], 48⟩), ((AX.exit 0), ⟨[], [], 48⟩)]⟩⟩]
noncomputable def ja56 : List JA :=
 [⟨56, [false, false, false, true, false, false, true, false, true], 0, [(AX.normal, ⟨[(0, .list 2), (1, .int .i64), (2, .int .i64), (7, .int .i64), (47, .bool)], [], 48⟩)]⟩]
noncomputable def gam56 : List CF :=
 []
noncomputable def an56 : Anns :=
 ⟨gam56, ja56, []⟩
noncomputable def b56_1 (p : Prim) : (List (List (D)) × (Int × (Int × (Int × Unit)))) → Option ((List (List (D)) × (Int × (Int × (Int × Unit)))) ⊕ ((Bool × Unit) ⊕ Unit)) :=
 fun s25 => opt.run _ (
 opt.ask _ (p.cmp .lss s25.2.2.2.1 (p.ofNat (p.len s25.1))) (
 opt.bnd ((List (List (D)) × (Int × (Int × (Int × (Bool × Unit)))))) _ (
 opt.run ((List (List (D)) × (Int × (Int × (Int × (Bool × Unit)))))) (
 opt.need _ (p.rowOk s25.1 (p.nat s25.2.2.2.1) [(CK.int .i64), (CK.int .i64)]) <|
 opt.need _ (p.cmp .geq s25.2.2.2.1 (0 : Int)) <|
 opt.ask _ (p.cmp .lss (p.rdI s25.1 (p.nat s25.2.2.2.1) 0) s25.2.1) (
 opt.ret _ (s25.1, (s25.2.1, (s25.2.2.1, (s25.2.2.2.1, (Bool.true, ())))))) (
 opt.need _ (p.rowOk s25.1 (p.nat s25.2.2.2.1) [(CK.int .i64), (CK.int .i64)]) <|
 opt.need _ (p.cmp .geq s25.2.2.2.1 (0 : Int)) <|
 opt.ask _ (p.cmp .gtr (p.rdI s25.1 (p.nat s25.2.2.2.1) 0) s25.2.2.1) (
 opt.ret _ (s25.1, (s25.2.1, (s25.2.2.1, (s25.2.2.2.1, (Bool.true, ())))))) (
 opt.need _ (p.rowOk s25.1 (p.nat s25.2.2.2.1) [(CK.int .i64), (CK.int .i64)]) <|
 opt.need _ (p.cmp .geq s25.2.2.2.1 (0 : Int)) <|
 opt.ask _ (p.cmp .lss (p.rdI s25.1 (p.nat s25.2.2.2.1) 1) s25.2.1) (
 opt.ret _ (s25.1, (s25.2.1, (s25.2.2.1, (s25.2.2.2.1, (Bool.true, ())))))) (
 opt.need _ (p.rowOk s25.1 (p.nat s25.2.2.2.1) [(CK.int .i64), (CK.int .i64)]) <|
 opt.need _ (p.cmp .geq s25.2.2.2.1 (0 : Int)) <|
 opt.ret _ (s25.1, (s25.2.1, (s25.2.2.1, (s25.2.2.2.1, ((p.cmp .gtr (p.rdI s25.1 (p.nat s25.2.2.2.1) 1) s25.2.2.1), ())))))))))) fun y26 =>
 opt.ask _ y26.2.2.2.2.1 (
 opt.ret _ (Sum.inr (Sum.inl (Bool.false, ())))) (
 opt.ret _ (Sum.inl (y26.1, (y26.2.1, (y26.2.2.1, ((p.ar .add .i64 y26.2.2.2.1 (1 : Int)), ()))))))) (
 opt.ret _ (Sum.inr (Sum.inr ()))))
noncomputable def g56 (it : It) : (p : Prim) → (List (List (D)) × (Int × (Int × Unit))) → Option ((Bool × Unit)) :=
 fun p x =>
 opt.alt ((Bool × Unit)) (Unit) _ (
 it _ _ (b56_1 p) (x.1, (x.2.1, (x.2.2.1, ((0 : Int), ()))))) (fun y27 =>
 opt.ret _ (y27.1, ())) (fun y28 =>
 opt.bnd (Unit) _ (some y28) fun y29 =>
 opt.ret _ (Bool.true, ()))
noncomputable def G56 := g56 it0
noncomputable def F56 : Prim → Tup (ctr56).scs → Option (STup (scss (ctr56).outs)) :=
 fun p x => G56 p x
theorem eq56 (p : Prim) (x : Tup (ctr56).scs) : bodyRun opt p (autoEnv Go.Proofs.Try.prog) (mkOrc opt p (autoEnv Go.Proofs.Try.prog) 400 (an56) la56) 400 ctr56 x = G56 p x := by kernel_rfl
theorem gok56 : GamOk Go.Proofs.Try.prog gam56 := fun cf h => by cases h
theorem enters56 : Enters Go.Proofs.Try.prog 56 := enters_auto (b := _) rfl (by kernel_rfl)
theorem ok56 : CtrOk Go.Proofs.Try.prog ctr56 (F56 std) := ctr_of_body (autoEnv_ok follows_mixed) (mkOrc_ok (autoEnv_ok follows_mixed) gok56 _) enters56 (fun x => eq56 std x)
noncomputable def ctr90 : Ctr :=
 ⟨90, [.agg [.int .i64, .int .i64], .agg [.int .i64, .int .i64], .agg [.int .i64, .int .i64]], [], [(.ret, ⟨[(0, .int .i64)], [], 1⟩)]⟩
noncomputable def la90 : List LA :=
 []
noncomputable def ja90 : List JA :=
 []
noncomputable def gam90 : List CF :=
 []
noncomputable def an90 : Anns :=
 ⟨gam90, ja90, []⟩
noncomputable def G90 : (p : Prim) → (Int × (Int × (Int × (Int × (Int × (Int × Unit)))))) → Option ((Int × Unit)) :=
 fun p x =>
 opt.ret _ ((p.ar .sub .i64 (p.ar .mul .i64 (p.ar .sub .i64 x.2.2.1 x.1) (p.ar .sub .i64 x.2.2.2.2.2.1 x.2.1)) (p.ar .mul .i64 (p.ar .sub .i64 x.2.2.2.1 x.2.1) (p.ar .sub .i64 x.2.2.2.2.1 x.1))), ())
noncomputable def F90 : Prim → Tup (ctr90).scs → Option (STup (scss (ctr90).outs)) :=
 fun p x => G90 p x
theorem eq90 (p : Prim) (x : Tup (ctr90).scs) : bodyRun opt p (autoEnv Go.Proofs.Try.prog) (mkOrc opt p (autoEnv Go.Proofs.Try.prog) 400 (an90) la90) 400 ctr90 x = G90 p x := by kernel_rfl
theorem gok90 : GamOk Go.Proofs.Try.prog gam90 := fun cf h => by cases h
theorem enters90 : Enters Go.Proofs.Try.prog 90 := enters_auto (b := _) rfl (by kernel_rfl)
theorem ok90 : CtrOk Go.Proofs.Try.prog ctr90 (F90 std) := ctr_of_body (autoEnv_ok follows_mixed) (mkOrc_ok (autoEnv_ok follows_mixed) gok90 _) enters90 (fun x => eq90 std x)
noncomputable def ctr91 : Ctr :=
 ⟨91, [.agg [.int .i64, .int .i64], .agg [.int .i64, .int .i64]], [], [(.ret, ⟨[(0, .int .i64)], [], 1⟩)]⟩
noncomputable def la91 : List LA :=
 []
noncomputable def ja91 : List JA :=
 []
noncomputable def gam91 : List CF :=
 []
noncomputable def an91 : Anns :=
 ⟨gam91, ja91, []⟩
noncomputable def G91 : (p : Prim) → (Int × (Int × (Int × (Int × Unit)))) → Option ((Int × Unit)) :=
 fun p x =>
 opt.ret _ ((p.ar .add .i64 (p.ar .mul .i64 (p.ar .sub .i64 x.1 x.2.2.1) (p.ar .sub .i64 x.1 x.2.2.1)) (p.ar .mul .i64 (p.ar .sub .i64 x.2.1 x.2.2.2.1) (p.ar .sub .i64 x.2.1 x.2.2.2.1))), ())
noncomputable def F91 : Prim → Tup (ctr91).scs → Option (STup (scss (ctr91).outs)) :=
 fun p x => G91 p x
theorem eq91 (p : Prim) (x : Tup (ctr91).scs) : bodyRun opt p (autoEnv Go.Proofs.Try.prog) (mkOrc opt p (autoEnv Go.Proofs.Try.prog) 400 (an91) la91) 400 ctr91 x = G91 p x := by kernel_rfl
theorem gok91 : GamOk Go.Proofs.Try.prog gam91 := fun cf h => by cases h
theorem enters91 : Enters Go.Proofs.Try.prog 91 := enters_auto (b := _) rfl (by kernel_rfl)
theorem ok91 : CtrOk Go.Proofs.Try.prog ctr91 (F91 std) := ctr_of_body (autoEnv_ok follows_mixed) (mkOrc_ok (autoEnv_ok follows_mixed) gok91 _) enters91 (fun x => eq91 std x)
noncomputable def ctr61 : Ctr :=
 ⟨61, [.list 2], [], [(.ret, ⟨[(0, .list 2)], [], 1⟩)]⟩
noncomputable def la61 : List LA :=
 [⟨61, [false, true, false, true, true], 0, ⟨⟨[(0, .list 2), (3, .bptr 0 0), (4, .int .i64)], [.box [.int .i64, .int .i64]], 119⟩, [((AX.exit 0), ⟨[(0, .list 2), (3, .bptr 0 0)], [.box [.int .i64, .int .i64]], 119⟩)]⟩⟩,
 ⟨61, [false, true, true, true, true], 0, ⟨⟨[(0, .list 2), (3, .bptr 0 0), (5, .sl 1 2)], [.box [.int .i64, .int .i64], .row [(CK.int .i64), (CK.int .i64)]], 119⟩, [(AX.ret, ⟨[(2, .sl 0 2)], [.row [(CK.int .i64), (CK.int .i64)]], 119⟩)]⟩⟩,
 ⟨61, [false, true, false, true, true, false, false, false, true, true, true, true], 0, ⟨⟨[(0, .list 2), (3, .bptr 0 0), (5, .sl 1 2), (6, .bptr 2 0), (7, .bptr 3 0), (8, .int .i64)], [.box [.int .i64, .int .i64], .row [(CK.int .i64), (CK.int .i64)], .box [.int .i64, .int .i64], .box [.int .i64, .int .i64]], 119⟩, [((AX.exit 4), ⟨[(0, .list 2), (3, .bptr 0 0), (5, .sl 1 2), (6, .bptr 2 0), (7, .bptr 3 0)], [.box [.int .i64, .int .i64], .row [(CK.int .i64), (CK.int .i64)], .box [.int .i64, .int .i64], .box [.int .i64, .int .i64]], 119⟩)]⟩⟩]
noncomputable def ja61 : List JA :=
 [⟨61, [false, true, false, false, true, false, true, true], 0, [(AX.normal, ⟨[(0, .list 2), (3, .bptr 0 0), (4, .int .i64)], [.box [.int .i64, .int .i64]], 119⟩)]⟩,
 ⟨61, [false, false, true, true, true, false, false, false, true, true, true, true], 0, [(AX.normal, ⟨[(0, .list 2), (3, .bptr 0 0), (5, .sl 1 2), (7, .bptr 2 0), (113, .bool)], [.box [.int .i64, .int .i64], .row [(CK.int .i64), (CK.int .i64)], .box [.int .i64, .int .i64]], 119⟩)]⟩,
 ⟨61, [true, false, false, true, false, false, true, false, true, true], 0, [(AX.normal, ⟨[(0, .list 2), (3, .bptr 0 0), (4, .int .i64)], [.box [.int .i64, .int .i64]], 119⟩)]⟩,
 ⟨61, [false, true, false, false, true, false, true, true, false, false, false, true, true, true, true], 0, [(AX.normal, ⟨[(0, .list 2), (3, .bptr 0 0), (5, .sl 1 2), (6, .bptr 2 0), (7, .bptr 3 0), (8, .int .i64)], [.box [.int .i64, .int .i64], .row [(CK.int .i64), (CK.int .i64)], .box [.int .i64, .int .i64], .box [.int .i64, .int .i64]], 119⟩)]⟩,
 ⟨61, [true, true, true, false, false, true, false, false, true, false, true, true, false, false, false, true, true, true, true], 0, [(AX.normal, ⟨[(0, .list 2), (3, .bptr 0 0), (5, .sl 1 2), (6, .bptr 2 0), (7, .bptr 3 0), (8, .int .i64)], [.box [.int .i64, .int .i64], .row [(CK.int .i64), (CK.int .i64)], .box [.int .i64, .int .i64], .box [.int .i64, .int .i64]], 119⟩)]⟩]
noncomputable def gam61 : List CF :=
 [⟨ctr91, F91⟩, ⟨ctr90, F90⟩]
noncomputable def an61 : Anns :=
 ⟨gam61, ja61, []⟩
noncomputable def b61_3 (p : Prim) : (List (List (D)) × (Int × (Int × (Int × (Int × (Int × (Int × (List (List (D)) × (Nat × (Nat × (Int × Unit))))))))))) → Option ((List (List (D)) × (Int × (Int × (Int × (Int × (Int × (Int × (List (List (D)) × (Nat × (Nat × (Int × Unit))))))))))) ⊕ (List (List (D)) × (Int × (Int × (Int × (Int × (Int × (Int × (List (List (D)) × (Nat × (Nat × Unit))))))))))) :=
 fun s117 => opt.run _ (
 opt.ask _ (p.cmp .lss s117.2.2.2.2.2.2.2.2.2.2.1 (p.ofNat (p.len s117.2.2.2.2.2.2.2.1))) (
 opt.bnd ((List (List (D)) × (Int × (Int × (Int × (Int × (Int × (Int × (List (List (D)) × (Nat × (Nat × (Int × Unit)))))))))))) _ (
 opt.run ((List (List (D)) × (Int × (Int × (Int × (Int × (Int × (Int × (List (List (D)) × (Nat × (Nat × (Int × Unit)))))))))))) (
 opt.need _ (p.rowOk s117.2.2.2.2.2.2.2.1 (p.nat s117.2.2.2.2.2.2.2.2.2.2.1) [(CK.int .i64), (CK.int .i64)]) <|
 opt.need _ (p.cmp .geq s117.2.2.2.2.2.2.2.2.2.2.1 (0 : Int)) <|
 opt.ask _ (bif (p.cmp .eql (p.rdI s117.2.2.2.2.2.2.2.1 (p.nat s117.2.2.2.2.2.2.2.2.2.2.1) 0) s117.2.2.2.1) then (bif (p.cmp .eql (p.rdI s117.2.2.2.2.2.2.2.1 (p.nat s117.2.2.2.2.2.2.2.2.2.2.1) 1) s117.2.2.2.2.1) then Bool.true else Bool.false) else Bool.false) (
 opt.ret _ (s117.1, (s117.2.1, (s117.2.2.1, (s117.2.2.2.1, (s117.2.2.2.2.1, (s117.2.2.2.2.2.1, (s117.2.2.2.2.2.2.1, (s117.2.2.2.2.2.2.2.1, (s117.2.2.2.2.2.2.2.2.1, (s117.2.2.2.2.2.2.2.2.2.1, (s117.2.2.2.2.2.2.2.2.2.2.1, ())))))))))))) (
 opt.need _ (p.rowOk s117.2.2.2.2.2.2.2.1 (p.nat s117.2.2.2.2.2.2.2.2.2.2.1) [(CK.int .i64), (CK.int .i64)]) <|
 opt.need _ (p.cmp .geq s117.2.2.2.2.2.2.2.2.2.2.1 (0 : Int)) <|
 opt.bnd ((Int × Unit)) _ (G90 p (s117.2.2.2.1, (s117.2.2.2.2.1, (s117.2.2.2.2.2.1, (s117.2.2.2.2.2.2.1, ((p.rdI s117.2.2.2.2.2.2.2.1 (p.nat s117.2.2.2.2.2.2.2.2.2.2.1) 0), ((p.rdI s117.2.2.2.2.2.2.2.1 (p.nat s117.2.2.2.2.2.2.2.2.2.2.1) 1), ()))))))) fun y118 =>
 opt.ask _ (bif (p.cmp .eql s117.2.2.2.2.2.1 s117.2.2.2.1) then (bif (p.cmp .eql s117.2.2.2.2.2.2.1 s117.2.2.2.2.1) then Bool.true else Bool.false) else Bool.false) (
 opt.bnd ((List (List (D)) × (Int × (Int × (Int × (Int × (Int × (Int × (List (List (D)) × (Nat × (Nat × (Int × Unit)))))))))))) _ (
 opt.run ((List (List (D)) × (Int × (Int × (Int × (Int × (Int × (Int × (List (List (D)) × (Nat × (Nat × (Int × Unit)))))))))))) (
 opt.need _ (p.rowOk s117.2.2.2.2.2.2.2.1 (p.nat s117.2.2.2.2.2.2.2.2.2.2.1) [(CK.int .i64), (CK.int .i64)]) <|
 opt.need _ (p.cmp .geq s117.2.2.2.2.2.2.2.2.2.2.1 (0 : Int)) <|
 opt.ret _ (s117.1, (s117.2.1, (s117.2.2.1, (s117.2.2.2.1, (s117.2.2.2.2.1, ((p.rdI s117.2.2.2.2.2.2.2.1 (p.nat s117.2.2.2.2.2.2.2.2.2.2.1) 0), ((p.rdI s117.2.2.2.2.2.2.2.1 (p.nat s117.2.2.2.2.2.2.2.2.2.2.1) 1), (s117.2.2.2.2.2.2.2.1, (s117.2.2.2.2.2.2.2.2.1, (s117.2.2.2.2.2.2.2.2.2.1, (s117.2.2.2.2.2.2.2.2.2.2.1, ()))))))))))))) fun y119 =>
 opt.ret _ (y119.1, (y119.2.1, (y119.2.2.1, (y119.2.2.2.1, (y119.2.2.2.2.1, (y119.2.2.2.2.2.1, (y119.2.2.2.2.2.2.1, (y119.2.2.2.2.2.2.2.1, (y119.2.2.2.2.2.2.2.2.1, (y119.2.2.2.2.2.2.2.2.2.1, (y119.2.2.2.2.2.2.2.2.2.2.1, ())))))))))))) (
 opt.ask _ (p.cmp .lss y118.1 (0 : Int)) (
 opt.bnd ((List (List (D)) × (Int × (Int × (Int × (Int × (Int × (Int × (List (List (D)) × (Nat × (Nat × (Int × Unit)))))))))))) _ (
 opt.run ((List (List (D)) × (Int × (Int × (Int × (Int × (Int × (Int × (List (List (D)) × (Nat × (Nat × (Int × Unit)))))))))))) (
 opt.need _ (p.rowOk s117.2.2.2.2.2.2.2.1 (p.nat s117.2.2.2.2.2.2.2.2.2.2.1) [(CK.int .i64), (CK.int .i64)]) <|
 opt.need _ (p.cmp .geq s117.2.2.2.2.2.2.2.2.2.2.1 (0 : Int)) <|
 opt.ret _ (s117.1, (s117.2.1, (s117.2.2.1, (s117.2.2.2.1, (s117.2.2.2.2.1, ((p.rdI s117.2.2.2.2.2.2.2.1 (p.nat s117.2.2.2.2.2.2.2.2.2.2.1) 0), ((p.rdI s117.2.2.2.2.2.2.2.1 (p.nat s117.2.2.2.2.2.2.2.2.2.2.1) 1), (s117.2.2.2.2.2.2.2.1, (s117.2.2.2.2.2.2.2.2.1, (s117.2.2.2.2.2.2.2.2.2.1, (s117.2.2.2.2.2.2.2.2.2.2.1, ()))))))))))))) fun y120 =>
 opt.ret _ (y120.1, (y120.2.1, (y120.2.2.1, (y120.2.2.2.1, (y120.2.2.2.2.1, (y120.2.2.2.2.2.1, (y120.2.2.2.2.2.2.1, (y120.2.2.2.2.2.2.2.1, (y120.2.2.2.2.2.2.2.2.1, (y120.2.2.2.2.2.2.2.2.2.1, (y120.2.2.2.2.2.2.2.2.2.2.1, ())))))))))))) (
 opt.ask _ (p.cmp .eql y118.1 (0 : Int)) (
 opt.need _ (p.rowOk s117.2.2.2.2.2.2.2.1 (p.nat s117.2.2.2.2.2.2.2.2.2.2.1) [(CK.int .i64), (CK.int .i64)]) <|
 opt.need _ (p.cmp .geq s117.2.2.2.2.2.2.2.2.2.2.1 (0 : Int)) <|
 opt.bnd ((Int × Unit)) _ (G91 p (s117.2.2.2.1, (s117.2.2.2.2.1, ((p.rdI s117.2.2.2.2.2.2.2.1 (p.nat s117.2.2.2.2.2.2.2.2.2.2.1) 0), ((p.rdI s117.2.2.2.2.2.2.2.1 (p.nat s117.2.2.2.2.2.2.2.2.2.2.1) 1), ()))))) fun y121 =>
 opt.bnd ((Int × Unit)) _ (G91 p (s117.2.2.2.1, (s117.2.2.2.2.1, (s117.2.2.2.2.2.1, (s117.2.2.2.2.2.2.1, ()))))) fun y122 =>
 opt.bnd ((List (List (D)) × (Int × (Int × (Int × (Int × (Int × (Int × (List (List (D)) × (Nat × (Nat × (Int × Unit)))))))))))) _ (
 opt.run ((List (List (D)) × (Int × (Int × (Int × (Int × (Int × (Int × (List (List (D)) × (Nat × (Nat × (Int × Unit)))))))))))) (
 opt.ask _ (p.cmp .gtr y121.1 y122.1) (
 opt.need _ (p.rowOk s117.2.2.2.2.2.2.2.1 (p.nat s117.2.2.2.2.2.2.2.2.2.2.1) [(CK.int .i64), (CK.int .i64)]) <|
 opt.need _ (p.cmp .geq s117.2.2.2.2.2.2.2.2.2.2.1 (0 : Int)) <|
 opt.ret _ (s117.1, (s117.2.1, (s117.2.2.1, (s117.2.2.2.1, (s117.2.2.2.2.1, ((p.rdI s117.2.2.2.2.2.2.2.1 (p.nat s117.2.2.2.2.2.2.2.2.2.2.1) 0), ((p.rdI s117.2.2.2.2.2.2.2.1 (p.nat s117.2.2.2.2.2.2.2.2.2.2.1) 1), (s117.2.2.2.2.2.2.2.1, (s117.2.2.2.2.2.2.2.2.1, (s117.2.2.2.2.2.2.2.2.2.1, (s117.2.2.2.2.2.2.2.2.2.2.1, ())))))))))))) (
 opt.ret _ (s117.1, (s117.2.1, (s117.2.2.1, (s117.2.2.2.1, (s117.2.2.2.2.1, (s117.2.2.2.2.2.1, (s117.2.2.2.2.2.2.1, (s117.2.2.2.2.2.2.2.1, (s117.2.2.2.2.2.2.2.2.1, (s117.2.2.2.2.2.2.2.2.2.1, (s117.2.2.2.2.2.2.2.2.2.2.1, ())))))))))))))) fun y123 =>
 opt.ret _ (y123.1, (y123.2.1, (y123.2.2.1, (y123.2.2.2.1, (y123.2.2.2.2.1, (y123.2.2.2.2.2.1, (y123.2.2.2.2.2.2.1, (y123.2.2.2.2.2.2.2.1, (y123.2.2.2.2.2.2.2.2.1, (y123.2.2.2.2.2.2.2.2.2.1, (y123.2.2.2.2.2.2.2.2.2.2.1, ())))))))))))) (
 opt.bnd ((List (List (D)) × (Int × (Int × (Int × (Int × (Int × (Int × (List (List (D)) × (Nat × (Nat × (Int × Unit)))))))))))) _ (
 opt.run ((List (List (D)) × (Int × (Int × (Int × (Int × (Int × (Int × (List (List (D)) × (Nat × (Nat × (Int × Unit)))))))))))) (
 opt.ret _ (s117.1, (s117.2.1, (s117.2.2.1, (s117.2.2.2.1, (s117.2.2.2.2.1, (s117.2.2.2.2.2.1, (s117.2.2.2.2.2.2.1, (s117.2.2.2.2.2.2.2.1, (s117.2.2.2.2.2.2.2.2.1, (s117.2.2.2.2.2.2.2.2.2.1, (s117.2.2.2.2.2.2.2.2.2.2.1, ()))))))))))))) fun y124 =>
 opt.ret _ (y124.1, (y124.2.1, (y124.2.2.1, (y124.2.2.2.1, (y124.2.2.2.2.1, (y124.2.2.2.2.2.1, (y124.2.2.2.2.2.2.1, (y124.2.2.2.2.2.2.2.1, (y124.2.2.2.2.2.2.2.2.1, (y124.2.2.2.2.2.2.2.2.2.1, (y124.2.2.2.2.2.2.2.2.2.2.1, ()))))))))))))))))) fun y125 =>
 opt.ret _ (Sum.inl (y125.1, (y125.2.1, (y125.2.2.1, (y125.2.2.2.1, (y125.2.2.2.2.1, (y125.2.2.2.2.2.1, (y125.2.2.2.2.2.2.1, (y125.2.2.2.2.2.2.2.1, (y125.2.2.2.2.2.2.2.2.1, (y125.2.2.2.2.2.2.2.2.2.1, ((p.ar .add .i64 y125.2.2.2.2.2.2.2.2.2.2.1 (1 : Int)), ()))))))))))))) (
 opt.ret _ (Sum.inr (s117.1, (s117.2.1, (s117.2.2.1, (s117.2.2.2.1, (s117.2.2.2.2.1, (s117.2.2.2.2.2.1, (s117.2.2.2.2.2.2.1, (s117.2.2.2.2.2.2.2.1, (s117.2.2.2.2.2.2.2.2.1, (s117.2.2.2.2.2.2.2.2.2.1, ())))))))))))))
noncomputable def c61_2 (it : It) (p : Prim) : (List (List (D)) × (Int × (Int × (List (List (D)) × (Nat × (Nat × Unit)))))) → Option ((List (List (D)) × (Int × (Int × (List (List (D)) × (Nat × (Nat × Unit)))))) ⊕ (List (List (D)) × (Nat × (Nat × Unit)))) :=
 fun s116 => opt.run _ (
 opt.need _ (bif (p.cmp .geq (p.ar .sub .i64 (p.ofNat s116.2.2.2.2.2.1) (1 : Int)) (0 : Int)) then (p.cmp .lss (p.ar .sub .i64 (p.ofNat s116.2.2.2.2.2.1) (1 : Int)) (p.ofNat s116.2.2.2.2.2.1)) else Bool.false) <|
 opt.need _ (p.rowOk s116.1 (p.add s116.2.2.2.2.1 (p.nat (p.ar .sub .i64 (p.ofNat s116.2.2.2.2.2.1) (1 : Int)))) [(CK.int .i64), (CK.int .i64)]) <|
 opt.bnd ((List (List (D)) × (Int × (Int × (Int × (Int × (Int × (Int × (List (List (D)) × (Nat × (Nat × Unit))))))))))) _ (
 it _ _ (b61_3 p) (s116.1, (s116.2.1, (s116.2.2.1, ((p.rdI s116.1 (p.add s116.2.2.2.2.1 (p.nat (p.ar .sub .i64 (p.ofNat s116.2.2.2.2.2.1) (1 : Int)))) 0), ((p.rdI s116.1 (p.add s116.2.2.2.2.1 (p.nat (p.ar .sub .i64 (p.ofNat s116.2.2.2.2.2.1) (1 : Int)))) 1), ((p.rdI s116.1 (p.add s116.2.2.2.2.1 (p.nat (p.ar .sub .i64 (p.ofNat s116.2.2.2.2.2.1) (1 : Int)))) 0), ((p.rdI s116.1 (p.add s116.2.2.2.2.1 (p.nat (p.ar .sub .i64 (p.ofNat s116.2.2.2.2.2.1) (1 : Int)))) 1), (s116.2.2.2.1, (s116.2.2.2.2.1, (s116.2.2.2.2.2.1, ((0 : Int), ())))))))))))) fun y126 =>
 opt.bnd ((List (List (D)) × (Int × (Int × (Int × (Int × (List (List (D)) × (Nat × (Nat × (Bool × Unit)))))))))) _ (
 opt.run ((List (List (D)) × (Int × (Int × (Int × (Int × (List (List (D)) × (Nat × (Nat × (Bool × Unit)))))))))) (
 opt.ask _ (bif (p.cmp .eql y126.2.2.2.2.2.1 y126.2.1) then (bif (p.cmp .eql y126.2.2.2.2.2.2.1 y126.2.2.1) then Bool.true else Bool.false) else Bool.false) (
 opt.ret _ (y126.1, (y126.2.1, (y126.2.2.1, (y126.2.2.2.2.2.1, (y126.2.2.2.2.2.2.1, (y126.2.2.2.2.2.2.2.1, (y126.2.2.2.2.2.2.2.2.1, (y126.2.2.2.2.2.2.2.2.2.1, (Bool.true, ())))))))))) (
 opt.ret _ (y126.1, (y126.2.1, (y126.2.2.1, (y126.2.2.2.2.2.1, (y126.2.2.2.2.2.2.1, (y126.2.2.2.2.2.2.2.1, (y126.2.2.2.2.2.2.2.2.1, (y126.2.2.2.2.2.2.2.2.2.1, ((bif (p.cmp .eql y126.2.2.2.2.2.1 y126.2.2.2.1) then (bif (p.cmp .eql y126.2.2.2.2.2.2.1 y126.2.2.2.2.1) then Bool.true else Bool.false) else Bool.false), ())))))))))))) fun y127 =>
 opt.ask _ y127.2.2.2.2.2.2.2.2.1 (
 opt.ret _ (Sum.inr (y127.1, (y127.2.2.2.2.2.2.1, (y127.2.2.2.2.2.2.2.1, ()))))) (
 opt.need _ (p.and (p.leN (p.add 0 1) (p.len [[(D.int .i64 y127.2.2.2.1), (D.int .i64 y127.2.2.2.2.1)]])) (p.and (p.leN (p.add y127.2.2.2.2.2.2.1 y127.2.2.2.2.2.2.2.1) (p.len y127.1)) (p.and (p.leN 1 1) (p.leN (p.add y127.2.2.2.2.2.2.2.1 1) 1000000)))) <|
 opt.ret _ (Sum.inl ((p.app (p.cut y127.1 y127.2.2.2.2.2.2.1 y127.2.2.2.2.2.2.2.1) (p.cut [[(D.int .i64 y127.2.2.2.1), (D.int .i64 y127.2.2.2.2.1)]] 0 1)), (y127.2.1, (y127.2.2.1, (y127.2.2.2.2.2.1, (0, ((p.add y127.2.2.2.2.2.2.2.1 1), ())))))))))
noncomputable def b61_1 (p : Prim) : (Int × (Int × (List (List (D)) × (Int × Unit)))) → Option ((Int × (Int × (List (List (D)) × (Int × Unit)))) ⊕ (Int × (Int × (List (List (D)) × Unit)))) :=
 fun s110 => opt.run _ (
 opt.ask _ (p.cmp .lss s110.2.2.2.1 (p.ofNat (p.len s110.2.2.1))) (
 opt.bnd ((Int × (Int × (List (List (D)) × (Int × Unit))))) _ (
 opt.run ((Int × (Int × (List (List (D)) × (Int × Unit))))) (
 opt.need _ (p.rowOk s110.2.2.1 (p.nat s110.2.2.2.1) [(CK.int .i64), (CK.int .i64)]) <|
 opt.need _ (p.cmp .geq s110.2.2.2.1 (0 : Int)) <|
 opt.ask _ (p.cmp .lss (p.rdI s110.2.2.1 (p.nat s110.2.2.2.1) 0) s110.1) (
 opt.bnd ((Int × (Int × (List (List (D)) × (Int × Unit))))) _ (
 opt.run ((Int × (Int × (List (List (D)) × (Int × Unit))))) (
 opt.need _ (p.rowOk s110.2.2.1 (p.nat s110.2.2.2.1) [(CK.int .i64), (CK.int .i64)]) <|
 opt.need _ (p.cmp .geq s110.2.2.2.1 (0 : Int)) <|
 opt.ret _ ((p.rdI s110.2.2.1 (p.nat s110.2.2.2.1) 0), ((p.rdI s110.2.2.1 (p.nat s110.2.2.2.1) 1), (s110.2.2.1, (s110.2.2.2.1, ())))))) fun y111 =>
 opt.ret _ (y111.1, (y111.2.1, (y111.2.2.1, (y111.2.2.2.1, ()))))) (
 opt.need _ (p.rowOk s110.2.2.1 (p.nat s110.2.2.2.1) [(CK.int .i64), (CK.int .i64)]) <|
 opt.need _ (p.cmp .geq s110.2.2.2.1 (0 : Int)) <|
 opt.ask _ (p.cmp .eql (p.rdI s110.2.2.1 (p.nat s110.2.2.2.1) 0) s110.1) (
 opt.need _ (p.rowOk s110.2.2.1 (p.nat s110.2.2.2.1) [(CK.int .i64), (CK.int .i64)]) <|
 opt.need _ (p.cmp .geq s110.2.2.2.1 (0 : Int)) <|
 opt.bnd ((Int × (Int × (List (List (D)) × (Int × Unit))))) _ (
 opt.run ((Int × (Int × (List (List (D)) × (Int × Unit))))) (
 opt.ask _ (p.cmp .lss (p.rdI s110.2.2.1 (p.nat s110.2.2.2.1) 1) s110.2.1) (
 opt.need _ (p.rowOk s110.2.2.1 (p.nat s110.2.2.2.1) [(CK.int .i64), (CK.int .i64)]) <|
 opt.need _ (p.cmp .geq s110.2.2.2.1 (0 : Int)) <|
 opt.ret _ ((p.rdI s110.2.2.1 (p.nat s110.2.2.2.1) 0), ((p.rdI s110.2.2.1 (p.nat s110.2.2.2.1) 1), (s110.2.2.1, (s110.2.2.2.1, ()))))) (
 opt.ret _ (s110.1, (s110.2.1, (s110.2.2.1, (s110.2.2.2.1, ()))))))) fun y112 =>
 opt.ret _ (y112.1, (y112.2.1, (y112.2.2.1, (y112.2.2.2.1, ()))))) (
 opt.bnd ((Int × (Int × (List (List (D)) × (Int × Unit))))) _ (
 opt.run ((Int × (Int × (List (List (D)) × (Int × Unit))))) (
 opt.ret _ (s110.1, (s110.2.1, (s110.2.2.1, (s110.2.2.2.1, ())))))) fun y113 =>
 opt.ret _ (y113.1, (y113.2.1, (y113.2.2.1, (y113.2.2.2.1, ())))))))) fun y114 =>
 opt.ret _ (Sum.inl (y114.1, (y114.2.1, (y114.2.2.1, ((p.ar .add .i64 y114.2.2.2.1 (1 : Int)), ())))))) (
 opt.ret _ (Sum.inr (s110.1, (s110.2.1, (s110.2.2.1, ()))))))
noncomputable def g61 (it : It) : (p : Prim) → (List (List (D)) × Unit) → Option ((List (List (D)) × Unit)) :=
 fun p x =>
 opt.need _ (p.rowOk x.1 (p.nat (0 : Int)) [(CK.int .i64), (CK.int .i64)]) <|
 opt.bnd ((Int × (Int × (List (List (D)) × Unit)))) _ (
 it _ _ (b61_1 p) ((p.rdI x.1 (p.nat (0 : Int)) 0), ((p.rdI x.1 (p.nat (0 : Int)) 1), (x.1, ((1 : Int), ()))))) fun y115 =>
 opt.need _ (p.leN (p.add 0 1) (p.len [[(D.int .i64 y115.1), (D.int .i64 y115.2.1)]])) <|
 opt.bnd ((List (List (D)) × (Nat × (Nat × Unit)))) _ (
 it _ _ (c61_2 it p) ([[(D.int .i64 y115.1), (D.int .i64 y115.2.1)]], (y115.1, (y115.2.1, (y115.2.2.1, (0, (1, ()))))))) fun y128 =>
 opt.need _ (p.leN (p.add y128.2.1 y128.2.2.1) (p.len y128.1)) <|
 opt.ret _ ((p.cut y128.1 y128.2.1 y128.2.2.1), ())
noncomputable def G61 := g61 it0
noncomputable def F61 : Prim → Tup (ctr61).scs → Option (STup (scss (ctr61).outs)) :=
 fun p x => G61 p x
theorem eq61 (p : Prim) (x : Tup (ctr61).scs) : bodyRun opt p (autoEnv Go.Proofs.Try.prog) (mkOrc opt p (autoEnv Go.Proofs.Try.prog) 400 (an61) la61) 400 ctr61 x = G61 p x := by kernel_rfl
theorem gok61 : GamOk Go.Proofs.Try.prog (gam61) := by
  intro cf h
  simp only [gam61, List.mem_cons, List.not_mem_nil, or_false] at h
  rcases h with rfl | rfl
  · exact ok91
  · exact ok90
theorem enters61 : Enters Go.Proofs.Try.prog 61 := enters_auto (b := _) rfl (by kernel_rfl)
theorem ok61 : CtrOk Go.Proofs.Try.prog ctr61 (F61 std) := ctr_of_body (autoEnv_ok follows_mixed) (mkOrc_ok (autoEnv_ok follows_mixed) gok61 _) enters61 (fun x => eq61 std x)
noncomputable def ctr34 : Ctr :=
 ⟨34, [.int .i64, .int .i64], [], [(.ret, ⟨[(0, .agg [.int .i64, .int .i64])], [], 1⟩)]⟩
noncomputable def la34 : List LA :=
 [⟨34, [false, false, true, true], 0, ⟨⟨[(0, .int .i64), (1, .int .i64), (4, .bptr 0 0), (5, .int .i64), (6, .int .i64)], [.box [.int .i64, .int .i64]], 22⟩, [((AX.exit 0), ⟨[(0, .int .i64), (1, .int .i64), (4, .bptr 0 0), (5, .int .i64)], [.box [.int .i64, .int .i64]], 22⟩)]⟩⟩]
noncomputable def ja34 : List JA :=
 []
noncomputable def gam34 : List CF :=
 []
noncomputable def an34 : Anns :=
 ⟨gam34, ja34, []⟩
noncomputable def b34_1 (p : Prim) : (Int × (Int × (Int × (Int × (Int × (Int × Unit)))))) → Option ((Int × (Int × (Int × (Int × (Int × (Int × Unit)))))) ⊕ (Int × (Int × (Int × (Int × (Int × Unit)))))) :=
 fun s141 => opt.run _ (
 opt.ask _ (p.cmp .neq s141.2.2.2.2.2.1 (0 : Int)) (
 opt.need _ (p.cmp .neq s141.2.2.2.2.2.1 (0 : Int)) <|
 opt.ret _ (Sum.inl (s141.1, (s141.2.1, (s141.2.2.1, (s141.2.2.2.1, (s141.2.2.2.2.2.1, ((p.ar .rem .i64 s141.2.2.2.2.1 s141.2.2.2.2.2.1), ())))))))) (
 opt.ret _ (Sum.inr (s141.1, (s141.2.1, (s141.2.2.1, (s141.2.2.2.1, (s141.2.2.2.2.1, ()))))))))
noncomputable def g34 (it : It) : (p : Prim) → (Int × (Int × Unit)) → Option ((Int × (Int × Unit))) :=
 fun p x =>
 opt.bnd ((Int × (Int × (Int × (Int × (Int × Unit)))))) _ (
 it _ _ (b34_1 p) ((0 : Int), ((0 : Int), (x.1, (x.2.1, (x.1, (x.2.1, ()))))))) fun y142 =>
 opt.need _ (p.cmp .neq y142.2.2.2.2.1 (0 : Int)) <|
 opt.need _ (p.cmp .neq y142.2.2.2.2.1 (0 : Int)) <|
 opt.ret _ ((p.ar .quo .i64 y142.2.2.1 y142.2.2.2.2.1), ((p.ar .quo .i64 y142.2.2.2.1 y142.2.2.2.2.1), ()))
noncomputable def G34 := g34 it0
noncomputable def F34 : Prim → Tup (ctr34).scs → Option (STup (scss (ctr34).outs)) :=
 fun p x => G34 p x
theorem eq34 (p : Prim) (x : Tup (ctr34).scs) : bodyRun opt p (autoEnv Go.Proofs.Try.prog) (mkOrc opt p (autoEnv Go.Proofs.Try.prog) 400 (an34) la34) 400 ctr34 x = G34 p x := by kernel_rfl
theorem gok34 : GamOk Go.Proofs.Try.prog gam34 := fun cf h => by cases h
theorem enters34 : Enters Go.Proofs.Try.prog 34 := enters_auto (b := _) rfl (by kernel_rfl)
theorem ok34 : CtrOk Go.Proofs.Try.prog ctr34 (F34 std) := ctr_of_body (autoEnv_ok follows_mixed) (mkOrc_ok (autoEnv_ok follows_mixed) gok34 _) enters34 (fun x => eq34 std x)
noncomputable def ctr19 : Ctr :=
 ⟨19, [.agg [.list 2, .list 1]], [], [(.ret, ⟨[(0, .int .i64)], [], 1⟩)]⟩
noncomputable def la19 : List LA :=
 [⟨19, [false, true, false, true, true], 0, ⟨⟨[(1, .bptr 0 0), (3, .int .i64)], [.box [.list 2, .list 1]], 47⟩, [(AX.ret, ⟨[(2, .int .i64)], [], 47⟩), ((AX.exit 0), ⟨[(1, .bptr 0 0)], [.box [.list 2, .list 1]], 47⟩)]⟩⟩,
 ⟨19, [false, true, false, true, true, true, true], 0, ⟨⟨[(1, .bptr 0 0), (4, .int .i64)], [.box [.list 2, .list 1]], 47⟩, [(AX.ret, ⟨[(2, .int .i64)], [], 47⟩), ((AX.exit 2), ⟨[], [], 47⟩)]⟩⟩]
noncomputable def ja19 : List JA :=
 [⟨19, [false, false, true], 0, [(AX.normal, ⟨[(1, .bptr 0 0), (14, .bool)], [.box [.list 2, .list 1]], 47⟩)]⟩]
noncomputable def gam19 : List CF :=
 [⟨ctr56, F56⟩, ⟨ctr55, F55⟩]
noncomputable def an19 : Anns :=
 ⟨gam19, ja19, []⟩
noncomputable def c19_2 (it : It) (p : Prim) : (List (List (D)) × (List (List (D)) × (Int × Unit))) → Option ((List (List (D)) × (List (List (D)) × (Int × Unit))) ⊕ ((Int × Unit) ⊕ Unit)) :=
 fun s181 => opt.run _ (
 opt.ask _ (p.cmp .lss s181.2.2.1 (p.ofNat (p.len s181.2.1))) (
 opt.need _ (p.rowOk s181.2.1 (p.nat s181.2.2.1) [(CK.list 2)]) <|
 opt.need _ (p.cmp .geq s181.2.2.1 (0 : Int)) <|
 opt.bnd ((Bool × Unit)) _ (g56 it p ((p.rdL s181.2.1 (p.nat s181.2.2.1) 0), ((-1000 : Int), ((1000 : Int), ())))) fun y182 =>
 opt.ask _ (bif y182.1 then Bool.false else Bool.true) (
 opt.ret _ (Sum.inr (Sum.inl ((3 : Int), ())))) (
 opt.ret _ (Sum.inl (s181.1, (s181.2.1, ((p.ar .add .i64 s181.2.2.1 (1 : Int)), ())))))) (
 opt.ret _ (Sum.inr (Sum.inr ()))))
noncomputable def b19_1 (p : Prim) : (List (List (D)) × (List (List (D)) × (Int × Unit))) → Option ((List (List (D)) × (List (List (D)) × (Int × Unit))) ⊕ ((Int × Unit) ⊕ (List (List (D)) × (List (List (D)) × Unit)))) :=
 fun s175 => opt.run _ (
 opt.ask _ (p.cmp .lss s175.2.2.1 (p.ofNat (p.len s175.2.1))) (
 opt.need _ (p.rowOk s175.2.1 (p.nat s175.2.2.1) [(CK.list 2)]) <|
 opt.need _ (p.cmp .geq s175.2.2.1 (0 : Int)) <|
 opt.bnd ((Bool × Unit)) _ (G55 p ((p.rdL s175.2.1 (p.nat s175.2.2.1) 0), ())) fun y176 =>
 opt.ask _ (bif y176.1 then Bool.false else Bool.true) (
 opt.ret _ (Sum.inr (Sum.inl ((6 : Int), ())))) (
 opt.ret _ (Sum.inl (s175.1, (s175.2.1, ((p.ar .add .i64 s175.2.2.1 (1 : Int)), ())))))) (
 opt.ret _ (Sum.inr (Sum.inr (s175.1, (s175.2.1, ()))))))
noncomputable def g19 (it : It) : (p : Prim) → (List (List (D)) × (List (List (D)) × Unit)) → Option ((Int × Unit)) :=
 fun p x =>
 opt.bnd ((List (List (D)) × (List (List (D)) × (Bool × Unit)))) _ (
 opt.run ((List (List (D)) × (List (List (D)) × (Bool × Unit)))) (
 opt.bnd ((Bool × Unit)) _ (G55 p (x.1, ())) fun y173 =>
 opt.ask _ (bif y173.1 then Bool.false else Bool.true) (
 opt.ret _ (x.1, (x.2.1, (Bool.true, ())))) (
 opt.ret _ (x.1, (x.2.1, ((p.cmp .gtr (p.ofNat (p.len x.2.1)) (4 : Int)), ())))))) fun y174 =>
 opt.ask _ y174.2.2.1 (
 opt.ret _ ((6 : Int), ())) (
 opt.alt ((Int × Unit)) ((List (List (D)) × (List (List (D)) × Unit))) _ (
 it _ _ (b19_1 p) (y174.1, (y174.2.1, ((0 : Int), ())))) (fun y177 =>
 opt.ret _ (y177.1, ())) (fun y178 =>
 opt.bnd ((List (List (D)) × (List (List (D)) × Unit))) _ (some y178) fun y179 =>
 opt.bnd ((Bool × Unit)) _ (g56 it p (y179.1, ((0 : Int), ((1000 : Int), ())))) fun y180 =>
 opt.ask _ (bif y180.1 then Bool.false else Bool.true) (
 opt.ret _ ((3 : Int), ())) (
 opt.alt ((Int × Unit)) (Unit) _ (
 it _ _ (c19_2 it p) (y179.1, (y179.2.1, ((0 : Int), ())))) (fun y183 =>
 opt.ret _ (y183.1, ())) (fun y184 =>
 opt.bnd (Unit) _ (some y184) fun y185 =>
 opt.ret _ ((0 : Int), ())))))
noncomputable def G19 := g19 it0
noncomputable def F19 : Prim → Tup (ctr19).scs → Option (STup (scss (ctr19).outs)) :=
 fun p x => G19 p x
theorem eq19 (p : Prim) (x : Tup (ctr19).scs) : bodyRun opt p (autoEnv Go.Proofs.Try.prog) (mkOrc opt p (autoEnv Go.Proofs.Try.prog) 400 (an19) la19) 400 ctr19 x = G19 p x := by kernel_rfl
theorem gok19 : GamOk Go.Proofs.Try.prog (gam19) := by
  intro cf h
  simp only [gam19, List.mem_cons, List.not_mem_nil, or_false] at h
  rcases h with rfl | rfl
  · exact ok56
  · exact ok55
theorem enters19 : Enters Go.Proofs.Try.prog 19 := enters_auto (b := _) rfl (by kernel_rfl)
theorem ok19 : CtrOk Go.Proofs.Try.prog ctr19 (F19 std) := ctr_of_body (autoEnv_ok follows_mixed) (mkOrc_ok (autoEnv_ok follows_mixed) gok19 _) enters19 (fun x => eq19 std x)
noncomputable def ctr43 : Ctr :=
 ⟨43, [.list 2, .agg [.int .i64, .int .i64, .int .i64]], [], [(.ret, ⟨[(0, .bool)], [], 1⟩)]⟩
noncomputable def la43 : List LA :=
 [⟨43, [false, true, false, true, true], 0, ⟨⟨[(0, .list 2), (3, .bptr 0 0), (5, .int .i64), (6, .int .i64)], [.box [.int .i64, .int .i64, .int .i64]], 91⟩, [(AX.ret, ⟨[(4, .bool)], [], 91⟩), ((AX.exit 0), ⟨[], [], 91⟩)]⟩⟩]
noncomputable def ja43 : List JA :=
 [⟨43, [false, true, false, false, true, false, true, true], 0, [(AX.ret, ⟨[(4, .bool)], [], 91⟩), (AX.normal, ⟨[(0, .list 2), (3, .bptr 0 0), (5, .int .i64), (6, .int .i64)], [.box [.int .i64, .int .i64, .int .i64]], 91⟩)]⟩,
 ⟨43, [false, false, true, false, true, true, false, false, true, false, false, true, false, true, true], 0, [(AX.normal, ⟨[(4, .bool)], [], 91⟩)]⟩,
 ⟨43, [false, true, true, true, true, true, false, false, true, false, false, true, false, true, true], 0, [(AX.normal, ⟨[(0, .list 2), (3, .bptr 0 0), (5, .int .i64), (6, .int .i64), (90, .bool)], [.box [.int .i64, .int .i64, .int .i64]], 91⟩)]⟩]
noncomputable def gam43 : List CF :=
 []
noncomputable def an43 : Anns :=
 ⟨gam43, ja43, []⟩
noncomputable def b43_1 (p : Prim) : (Int × (Int × (Int × (List (List (D)) × (Int × (Int × Unit)))))) → Option ((Int × (Int × (Int × (List (List (D)) × (Int × (Int × Unit)))))) ⊕ ((Bool × Unit) ⊕ Unit)) :=
 fun s208 => opt.run _ (
 opt.ask _ (p.cmp .lss s208.2.2.2.2.2.1 s208.2.2.2.2.1) (
 opt.alt ((Bool × Unit)) ((Int × (Int × (Int × (List (List (D)) × (Int × (Int × Unit))))))) _ (
 opt.run (((Bool × Unit) ⊕ (Int × (Int × (Int × (List (List (D)) × (Int × (Int × Unit)))))))) (
 opt.need _ (p.rowOk s208.2.2.2.1 (p.nat s208.2.2.2.2.2.1) [(CK.int .i64), (CK.int .i64)]) <|
 opt.need _ (p.cmp .geq s208.2.2.2.2.2.1 (0 : Int)) <|
 opt.need _ (p.cmp .neq s208.2.2.2.2.1 (0 : Int)) <|
 opt.need _ (p.rowOk s208.2.2.2.1 (p.nat (p.ar .rem .i64 (p.ar .add .i64 s208.2.2.2.2.2.1 (1 : Int)) s208.2.2.2.2.1)) [(CK.int .i64), (CK.int .i64)]) <|
 opt.need _ (p.cmp .geq (p.ar .rem .i64 (p.ar .add .i64 s208.2.2.2.2.2.1 (1 : Int)) s208.2.2.2.2.1) (0 : Int)) <|
 opt.ask _ (p.cmp .eql s208.2.2.2.2.1 (1 : Int)) (
 opt.bnd ((Bool × Unit)) _ (
 opt.run ((Bool × Unit)) (
 opt.ask _ (p.cmp .eql (p.ar .sub .i64 s208.1 (p.ar .mul .i64 (p.rdI s208.2.2.2.1 (p.nat s208.2.2.2.2.2.1) 0) s208.2.2.1)) (0 : Int)) (
 opt.ret _ ((p.cmp .eql (p.ar .sub .i64 s208.2.1 (p.ar .mul .i64 (p.rdI s208.2.2.2.1 (p.nat s208.2.2.2.2.2.1) 1) s208.2.2.1)) (0 : Int)), ())) (
 opt.ret _ (Bool.false, ())))) fun y209 =>
 opt.ret _ (Sum.inl (y209.1, ()))) (
 opt.ask _ (p.cmp .lss (p.ar .sub .i64 (p.ar .mul .i64 (p.ar .sub .i64 (p.rdI s208.2.2.2.1 (p.nat (p.ar .rem .i64 (p.ar .add .i64 s208.2.2.2.2.2.1 (1 : Int)) s208.2.2.2.2.1)) 0) (p.rdI s208.2.2.2.1 (p.nat s208.2.2.2.2.2.1) 0)) (p.ar .sub .i64 s208.2.1 (p.ar .mul .i64 (p.rdI s208.2.2.2.1 (p.nat s208.2.2.2.2.2.1) 1) s208.2.2.1))) (p.ar .mul .i64 (p.ar .sub .i64 (p.rdI s208.2.2.2.1 (p.nat (p.ar .rem .i64 (p.ar .add .i64 s208.2.2.2.2.2.1 (1 : Int)) s208.2.2.2.2.1)) 1) (p.rdI s208.2.2.2.1 (p.nat s208.2.2.2.2.2.1) 1)) (p.ar .sub .i64 s208.1 (p.ar .mul .i64 (p.rdI s208.2.2.2.1 (p.nat s208.2.2.2.2.2.1) 0) s208.2.2.1)))) (0 : Int)) (
 opt.ret _ (Sum.inl (Bool.false, ()))) (
 opt.bnd ((Int × (Int × (Int × (List (List (D)) × (Int × (Int × (Bool × Unit)))))))) _ (
 opt.run ((Int × (Int × (Int × (List (List (D)) × (Int × (Int × (Bool × Unit)))))))) (
 opt.ask _ (p.cmp .eql s208.2.2.2.2.1 (2 : Int)) (
 opt.ret _ (s208.1, (s208.2.1, (s208.2.2.1, (s208.2.2.2.1, (s208.2.2.2.2.1, (s208.2.2.2.2.2.1, ((p.cmp .lss (p.ar .add .i64 (p.ar .mul .i64 (p.ar .sub .i64 (p.rdI s208.2.2.2.1 (p.nat (p.ar .rem .i64 (p.ar .add .i64 s208.2.2.2.2.2.1 (1 : Int)) s208.2.2.2.2.1)) 0) (p.rdI s208.2.2.2.1 (p.nat s208.2.2.2.2.2.1) 0)) (p.ar .sub .i64 s208.1 (p.ar .mul .i64 (p.rdI s208.2.2.2.1 (p.nat s208.2.2.2.2.2.1) 0) s208.2.2.1))) (p.ar .mul .i64 (p.ar .sub .i64 (p.rdI s208.2.2.2.1 (p.nat (p.ar .rem .i64 (p.ar .add .i64 s208.2.2.2.2.2.1 (1 : Int)) s208.2.2.2.2.1)) 1) (p.rdI s208.2.2.2.1 (p.nat s208.2.2.2.2.2.1) 1)) (p.ar .sub .i64 s208.2.1 (p.ar .mul .i64 (p.rdI s208.2.2.2.1 (p.nat s208.2.2.2.2.2.1) 1) s208.2.2.1)))) (0 : Int)), ())))))))) (
 opt.ret _ (s208.1, (s208.2.1, (s208.2.2.1, (s208.2.2.2.1, (s208.2.2.2.2.1, (s208.2.2.2.2.2.1, (Bool.false, ())))))))))) fun y210 =>
 opt.ask _ y210.2.2.2.2.2.2.1 (
 opt.ret _ (Sum.inl (Bool.false, ()))) (
 opt.ret _ (Sum.inr (y210.1, (y210.2.1, (y210.2.2.1, (y210.2.2.2.1, (y210.2.2.2.2.1, (y210.2.2.2.2.2.1, ())))))))))))) (fun y211 =>
 opt.ret _ (Sum.inr (Sum.inl (y211.1, ())))) (fun y212 =>
 opt.bnd ((Int × (Int × (Int × (List (List (D)) × (Int × (Int × Unit))))))) _ (some y212) fun y213 =>
 opt.ret _ (Sum.inl (y213.1, (y213.2.1, (y213.2.2.1, (y213.2.2.2.1, (y213.2.2.2.2.1, ((p.ar .add .i64 y213.2.2.2.2.2.1 (1 : Int)), ()))))))))) (
 opt.ret _ (Sum.inr (Sum.inr ()))))
noncomputable def g43 (it : It) : (p : Prim) → (List (List (D)) × (Int × (Int × (Int × Unit)))) → Option ((Bool × Unit)) :=
 fun p x =>
 opt.alt ((Bool × Unit)) (Unit) _ (
 it _ _ (b43_1 p) (x.2.1, (x.2.2.1, (x.2.2.2.1, (x.1, ((p.ofNat (p.len x.1)), ((0 : Int), ()))))))) (fun y214 =>
 opt.ret _ (y214.1, ())) (fun y215 =>
 opt.bnd (Unit) _ (some y215) fun y216 =>
 opt.ret _ (Bool.true, ()))
noncomputable def G43 := g43 it0
noncomputable def F43 : Prim → Tup (ctr43).scs → Option (STup (scss (ctr43).outs)) :=
 fun p x => G43 p x
theorem eq43 (p : Prim) (x : Tup (ctr43).scs) : bodyRun opt p (autoEnv Go.Proofs.Try.prog) (mkOrc opt p (autoEnv Go.Proofs.Try.prog) 400 (an43) la43) 400 ctr43 x = G43 p x := by kernel_rfl
theorem gok43 : GamOk Go.Proofs.Try.prog gam43 := fun cf h => by cases h
theorem enters43 : Enters Go.Proofs.Try.prog 43 := enters_auto (b := _) rfl (by kernel_rfl)
theorem ok43 : CtrOk Go.Proofs.Try.prog ctr43 (F43 std) := ctr_of_body (autoEnv_ok follows_mixed) (mkOrc_ok (autoEnv_ok follows_mixed) gok43 _) enters43 (fun x => eq43 std x)
noncomputable def ctr44 : Ctr :=
 ⟨44, [.agg [.list 2, .list 1]], [], [(.ret, ⟨[(0, .int .i64)], [], 1⟩)]⟩
noncomputable def la44 : List LA :=
 [⟨44, [false, true, false, true, true], 0, ⟨⟨[(1, .bptr 0 0), (3, .int .i64), (4, .int .i64)], [.box [.list 2, .list 1]], 24⟩, [((AX.exit 0), ⟨[(3, .int .i64)], [], 24⟩)]⟩⟩]
noncomputable def ja44 : List JA :=
 []
noncomputable def gam44 : List CF :=
 []
noncomputable def an44 : Anns :=
 ⟨gam44, ja44, []⟩
noncomputable def b44_1 (p : Prim) : (List (List (D)) × (List (List (D)) × (Int × (Int × Unit)))) → Option ((List (List (D)) × (List (List (D)) × (Int × (Int × Unit)))) ⊕ (Int × Unit)) :=
 fun s229 => opt.run _ (
 opt.ask _ (p.cmp .lss s229.2.2.2.1 (p.ofNat (p.len s229.2.1))) (
 opt.need _ (p.rowOk s229.2.1 (p.nat s229.2.2.2.1) [(CK.list 2)]) <|
 opt.need _ (p.cmp .geq s229.2.2.2.1 (0 : Int)) <|
 opt.ret _ (Sum.inl (s229.1, (s229.2.1, ((p.ar .mul .i64 s229.2.2.1 (p.ofNat (p.len (p.rdL s229.2.1 (p.nat s229.2.2.2.1) 0)))), ((p.ar .add .i64 s229.2.2.2.1 (1 : Int)), ())))))) (
 opt.ret _ (Sum.inr (s229.2.2.1, ()))))
noncomputable def g44 (it : It) : (p : Prim) → (List (List (D)) × (List (List (D)) × Unit)) → Option ((Int × Unit)) :=
 fun p x =>
 opt.bnd ((Int × Unit)) _ (
 it _ _ (b44_1 p) (x.1, (x.2.1, ((p.ofNat (p.len x.1)), ((0 : Int), ()))))) fun y230 =>
 opt.ret _ (y230.1, ())
noncomputable def G44 := g44 it0
noncomputable def F44 : Prim → Tup (ctr44).scs → Option (STup (scss (ctr44).outs)) :=
 fun p x => G44 p x
theorem eq44 (p : Prim) (x : Tup (ctr44).scs) : bodyRun opt p (autoEnv Go.Proofs.Try.prog) (mkOrc opt p (autoEnv Go.Proofs.Try.prog) 400 (an44) la44) 400 ctr44 x = G44 p x := by kernel_rfl
theorem gok44 : GamOk Go.Proofs.Try.prog gam44 := fun cf h => by cases h
theorem enters44 : Enters Go.Proofs.Try.prog 44 := enters_auto (b := _) rfl (by kernel_rfl)
theorem ok44 : CtrOk Go.Proofs.Try.prog ctr44 (F44 std) := ctr_of_body (autoEnv_ok follows_mixed) (mkOrc_ok (autoEnv_ok follows_mixed) gok44 _) enters44 (fun x => eq44 std x)
noncomputable def ctr49 : Ctr :=
 ⟨49, [.agg [.list 2, .list 1]], [], [(.ret, ⟨[(0, .list 2)], [], 1⟩)]⟩
noncomputable def la49 : List LA :=
 [⟨49, [false, true, false, true, true], 0, ⟨⟨[(1, .bptr 0 0), (3, .list 2), (4, .int .i64)], [.box [.list 2, .list 1]], 27⟩, [((AX.exit 0), ⟨[(3, .list 2)], [], 27⟩)]⟩⟩,
 ⟨45, [false, true, false, true, true], 2, ⟨⟨[(1, .bptr 2 0), (3, .list 2), (4, .int .i64)], [.box [.list 2, .list 1], .row [(CK.list 2)], .box [.list 2, .full 1 1]], 51⟩, [((AX.exit 0), ⟨[(3, .list 2)], [.box [.list 2, .list 1], .row [(CK.list 2)]], 51⟩)]⟩⟩,
 ⟨45, [false, true, false, true, false, false, true, false, false, true, false, true, true], 2, ⟨⟨[(1, .bptr 2 0), (3, .list 2), (4, .int .i64), (5, .vec 3 2), (6, .int .i64)], [.box [.list 2, .list 1], .row [(CK.list 2)], .box [.list 2, .full 1 1], .row [(CK.int .i64), (CK.int .i64)]], 51⟩, [((AX.exit 2), ⟨[(1, .bptr 2 0), (4, .int .i64), (5, .vec 3 2)], [.box [.list 2, .list 1], .row [(CK.list 2)], .box [.list 2, .full 1 1], .row [(CK.int .i64), (CK.int .i64)]], 51⟩)]⟩⟩,
 ⟨45, [false, true, false, false, true, false, false, true, false, true, false, false, true, false, false, true, false, true, true], 2, ⟨⟨[(1, .bptr 2 0), (3, .list 2), (4, .int .i64), (5, .vec 3 2), (6, .int .i64), (7, .int .i64)], [.box [.list 2, .list 1], .row [(CK.list 2)], .box [.list 2, .full 1 1], .row [(CK.int .i64), (CK.int .i64)]], 51⟩, [((AX.exit 4), ⟨[(1, .bptr 2 0), (3, .list 2), (4, .int .i64), (5, .vec 3 2), (6, .int .i64)], [.box [.list 2, .list 1], .row [(CK.list 2)], .box [.list 2, .full 1 1], .row [(CK.int .i64), (CK.int .i64)]], 51⟩)]⟩⟩]
noncomputable def ja49 : List JA :=
 []
noncomputable def gam49 : List CF :=
 [⟨ctr61, F61⟩]
noncomputable def an49 : Anns :=
 ⟨gam49, ja49, []⟩
noncomputable def b49_4 (p : Prim) : (List (List (D)) × (List (List (D)) × (List (List (D)) × (List (List (D)) × (List (List (D)) × (List (List (D)) × (Int × (Int × (Int × Unit))))))))) → Option ((List (List (D)) × (List (List (D)) × (List (List (D)) × (List (List (D)) × (List (List (D)) × (List (List (D)) × (Int × (Int × (Int × Unit))))))))) ⊕ (List (List (D)) × (List (List (D)) × (List (List (D)) × (List (List (D)) × (List (List (D)) × (List (List (D)) × (Int × (Int × Unit))))))))) :=
 fun s283 => opt.run _ (
 opt.need _ (bif (p.cmp .geq s283.2.2.2.2.2.2.1 (0 : Int)) then (p.cmp .lss s283.2.2.2.2.2.2.1 (p.ofNat (p.len s283.1))) else Bool.false) <|
 opt.need _ (p.rowOk s283.1 (p.add 0 (p.nat s283.2.2.2.2.2.2.1)) [(CK.list 2)]) <|
 opt.ask _ (p.cmp .lss s283.2.2.2.2.2.2.2.2.1 (p.ofNat (p.len (p.rdL s283.1 (p.add 0 (p.nat s283.2.2.2.2.2.2.1)) 0)))) (
 opt.need _ (p.rowOk s283.2.2.2.2.2.1 (p.nat s283.2.2.2.2.2.2.2.1) [(CK.int .i64), (CK.int .i64)]) <|
 opt.need _ (p.cmp .geq s283.2.2.2.2.2.2.2.1 (0 : Int)) <|
 opt.need _ (bif (p.cmp .geq s283.2.2.2.2.2.2.1 (0 : Int)) then (p.cmp .lss s283.2.2.2.2.2.2.1 (p.ofNat (p.len s283.1))) else Bool.false) <|
 opt.need _ (p.rowOk s283.1 (p.add 0 (p.nat s283.2.2.2.2.2.2.1)) [(CK.list 2)]) <|
 opt.need _ (p.rowOk (p.rdL s283.1 (p.add 0 (p.nat s283.2.2.2.2.2.2.1)) 0) (p.nat s283.2.2.2.2.2.2.2.2.1) [(CK.int .i64), (CK.int .i64)]) <|
 opt.need _ (p.cmp .geq s283.2.2.2.2.2.2.2.2.1 (0 : Int)) <|
 opt.need _ (p.and (p.leN (p.add 0 1) (p.len [[(D.int .i64 (p.ar .add .i64 (p.rdI s283.2.2.2.2.2.1 (p.nat s283.2.2.2.2.2.2.2.1) 0) (p.rdI (p.rdL s283.1 (p.add 0 (p.nat s283.2.2.2.2.2.2.1)) 0) (p.nat s283.2.2.2.2.2.2.2.2.1) 0))), (D.int .i64 (p.ar .add .i64 (p.rdI s283.2.2.2.2.2.1 (p.nat s283.2.2.2.2.2.2.2.1) 1) (p.rdI (p.rdL s283.1 (p.add 0 (p.nat s283.2.2.2.2.2.2.1)) 0) (p.nat s283.2.2.2.2.2.2.2.2.1) 1)))]])) (p.and (p.leN (p.add 0 (p.len s283.2.1)) (p.len s283.2.1)) (p.and (p.leN 1 1) (p.leN (p.add (p.len s283.2.1) 1) 1000000)))) <|
 opt.need _ (p.eqN 0 0) <|
 opt.need _ (p.eqN (p.len s283.1) (p.len s283.1)) <|
 opt.need _ (p.eqN (p.len s283.1) (p.len s283.1)) <|
 opt.need _ (p.eqN 0 0) <|
 opt.need _ (p.eqN (p.add (p.len s283.2.1) 1) (p.len (p.app (p.cut s283.2.1 0 (p.len s283.2.1)) (p.cut [[(D.int .i64 (p.ar .add .i64 (p.rdI s283.2.2.2.2.2.1 (p.nat s283.2.2.2.2.2.2.2.1) 0) (p.rdI (p.rdL s283.1 (p.add 0 (p.nat s283.2.2.2.2.2.2.1)) 0) (p.nat s283.2.2.2.2.2.2.2.2.1) 0))), (D.int .i64 (p.ar .add .i64 (p.rdI s283.2.2.2.2.2.1 (p.nat s283.2.2.2.2.2.2.2.1) 1) (p.rdI (p.rdL s283.1 (p.add 0 (p.nat s283.2.2.2.2.2.2.1)) 0) (p.nat s283.2.2.2.2.2.2.2.2.1) 1)))]] 0 1)))) <|
 opt.ret _ (Sum.inl (s283.1, ((p.app (p.cut s283.2.1 0 (p.len s283.2.1)) (p.cut [[(D.int .i64 (p.ar .add .i64 (p.rdI s283.2.2.2.2.2.1 (p.nat s283.2.2.2.2.2.2.2.1) 0) (p.rdI (p.rdL s283.1 (p.add 0 (p.nat s283.2.2.2.2.2.2.1)) 0) (p.nat s283.2.2.2.2.2.2.2.2.1) 0))), (D.int .i64 (p.ar .add .i64 (p.rdI s283.2.2.2.2.2.1 (p.nat s283.2.2.2.2.2.2.2.1) 1) (p.rdI (p.rdL s283.1 (p.add 0 (p.nat s283.2.2.2.2.2.2.1)) 0) (p.nat s283.2.2.2.2.2.2.2.2.1) 1)))]] 0 1)), (s283.2.2.1, (s283.2.2.2.1, (s283.2.2.2.2.1, (s283.2.2.2.2.2.1, (s283.2.2.2.2.2.2.1, (s283.2.2.2.2.2.2.2.1, ((p.ar .add .i64 s283.2.2.2.2.2.2.2.2.1 (1 : Int)), ()))))))))))) (
 opt.need _ (p.eqN 0 0) <|
 opt.need _ (p.eqN (p.len s283.1) (p.len s283.1)) <|
 opt.need _ (p.eqN (p.len s283.1) (p.len s283.1)) <|
 opt.need _ (p.eqN 0 0) <|
 opt.need _ (p.eqN (p.len s283.2.1) (p.len s283.2.1)) <|
 opt.ret _ (Sum.inr (s283.1, (s283.2.1, (s283.2.2.1, (s283.2.2.2.1, (s283.2.2.2.2.1, (s283.2.2.2.2.2.1, (s283.2.2.2.2.2.2.1, (s283.2.2.2.2.2.2.2.1, ())))))))))))
noncomputable def c49_3 (it : It) (p : Prim) : (List (List (D)) × (List (List (D)) × (List (List (D)) × (List (List (D)) × (List (List (D)) × (List (List (D)) × (Int × (Int × Unit)))))))) → Option ((List (List (D)) × (List (List (D)) × (List (List (D)) × (List (List (D)) × (List (List (D)) × (List (List (D)) × (Int × (Int × Unit)))))))) ⊕ (List (List (D)) × (List (List (D)) × (List (List (D)) × (List (List (D)) × (List (List (D)) × (Int × Unit))))))) :=
 fun s282 => opt.run _ (
 opt.ask _ (p.cmp .lss s282.2.2.2.2.2.2.2.1 (p.ofNat (p.len s282.2.2.2.2.2.1))) (
 opt.need _ (p.eqN 0 0) <|
 opt.need _ (p.eqN (p.len s282.1) (p.len s282.1)) <|
 opt.need _ (p.eqN (p.len s282.1) (p.len s282.1)) <|
 opt.need _ (p.eqN 0 0) <|
 opt.need _ (p.eqN (p.len s282.2.1) (p.len s282.2.1)) <|
 opt.bnd ((List (List (D)) × (List (List (D)) × (List (List (D)) × (List (List (D)) × (List (List (D)) × (List (List (D)) × (Int × (Int × Unit))))))))) _ (
 it _ _ (b49_4 p) (s282.1, (s282.2.1, (s282.2.2.1, (s282.2.2.2.1, (s282.2.2.2.2.1, (s282.2.2.2.2.2.1, (s282.2.2.2.2.2.2.1, (s282.2.2.2.2.2.2.2.1, ((0 : Int), ())))))))))) fun y284 =>
 opt.need _ (p.eqN 0 0) <|
 opt.need _ (p.eqN (p.len y284.1) (p.len y284.1)) <|
 opt.need _ (p.eqN (p.len y284.1) (p.len y284.1)) <|
 opt.need _ (p.eqN 0 0) <|
 opt.need _ (p.eqN (p.len y284.2.1) (p.len y284.2.1)) <|
 opt.ret _ (Sum.inl (y284.1, (y284.2.1, (y284.2.2.1, (y284.2.2.2.1, (y284.2.2.2.2.1, (y284.2.2.2.2.2.1, (y284.2.2.2.2.2.2.1, ((p.ar .add .i64 y284.2.2.2.2.2.2.2.1 (1 : Int)), ())))))))))) (
 opt.need _ (p.eqN 0 0) <|
 opt.need _ (p.eqN (p.len s282.1) (p.len s282.1)) <|
 opt.need _ (p.eqN (p.len s282.1) (p.len s282.1)) <|
 opt.need _ (p.eqN 0 0) <|
 opt.need _ (p.eqN (p.len s282.2.1) (p.len s282.2.1)) <|
 opt.ret _ (Sum.inr (s282.1, (s282.2.1, (s282.2.2.1, (s282.2.2.2.1, (s282.2.2.2.2.1, (s282.2.2.2.2.2.2.1, ())))))))))
noncomputable def c49_2 (it : It) (p : Prim) : (List (List (D)) × (List (List (D)) × (List (List (D)) × (List (List (D)) × (List (List (D)) × (Int × Unit)))))) → Option ((List (List (D)) × (List (List (D)) × (List (List (D)) × (List (List (D)) × (List (List (D)) × (Int × Unit)))))) ⊕ (List (List (D)) × (List (List (D)) × (List (List (D)) × (List (List (D)) × Unit))))) :=
 fun s281 => opt.run _ (
 opt.ask _ (p.cmp .lss s281.2.2.2.2.2.1 (p.ofNat (p.len s281.1))) (
 opt.need _ (p.eqN 0 0) <|
 opt.need _ (p.eqN (p.len s281.1) (p.len s281.1)) <|
 opt.need _ (p.eqN (p.len s281.1) (p.len s281.1)) <|
 opt.bnd ((List (List (D)) × (List (List (D)) × (List (List (D)) × (List (List (D)) × (List (List (D)) × (Int × Unit))))))) _ (
 it _ _ (c49_3 it p) (s281.1, ([], (s281.2.1, (s281.2.2.1, (s281.2.2.2.1, (s281.2.2.2.2.1, (s281.2.2.2.2.2.1, ((0 : Int), ()))))))))) fun y285 =>
 opt.need _ (p.eqN 0 0) <|
 opt.need _ (p.eqN (p.len y285.1) (p.len y285.1)) <|
 opt.need _ (p.eqN (p.len y285.1) (p.len y285.1)) <|
 opt.need _ (p.leN (p.add 0 (p.len y285.2.1)) (p.len y285.2.1)) <|
 opt.ret _ (Sum.inl (y285.1, (y285.2.2.1, (y285.2.2.2.1, (y285.2.2.2.2.1, ((p.cut y285.2.1 0 (p.len y285.2.1)), ((p.ar .add .i64 y285.2.2.2.2.2.1 (1 : Int)), ())))))))) (
 opt.ret _ (Sum.inr (s281.1, (s281.2.1, (s281.2.2.1, (s281.2.2.2.2.1, ())))))))
noncomputable def c49_1 (it : It) (p : Prim) : (List (List (D)) × (List (List (D)) × (List (List (D)) × (Int × Unit)))) → Option ((List (List (D)) × (List (List (D)) × (List (List (D)) × (Int × Unit)))) ⊕ (List (List (D)) × Unit)) :=
 fun s279 => opt.run _ (
 opt.ask _ (p.cmp .lss s279.2.2.2.1 (p.ofNat (p.len s279.2.1))) (
 opt.need _ (p.rowOk s279.2.1 (p.nat s279.2.2.2.1) [(CK.list 2)]) <|
 opt.need _ (p.cmp .geq s279.2.2.2.1 (0 : Int)) <|
 opt.bnd ((List (List (D)) × Unit)) _ (g61 it p ((p.rdL s279.2.1 (p.nat s279.2.2.2.1) 0), ())) fun y280 =>
 opt.need _ (p.eqN 0 0) <|
 opt.need _ (p.eqN 1 (p.len [[(D.list Bool.false 2 y280.1)]])) <|
 opt.need _ (p.eqN 1 (p.len [[(D.list Bool.false 2 y280.1)]])) <|
 opt.bnd ((List (List (D)) × (List (List (D)) × (List (List (D)) × (List (List (D)) × Unit))))) _ (
 it _ _ (c49_2 it p) ([[(D.list Bool.false 2 y280.1)]], (s279.1, (s279.2.1, (s279.2.2.1, (s279.2.2.1, ((0 : Int), ()))))))) fun y286 =>
 opt.bnd ((List (List (D)) × Unit)) _ (g61 it p (y286.2.2.2.1, ())) fun y287 =>
 opt.ret _ (Sum.inl (y286.2.1, (y286.2.2.1, (y287.1, ((p.ar .add .i64 s279.2.2.2.1 (1 : Int)), ())))))) (
 opt.ret _ (Sum.inr (s279.2.2.1, ()))))
noncomputable def g49 (it : It) : (p : Prim) → (List (List (D)) × (List (List (D)) × Unit)) → Option ((List (List (D)) × Unit)) :=
 fun p x =>
 opt.bnd ((List (List (D)) × Unit)) _ (g61 it p (x.1, ())) fun y278 =>
 opt.bnd ((List (List (D)) × Unit)) _ (
 it _ _ (c49_1 it p) (x.1, (x.2.1, (y278.1, ((0 : Int), ()))))) fun y288 =>
 opt.ret _ (y288.1, ())
noncomputable def G49 := g49 it0
noncomputable def F49 : Prim → Tup (ctr49).scs → Option (STup (scss (ctr49).outs)) :=
 fun p x => G49 p x
theorem eq49 (p : Prim) (x : Tup (ctr49).scs) : bodyRun opt p (autoEnv Go.Proofs.Try.prog) (mkOrc opt p (autoEnv Go.Proofs.Try.prog) 400 (an49) la49) 400 ctr49 x = G49 p x := by kernel_rfl
theorem gok49 : GamOk Go.Proofs.Try.prog (gam49) := by
  intro cf h
  simp only [gam49, List.mem_cons, List.not_mem_nil, or_false] at h
  rcases h with rfl
  · exact ok61
theorem enters49 : Enters Go.Proofs.Try.prog 49 := enters_auto (b := _) rfl (by kernel_rfl)
theorem ok49 : CtrOk Go.Proofs.Try.prog ctr49 (F49 std) := ctr_of_body (autoEnv_ok follows_mixed) (mkOrc_ok (autoEnv_ok follows_mixed) gok49 _) enters49 (fun x => eq49 std x)
noncomputable def ctr17 : Ctr :=
 ⟨17, [.agg [.list 2, .list 1]], [], [(.ret, ⟨[(0, .tuple [.list 2, .int .i64])], [], 1⟩)]⟩
noncomputable def la17 : List LA :=
 []
noncomputable def ja17 : List JA :=
 []
noncomputable def gam17 : List CF :=
 [⟨ctr49, F49⟩, ⟨ctr19, F19⟩]
noncomputable def an17 : Anns :=
 ⟨gam17, ja17, []⟩
noncomputable def g17 (it : It) : (p : Prim) → (List (List (D)) × (List (List (D)) × Unit)) → Option ((List (List (D)) × (Int × Unit))) :=
 fun p x =>
 opt.bnd ((Int × Unit)) _ (g19 it p (x.1, (x.2.1, ()))) fun y299 =>
 opt.ask _ (p.cmp .neq y299.1 (0 : Int)) (
 opt.bnd ((Int × Unit)) _ (g19 it p (x.1, (x.2.1, ()))) fun y300 =>
 opt.ret _ ([], (y300.1, ()))) (
 opt.bnd ((List (List (D)) × Unit)) _ (g49 it p (x.1, (x.2.1, ()))) fun y301 =>
 opt.ret _ (y301.1, ((0 : Int), ())))
noncomputable def G17 := g17 it0
noncomputable def F17 : Prim → Tup (ctr17).scs → Option (STup (scss (ctr17).outs)) :=
 fun p x => G17 p x
theorem eq17 (p : Prim) (x : Tup (ctr17).scs) : bodyRun opt p (autoEnv Go.Proofs.Try.prog) (mkOrc opt p (autoEnv Go.Proofs.Try.prog) 400 (an17) la17) 400 ctr17 x = G17 p x := by kernel_rfl
theorem gok17 : GamOk Go.Proofs.Try.prog (gam17) := by
  intro cf h
  simp only [gam17, List.mem_cons, List.not_mem_nil, or_false] at h
  rcases h with rfl | rfl
  · exact ok49
  · exact ok19
theorem enters17 : Enters Go.Proofs.Try.prog 17 := enters_auto (b := _) rfl (by kernel_rfl)
theorem ok17 : CtrOk Go.Proofs.Try.prog ctr17 (F17 std) := ctr_of_body (autoEnv_ok follows_mixed) (mkOrc_ok (autoEnv_ok follows_mixed) gok17 _) enters17 (fun x => eq17 std x)
noncomputable def ctr58 : Ctr :=
 ⟨58, [.list 2, .agg [.int .i64, .int .i64]], [], [(.ret, ⟨[(0, .bool)], [], 1⟩)]⟩
noncomputable def la58 : List LA :=
 []
noncomputable def ja58 : List JA :=
 []
noncomputable def gam58 : List CF :=
 [⟨ctr43, F43⟩]
noncomputable def an58 : Anns :=
 ⟨gam58, ja58, []⟩
noncomputable def g58 (it : It) : (p : Prim) → (List (List (D)) × (Int × (Int × Unit))) → Option ((Bool × Unit)) :=
 fun p x =>
 opt.bnd ((Bool × Unit)) _ (g43 it p (x.1, (x.2.1, (x.2.2.1, ((1 : Int), ()))))) fun y309 =>
 opt.ret _ (y309.1, ())
noncomputable def G58 := g58 it0
noncomputable def F58 : Prim → Tup (ctr58).scs → Option (STup (scss (ctr58).outs)) :=
 fun p x => G58 p x
theorem eq58 (p : Prim) (x : Tup (ctr58).scs) : bodyRun opt p (autoEnv Go.Proofs.Try.prog) (mkOrc opt p (autoEnv Go.Proofs.Try.prog) 400 (an58) la58) 400 ctr58 x = G58 p x := by kernel_rfl
theorem gok58 : GamOk Go.Proofs.Try.prog (gam58) := by
  intro cf h
  simp only [gam58, List.mem_cons, List.not_mem_nil, or_false] at h
  rcases h with rfl
  · exact ok43
theorem enters58 : Enters Go.Proofs.Try.prog 58 := enters_auto (b := _) rfl (by kernel_rfl)
theorem ok58 : CtrOk Go.Proofs.Try.prog ctr58 (F58 std) := ctr_of_body (autoEnv_ok follows_mixed) (mkOrc_ok (autoEnv_ok follows_mixed) gok58 _) enters58 (fun x => eq58 std x)
noncomputable def ctr22 : Ctr :=
 ⟨22, [.agg [.list 2, .list 1], .agg [.int .i64, .int .i64]], [], [(.ret, ⟨[(0, .tuple [.bool, .int .i64])], [], 1⟩)]⟩
noncomputable def la22 : List LA :=
 []
noncomputable def ja22 : List JA :=
 []
noncomputable def gam22 : List CF :=
 [⟨ctr58, F58⟩, ⟨ctr49, F49⟩, ⟨ctr56, F56⟩, ⟨ctr19, F19⟩]
noncomputable def an22 : Anns :=
 ⟨gam22, ja22, []⟩
noncomputable def g22 (it : It) : (p : Prim) → (List (List (D)) × (List (List (D)) × (Int × (Int × Unit)))) → Option ((Bool × (Int × Unit))) :=
 fun p x =>
 opt.bnd ((Int × Unit)) _ (g19 it p (x.1, (x.2.1, ()))) fun y323 =>
 opt.ask _ (p.cmp .neq y323.1 (0 : Int)) (
 opt.bnd ((Int × Unit)) _ (g19 it p (x.1, (x.2.1, ()))) fun y324 =>
 opt.ret _ (Bool.false, (y324.1, ()))) (
 opt.need _ (p.and (p.leN (p.add 0 1) (p.len [[(D.int .i64 x.2.2.1), (D.int .i64 x.2.2.2.1)]])) (p.and Bool.true (p.and Bool.true Bool.true))) <|
 opt.bnd ((Bool × Unit)) _ (g56 it p ((p.cut [[(D.int .i64 x.2.2.1), (D.int .i64 x.2.2.2.1)]] 0 1), ((-1099511627776 : Int), ((1099511627776 : Int), ())))) fun y325 =>
 opt.ask _ (bif y325.1 then Bool.false else Bool.true) (
 opt.ret _ (Bool.false, ((3 : Int), ()))) (
 opt.bnd ((List (List (D)) × Unit)) _ (g49 it p (x.1, (x.2.1, ()))) fun y326 =>
 opt.bnd ((Bool × Unit)) _ (g58 it p (y326.1, (x.2.2.1, (x.2.2.2.1, ())))) fun y327 =>
 opt.ret _ (y327.1, ((0 : Int), ()))))
noncomputable def G22 := g22 it0
noncomputable def F22 : Prim → Tup (ctr22).scs → Option (STup (scss (ctr22).outs)) :=
 fun p x => G22 p x
theorem eq22 (p : Prim) (x : Tup (ctr22).scs) : bodyRun opt p (autoEnv Go.Proofs.Try.prog) (mkOrc opt p (autoEnv Go.Proofs.Try.prog) 400 (an22) la22) 400 ctr22 x = G22 p x := by kernel_rfl
theorem gok22 : GamOk Go.Proofs.Try.prog (gam22) := by
  intro cf h
  simp only [gam22, List.mem_cons, List.not_mem_nil, or_false] at h
  rcases h with rfl | rfl | rfl | rfl
  · exact ok58
  · exact ok49
  · exact ok56
  · exact ok19
theorem enters22 : Enters Go.Proofs.Try.prog 22 := enters_auto (b := _) rfl (by kernel_rfl)
theorem ok22 : CtrOk Go.Proofs.Try.prog ctr22 (F22 std) := ctr_of_body (autoEnv_ok follows_mixed) (mkOrc_ok (autoEnv_ok follows_mixed) gok22 _) enters22 (fun x => eq22 std x)
noncomputable def ctr24 : Ctr :=
 ⟨24, [.agg [.list 2, .list 1], .list 2], [], [(.ret, ⟨[(0, .tuple [.agg [.int .i64, .int .i64], .int .i64])], [], 1⟩)]⟩
noncomputable def la24 : List LA :=
 [⟨24, [false, true, false, true, true, true, true, true, true], 0, ⟨⟨[(4, .bptr 0 0), (6, .list 2), (7, .list 2), (8, .int .i64)], [.box [.int .i64, .int .i64]], 45⟩, [(AX.ret, ⟨[(4, .bptr 0 0), (5, .int .i64)], [.box [.int .i64, .int .i64]], 45⟩), ((AX.exit 0), ⟨[(4, .bptr 0 0)], [.box [.int .i64, .int .i64]], 45⟩)]⟩⟩]
noncomputable def ja24 : List JA :=
 []
noncomputable def gam24 : List CF :=
 [⟨ctr58, F58⟩, ⟨ctr49, F49⟩, ⟨ctr61, F61⟩, ⟨ctr56, F56⟩, ⟨ctr55, F55⟩, ⟨ctr19, F19⟩]
noncomputable def an24 : Anns :=
 ⟨gam24, ja24, []⟩
noncomputable def c24_1 (it : It) (p : Prim) : (Int × (Int × (List (List (D)) × (List (List (D)) × (Int × Unit))))) → Option ((Int × (Int × (List (List (D)) × (List (List (D)) × (Int × Unit))))) ⊕ ((Int × (Int × (Int × Unit))) ⊕ (Int × (Int × Unit)))) :=
 fun s358 => opt.run _ (
 opt.ask _ (p.cmp .lss s358.2.2.2.2.1 (p.ofNat (p.len s358.2.2.2.1))) (
 opt.need _ (p.rowOk s358.2.2.2.1 (p.nat s358.2.2.2.2.1) [(CK.int .i64), (CK.int .i64)]) <|
 opt.need _ (p.cmp .geq s358.2.2.2.2.1 (0 : Int)) <|
 opt.bnd ((Bool × Unit)) _ (g58 it p (s358.2.2.1, ((p.rdI s358.2.2.2.1 (p.nat s358.2.2.2.2.1) 0), ((p.rdI s358.2.2.2.1 (p.nat s358.2.2.2.2.1) 1), ())))) fun y359 =>
 opt.ask _ (bif y359.1 then Bool.false else Bool.true) (
 opt.need _ (p.rowOk s358.2.2.2.1 (p.nat s358.2.2.2.2.1) [(CK.int .i64), (CK.int .i64)]) <|
 opt.need _ (p.cmp .geq s358.2.2.2.2.1 (0 : Int)) <|
 opt.ret _ (Sum.inr (Sum.inl ((p.rdI s358.2.2.2.1 (p.nat s358.2.2.2.2.1) 0), ((p.rdI s358.2.2.2.1 (p.nat s358.2.2.2.2.1) 1), ((0 : Int), ())))))) (
 opt.ret _ (Sum.inl (s358.1, (s358.2.1, (s358.2.2.1, (s358.2.2.2.1, ((p.ar .add .i64 s358.2.2.2.2.1 (1 : Int)), ())))))))) (
 opt.ret _ (Sum.inr (Sum.inr (s358.1, (s358.2.1, ()))))))
noncomputable def g24 (it : It) : (p : Prim) → (List (List (D)) × (List (List (D)) × (List (List (D)) × Unit))) → Option ((Int × (Int × (Int × Unit)))) :=
 fun p x =>
 opt.bnd ((Int × Unit)) _ (g19 it p (x.1, (x.2.1, ()))) fun y352 =>
 opt.ask _ (p.cmp .neq y352.1 (0 : Int)) (
 opt.bnd ((Int × Unit)) _ (g19 it p (x.1, (x.2.1, ()))) fun y353 =>
 opt.ret _ ((0 : Int), ((0 : Int), (y353.1, ())))) (
 opt.bnd ((Bool × Unit)) _ (G55 p (x.2.2.1, ())) fun y354 =>
 opt.ask _ (bif y354.1 then Bool.false else Bool.true) (
 opt.ret _ ((0 : Int), ((0 : Int), ((6 : Int), ())))) (
 opt.bnd ((Bool × Unit)) _ (g56 it p (x.2.2.1, ((-10000 : Int), ((10000 : Int), ())))) fun y355 =>
 opt.ask _ (bif y355.1 then Bool.false else Bool.true) (
 opt.ret _ ((0 : Int), ((0 : Int), ((3 : Int), ())))) (
 opt.bnd ((List (List (D)) × Unit)) _ (g61 it p (x.2.2.1, ())) fun y356 =>
 opt.bnd ((List (List (D)) × Unit)) _ (g49 it p (x.1, (x.2.1, ()))) fun y357 =>
 opt.alt ((Int × (Int × (Int × Unit)))) ((Int × (Int × Unit))) _ (
 it _ _ (c24_1 it p) ((0 : Int), ((0 : Int), (y356.1, (y357.1, ((0 : Int), ())))))) (fun y360 =>
 opt.ret _ (y360.1, (y360.2.1, (y360.2.2.1, ())))) (fun y361 =>
 opt.bnd ((Int × (Int × Unit))) _ (some y361) fun y362 =>
 opt.ret _ ((0 : Int), ((0 : Int), ((5 : Int), ())))))))
noncomputable def G24 := g24 it0
noncomputable def F24 : Prim → Tup (ctr24).scs → Option (STup (scss (ctr24).outs)) :=
 fun p x => G24 p x
theorem eq24 (p : Prim) (x : Tup (ctr24).scs) : bodyRun opt p (autoEnv Go.Proofs.Try.prog) (mkOrc opt p (autoEnv Go.Proofs.Try.prog) 400 (an24) la24) 400 ctr24 x = G24 p x := by kernel_rfl
theorem gok24 : GamOk Go.Proofs.Try.prog (gam24) := by
  intro cf h
  simp only [gam24, List.mem_cons, List.not_mem_nil, or_false] at h
  rcases h with rfl | rfl | rfl | rfl | rfl | rfl
  · exact ok58
  · exact ok49
  · exact ok61
  · exact ok56
  · exact ok55
  · exact ok19
theorem enters24 : Enters Go.Proofs.Try.prog 24 := enters_auto (b := _) rfl (by kernel_rfl)
theorem ok24 : CtrOk Go.Proofs.Try.prog ctr24 (F24 std) := ctr_of_body (autoEnv_ok follows_mixed) (mkOrc_ok (autoEnv_ok follows_mixed) gok24 _) enters24 (fun x => eq24 std x)
noncomputable def ctr72 : Ctr :=
 ⟨72, [.agg [.list 2, .list 1], .agg [.list 2, .list 1]], [], [(.ret, ⟨[(0, .int .i64)], [], 1⟩)]⟩
noncomputable def la72 : List LA :=
 []
noncomputable def ja72 : List JA :=
 []
noncomputable def gam72 : List CF :=
 [⟨ctr19, F19⟩]
noncomputable def an72 : Anns :=
 ⟨gam72, ja72, []⟩
noncomputable def g72 (it : It) : (p : Prim) → (List (List (D)) × (List (List (D)) × (List (List (D)) × (List (List (D)) × Unit)))) → Option ((Int × Unit)) :=
 fun p x =>
 opt.bnd ((Int × Unit)) _ (g19 it p (x.1, (x.2.1, ()))) fun y373 =>
 opt.ask _ (p.cmp .neq y373.1 (0 : Int)) (
 opt.bnd ((Int × Unit)) _ (g19 it p (x.1, (x.2.1, ()))) fun y374 =>
 opt.ret _ (y374.1, ())) (
 opt.bnd ((Int × Unit)) _ (g19 it p (x.2.2.1, (x.2.2.2.1, ()))) fun y375 =>
 opt.ret _ (y375.1, ()))
noncomputable def G72 := g72 it0
noncomputable def F72 : Prim → Tup (ctr72).scs → Option (STup (scss (ctr72).outs)) :=
 fun p x => G72 p x
theorem eq72 (p : Prim) (x : Tup (ctr72).scs) : bodyRun opt p (autoEnv Go.Proofs.Try.prog) (mkOrc opt p (autoEnv Go.Proofs.Try.prog) 400 (an72) la72) 400 ctr72 x = G72 p x := by kernel_rfl
theorem gok72 : GamOk Go.Proofs.Try.prog (gam72) := by
  intro cf h
  simp only [gam72, List.mem_cons, List.not_mem_nil, or_false] at h
  rcases h with rfl
  · exact ok19
theorem enters72 : Enters Go.Proofs.Try.prog 72 := enters_auto (b := _) rfl (by kernel_rfl)
theorem ok72 : CtrOk Go.Proofs.Try.prog ctr72 (F72 std) := ctr_of_body (autoEnv_ok follows_mixed) (mkOrc_ok (autoEnv_ok follows_mixed) gok72 _) enters72 (fun x => eq72 std x)
noncomputable def ctr36 : Ctr :=
 ⟨36, [.agg [.list 2, .list 1], .agg [.list 2, .list 1], .agg [.int .i64, .int .i64, .int .i64]], [], [(.ret, ⟨[(0, .int .i64)], [], 1⟩)]⟩
noncomputable def la36 : List LA :=
 [⟨36, [false, true, false, true, true, true, true], 0, ⟨⟨[(5, .bptr 0 0), (7, .list 2), (8, .list 2), (9, .int .i64)], [.box [.int .i64, .int .i64, .int .i64]], 112⟩, [(AX.ret, ⟨[(6, .int .i64)], [], 112⟩), ((AX.exit 0), ⟨[(5, .bptr 0 0), (8, .list 2)], [.box [.int .i64, .int .i64, .int .i64]], 112⟩)]⟩⟩,
 ⟨36, [false, true, false, true, true, true, true, true], 0, ⟨⟨[(5, .bptr 0 0), (8, .list 2), (10, .int .i64)], [.box [.int .i64, .int .i64, .int .i64]], 112⟩, [(AX.ret, ⟨[(6, .int .i64)], [], 112⟩), ((AX.exit 2), ⟨[], [], 112⟩)]⟩⟩]
noncomputable def ja36 : List JA :=
 [⟨36, [false, false, true, true], 0, [(AX.normal, ⟨[(3, .bptr 0 0), (4, .bptr 1 0), (5, .bptr 2 0), (55, .bool)], [.box [.list 2, .list 1], .box [.list 2, .list 1], .box [.int .i64, .int .i64, .int .i64]], 112⟩)]⟩]
noncomputable def gam36 : List CF :=
 [⟨ctr49, F49⟩, ⟨ctr72, F72⟩]
noncomputable def an36 : Anns :=
 ⟨gam36, ja36, []⟩
noncomputable def b36_2 (p : Prim) : (Int × (Int × (Int × (List (List (D)) × (Int × Unit))))) → Option ((Int × (Int × (Int × (List (List (D)) × (Int × Unit))))) ⊕ ((Int × Unit) ⊕ Unit)) :=
 fun s415 => opt.run _ (
 opt.ask _ (p.cmp .lss s415.2.2.2.2.1 (p.ofNat (p.len s415.2.2.2.1))) (
 opt.need _ (p.rowOk s415.2.2.2.1 (p.nat s415.2.2.2.2.1) [(CK.int .i64), (CK.int .i64)]) <|
 opt.need _ (p.cmp .geq s415.2.2.2.2.1 (0 : Int)) <|
 opt.need _ (p.rowOk s415.2.2.2.1 (p.nat s415.2.2.2.2.1) [(CK.int .i64), (CK.int .i64)]) <|
 opt.need _ (p.cmp .geq s415.2.2.2.2.1 (0 : Int)) <|
 opt.ask _ (p.cmp .leq (p.ar .add .i64 (p.ar .mul .i64 s415.1 (p.rdI s415.2.2.2.1 (p.nat s415.2.2.2.2.1) 0)) (p.ar .mul .i64 s415.2.1 (p.rdI s415.2.2.2.1 (p.nat s415.2.2.2.2.1) 1))) s415.2.2.1) (
 opt.ret _ (Sum.inr (Sum.inl ((14 : Int), ())))) (
 opt.ret _ (Sum.inl (s415.1, (s415.2.1, (s415.2.2.1, (s415.2.2.2.1, ((p.ar .add .i64 s415.2.2.2.2.1 (1 : Int)), ())))))))) (
 opt.ret _ (Sum.inr (Sum.inr ()))))
noncomputable def b36_1 (p : Prim) : (Int × (Int × (Int × (List (List (D)) × (List (List (D)) × (Int × Unit)))))) → Option ((Int × (Int × (Int × (List (List (D)) × (List (List (D)) × (Int × Unit)))))) ⊕ ((Int × Unit) ⊕ (Int × (Int × (Int × (List (List (D)) × Unit)))))) :=
 fun s411 => opt.run _ (
 opt.ask _ (p.cmp .lss s411.2.2.2.2.2.1 (p.ofNat (p.len s411.2.2.2.1))) (
 opt.need _ (p.rowOk s411.2.2.2.1 (p.nat s411.2.2.2.2.2.1) [(CK.int .i64), (CK.int .i64)]) <|
 opt.need _ (p.cmp .geq s411.2.2.2.2.2.1 (0 : Int)) <|
 opt.need _ (p.rowOk s411.2.2.2.1 (p.nat s411.2.2.2.2.2.1) [(CK.int .i64), (CK.int .i64)]) <|
 opt.need _ (p.cmp .geq s411.2.2.2.2.2.1 (0 : Int)) <|
 opt.ask _ (p.cmp .gtr (p.ar .add .i64 (p.ar .mul .i64 s411.1 (p.rdI s411.2.2.2.1 (p.nat s411.2.2.2.2.2.1) 0)) (p.ar .mul .i64 s411.2.1 (p.rdI s411.2.2.2.1 (p.nat s411.2.2.2.2.2.1) 1))) s411.2.2.1) (
 opt.ret _ (Sum.inr (Sum.inl ((14 : Int), ())))) (
 opt.ret _ (Sum.inl (s411.1, (s411.2.1, (s411.2.2.1, (s411.2.2.2.1, (s411.2.2.2.2.1, ((p.ar .add .i64 s411.2.2.2.2.2.1 (1 : Int)), ()))))))))) (
 opt.ret _ (Sum.inr (Sum.inr (s411.1, (s411.2.1, (s411.2.2.1, (s411.2.2.2.2.1, ()))))))))
noncomputable def g36 (it : It) : (p : Prim) → (List (List (D)) × (List (List (D)) × (List (List (D)) × (List (List (D)) × (Int × (Int × (Int × Unit))))))) → Option ((Int × Unit)) :=
 fun p x =>
 opt.bnd ((Int × Unit)) _ (g72 it p (x.1, (x.2.1, (x.2.2.1, (x.2.2.2.1, ()))))) fun y406 =>
 opt.ask _ (p.cmp .neq y406.1 (0 : Int)) (
 opt.bnd ((Int × Unit)) _ (g72 it p (x.1, (x.2.1, (x.2.2.1, (x.2.2.2.1, ()))))) fun y407 =>
 opt.ret _ (y407.1, ())) (
 opt.bnd ((List (List (D)) × (List (List (D)) × (List (List (D)) × (List (List (D)) × (Int × (Int × (Int × (Bool × Unit))))))))) _ (
 opt.run ((List (List (D)) × (List (List (D)) × (List (List (D)) × (List (List (D)) × (Int × (Int × (Int × (Bool × Unit))))))))) (
 opt.ask _ (p.cmp .eql x.2.2.2.2.1 (0 : Int)) (
 opt.ask _ (p.cmp .eql x.2.2.2.2.2.1 (0 : Int)) (
 opt.ret _ (x.1, (x.2.1, (x.2.2.1, (x.2.2.2.1, (x.2.2.2.2.1, (x.2.2.2.2.2.1, (x.2.2.2.2.2.2.1, (Bool.true, ()))))))))) (
 opt.ask _ (p.cmp .lss x.2.2.2.2.1 (-1048576 : Int)) (
 opt.ret _ (x.1, (x.2.1, (x.2.2.1, (x.2.2.2.1, (x.2.2.2.2.1, (x.2.2.2.2.2.1, (x.2.2.2.2.2.2.1, (Bool.true, ()))))))))) (
 opt.ask _ (p.cmp .gtr x.2.2.2.2.1 (1048576 : Int)) (
 opt.ret _ (x.1, (x.2.1, (x.2.2.1, (x.2.2.2.1, (x.2.2.2.2.1, (x.2.2.2.2.2.1, (x.2.2.2.2.2.2.1, (Bool.true, ()))))))))) (
 opt.ask _ (p.cmp .lss x.2.2.2.2.2.1 (-1048576 : Int)) (
 opt.ret _ (x.1, (x.2.1, (x.2.2.1, (x.2.2.2.1, (x.2.2.2.2.1, (x.2.2.2.2.2.1, (x.2.2.2.2.2.2.1, (Bool.true, ()))))))))) (
 opt.ask _ (p.cmp .gtr x.2.2.2.2.2.1 (1048576 : Int)) (
 opt.ret _ (x.1, (x.2.1, (x.2.2.1, (x.2.2.2.1, (x.2.2.2.2.1, (x.2.2.2.2.2.1, (x.2.2.2.2.2.2.1, (Bool.true, ()))))))))) (
 opt.ask _ (p.cmp .lss x.2.2.2.2.2.2.1 (-1099511627776 : Int)) (
 opt.ret _ (x.1, (x.2.1, (x.2.2.1, (x.2.2.2.1, (x.2.2.2.2.1, (x.2.2.2.2.2.1, (x.2.2.2.2.2.2.1, (Bool.true, ()))))))))) (
 opt.ret _ (x.1, (x.2.1, (x.2.2.1, (x.2.2.2.1, (x.2.2.2.2.1, (x.2.2.2.2.2.1, (x.2.2.2.2.2.2.1, ((p.cmp .gtr x.2.2.2.2.2.2.1 (1099511627776 : Int)), ()))))))))))))))) (
 opt.ask _ (p.cmp .lss x.2.2.2.2.1 (-1048576 : Int)) (
 opt.ret _ (x.1, (x.2.1, (x.2.2.1, (x.2.2.2.1, (x.2.2.2.2.1, (x.2.2.2.2.2.1, (x.2.2.2.2.2.2.1, (Bool.true, ()))))))))) (
 opt.ask _ (p.cmp .gtr x.2.2.2.2.1 (1048576 : Int)) (
 opt.ret _ (x.1, (x.2.1, (x.2.2.1, (x.2.2.2.1, (x.2.2.2.2.1, (x.2.2.2.2.2.1, (x.2.2.2.2.2.2.1, (Bool.true, ()))))))))) (
 opt.ask _ (p.cmp .lss x.2.2.2.2.2.1 (-1048576 : Int)) (
 opt.ret _ (x.1, (x.2.1, (x.2.2.1, (x.2.2.2.1, (x.2.2.2.2.1, (x.2.2.2.2.2.1, (x.2.2.2.2.2.2.1, (Bool.true, ()))))))))) (
 opt.ask _ (p.cmp .gtr x.2.2.2.2.2.1 (1048576 : Int)) (
 opt.ret _ (x.1, (x.2.1, (x.2.2.1, (x.2.2.2.1, (x.2.2.2.2.1, (x.2.2.2.2.2.1, (x.2.2.2.2.2.2.1, (Bool.true, ()))))))))) (
 opt.ask _ (p.cmp .lss x.2.2.2.2.2.2.1 (-1099511627776 : Int)) (
 opt.ret _ (x.1, (x.2.1, (x.2.2.1, (x.2.2.2.1, (x.2.2.2.2.1, (x.2.2.2.2.2.1, (x.2.2.2.2.2.2.1, (Bool.true, ()))))))))) (
 opt.ret _ (x.1, (x.2.1, (x.2.2.1, (x.2.2.2.1, (x.2.2.2.2.1, (x.2.2.2.2.2.1, (x.2.2.2.2.2.2.1, ((p.cmp .gtr x.2.2.2.2.2.2.1 (1099511627776 : Int)), ())))))))))))))))) fun y408 =>
 opt.ask _ y408.2.2.2.2.2.2.2.1 (
 opt.ret _ ((2 : Int), ())) (
 opt.bnd ((List (List (D)) × Unit)) _ (g49 it p (y408.1, (y408.2.1, ()))) fun y409 =>
 opt.bnd ((List (List (D)) × Unit)) _ (g49 it p (y408.2.2.1, (y408.2.2.2.1, ()))) fun y410 =>
 opt.alt ((Int × Unit)) ((Int × (Int × (Int × (List (List (D)) × Unit))))) _ (
 it _ _ (b36_1 p) (y408.2.2.2.2.1, (y408.2.2.2.2.2.1, (y408.2.2.2.2.2.2.1, (y409.1, (y410.1, ((0 : Int), ()))))))) (fun y412 =>
 opt.ret _ (y412.1, ())) (fun y413 =>
 opt.bnd ((Int × (Int × (Int × (List (List (D)) × Unit))))) _ (some y413) fun y414 =>
 opt.alt ((Int × Unit)) (Unit) _ (
 it _ _ (b36_2 p) (y414.1, (y414.2.1, (y414.2.2.1, (y414.2.2.2.1, ((0 : Int), ())))))) (fun y416 =>
 opt.ret _ (y416.1, ())) (fun y417 =>
 opt.bnd (Unit) _ (some y417) fun y418 =>
 opt.ret _ ((0 : Int), ())))))
noncomputable def G36 := g36 it0
noncomputable def F36 : Prim → Tup (ctr36).scs → Option (STup (scss (ctr36).outs)) :=
 fun p x => G36 p x
theorem eq36 (p : Prim) (x : Tup (ctr36).scs) : bodyRun opt p (autoEnv Go.Proofs.Try.prog) (mkOrc opt p (autoEnv Go.Proofs.Try.prog) 400 (an36) la36) 400 ctr36 x = G36 p x := by kernel_rfl
theorem gok36 : GamOk Go.Proofs.Try.prog (gam36) := by
  intro cf h
  simp only [gam36, List.mem_cons, List.not_mem_nil, or_false] at h
  rcases h with rfl | rfl
  · exact ok49
  · exact ok72
theorem enters36 : Enters Go.Proofs.Try.prog 36 := enters_auto (b := _) rfl (by kernel_rfl)
theorem ok36 : CtrOk Go.Proofs.Try.prog ctr36 (F36 std) := ctr_of_body (autoEnv_ok follows_mixed) (mkOrc_ok (autoEnv_ok follows_mixed) gok36 _) enters36 (fun x => eq36 std x)
noncomputable def ctr38 : Ctr :=
 ⟨38, [.agg [.list 2, .list 1], .agg [.list 2, .list 1], .agg [.int .i64, .int .i64, .int .i64]], [], [(.ret, ⟨[(0, .int .i64)], [], 1⟩)]⟩
noncomputable def la38 : List LA :=
 []
noncomputable def ja38 : List JA :=
 [⟨38, [false, false, true, true], 0, [(AX.normal, ⟨[(3, .bptr 0 0), (4, .bptr 1 0), (5, .bptr 2 0), (41, .bool)], [.box [.list 2, .list 1], .box [.list 2, .list 1], .box [.int .i64, .int .i64, .int .i64]], 54⟩)]⟩]
noncomputable def gam38 : List CF :=
 [⟨ctr43, F43⟩, ⟨ctr49, F49⟩, ⟨ctr72, F72⟩]
noncomputable def an38 : Anns :=
 ⟨gam38, ja38, []⟩
noncomputable def g38 (it : It) : (p : Prim) → (List (List (D)) × (List (List (D)) × (List (List (D)) × (List (List (D)) × (Int × (Int × (Int × Unit))))))) → Option ((Int × Unit)) :=
 fun p x =>
 opt.bnd ((Int × Unit)) _ (g72 it p (x.1, (x.2.1, (x.2.2.1, (x.2.2.2.1, ()))))) fun y437 =>
 opt.ask _ (p.cmp .neq y437.1 (0 : Int)) (
 opt.bnd ((Int × Unit)) _ (g72 it p (x.1, (x.2.1, (x.2.2.1, (x.2.2.2.1, ()))))) fun y438 =>
 opt.ret _ (y438.1, ())) (
 opt.bnd ((List (List (D)) × (List (List (D)) × (List (List (D)) × (List (List (D)) × (Int × (Int × (Int × (Bool × Unit))))))))) _ (
 opt.run ((List (List (D)) × (List (List (D)) × (List (List (D)) × (List (List (D)) × (Int × (Int × (Int × (Bool × Unit))))))))) (
 opt.ask _ (p.cmp .lss x.2.2.2.2.2.2.1 (1 : Int)) (
 opt.ret _ (x.1, (x.2.1, (x.2.2.1, (x.2.2.2.1, (x.2.2.2.2.1, (x.2.2.2.2.2.1, (x.2.2.2.2.2.2.1, (Bool.true, ()))))))))) (
 opt.ask _ (p.cmp .gtr x.2.2.2.2.2.2.1 (268435456 : Int)) (
 opt.ret _ (x.1, (x.2.1, (x.2.2.1, (x.2.2.2.1, (x.2.2.2.2.1, (x.2.2.2.2.2.1, (x.2.2.2.2.2.2.1, (Bool.true, ()))))))))) (
 opt.ask _ (p.cmp .lss x.2.2.2.2.1 (-1099511627776 : Int)) (
 opt.ret _ (x.1, (x.2.1, (x.2.2.1, (x.2.2.2.1, (x.2.2.2.2.1, (x.2.2.2.2.2.1, (x.2.2.2.2.2.2.1, (Bool.true, ()))))))))) (
 opt.ask _ (p.cmp .gtr x.2.2.2.2.1 (1099511627776 : Int)) (
 opt.ret _ (x.1, (x.2.1, (x.2.2.1, (x.2.2.2.1, (x.2.2.2.2.1, (x.2.2.2.2.2.1, (x.2.2.2.2.2.2.1, (Bool.true, ()))))))))) (
 opt.ask _ (p.cmp .lss x.2.2.2.2.2.1 (-1099511627776 : Int)) (
 opt.ret _ (x.1, (x.2.1, (x.2.2.1, (x.2.2.2.1, (x.2.2.2.2.1, (x.2.2.2.2.2.1, (x.2.2.2.2.2.2.1, (Bool.true, ()))))))))) (
 opt.ret _ (x.1, (x.2.1, (x.2.2.1, (x.2.2.2.1, (x.2.2.2.2.1, (x.2.2.2.2.2.1, (x.2.2.2.2.2.2.1, ((p.cmp .gtr x.2.2.2.2.2.1 (1099511627776 : Int)), ()))))))))))))))) fun y439 =>
 opt.ask _ y439.2.2.2.2.2.2.2.1 (
 opt.ret _ ((2 : Int), ())) (
 opt.bnd ((List (List (D)) × Unit)) _ (g49 it p (y439.1, (y439.2.1, ()))) fun y440 =>
 opt.bnd ((Bool × Unit)) _ (g43 it p (y440.1, (y439.2.2.2.2.1, (y439.2.2.2.2.2.1, (y439.2.2.2.2.2.2.1, ()))))) fun y441 =>
 opt.ask _ (bif y441.1 then Bool.false else Bool.true) (
 opt.ret _ ((14 : Int), ())) (
 opt.bnd ((List (List (D)) × Unit)) _ (g49 it p (y439.2.2.1, (y439.2.2.2.1, ()))) fun y442 =>
 opt.bnd ((Bool × Unit)) _ (g43 it p (y442.1, (y439.2.2.2.2.1, (y439.2.2.2.2.2.1, (y439.2.2.2.2.2.2.1, ()))))) fun y443 =>
 opt.ask _ (bif y443.1 then Bool.false else Bool.true) (
 opt.ret _ ((14 : Int), ())) (
 opt.ret _ ((0 : Int), ())))))
noncomputable def G38 := g38 it0
noncomputable def F38 : Prim → Tup (ctr38).scs → Option (STup (scss (ctr38).outs)) :=
 fun p x => G38 p x
theorem eq38 (p : Prim) (x : Tup (ctr38).scs) : bodyRun opt p (autoEnv Go.Proofs.Try.prog) (mkOrc opt p (autoEnv Go.Proofs.Try.prog) 400 (an38) la38) 400 ctr38 x = G38 p x := by kernel_rfl
theorem gok38 : GamOk Go.Proofs.Try.prog (gam38) := by
  intro cf h
  simp only [gam38, List.mem_cons, List.not_mem_nil, or_false] at h
  rcases h with rfl | rfl | rfl
  · exact ok43
  · exact ok49
  · exact ok72
theorem enters38 : Enters Go.Proofs.Try.prog 38 := enters_auto (b := _) rfl (by kernel_rfl)
theorem ok38 : CtrOk Go.Proofs.Try.prog ctr38 (F38 std) := ctr_of_body (autoEnv_ok follows_mixed) (mkOrc_ok (autoEnv_ok follows_mixed) gok38 _) enters38 (fun x => eq38 std x)
noncomputable def ctr61_1 : Ctr :=
 ⟨61, [.vec 0 2], [.row [(CK.int .i64), (CK.int .i64)]], [(.ret, ⟨[(0, .list 2)], [.row [(CK.int .i64), (CK.int .i64)]], 1⟩)]⟩
noncomputable def la61_1 : List LA :=
 [⟨61, [false, true, false, true, true], 1, ⟨⟨[(0, .vec 0 2), (3, .bptr 1 0), (4, .int .i64)], [.row [(CK.int .i64), (CK.int .i64)], .box [.int .i64, .int .i64]], 119⟩, [((AX.exit 0), ⟨[(0, .vec 0 2), (3, .bptr 1 0)], [.row [(CK.int .i64), (CK.int .i64)], .box [.int .i64, .int .i64]], 119⟩)]⟩⟩,
 ⟨61, [false, true, true, true, true], 1, ⟨⟨[(0, .vec 0 2), (3, .bptr 1 0), (5, .sl 2 2)], [.row [(CK.int .i64), (CK.int .i64)], .box [.int .i64, .int .i64], .row [(CK.int .i64), (CK.int .i64)]], 119⟩, [(AX.ret, ⟨[(2, .sl 1 2)], [.row [(CK.int .i64), (CK.int .i64)], .row [(CK.int .i64), (CK.int .i64)]], 119⟩)]⟩⟩,
 ⟨61, [false, true, false, true, true, false, false, false, true, true, true, true], 1, ⟨⟨[(0, .vec 0 2), (3, .bptr 1 0), (5, .sl 2 2), (6, .bptr 3 0), (7, .bptr 4 0), (8, .int .i64)], [.row [(CK.int .i64), (CK.int .i64)], .box [.int .i64, .int .i64], .row [(CK.int .i64), (CK.int .i64)], .box [.int .i64, .int .i64], .box [.int .i64, .int .i64]], 119⟩, [((AX.exit 4), ⟨[(0, .vec 0 2), (3, .bptr 1 0), (5, .sl 2 2), (6, .bptr 3 0), (7, .bptr 4 0)], [.row [(CK.int .i64), (CK.int .i64)], .box [.int .i64, .int .i64], .row [(CK.int .i64), (CK.int .i64)], .box [.int .i64, .int .i64], .box [.int .i64, .int .i64]], 119⟩)]⟩⟩]
noncomputable def ja61_1 : List JA :=
 [⟨61, [false, true, false, false, true, false, true, true, false, false, false, true, true, true, true], 1, [(AX.normal, ⟨[(0, .vec 0 2), (3, .bptr 1 0), (5, .sl 2 2), (6, .bptr 3 0), (7, .bptr 4 0), (8, .int .i64)], [.row [(CK.int .i64), (CK.int .i64)], .box [.int .i64, .int .i64], .row [(CK.int .i64), (CK.int .i64)], .box [.int .i64, .int .i64], .box [.int .i64, .int .i64]], 119⟩)]⟩,
 ⟨61, [true, true, true, false, false, true, false, false, true, false, true, true, false, false, false, true, true, true, true], 1, [(AX.normal, ⟨[(0, .vec 0 2), (3, .bptr 1 0), (5, .sl 2 2), (6, .bptr 3 0), (7, .bptr 4 0), (8, .int .i64)], [.row [(CK.int .i64), (CK.int .i64)], .box [.int .i64, .int .i64], .row [(CK.int .i64), (CK.int .i64)], .box [.int .i64, .int .i64], .box [.int .i64, .int .i64]], 119⟩)]⟩,
 ⟨61, [false, false, true, true, true, false, false, false, true, true, true, true], 1, [(AX.normal, ⟨[(0, .vec 0 2), (3, .bptr 1 0), (5, .sl 2 2), (7, .bptr 3 0), (113, .bool)], [.row [(CK.int .i64), (CK.int .i64)], .box [.int .i64, .int .i64], .row [(CK.int .i64), (CK.int .i64)], .box [.int .i64, .int .i64]], 119⟩)]⟩,
 ⟨61, [true, false, false, true, false, false, true, false, true, true], 1, [(AX.normal, ⟨[(0, .vec 0 2), (3, .bptr 1 0), (4, .int .i64)], [.row [(CK.int .i64), (CK.int .i64)], .box [.int .i64, .int .i64]], 119⟩)]⟩,
 ⟨61, [false, true, false, false, true, false, true, true], 1, [(AX.normal, ⟨[(0, .vec 0 2), (3, .bptr 1 0), (4, .int .i64)], [.row [(CK.int .i64), (CK.int .i64)], .box [.int .i64, .int .i64]], 119⟩)]⟩]
noncomputable def gam61_1 : List CF :=
 [⟨ctr91, F91⟩, ⟨ctr90, F90⟩]
noncomputable def an61_1 : Anns :=
 ⟨gam61_1, ja61_1, []⟩
noncomputable def b61_1_3 (p : Prim) : (List (List (D)) × (List (List (D)) × (Int × (Int × (Int × (Int × (Int × (Int × (Nat × (Nat × (Int × Unit))))))))))) → Option ((List (List (D)) × (List (List (D)) × (Int × (Int × (Int × (Int × (Int × (Int × (Nat × (Nat × (Int × Unit))))))))))) ⊕ (List (List (D)) × (List (List (D)) × (Int × (Int × (Int × (Int × (Int × (Int × (Nat × (Nat × Unit))))))))))) :=
 fun s549 => opt.run _ (
 opt.ask _ (p.cmp .lss s549.2.2.2.2.2.2.2.2.2.2.1 (p.ofNat (p.len s549.1))) (
 opt.bnd ((List (List (D)) × (List (List (D)) × (Int × (Int × (Int × (Int × (Int × (Int × (Nat × (Nat × (Int × Unit)))))))))))) _ (
 opt.run ((List (List (D)) × (List (List (D)) × (Int × (Int × (Int × (Int × (Int × (Int × (Nat × (Nat × (Int × Unit)))))))))))) (
 opt.need _ (bif (p.cmp .geq s549.2.2.2.2.2.2.2.2.2.2.1 (0 : Int)) then (p.cmp .lss s549.2.2.2.2.2.2.2.2.2.2.1 (p.ofNat (p.len s549.1))) else Bool.false) <|
 opt.need _ (p.rowOk s549.1 (p.add 0 (p.nat s549.2.2.2.2.2.2.2.2.2.2.1)) [(CK.int .i64), (CK.int .i64)]) <|
 opt.ask _ (bif (p.cmp .eql (p.rdI s549.1 (p.add 0 (p.nat s549.2.2.2.2.2.2.2.2.2.2.1)) 0) s549.2.2.2.2.1) then (bif (p.cmp .eql (p.rdI s549.1 (p.add 0 (p.nat s549.2.2.2.2.2.2.2.2.2.2.1)) 1) s549.2.2.2.2.2.1) then Bool.true else Bool.false) else Bool.false) (
 opt.need _ (p.eqN 0 0) <|
 opt.need _ (p.eqN (p.len s549.1) (p.len s549.1)) <|
 opt.ret _ (s549.1, (s549.2.1, (s549.2.2.1, (s549.2.2.2.1, (s549.2.2.2.2.1, (s549.2.2.2.2.2.1, (s549.2.2.2.2.2.2.1, (s549.2.2.2.2.2.2.2.1, (s549.2.2.2.2.2.2.2.2.1, (s549.2.2.2.2.2.2.2.2.2.1, (s549.2.2.2.2.2.2.2.2.2.2.1, ())))))))))))) (
 opt.need _ (bif (p.cmp .geq s549.2.2.2.2.2.2.2.2.2.2.1 (0 : Int)) then (p.cmp .lss s549.2.2.2.2.2.2.2.2.2.2.1 (p.ofNat (p.len s549.1))) else Bool.false) <|
 opt.need _ (p.rowOk s549.1 (p.add 0 (p.nat s549.2.2.2.2.2.2.2.2.2.2.1)) [(CK.int .i64), (CK.int .i64)]) <|
 opt.bnd ((Int × Unit)) _ (G90 p (s549.2.2.2.2.1, (s549.2.2.2.2.2.1, (s549.2.2.2.2.2.2.1, (s549.2.2.2.2.2.2.2.1, ((p.rdI s549.1 (p.add 0 (p.nat s549.2.2.2.2.2.2.2.2.2.2.1)) 0), ((p.rdI s549.1 (p.add 0 (p.nat s549.2.2.2.2.2.2.2.2.2.2.1)) 1), ()))))))) fun y550 =>
 opt.ask _ (bif (p.cmp .eql s549.2.2.2.2.2.2.1 s549.2.2.2.2.1) then (bif (p.cmp .eql s549.2.2.2.2.2.2.2.1 s549.2.2.2.2.2.1) then Bool.true else Bool.false) else Bool.false) (
 opt.bnd ((List (List (D)) × (List (List (D)) × (Int × (Int × (Int × (Int × (Int × (Int × (Nat × (Nat × (Int × Unit)))))))))))) _ (
 opt.run ((List (List (D)) × (List (List (D)) × (Int × (Int × (Int × (Int × (Int × (Int × (Nat × (Nat × (Int × Unit)))))))))))) (
 opt.need _ (bif (p.cmp .geq s549.2.2.2.2.2.2.2.2.2.2.1 (0 : Int)) then (p.cmp .lss s549.2.2.2.2.2.2.2.2.2.2.1 (p.ofNat (p.len s549.1))) else Bool.false) <|
 opt.need _ (p.rowOk s549.1 (p.add 0 (p.nat s549.2.2.2.2.2.2.2.2.2.2.1)) [(CK.int .i64), (CK.int .i64)]) <|
 opt.need _ (p.eqN 0 0) <|
 opt.need _ (p.eqN (p.len s549.1) (p.len s549.1)) <|
 opt.ret _ (s549.1, (s549.2.1, (s549.2.2.1, (s549.2.2.2.1, (s549.2.2.2.2.1, (s549.2.2.2.2.2.1, ((p.rdI s549.1 (p.add 0 (p.nat s549.2.2.2.2.2.2.2.2.2.2.1)) 0), ((p.rdI s549.1 (p.add 0 (p.nat s549.2.2.2.2.2.2.2.2.2.2.1)) 1), (s549.2.2.2.2.2.2.2.2.1, (s549.2.2.2.2.2.2.2.2.2.1, (s549.2.2.2.2.2.2.2.2.2.2.1, ()))))))))))))) fun y551 =>
 opt.need _ (p.eqN 0 0) <|
 opt.need _ (p.eqN (p.len y551.1) (p.len y551.1)) <|
 opt.ret _ (y551.1, (y551.2.1, (y551.2.2.1, (y551.2.2.2.1, (y551.2.2.2.2.1, (y551.2.2.2.2.2.1, (y551.2.2.2.2.2.2.1, (y551.2.2.2.2.2.2.2.1, (y551.2.2.2.2.2.2.2.2.1, (y551.2.2.2.2.2.2.2.2.2.1, (y551.2.2.2.2.2.2.2.2.2.2.1, ())))))))))))) (
 opt.ask _ (p.cmp .lss y550.1 (0 : Int)) (
 opt.bnd ((List (List (D)) × (List (List (D)) × (Int × (Int × (Int × (Int × (Int × (Int × (Nat × (Nat × (Int × Unit)))))))))))) _ (
 opt.run ((List (List (D)) × (List (List (D)) × (Int × (Int × (Int × (Int × (Int × (Int × (Nat × (Nat × (Int × Unit)))))))))))) (
 opt.need _ (bif (p.cmp .geq s549.2.2.2.2.2.2.2.2.2.2.1 (0 : Int)) then (p.cmp .lss s549.2.2.2.2.2.2.2.2.2.2.1 (p.ofNat (p.len s549.1))) else Bool.false) <|
 opt.need _ (p.rowOk s549.1 (p.add 0 (p.nat s549.2.2.2.2.2.2.2.2.2.2.1)) [(CK.int .i64), (CK.int .i64)]) <|
 opt.need _ (p.eqN 0 0) <|
 opt.need _ (p.eqN (p.len s549.1) (p.len s549.1)) <|
 opt.ret _ (s549.1, (s549.2.1, (s549.2.2.1, (s549.2.2.2.1, (s549.2.2.2.2.1, (s549.2.2.2.2.2.1, ((p.rdI s549.1 (p.add 0 (p.nat s549.2.2.2.2.2.2.2.2.2.2.1)) 0), ((p.rdI s549.1 (p.add 0 (p.nat s549.2.2.2.2.2.2.2.2.2.2.1)) 1), (s549.2.2.2.2.2.2.2.2.1, (s549.2.2.2.2.2.2.2.2.2.1, (s549.2.2.2.2.2.2.2.2.2.2.1, ()))))))))))))) fun y552 =>
 opt.need _ (p.eqN 0 0) <|
 opt.need _ (p.eqN (p.len y552.1) (p.len y552.1)) <|
 opt.ret _ (y552.1, (y552.2.1, (y552.2.2.1, (y552.2.2.2.1, (y552.2.2.2.2.1, (y552.2.2.2.2.2.1, (y552.2.2.2.2.2.2.1, (y552.2.2.2.2.2.2.2.1, (y552.2.2.2.2.2.2.2.2.1, (y552.2.2.2.2.2.2.2.2.2.1, (y552.2.2.2.2.2.2.2.2.2.2.1, ())))))))))))) (
 opt.ask _ (p.cmp .eql y550.1 (0 : Int)) (
 opt.need _ (bif (p.cmp .geq s549.2.2.2.2.2.2.2.2.2.2.1 (0 : Int)) then (p.cmp .lss s549.2.2.2.2.2.2.2.2.2.2.1 (p.ofNat (p.len s549.1))) else Bool.false) <|
 opt.need _ (p.rowOk s549.1 (p.add 0 (p.nat s549.2.2.2.2.2.2.2.2.2.2.1)) [(CK.int .i64), (CK.int .i64)]) <|
 opt.bnd ((Int × Unit)) _ (G91 p (s549.2.2.2.2.1, (s549.2.2.2.2.2.1, ((p.rdI s549.1 (p.add 0 (p.nat s549.2.2.2.2.2.2.2.2.2.2.1)) 0), ((p.rdI s549.1 (p.add 0 (p.nat s549.2.2.2.2.2.2.2.2.2.2.1)) 1), ()))))) fun y553 =>
 opt.bnd ((Int × Unit)) _ (G91 p (s549.2.2.2.2.1, (s549.2.2.2.2.2.1, (s549.2.2.2.2.2.2.1, (s549.2.2.2.2.2.2.2.1, ()))))) fun y554 =>
 opt.bnd ((List (List (D)) × (List (List (D)) × (Int × (Int × (Int × (Int × (Int × (Int × (Nat × (Nat × (Int × Unit)))))))))))) _ (
 opt.run ((List (List (D)) × (List (List (D)) × (Int × (Int × (Int × (Int × (Int × (Int × (Nat × (Nat × (Int × Unit)))))))))))) (
 opt.ask _ (p.cmp .gtr y553.1 y554.1) (
 opt.need _ (bif (p.cmp .geq s549.2.2.2.2.2.2.2.2.2.2.1 (0 : Int)) then (p.cmp .lss s549.2.2.2.2.2.2.2.2.2.2.1 (p.ofNat (p.len s549.1))) else Bool.false) <|
 opt.need _ (p.rowOk s549.1 (p.add 0 (p.nat s549.2.2.2.2.2.2.2.2.2.2.1)) [(CK.int .i64), (CK.int .i64)]) <|
 opt.need _ (p.eqN 0 0) <|
 opt.need _ (p.eqN (p.len s549.1) (p.len s549.1)) <|
 opt.ret _ (s549.1, (s549.2.1, (s549.2.2.1, (s549.2.2.2.1, (s549.2.2.2.2.1, (s549.2.2.2.2.2.1, ((p.rdI s549.1 (p.add 0 (p.nat s549.2.2.2.2.2.2.2.2.2.2.1)) 0), ((p.rdI s549.1 (p.add 0 (p.nat s549.2.2.2.2.2.2.2.2.2.2.1)) 1), (s549.2.2.2.2.2.2.2.2.1, (s549.2.2.2.2.2.2.2.2.2.1, (s549.2.2.2.2.2.2.2.2.2.2.1, ())))))))))))) (
 opt.need _ (p.eqN 0 0) <|
 opt.need _ (p.eqN (p.len s549.1) (p.len s549.1)) <|
 opt.ret _ (s549.1, (s549.2.1, (s549.2.2.1, (s549.2.2.2.1, (s549.2.2.2.2.1, (s549.2.2.2.2.2.1, (s549.2.2.2.2.2.2.1, (s549.2.2.2.2.2.2.2.1, (s549.2.2.2.2.2.2.2.2.1, (s549.2.2.2.2.2.2.2.2.2.1, (s549.2.2.2.2.2.2.2.2.2.2.1, ())))))))))))))) fun y555 =>
 opt.need _ (p.eqN 0 0) <|
 opt.need _ (p.eqN (p.len y555.1) (p.len y555.1)) <|
 opt.ret _ (y555.1, (y555.2.1, (y555.2.2.1, (y555.2.2.2.1, (y555.2.2.2.2.1, (y555.2.2.2.2.2.1, (y555.2.2.2.2.2.2.1, (y555.2.2.2.2.2.2.2.1, (y555.2.2.2.2.2.2.2.2.1, (y555.2.2.2.2.2.2.2.2.2.1, (y555.2.2.2.2.2.2.2.2.2.2.1, ())))))))))))) (
 opt.bnd ((List (List (D)) × (List (List (D)) × (Int × (Int × (Int × (Int × (Int × (Int × (Nat × (Nat × (Int × Unit)))))))))))) _ (
 opt.run ((List (List (D)) × (List (List (D)) × (Int × (Int × (Int × (Int × (Int × (Int × (Nat × (Nat × (Int × Unit)))))))))))) (
 opt.need _ (p.eqN 0 0) <|
 opt.need _ (p.eqN (p.len s549.1) (p.len s549.1)) <|
 opt.ret _ (s549.1, (s549.2.1, (s549.2.2.1, (s549.2.2.2.1, (s549.2.2.2.2.1, (s549.2.2.2.2.2.1, (s549.2.2.2.2.2.2.1, (s549.2.2.2.2.2.2.2.1, (s549.2.2.2.2.2.2.2.2.1, (s549.2.2.2.2.2.2.2.2.2.1, (s549.2.2.2.2.2.2.2.2.2.2.1, ()))))))))))))) fun y556 =>
 opt.need _ (p.eqN 0 0) <|
 opt.need _ (p.eqN (p.len y556.1) (p.len y556.1)) <|
 opt.ret _ (y556.1, (y556.2.1, (y556.2.2.1, (y556.2.2.2.1, (y556.2.2.2.2.1, (y556.2.2.2.2.2.1, (y556.2.2.2.2.2.2.1, (y556.2.2.2.2.2.2.2.1, (y556.2.2.2.2.2.2.2.2.1, (y556.2.2.2.2.2.2.2.2.2.1, (y556.2.2.2.2.2.2.2.2.2.2.1, ()))))))))))))))))) fun y557 =>
 opt.need _ (p.eqN 0 0) <|
 opt.need _ (p.eqN (p.len y557.1) (p.len y557.1)) <|
 opt.ret _ (Sum.inl (y557.1, (y557.2.1, (y557.2.2.1, (y557.2.2.2.1, (y557.2.2.2.2.1, (y557.2.2.2.2.2.1, (y557.2.2.2.2.2.2.1, (y557.2.2.2.2.2.2.2.1, (y557.2.2.2.2.2.2.2.2.1, (y557.2.2.2.2.2.2.2.2.2.1, ((p.ar .add .i64 y557.2.2.2.2.2.2.2.2.2.2.1 (1 : Int)), ()))))))))))))) (
 opt.need _ (p.eqN 0 0) <|
 opt.need _ (p.eqN (p.len s549.1) (p.len s549.1)) <|
 opt.ret _ (Sum.inr (s549.1, (s549.2.1, (s549.2.2.1, (s549.2.2.2.1, (s549.2.2.2.2.1, (s549.2.2.2.2.2.1, (s549.2.2.2.2.2.2.1, (s549.2.2.2.2.2.2.2.1, (s549.2.2.2.2.2.2.2.2.1, (s549.2.2.2.2.2.2.2.2.2.1, ())))))))))))))
noncomputable def c61_1_2 (it : It) (p : Prim) : (List (List (D)) × (List (List (D)) × (Int × (Int × (Nat × (Nat × Unit)))))) → Option ((List (List (D)) × (List (List (D)) × (Int × (Int × (Nat × (Nat × Unit)))))) ⊕ (List (List (D)) × (List (List (D)) × (Nat × (Nat × Unit))))) :=
 fun s548 => opt.run _ (
 opt.need _ (bif (p.cmp .geq (p.ar .sub .i64 (p.ofNat s548.2.2.2.2.2.1) (1 : Int)) (0 : Int)) then (p.cmp .lss (p.ar .sub .i64 (p.ofNat s548.2.2.2.2.2.1) (1 : Int)) (p.ofNat s548.2.2.2.2.2.1)) else Bool.false) <|
 opt.need _ (p.rowOk s548.2.1 (p.add s548.2.2.2.2.1 (p.nat (p.ar .sub .i64 (p.ofNat s548.2.2.2.2.2.1) (1 : Int)))) [(CK.int .i64), (CK.int .i64)]) <|
 opt.need _ (p.eqN 0 0) <|
 opt.need _ (p.eqN (p.len s548.1) (p.len s548.1)) <|
 opt.bnd ((List (List (D)) × (List (List (D)) × (Int × (Int × (Int × (Int × (Int × (Int × (Nat × (Nat × Unit))))))))))) _ (
 it _ _ (b61_1_3 p) (s548.1, (s548.2.1, (s548.2.2.1, (s548.2.2.2.1, ((p.rdI s548.2.1 (p.add s548.2.2.2.2.1 (p.nat (p.ar .sub .i64 (p.ofNat s548.2.2.2.2.2.1) (1 : Int)))) 0), ((p.rdI s548.2.1 (p.add s548.2.2.2.2.1 (p.nat (p.ar .sub .i64 (p.ofNat s548.2.2.2.2.2.1) (1 : Int)))) 1), ((p.rdI s548.2.1 (p.add s548.2.2.2.2.1 (p.nat (p.ar .sub .i64 (p.ofNat s548.2.2.2.2.2.1) (1 : Int)))) 0), ((p.rdI s548.2.1 (p.add s548.2.2.2.2.1 (p.nat (p.ar .sub .i64 (p.ofNat s548.2.2.2.2.2.1) (1 : Int)))) 1), (s548.2.2.2.2.1, (s548.2.2.2.2.2.1, ((0 : Int), ())))))))))))) fun y558 =>
 opt.bnd ((List (List (D)) × (List (List (D)) × (Int × (Int × (Int × (Int × (Nat × (Nat × (Bool × Unit)))))))))) _ (
 opt.run ((List (List (D)) × (List (List (D)) × (Int × (Int × (Int × (Int × (Nat × (Nat × (Bool × Unit)))))))))) (
 opt.ask _ (bif (p.cmp .eql y558.2.2.2.2.2.2.1 y558.2.2.1) then (bif (p.cmp .eql y558.2.2.2.2.2.2.2.1 y558.2.2.2.1) then Bool.true else Bool.false) else Bool.false) (
 opt.need _ (p.eqN 0 0) <|
 opt.need _ (p.eqN (p.len y558.1) (p.len y558.1)) <|
 opt.ret _ (y558.1, (y558.2.1, (y558.2.2.1, (y558.2.2.2.1, (y558.2.2.2.2.2.2.1, (y558.2.2.2.2.2.2.2.1, (y558.2.2.2.2.2.2.2.2.1, (y558.2.2.2.2.2.2.2.2.2.1, (Bool.true, ())))))))))) (
 opt.need _ (p.eqN 0 0) <|
 opt.need _ (p.eqN (p.len y558.1) (p.len y558.1)) <|
 opt.ret _ (y558.1, (y558.2.1, (y558.2.2.1, (y558.2.2.2.1, (y558.2.2.2.2.2.2.1, (y558.2.2.2.2.2.2.2.1, (y558.2.2.2.2.2.2.2.2.1, (y558.2.2.2.2.2.2.2.2.2.1, ((bif (p.cmp .eql y558.2.2.2.2.2.2.1 y558.2.2.2.2.1) then (bif (p.cmp .eql y558.2.2.2.2.2.2.2.1 y558.2.2.2.2.2.1) then Bool.true else Bool.false) else Bool.false), ())))))))))))) fun y559 =>
 opt.ask _ y559.2.2.2.2.2.2.2.2.1 (
 opt.ret _ (Sum.inr (y559.1, (y559.2.1, (y559.2.2.2.2.2.2.1, (y559.2.2.2.2.2.2.2.1, ())))))) (
 opt.need _ (p.and (p.leN (p.add 0 1) (p.len [[(D.int .i64 y559.2.2.2.2.1), (D.int .i64 y559.2.2.2.2.2.1)]])) (p.and (p.leN (p.add y559.2.2.2.2.2.2.1 y559.2.2.2.2.2.2.2.1) (p.len y559.2.1)) (p.and (p.leN 1 1) (p.leN (p.add y559.2.2.2.2.2.2.2.1 1) 1000000)))) <|
 opt.need _ (p.eqN 0 0) <|
 opt.need _ (p.eqN (p.len y559.1) (p.len y559.1)) <|
 opt.ret _ (Sum.inl (y559.1, ((p.app (p.cut y559.2.1 y559.2.2.2.2.2.2.1 y559.2.2.2.2.2.2.2.1) (p.cut [[(D.int .i64 y559.2.2.2.2.1), (D.int .i64 y559.2.2.2.2.2.1)]] 0 1)), (y559.2.2.1, (y559.2.2.2.1, (0, ((p.add y559.2.2.2.2.2.2.2.1 1), ())))))))))
noncomputable def b61_1_1 (p : Prim) : (List (List (D)) × (Int × (Int × (Int × Unit)))) → Option ((List (List (D)) × (Int × (Int × (Int × Unit)))) ⊕ (List (List (D)) × (Int × (Int × Unit)))) :=
 fun s542 => opt.run _ (
 opt.ask _ (p.cmp .lss s542.2.2.2.1 (p.ofNat (p.len s542.1))) (
 opt.bnd ((List (List (D)) × (Int × (Int × (Int × Unit))))) _ (
 opt.run ((List (List (D)) × (Int × (Int × (Int × Unit))))) (
 opt.need _ (bif (p.cmp .geq s542.2.2.2.1 (0 : Int)) then (p.cmp .lss s542.2.2.2.1 (p.ofNat (p.len s542.1))) else Bool.false) <|
 opt.need _ (p.rowOk s542.1 (p.add 0 (p.nat s542.2.2.2.1)) [(CK.int .i64), (CK.int .i64)]) <|
 opt.ask _ (p.cmp .lss (p.rdI s542.1 (p.add 0 (p.nat s542.2.2.2.1)) 0) s542.2.1) (
 opt.bnd ((List (List (D)) × (Int × (Int × (Int × Unit))))) _ (
 opt.run ((List (List (D)) × (Int × (Int × (Int × Unit))))) (
 opt.need _ (bif (p.cmp .geq s542.2.2.2.1 (0 : Int)) then (p.cmp .lss s542.2.2.2.1 (p.ofNat (p.len s542.1))) else Bool.false) <|
 opt.need _ (p.rowOk s542.1 (p.add 0 (p.nat s542.2.2.2.1)) [(CK.int .i64), (CK.int .i64)]) <|
 opt.need _ (p.eqN 0 0) <|
 opt.need _ (p.eqN (p.len s542.1) (p.len s542.1)) <|
 opt.ret _ (s542.1, ((p.rdI s542.1 (p.add 0 (p.nat s542.2.2.2.1)) 0), ((p.rdI s542.1 (p.add 0 (p.nat s542.2.2.2.1)) 1), (s542.2.2.2.1, ())))))) fun y543 =>
 opt.need _ (p.eqN 0 0) <|
 opt.need _ (p.eqN (p.len y543.1) (p.len y543.1)) <|
 opt.ret _ (y543.1, (y543.2.1, (y543.2.2.1, (y543.2.2.2.1, ()))))) (
 opt.need _ (bif (p.cmp .geq s542.2.2.2.1 (0 : Int)) then (p.cmp .lss s542.2.2.2.1 (p.ofNat (p.len s542.1))) else Bool.false) <|
 opt.need _ (p.rowOk s542.1 (p.add 0 (p.nat s542.2.2.2.1)) [(CK.int .i64), (CK.int .i64)]) <|
 opt.ask _ (p.cmp .eql (p.rdI s542.1 (p.add 0 (p.nat s542.2.2.2.1)) 0) s542.2.1) (
 opt.need _ (bif (p.cmp .geq s542.2.2.2.1 (0 : Int)) then (p.cmp .lss s542.2.2.2.1 (p.ofNat (p.len s542.1))) else Bool.false) <|
 opt.need _ (p.rowOk s542.1 (p.add 0 (p.nat s542.2.2.2.1)) [(CK.int .i64), (CK.int .i64)]) <|
 opt.bnd ((List (List (D)) × (Int × (Int × (Int × Unit))))) _ (
 opt.run ((List (List (D)) × (Int × (Int × (Int × Unit))))) (
 opt.ask _ (p.cmp .lss (p.rdI s542.1 (p.add 0 (p.nat s542.2.2.2.1)) 1) s542.2.2.1) (
 opt.need _ (bif (p.cmp .geq s542.2.2.2.1 (0 : Int)) then (p.cmp .lss s542.2.2.2.1 (p.ofNat (p.len s542.1))) else Bool.false) <|
 opt.need _ (p.rowOk s542.1 (p.add 0 (p.nat s542.2.2.2.1)) [(CK.int .i64), (CK.int .i64)]) <|
 opt.need _ (p.eqN 0 0) <|
 opt.need _ (p.eqN (p.len s542.1) (p.len s542.1)) <|
 opt.ret _ (s542.1, ((p.rdI s542.1 (p.add 0 (p.nat s542.2.2.2.1)) 0), ((p.rdI s542.1 (p.add 0 (p.nat s542.2.2.2.1)) 1), (s542.2.2.2.1, ()))))) (
 opt.need _ (p.eqN 0 0) <|
 opt.need _ (p.eqN (p.len s542.1) (p.len s542.1)) <|
 opt.ret _ (s542.1, (s542.2.1, (s542.2.2.1, (s542.2.2.2.1, ()))))))) fun y544 =>
 opt.need _ (p.eqN 0 0) <|
 opt.need _ (p.eqN (p.len y544.1) (p.len y544.1)) <|
 opt.ret _ (y544.1, (y544.2.1, (y544.2.2.1, (y544.2.2.2.1, ()))))) (
 opt.bnd ((List (List (D)) × (Int × (Int × (Int × Unit))))) _ (
 opt.run ((List (List (D)) × (Int × (Int × (Int × Unit))))) (
 opt.need _ (p.eqN 0 0) <|
 opt.need _ (p.eqN (p.len s542.1) (p.len s542.1)) <|
 opt.ret _ (s542.1, (s542.2.1, (s542.2.2.1, (s542.2.2.2.1, ())))))) fun y545 =>
 opt.need _ (p.eqN 0 0) <|
 opt.need _ (p.eqN (p.len y545.1) (p.len y545.1)) <|
 opt.ret _ (y545.1, (y545.2.1, (y545.2.2.1, (y545.2.2.2.1, ())))))))) fun y546 =>
 opt.need _ (p.eqN 0 0) <|
 opt.need _ (p.eqN (p.len y546.1) (p.len y546.1)) <|
 opt.ret _ (Sum.inl (y546.1, (y546.2.1, (y546.2.2.1, ((p.ar .add .i64 y546.2.2.2.1 (1 : Int)), ())))))) (
 opt.need _ (p.eqN 0 0) <|
 opt.need _ (p.eqN (p.len s542.1) (p.len s542.1)) <|
 opt.ret _ (Sum.inr (s542.1, (s542.2.1, (s542.2.2.1, ()))))))
noncomputable def g61_1 (it : It) : (p : Prim) → (List (List (D)) × Unit) → Option ((List (List (D)) × (List (List (D)) × Unit))) :=
 fun p x =>
 opt.need _ (bif (p.cmp .geq (0 : Int) (0 : Int)) then (p.cmp .lss (0 : Int) (p.ofNat (p.len x.1))) else Bool.false) <|
 opt.need _ (p.rowOk x.1 (p.add 0 (p.nat (0 : Int))) [(CK.int .i64), (CK.int .i64)]) <|
 opt.need _ (p.eqN 0 0) <|
 opt.need _ (p.eqN (p.len x.1) (p.len x.1)) <|
 opt.bnd ((List (List (D)) × (Int × (Int × Unit)))) _ (
 it _ _ (b61_1_1 p) (x.1, ((p.rdI x.1 (p.add 0 (p.nat (0 : Int))) 0), ((p.rdI x.1 (p.add 0 (p.nat (0 : Int))) 1), ((1 : Int), ()))))) fun y547 =>
 opt.need _ (p.eqN 0 0) <|
 opt.need _ (p.eqN (p.len y547.1) (p.len y547.1)) <|
 opt.need _ (p.leN (p.add 0 1) (p.len [[(D.int .i64 y547.2.1), (D.int .i64 y547.2.2.1)]])) <|
 opt.bnd ((List (List (D)) × (List (List (D)) × (Nat × (Nat × Unit))))) _ (
 it _ _ (c61_1_2 it p) (y547.1, ([[(D.int .i64 y547.2.1), (D.int .i64 y547.2.2.1)]], (y547.2.1, (y547.2.2.1, (0, (1, ()))))))) fun y560 =>
 opt.need _ (p.leN (p.add y560.2.2.1 y560.2.2.2.1) (p.len y560.2.1)) <|
 opt.ret _ (y560.1, ((p.cut y560.2.1 y560.2.2.1 y560.2.2.2.1), ()))
noncomputable def G61_1 := g61_1 it0
noncomputable def F61_1 : Prim → Tup (ctr61_1).scs → Option (STup (scss (ctr61_1).outs)) :=
 fun p x => G61_1 p x
theorem eq61_1 (p : Prim) (x : Tup (ctr61_1).scs) : bodyRun opt p (autoEnv Go.Proofs.Try.prog) (mkOrc opt p (autoEnv Go.Proofs.Try.prog) 400 (an61_1) la61_1) 400 ctr61_1 x = G61_1 p x := by kernel_rfl
theorem gok61_1 : GamOk Go.Proofs.Try.prog (gam61_1) := by
  intro cf h
  simp only [gam61_1, List.mem_cons, List.not_mem_nil, or_false] at h
  rcases h with rfl | rfl
  · exact ok91
  · exact ok90
theorem enters61_1 : Enters Go.Proofs.Try.prog 61 := enters_auto (b := _) rfl (by kernel_rfl)
theorem ok61_1 : CtrOk Go.Proofs.Try.prog ctr61_1 (F61_1 std) := ctr_of_body (autoEnv_ok follows_mixed) (mkOrc_ok (autoEnv_ok follows_mixed) gok61_1 _) enters61_1 (fun x => eq61_1 std x)
noncomputable def ctr95 : Ctr :=
 ⟨95, [.agg [.list 2, .list 1], .agg [.list 2, .list 1]], [], [(.ret, ⟨[(0, .list 2)], [], 1⟩)]⟩
noncomputable def la95 : List LA :=
 [⟨95, [false, true, false, true, true, true], 0, ⟨⟨[(5, .list 2), (6, .list 2), (7, .vec 0 2), (8, .int .i64)], [.row [(CK.int .i64), (CK.int .i64)]], 40⟩, [((AX.exit 0), ⟨[(7, .vec 0 2)], [.row [(CK.int .i64), (CK.int .i64)]], 40⟩)]⟩⟩,
 ⟨95, [false, true, false, false, true, false, false, true, false, true, true, true], 0, ⟨⟨[(5, .list 2), (6, .list 2), (7, .vec 0 2), (8, .int .i64), (9, .int .i64)], [.row [(CK.int .i64), (CK.int .i64)]], 40⟩, [((AX.exit 2), ⟨[(5, .list 2), (6, .list 2), (7, .vec 0 2), (8, .int .i64)], [.row [(CK.int .i64), (CK.int .i64)]], 40⟩)]⟩⟩]
noncomputable def ja95 : List JA :=
 []
noncomputable def gam95 : List CF :=
 [⟨ctr61_1, F61_1⟩, ⟨ctr49, F49⟩]
noncomputable def an95 : Anns :=
 ⟨gam95, ja95, []⟩
noncomputable def b95_2 (p : Prim) : (List (List (D)) × (List (List (D)) × (List (List (D)) × (Int × (Int × Unit))))) → Option ((List (List (D)) × (List (List (D)) × (List (List (D)) × (Int × (Int × Unit))))) ⊕ (List (List (D)) × (List (List (D)) × (List (List (D)) × (Int × Unit))))) :=
 fun s568 => opt.run _ (
 opt.ask _ (p.cmp .lss s568.2.2.2.2.1 (p.ofNat (p.len s568.2.2.1))) (
 opt.need _ (p.rowOk s568.2.1 (p.nat s568.2.2.2.1) [(CK.int .i64), (CK.int .i64)]) <|
 opt.need _ (p.cmp .geq s568.2.2.2.1 (0 : Int)) <|
 opt.need _ (p.rowOk s568.2.2.1 (p.nat s568.2.2.2.2.1) [(CK.int .i64), (CK.int .i64)]) <|
 opt.need _ (p.cmp .geq s568.2.2.2.2.1 (0 : Int)) <|
 opt.need _ (p.and (p.leN (p.add 0 1) (p.len [[(D.int .i64 (p.ar .sub .i64 (p.rdI s568.2.1 (p.nat s568.2.2.2.1) 0) (p.rdI s568.2.2.1 (p.nat s568.2.2.2.2.1) 0))), (D.int .i64 (p.ar .sub .i64 (p.rdI s568.2.1 (p.nat s568.2.2.2.1) 1) (p.rdI s568.2.2.1 (p.nat s568.2.2.2.2.1) 1)))]])) (p.and (p.leN (p.add 0 (p.len s568.1)) (p.len s568.1)) (p.and (p.leN 1 1) (p.leN (p.add (p.len s568.1) 1) 1000000)))) <|
 opt.need _ (p.eqN 0 0) <|
 opt.need _ (p.eqN (p.add (p.len s568.1) 1) (p.len (p.app (p.cut s568.1 0 (p.len s568.1)) (p.cut [[(D.int .i64 (p.ar .sub .i64 (p.rdI s568.2.1 (p.nat s568.2.2.2.1) 0) (p.rdI s568.2.2.1 (p.nat s568.2.2.2.2.1) 0))), (D.int .i64 (p.ar .sub .i64 (p.rdI s568.2.1 (p.nat s568.2.2.2.1) 1) (p.rdI s568.2.2.1 (p.nat s568.2.2.2.2.1) 1)))]] 0 1)))) <|
 opt.ret _ (Sum.inl ((p.app (p.cut s568.1 0 (p.len s568.1)) (p.cut [[(D.int .i64 (p.ar .sub .i64 (p.rdI s568.2.1 (p.nat s568.2.2.2.1) 0) (p.rdI s568.2.2.1 (p.nat s568.2.2.2.2.1) 0))), (D.int .i64 (p.ar .sub .i64 (p.rdI s568.2.1 (p.nat s568.2.2.2.1) 1) (p.rdI s568.2.2.1 (p.nat s568.2.2.2.2.1) 1)))]] 0 1)), (s568.2.1, (s568.2.2.1, (s568.2.2.2.1, ((p.ar .add .i64 s568.2.2.2.2.1 (1 : Int)), ()))))))) (
 opt.need _ (p.eqN 0 0) <|
 opt.need _ (p.eqN (p.len s568.1) (p.len s568.1)) <|
 opt.ret _ (Sum.inr (s568.1, (s568.2.1, (s568.2.2.1, (s568.2.2.2.1, ())))))))
noncomputable def c95_1 (it : It) (p : Prim) : (List (List (D)) × (List (List (D)) × (List (List (D)) × (Int × Unit)))) → Option ((List (List (D)) × (List (List (D)) × (List (List (D)) × (Int × Unit)))) ⊕ (List (List (D)) × Unit)) :=
 fun s567 => opt.run _ (
 opt.ask _ (p.cmp .lss s567.2.2.2.1 (p.ofNat (p.len s567.2.1))) (
 opt.need _ (p.eqN 0 0) <|
 opt.need _ (p.eqN (p.len s567.1) (p.len s567.1)) <|
 opt.bnd ((List (List (D)) × (List (List (D)) × (List (List (D)) × (Int × Unit))))) _ (
 it _ _ (b95_2 p) (s567.1, (s567.2.1, (s567.2.2.1, (s567.2.2.2.1, ((0 : Int), ())))))) fun y569 =>
 opt.need _ (p.eqN 0 0) <|
 opt.need _ (p.eqN (p.len y569.1) (p.len y569.1)) <|
 opt.ret _ (Sum.inl (y569.1, (y569.2.1, (y569.2.2.1, ((p.ar .add .i64 y569.2.2.2.1 (1 : Int)), ())))))) (
 opt.need _ (p.eqN 0 0) <|
 opt.need _ (p.eqN (p.len s567.1) (p.len s567.1)) <|
 opt.ret _ (Sum.inr (s567.1, ()))))
noncomputable def g95 (it : It) : (p : Prim) → (List (List (D)) × (List (List (D)) × (List (List (D)) × (List (List (D)) × Unit)))) → Option ((List (List (D)) × Unit)) :=
 fun p x =>
 opt.bnd ((List (List (D)) × Unit)) _ (g49 it p (x.1, (x.2.1, ()))) fun y565 =>
 opt.bnd ((List (List (D)) × Unit)) _ (g49 it p (x.2.2.1, (x.2.2.2.1, ()))) fun y566 =>
 opt.bnd ((List (List (D)) × Unit)) _ (
 it _ _ (c95_1 it p) ([], (y565.1, (y566.1, ((0 : Int), ()))))) fun y570 =>
 opt.need _ (p.eqN 0 0) <|
 opt.need _ (p.eqN (p.len y570.1) (p.len y570.1)) <|
 opt.bnd ((List (List (D)) × (List (List (D)) × Unit))) _ (g61_1 it p (y570.1, ())) fun y571 =>
 opt.ret _ (y571.2.1, ())
noncomputable def G95 := g95 it0
noncomputable def F95 : Prim → Tup (ctr95).scs → Option (STup (scss (ctr95).outs)) :=
 fun p x => G95 p x
theorem eq95 (p : Prim) (x : Tup (ctr95).scs) : bodyRun opt p (autoEnv Go.Proofs.Try.prog) (mkOrc opt p (autoEnv Go.Proofs.Try.prog) 400 (an95) la95) 400 ctr95 x = G95 p x := by kernel_rfl
theorem gok95 : GamOk Go.Proofs.Try.prog (gam95) := by
  intro cf h
  simp only [gam95, List.mem_cons, List.not_mem_nil, or_false] at h
  rcases h with rfl | rfl
  · exact ok61_1
  · exact ok49
theorem enters95 : Enters Go.Proofs.Try.prog 95 := enters_auto (b := _) rfl (by kernel_rfl)
theorem ok95 : CtrOk Go.Proofs.Try.prog ctr95 (F95 std) := ctr_of_body (autoEnv_ok follows_mixed) (mkOrc_ok (autoEnv_ok follows_mixed) gok95 _) enters95 (fun x => eq95 std x)
noncomputable def ctr74 : Ctr :=
 ⟨74, [.agg [.list 2, .list 1], .agg [.list 2, .list 1]], [], [(.ret, ⟨[(0, .bool)], [], 1⟩)]⟩
noncomputable def la74 : List LA :=
 []
noncomputable def ja74 : List JA :=
 []
noncomputable def gam74 : List CF :=
 [⟨ctr58, F58⟩, ⟨ctr95, F95⟩]
noncomputable def an74 : Anns :=
 ⟨gam74, ja74, []⟩
noncomputable def g74 (it : It) : (p : Prim) → (List (List (D)) × (List (List (D)) × (List (List (D)) × (List (List (D)) × Unit)))) → Option ((Bool × Unit)) :=
 fun p x =>
 opt.bnd ((List (List (D)) × Unit)) _ (g95 it p (x.1, (x.2.1, (x.2.2.1, (x.2.2.2.1, ()))))) fun y580 =>
 opt.bnd ((Bool × Unit)) _ (g58 it p (y580.1, ((0 : Int), ((0 : Int), ())))) fun y581 =>
 opt.ret _ (y581.1, ())
noncomputable def G74 := g74 it0
noncomputable def F74 : Prim → Tup (ctr74).scs → Option (STup (scss (ctr74).outs)) :=
 fun p x => G74 p x
theorem eq74 (p : Prim) (x : Tup (ctr74).scs) : bodyRun opt p (autoEnv Go.Proofs.Try.prog) (mkOrc opt p (autoEnv Go.Proofs.Try.prog) 400 (an74) la74) 400 ctr74 x = G74 p x := by kernel_rfl
theorem gok74 : GamOk Go.Proofs.Try.prog (gam74) := by
  intro cf h
  simp only [gam74, List.mem_cons, List.not_mem_nil, or_false] at h
  rcases h with rfl | rfl
  · exact ok58
  · exact ok95
theorem enters74 : Enters Go.Proofs.Try.prog 74 := enters_auto (b := _) rfl (by kernel_rfl)
theorem ok74 : CtrOk Go.Proofs.Try.prog ctr74 (F74 std) := ctr_of_body (autoEnv_ok follows_mixed) (mkOrc_ok (autoEnv_ok follows_mixed) gok74 _) enters74 (fun x => eq74 std x)
noncomputable def ctr28 : Ctr :=
 ⟨28, [.list 2], [], [(.ret, ⟨[(0, .tuple [.int .i64, .int .i64, .int .i64])], [], 1⟩)]⟩
noncomputable def la28 : List LA :=
 [⟨28, [false, true, false, true, true], 0, ⟨⟨[(0, .list 2), (5, .int .i64)], [], 53⟩, [(AX.ret, ⟨[(2, .int .i64), (3, .int .i64), (4, .int .i64)], [], 53⟩), ((AX.exit 0), ⟨[(0, .list 2)], [], 53⟩)]⟩⟩,
 ⟨28, [false, true, false, true, true, true], 0, ⟨⟨[(0, .list 2), (6, .int .i64)], [], 53⟩, [(AX.ret, ⟨[(2, .int .i64), (3, .int .i64), (4, .int .i64)], [], 53⟩), ((AX.exit 2), ⟨[], [], 53⟩)]⟩⟩,
 ⟨28, [false, true, false, false, true, false, false, true, false, true, true, true], 0, ⟨⟨[(0, .list 2), (6, .int .i64), (7, .int .i64)], [], 53⟩, [(AX.ret, ⟨[(2, .int .i64), (3, .int .i64), (4, .int .i64)], [], 53⟩), ((AX.exit 4), ⟨[(0, .list 2), (6, .int .i64)], [], 53⟩)]⟩⟩]
noncomputable def ja28 : List JA :=
 []
noncomputable def gam28 : List CF :=
 [⟨ctr74, F74⟩, ⟨ctr19, F19⟩]
noncomputable def an28 : Anns :=
 ⟨gam28, ja28, []⟩
noncomputable def c28_3 (it : It) (p : Prim) : (List (List (D)) × (Int × (Int × Unit))) → Option ((List (List (D)) × (Int × (Int × Unit))) ⊕ ((Int × (Int × (Int × Unit))) ⊕ (List (List (D)) × (Int × Unit)))) :=
 fun s622 => opt.run _ (
 opt.ask _ (p.cmp .lss s622.2.2.1 (p.ofNat (p.len s622.1))) (
 opt.need _ (p.rowOk s622.1 (p.nat s622.2.1) [(CK.list 2), (CK.list 1)]) <|
 opt.need _ (p.cmp .geq s622.2.1 (0 : Int)) <|
 opt.need _ (p.rowOk s622.1 (p.nat s622.2.2.1) [(CK.list 2), (CK.list 1)]) <|
 opt.need _ (p.cmp .geq s622.2.2.1 (0 : Int)) <|
 opt.bnd ((Bool × Unit)) _ (g74 it p ((p.rdL s622.1 (p.nat s622.2.1) 0), ((p.rdL s622.1 (p.nat s622.2.1) 1), ((p.rdL s622.1 (p.nat s622.2.2.1) 0), ((p.rdL s622.1 (p.nat s622.2.2.1) 1), ()))))) fun y623 =>
 opt.ask _ y623.1 (
 opt.ret _ (Sum.inr (Sum.inl (s622.2.1, (s622.2.2.1, ((0 : Int), ())))))) (
 opt.ret _ (Sum.inl (s622.1, (s622.2.1, ((p.ar .add .i64 s622.2.2.1 (1 : Int)), ())))))) (
 opt.ret _ (Sum.inr (Sum.inr (s622.1, (s622.2.1, ()))))))
noncomputable def c28_2 (it : It) (p : Prim) : (List (List (D)) × (Int × Unit)) → Option ((List (List (D)) × (Int × Unit)) ⊕ ((Int × (Int × (Int × Unit))) ⊕ Unit)) :=
 fun s621 => opt.run _ (
 opt.ask _ (p.cmp .lss s621.2.1 (p.ofNat (p.len s621.1))) (
 opt.alt ((Int × (Int × (Int × Unit)))) ((List (List (D)) × (Int × Unit))) _ (
 it _ _ (c28_3 it p) (s621.1, (s621.2.1, ((p.ar .add .i64 s621.2.1 (1 : Int)), ())))) (fun y624 =>
 opt.ret _ (Sum.inr (Sum.inl (y624.1, (y624.2.1, (y624.2.2.1, ())))))) (fun y625 =>
 opt.bnd ((List (List (D)) × (Int × Unit))) _ (some y625) fun y626 =>
 opt.ret _ (Sum.inl (y626.1, ((p.ar .add .i64 y626.2.1 (1 : Int)), ()))))) (
 opt.ret _ (Sum.inr (Sum.inr ()))))
noncomputable def c28_1 (it : It) (p : Prim) : (List (List (D)) × (Int × Unit)) → Option ((List (List (D)) × (Int × Unit)) ⊕ ((Int × (Int × (Int × Unit))) ⊕ (List (List (D)) × Unit))) :=
 fun s615 => opt.run _ (
 opt.ask _ (p.cmp .lss s615.2.1 (p.ofNat (p.len s615.1))) (
 opt.need _ (p.rowOk s615.1 (p.nat s615.2.1) [(CK.list 2), (CK.list 1)]) <|
 opt.need _ (p.cmp .geq s615.2.1 (0 : Int)) <|
 opt.bnd ((Int × Unit)) _ (g19 it p ((p.rdL s615.1 (p.nat s615.2.1) 0), ((p.rdL s615.1 (p.nat s615.2.1) 1), ()))) fun y616 =>
 opt.ask _ (p.cmp .neq y616.1 (0 : Int)) (
 opt.need _ (p.rowOk s615.1 (p.nat s615.2.1) [(CK.list 2), (CK.list 1)]) <|
 opt.need _ (p.cmp .geq s615.2.1 (0 : Int)) <|
 opt.bnd ((Int × Unit)) _ (g19 it p ((p.rdL s615.1 (p.nat s615.2.1) 0), ((p.rdL s615.1 (p.nat s615.2.1) 1), ()))) fun y617 =>
 opt.ret _ (Sum.inr (Sum.inl ((0 : Int), ((0 : Int), (y617.1, ())))))) (
 opt.ret _ (Sum.inl (s615.1, ((p.ar .add .i64 s615.2.1 (1 : Int)), ()))))) (
 opt.ret _ (Sum.inr (Sum.inr (s615.1, ())))))
noncomputable def g28 (it : It) : (p : Prim) → (List (List (D)) × Unit) → Option ((Int × (Int × (Int × Unit)))) :=
 fun p x =>
 opt.ask _ (p.cmp .gtr (p.ofNat (p.len x.1)) (8 : Int)) (
 opt.ret _ ((0 : Int), ((0 : Int), ((6 : Int), ())))) (
 opt.alt ((Int × (Int × (Int × Unit)))) ((List (List (D)) × Unit)) _ (
 it _ _ (c28_1 it p) (x.1, ((0 : Int), ()))) (fun y618 =>
 opt.ret _ (y618.1, (y618.2.1, (y618.2.2.1, ())))) (fun y619 =>
 opt.bnd ((List (List (D)) × Unit)) _ (some y619) fun y620 =>
 opt.alt ((Int × (Int × (Int × Unit)))) (Unit) _ (
 it _ _ (c28_2 it p) (y620.1, ((0 : Int), ()))) (fun y627 =>
 opt.ret _ (y627.1, (y627.2.1, (y627.2.2.1, ())))) (fun y628 =>
 opt.bnd (Unit) _ (some y628) fun y629 =>
 opt.ret _ ((0 : Int), ((0 : Int), ((5 : Int), ()))))))
noncomputable def G28 := g28 it0
noncomputable def F28 : Prim → Tup (ctr28).scs → Option (STup (scss (ctr28).outs)) :=
 fun p x => G28 p x
theorem eq28 (p : Prim) (x : Tup (ctr28).scs) : bodyRun opt p (autoEnv Go.Proofs.Try.prog) (mkOrc opt p (autoEnv Go.Proofs.Try.prog) 400 (an28) la28) 400 ctr28 x = G28 p x := by kernel_rfl
theorem gok28 : GamOk Go.Proofs.Try.prog (gam28) := by
  intro cf h
  simp only [gam28, List.mem_cons, List.not_mem_nil, or_false] at h
  rcases h with rfl | rfl
  · exact ok74
  · exact ok19
theorem enters28 : Enters Go.Proofs.Try.prog 28 := enters_auto (b := _) rfl (by kernel_rfl)
theorem ok28 : CtrOk Go.Proofs.Try.prog ctr28 (F28 std) := ctr_of_body (autoEnv_ok follows_mixed) (mkOrc_ok (autoEnv_ok follows_mixed) gok28 _) enters28 (fun x => eq28 std x)
noncomputable def ctr41 : Ctr :=
 ⟨41, [.agg [.list 2, .list 1], .agg [.list 2, .list 1]], [], [(.ret, ⟨[(0, .int .i64)], [], 1⟩)]⟩
noncomputable def la41 : List LA :=
 []
noncomputable def ja41 : List JA :=
 []
noncomputable def gam41 : List CF :=
 [⟨ctr74, F74⟩, ⟨ctr72, F72⟩]
noncomputable def an41 : Anns :=
 ⟨gam41, ja41, []⟩
noncomputable def g41 (it : It) : (p : Prim) → (List (List (D)) × (List (List (D)) × (List (List (D)) × (List (List (D)) × Unit)))) → Option ((Int × Unit)) :=
 fun p x =>
 opt.bnd ((Int × Unit)) _ (g72 it p (x.1, (x.2.1, (x.2.2.1, (x.2.2.2.1, ()))))) fun y641 =>
 opt.ask _ (p.cmp .neq y641.1 (0 : Int)) (
 opt.bnd ((Int × Unit)) _ (g72 it p (x.1, (x.2.1, (x.2.2.1, (x.2.2.2.1, ()))))) fun y642 =>
 opt.ret _ (y642.1, ())) (
 opt.bnd ((Bool × Unit)) _ (g74 it p (x.1, (x.2.1, (x.2.2.1, (x.2.2.2.1, ()))))) fun y643 =>
 opt.ask _ y643.1 (
 opt.ret _ ((21 : Int), ())) (
 opt.ret _ ((0 : Int), ())))
noncomputable def G41 := g41 it0
noncomputable def F41 : Prim → Tup (ctr41).scs → Option (STup (scss (ctr41).outs)) :=
 fun p x => G41 p x
theorem eq41 (p : Prim) (x : Tup (ctr41).scs) : bodyRun opt p (autoEnv Go.Proofs.Try.prog) (mkOrc opt p (autoEnv Go.Proofs.Try.prog) 400 (an41) la41) 400 ctr41 x = G41 p x := by kernel_rfl
theorem gok41 : GamOk Go.Proofs.Try.prog (gam41) := by
  intro cf h
  simp only [gam41, List.mem_cons, List.not_mem_nil, or_false] at h
  rcases h with rfl | rfl
  · exact ok74
  · exact ok72
theorem enters41 : Enters Go.Proofs.Try.prog 41 := enters_auto (b := _) rfl (by kernel_rfl)
theorem ok41 : CtrOk Go.Proofs.Try.prog ctr41 (F41 std) := ctr_of_body (autoEnv_ok follows_mixed) (mkOrc_ok (autoEnv_ok follows_mixed) gok41 _) enters41 (fun x => eq41 std x)
noncomputable def ctr42 : Ctr :=
 ⟨42, [.agg [.list 2, .list 1], .agg [.list 2, .list 1]], [], [(.ret, ⟨[(0, .int .i64)], [], 1⟩)]⟩
noncomputable def la42 : List LA :=
 []
noncomputable def ja42 : List JA :=
 []
noncomputable def gam42 : List CF :=
 [⟨ctr74, F74⟩, ⟨ctr72, F72⟩]
noncomputable def an42 : Anns :=
 ⟨gam42, ja42, []⟩
noncomputable def g42 (it : It) : (p : Prim) → (List (List (D)) × (List (List (D)) × (List (List (D)) × (List (List (D)) × Unit)))) → Option ((Int × Unit)) :=
 fun p x =>
 opt.bnd ((Int × Unit)) _ (g72 it p (x.1, (x.2.1, (x.2.2.1, (x.2.2.2.1, ()))))) fun y655 =>
 opt.ask _ (p.cmp .neq y655.1 (0 : Int)) (
 opt.bnd ((Int × Unit)) _ (g72 it p (x.1, (x.2.1, (x.2.2.1, (x.2.2.2.1, ()))))) fun y656 =>
 opt.ret _ (y656.1, ())) (
 opt.bnd ((Bool × Unit)) _ (g74 it p (x.1, (x.2.1, (x.2.2.1, (x.2.2.2.1, ()))))) fun y657 =>
 opt.ask _ (bif y657.1 then Bool.false else Bool.true) (
 opt.ret _ ((5 : Int), ())) (
 opt.ret _ ((0 : Int), ())))
noncomputable def G42 := g42 it0
noncomputable def F42 : Prim → Tup (ctr42).scs → Option (STup (scss (ctr42).outs)) :=
 fun p x => G42 p x
theorem eq42 (p : Prim) (x : Tup (ctr42).scs) : bodyRun opt p (autoEnv Go.Proofs.Try.prog) (mkOrc opt p (autoEnv Go.Proofs.Try.prog) 400 (an42) la42) 400 ctr42 x = G42 p x := by kernel_rfl
theorem gok42 : GamOk Go.Proofs.Try.prog (gam42) := by
  intro cf h
  simp only [gam42, List.mem_cons, List.not_mem_nil, or_false] at h
  rcases h with rfl | rfl
  · exact ok74
  · exact ok72
theorem enters42 : Enters Go.Proofs.Try.prog 42 := enters_auto (b := _) rfl (by kernel_rfl)
theorem ok42 : CtrOk Go.Proofs.Try.prog ctr42 (F42 std) := ctr_of_body (autoEnv_ok follows_mixed) (mkOrc_ok (autoEnv_ok follows_mixed) gok42 _) enters42 (fun x => eq42 std x)
noncomputable def ctr14d : Ctr :=
 ⟨14, [.agg [.list 2, .list 1]], [], [(.ret, ⟨[(0, .bool)], [], 1⟩)]⟩
noncomputable def la14d : List LA :=
 [⟨14, [false, true, false, true, true], 0, ⟨⟨[(1, .bptr 0 0), (3, .int .i64)], [.box [.list 2, .list 1]], 28⟩, [(AX.ret, ⟨[(2, .bool)], [], 28⟩), ((AX.exit 0), ⟨[], [], 28⟩)]⟩⟩]
noncomputable def ja14d : List JA :=
 [⟨14, [false, false, true], 0, [(AX.normal, ⟨[(1, .bptr 0 0), (13, .bool)], [.box [.list 2, .list 1]], 28⟩)]⟩]
noncomputable def gam14d : List CF :=
 []
noncomputable def an14d : Anns :=
 ⟨gam14d, ja14d, []⟩
noncomputable def b14d_1 (p : Prim) : (List (List (D)) × (List (List (D)) × (Int × Unit))) → Option ((List (List (D)) × (List (List (D)) × (Int × Unit))) ⊕ ((Bool × Unit) ⊕ Unit)) :=
 fun s679 => opt.run _ (
 opt.ask _ (p.cmp .lss s679.2.2.1 (p.ofNat (p.len s679.2.1))) (
 opt.need _ (p.rowOk s679.2.1 (p.nat s679.2.2.1) [(CK.list 2)]) <|
 opt.need _ (p.cmp .geq s679.2.2.1 (0 : Int)) <|
 opt.ask _ (p.cmp .gtr (p.ofNat (p.len (p.rdL s679.2.1 (p.nat s679.2.2.1) 0))) (20 : Int)) (
 opt.ret _ (Sum.inr (Sum.inl (Bool.true, ())))) (
 opt.ret _ (Sum.inl (s679.1, (s679.2.1, ((p.ar .add .i64 s679.2.2.1 (1 : Int)), ())))))) (
 opt.ret _ (Sum.inr (Sum.inr ()))))
noncomputable def g14d (it : It) : (p : Prim) → (List (List (D)) × (List (List (D)) × Unit)) → Option ((Bool × Unit)) :=
 fun p x =>
 opt.bnd ((List (List (D)) × (List (List (D)) × (Bool × Unit)))) _ (
 opt.run ((List (List (D)) × (List (List (D)) × (Bool × Unit)))) (
 opt.ask _ (p.cmp .gtr (p.ofNat (p.len x.1)) (20 : Int)) (
 opt.ret _ (x.1, (x.2.1, (Bool.true, ())))) (
 opt.ret _ (x.1, (x.2.1, ((p.cmp .gtr (p.ofNat (p.len x.2.1)) (8 : Int)), ())))))) fun y678 =>
 opt.ask _ y678.2.2.1 (
 opt.ret _ (Bool.true, ())) (
 opt.alt ((Bool × Unit)) (Unit) _ (
 it _ _ (b14d_1 p) (y678.1, (y678.2.1, ((0 : Int), ())))) (fun y680 =>
 opt.ret _ (y680.1, ())) (fun y681 =>
 opt.bnd (Unit) _ (some y681) fun y682 =>
 opt.ret _ (Bool.false, ())))
noncomputable def G14d := g14d it0
noncomputable def F14d : Prim → Tup (ctr14d).scs → Option (STup (scss (ctr14d).outs)) :=
 fun p x => G14d p x
theorem eq14d (p : Prim) (x : Tup (ctr14d).scs) : bodyRun opt p (autoEnv Go.Proofs.Try.prog) (mkOrc opt p (autoEnv Go.Proofs.Try.prog) 400 (an14d) la14d) 400 ctr14d x = G14d p x := by kernel_rfl
theorem gok14d : GamOk Go.Proofs.Try.prog gam14d := fun cf h => by cases h
theorem enters14d : Enters Go.Proofs.Try.prog 14 := enters_auto (b := _) rfl (by kernel_rfl)
theorem ok14d : CtrOk Go.Proofs.Try.prog ctr14d (F14d std) := ctr_of_body (autoEnv_ok follows_mixed) (mkOrc_ok (autoEnv_ok follows_mixed) gok14d _) enters14d (fun x => eq14d std x)
noncomputable def ctr29 : Ctr :=
 ⟨29, [.agg [.list 2, .list 1]], [], [(.ret, ⟨[(0, .bool)], [], 1⟩)]⟩
noncomputable def la29 : List LA :=
 []
noncomputable def ja29 : List JA :=
 [⟨29, [false, true], 0, [(AX.normal, ⟨[(2, .bool)], [], 11⟩)]⟩]
noncomputable def gam29 : List CF :=
 [⟨ctr19, F19⟩, ⟨ctr14d, F14d⟩]
noncomputable def an29 : Anns :=
 ⟨gam29, ja29, []⟩
noncomputable def g29 (it : It) : (p : Prim) → (List (List (D)) × (List (List (D)) × Unit)) → Option ((Bool × Unit)) :=
 fun p x =>
 opt.bnd ((Bool × Unit)) _ (
 opt.run ((Bool × Unit)) (
 opt.bnd ((Bool × Unit)) _ (g14d it p (x.1, (x.2.1, ()))) fun y689 =>
 opt.ask _ (bif y689.1 then Bool.false else Bool.true) (
 opt.bnd ((Int × Unit)) _ (g19 it p (x.1, (x.2.1, ()))) fun y690 =>
 opt.ret _ ((p.cmp .eql y690.1 (0 : Int)), ())) (
 opt.ret _ (Bool.false, ())))) fun y691 =>
 opt.ret _ (y691.1, ())
noncomputable def G29 := g29 it0
noncomputable def F29 : Prim → Tup (ctr29).scs → Option (STup (scss (ctr29).outs)) :=
 fun p x => G29 p x
theorem eq29 (p : Prim) (x : Tup (ctr29).scs) : bodyRun opt p (autoEnv Go.Proofs.Try.prog) (mkOrc opt p (autoEnv Go.Proofs.Try.prog) 400 (an29) la29) 400 ctr29 x = G29 p x := by kernel_rfl
theorem gok29 : GamOk Go.Proofs.Try.prog (gam29) := by
  intro cf h
  simp only [gam29, List.mem_cons, List.not_mem_nil, or_false] at h
  rcases h with rfl | rfl
  · exact ok19
  · exact ok14d
theorem enters29 : Enters Go.Proofs.Try.prog 29 := enters_auto (b := _) rfl (by kernel_rfl)
theorem ok29 : CtrOk Go.Proofs.Try.prog ctr29 (F29 std) := ctr_of_body (autoEnv_ok follows_mixed) (mkOrc_ok (autoEnv_ok follows_mixed) gok29 _) enters29 (fun x => eq29 std x)
end Go.Am
end

section
set_option linter.unusedVariables false
set_option maxRecDepth 100000
set_option maxHeartbeats 0
namespace Go.Am
noncomputable def ctr35 : Ctr :=
 ⟨35, [.agg [.int .i64, .int .i64], .agg [.int .i64, .int .i64]], [], [(.ret, ⟨[(0, .bool)], [], 1⟩)]⟩
noncomputable def la35 : List LA :=
 [⟨35, [false, true, true, true], 0, ⟨⟨[(2, .bptr 0 0), (3, .bptr 1 0), (5, .bool)], [.box [.int .i64, .int .i64], .box [.int .i64, .int .i64]], 85⟩, [(AX.ret, ⟨[(4, .bool)], [], 85⟩)]⟩⟩]
noncomputable def ja35 : List JA :=
 [⟨35, [false, false, true, true, true, false, false, false, true, true, true], 0, [(AX.normal, ⟨[(2, .bptr 0 0), (3, .bptr 1 0), (5, .bool), (8, .int .i64), (9, .int .i64), (65, .bool)], [.box [.int .i64, .int .i64], .box [.int .i64, .int .i64]], 85⟩)]⟩,
 ⟨35, [false, false, true, false, true, true, true, false, false, false, true, true, true], 0, [(AX.normal, ⟨[(4, .bool)], [], 85⟩)]⟩,
 ⟨35, [false, false, true], 0, [(AX.normal, ⟨[(2, .bptr 0 0), (3, .bptr 1 0), (27, .bool)], [.box [.int .i64, .int .i64], .box [.int .i64, .int .i64]], 85⟩)]⟩,
 ⟨35, [false, false, true, true, true], 0, [(AX.ret, ⟨[(4, .bool)], [], 85⟩), (AX.normal, ⟨[(2, .bptr 0 0), (3, .bptr 1 0), (5, .bool)], [.box [.int .i64, .int .i64], .box [.int .i64, .int .i64]], 85⟩)]⟩]
noncomputable def gam35 : List CF :=
 []
noncomputable def an35 : Anns :=
 ⟨gam35, ja35, []⟩
noncomputable def b35_1 (p : Prim) : (Int × (Int × (Int × (Int × (Bool × Unit))))) → Option ((Int × (Int × (Int × (Int × (Bool × Unit))))) ⊕ (Bool × Unit)) :=
 fun s23 => opt.run _ (
 opt.alt ((Bool × Unit)) ((Int × (Int × (Int × (Int × (Bool × Unit)))))) _ (
 opt.run (((Bool × Unit) ⊕ (Int × (Int × (Int × (Int × (Bool × Unit))))))) (
 opt.need _ (p.cmp .neq s23.2.1 (0 : Int)) <|
 opt.need _ (p.cmp .neq s23.2.2.2.1 (0 : Int)) <|
 opt.ask _ (p.cmp .neq (p.ar .quo .i64 s23.1 s23.2.1) (p.ar .quo .i64 s23.2.2.1 s23.2.2.2.1)) (
 opt.ret _ (Sum.inl ((bif (bif (p.bEq (p.cmp .lss (p.ar .quo .i64 s23.1 s23.2.1) (p.ar .quo .i64 s23.2.2.1 s23.2.2.2.1)) s23.2.2.2.2.1) then Bool.true else Bool.false) then Bool.false else Bool.true), ()))) (
 opt.bnd ((Int × (Int × (Int × (Int × (Bool × (Int × (Int × (Bool × Unit))))))))) _ (
 opt.run ((Int × (Int × (Int × (Int × (Bool × (Int × (Int × (Bool × Unit))))))))) (
 opt.ask _ (p.cmp .eql (p.ar .sub .i64 s23.1 (p.ar .mul .i64 (p.ar .quo .i64 s23.1 s23.2.1) s23.2.1)) (0 : Int)) (
 opt.ret _ (s23.1, (s23.2.1, (s23.2.2.1, (s23.2.2.2.1, (s23.2.2.2.2.1, ((p.ar .sub .i64 s23.1 (p.ar .mul .i64 (p.ar .quo .i64 s23.1 s23.2.1) s23.2.1)), ((p.ar .sub .i64 s23.2.2.1 (p.ar .mul .i64 (p.ar .quo .i64 s23.2.2.1 s23.2.2.2.1) s23.2.2.2.1)), (Bool.true, ()))))))))) (
 opt.ret _ (s23.1, (s23.2.1, (s23.2.2.1, (s23.2.2.2.1, (s23.2.2.2.2.1, ((p.ar .sub .i64 s23.1 (p.ar .mul .i64 (p.ar .quo .i64 s23.1 s23.2.1) s23.2.1)), ((p.ar .sub .i64 s23.2.2.1 (p.ar .mul .i64 (p.ar .quo .i64 s23.2.2.1 s23.2.2.2.1) s23.2.2.2.1)), ((p.cmp .eql (p.ar .sub .i64 s23.2.2.1 (p.ar .mul .i64 (p.ar .quo .i64 s23.2.2.1 s23.2.2.2.1) s23.2.2.2.1)) (0 : Int)), ()))))))))))) fun y24 =>
 opt.ask _ y24.2.2.2.2.2.2.2.1 (
 opt.bnd ((Bool × Unit)) _ (
 opt.run ((Bool × Unit)) (
 opt.ask _ (p.cmp .neq y24.2.2.2.2.2.1 y24.2.2.2.2.2.2.1) (
 opt.ret _ ((bif (bif (p.bEq (p.cmp .eql y24.2.2.2.2.2.1 (0 : Int)) y24.2.2.2.2.1) then Bool.true else Bool.false) then Bool.false else Bool.true), ())) (
 opt.ret _ (Bool.false, ())))) fun y25 =>
 opt.ret _ (Sum.inl (y25.1, ()))) (
 opt.ret _ (Sum.inr (y24.2.1, (y24.2.2.2.2.2.1, (y24.2.2.2.1, (y24.2.2.2.2.2.2.1, ((bif y24.2.2.2.2.1 then Bool.false else Bool.true), ())))))))))) (fun y26 =>
 opt.ret _ (Sum.inr (y26.1, ()))) (fun y27 =>
 opt.bnd ((Int × (Int × (Int × (Int × (Bool × Unit)))))) _ (some y27) fun y28 =>
 opt.ret _ (Sum.inl (y28.1, (y28.2.1, (y28.2.2.1, (y28.2.2.2.1, (y28.2.2.2.2.1, ()))))))))
noncomputable def g35 (it : It) : (p : Prim) → (Int × (Int × (Int × (Int × Unit)))) → Option ((Bool × Unit)) :=
 fun p x =>
 opt.bnd ((Int × (Int × (Int × (Int × (Bool × Unit)))))) _ (
 opt.run ((Int × (Int × (Int × (Int × (Bool × Unit)))))) (
 opt.ask _ (p.cmp .lss x.1 (0 : Int)) (
 opt.ret _ (x.1, (x.2.1, (x.2.2.1, (x.2.2.2.1, (Bool.true, ())))))) (
 opt.ask _ (p.cmp .lss x.2.2.1 (0 : Int)) (
 opt.ret _ (x.1, (x.2.1, (x.2.2.1, (x.2.2.2.1, (Bool.true, ())))))) (
 opt.ask _ (p.cmp .lss x.2.1 (1 : Int)) (
 opt.ret _ (x.1, (x.2.1, (x.2.2.1, (x.2.2.2.1, (Bool.true, ())))))) (
 opt.ret _ (x.1, (x.2.1, (x.2.2.1, (x.2.2.2.1, ((p.cmp .lss x.2.2.2.1 (1 : Int)), ())))))))))) fun y22 =>
 opt.ask _ y22.2.2.2.2.1 (
 opt.ret _ (Bool.false, ())) (
 opt.bnd ((Bool × Unit)) _ (
 it _ _ (b35_1 p) (y22.1, (y22.2.1, (y22.2.2.1, (y22.2.2.2.1, (Bool.false, ())))))) fun y29 =>
 opt.ret _ (y29.1, ()))
noncomputable def G35 := g35 it0
noncomputable def F35 : Prim → Tup (ctr35).scs → Option (STup (scss (ctr35).outs)) :=
 fun p x => G35 p x
theorem eq35 (p : Prim) (x : Tup (ctr35).scs) : bodyRun opt p (autoEnv Go.Proofs.Try.prog) (mkOrc opt p (autoEnv Go.Proofs.Try.prog) 400 (an35) la35) 400 ctr35 x = G35 p x := by kernel_rfl
theorem gok35 : GamOk Go.Proofs.Try.prog gam35 := fun cf h => by cases h
theorem enters35 : Enters Go.Proofs.Try.prog 35 := enters_auto (b := _) rfl (by kernel_rfl)
theorem ok35 : CtrOk Go.Proofs.Try.prog ctr35 (F35 std) := ctr_of_body (autoEnv_ok follows_mixed) (mkOrc_ok (autoEnv_ok follows_mixed) gok35 _) enters35 (fun x => eq35 std x)
noncomputable def ctr45 : Ctr :=
 ⟨45, [.agg [.list 2, .list 1]], [], [(.ret, ⟨[(0, .list 2)], [], 1⟩)]⟩
noncomputable def la45 : List LA :=
 [⟨45, [false, true, false, true, true], 0, ⟨⟨[(1, .bptr 0 0), (3, .list 2), (4, .int .i64)], [.box [.list 2, .list 1]], 51⟩, [((AX.exit 0), ⟨[(3, .list 2)], [], 51⟩)]⟩⟩,
 ⟨45, [false, true, false, true, false, false, true, false, false, true, false, true, true], 0, ⟨⟨[(1, .bptr 0 0), (3, .list 2), (4, .int .i64), (5, .vec 1 2), (6, .int .i64)], [.box [.list 2, .list 1], .row [(CK.int .i64), (CK.int .i64)]], 51⟩, [((AX.exit 2), ⟨[(1, .bptr 0 0), (4, .int .i64), (5, .vec 1 2)], [.box [.list 2, .list 1], .row [(CK.int .i64), (CK.int .i64)]], 51⟩)]⟩⟩,
 ⟨45, [false, true, false, false, true, false, false, true, false, true, false, false, true, false, false, true, false, true, true], 0, ⟨⟨[(1, .bptr 0 0), (3, .list 2), (4, .int .i64), (5, .vec 1 2), (6, .int .i64), (7, .int .i64)], [.box [.list 2, .list 1], .row [(CK.int .i64), (CK.int .i64)]], 51⟩, [((AX.exit 4), ⟨[(1, .bptr 0 0), (3, .list 2), (4, .int .i64), (5, .vec 1 2), (6, .int .i64)], [.box [.list 2, .list 1], .row [(CK.int .i64), (CK.int .i64)]], 51⟩)]⟩⟩]
noncomputable def ja45 : List JA :=
 []
noncomputable def gam45 : List CF :=
 []
noncomputable def an45 : Anns :=
 ⟨gam45, ja45, []⟩
noncomputable def b45_3 (p : Prim) : (List (List (D)) × (List (List (D)) × (List (List (D)) × (List (List (D)) × (Int × (Int × (Int × Unit))))))) → Option ((List (List (D)) × (List (List (D)) × (List (List (D)) × (List (List (D)) × (Int × (Int × (Int × Unit))))))) ⊕ (List (List (D)) × (List (List (D)) × (List (List (D)) × (List (List (D)) × (Int × (Int × Unit))))))) :=
 fun s70 => opt.run _ (
 opt.need _ (p.rowOk s70.2.2.1 (p.nat s70.2.2.2.2.1) [(CK.list 2)]) <|
 opt.need _ (p.cmp .geq s70.2.2.2.2.1 (0 : Int)) <|
 opt.ask _ (p.cmp .lss s70.2.2.2.2.2.2.1 (p.ofNat (p.len (p.rdL s70.2.2.1 (p.nat s70.2.2.2.2.1) 0)))) (
 opt.need _ (p.rowOk s70.2.2.2.1 (p.nat s70.2.2.2.2.2.1) [(CK.int .i64), (CK.int .i64)]) <|
 opt.need _ (p.cmp .geq s70.2.2.2.2.2.1 (0 : Int)) <|
 opt.need _ (p.rowOk s70.2.2.1 (p.nat s70.2.2.2.2.1) [(CK.list 2)]) <|
 opt.need _ (p.cmp .geq s70.2.2.2.2.1 (0 : Int)) <|
 opt.need _ (p.rowOk (p.rdL s70.2.2.1 (p.nat s70.2.2.2.2.1) 0) (p.nat s70.2.2.2.2.2.2.1) [(CK.int .i64), (CK.int .i64)]) <|
 opt.need _ (p.cmp .geq s70.2.2.2.2.2.2.1 (0 : Int)) <|
 opt.need _ (p.and (p.leN (p.add 0 1) (p.len [[(D.int .i64 (p.ar .add .i64 (p.rdI s70.2.2.2.1 (p.nat s70.2.2.2.2.2.1) 0) (p.rdI (p.rdL s70.2.2.1 (p.nat s70.2.2.2.2.1) 0) (p.nat s70.2.2.2.2.2.2.1) 0))), (D.int .i64 (p.ar .add .i64 (p.rdI s70.2.2.2.1 (p.nat s70.2.2.2.2.2.1) 1) (p.rdI (p.rdL s70.2.2.1 (p.nat s70.2.2.2.2.1) 0) (p.nat s70.2.2.2.2.2.2.1) 1)))]])) (p.and (p.leN (p.add 0 (p.len s70.1)) (p.len s70.1)) (p.and (p.leN 1 1) (p.leN (p.add (p.len s70.1) 1) 1000000)))) <|
 opt.need _ (p.eqN 0 0) <|
 opt.need _ (p.eqN (p.add (p.len s70.1) 1) (p.len (p.app (p.cut s70.1 0 (p.len s70.1)) (p.cut [[(D.int .i64 (p.ar .add .i64 (p.rdI s70.2.2.2.1 (p.nat s70.2.2.2.2.2.1) 0) (p.rdI (p.rdL s70.2.2.1 (p.nat s70.2.2.2.2.1) 0) (p.nat s70.2.2.2.2.2.2.1) 0))), (D.int .i64 (p.ar .add .i64 (p.rdI s70.2.2.2.1 (p.nat s70.2.2.2.2.2.1) 1) (p.rdI (p.rdL s70.2.2.1 (p.nat s70.2.2.2.2.1) 0) (p.nat s70.2.2.2.2.2.2.1) 1)))]] 0 1)))) <|
 opt.ret _ (Sum.inl ((p.app (p.cut s70.1 0 (p.len s70.1)) (p.cut [[(D.int .i64 (p.ar .add .i64 (p.rdI s70.2.2.2.1 (p.nat s70.2.2.2.2.2.1) 0) (p.rdI (p.rdL s70.2.2.1 (p.nat s70.2.2.2.2.1) 0) (p.nat s70.2.2.2.2.2.2.1) 0))), (D.int .i64 (p.ar .add .i64 (p.rdI s70.2.2.2.1 (p.nat s70.2.2.2.2.2.1) 1) (p.rdI (p.rdL s70.2.2.1 (p.nat s70.2.2.2.2.1) 0) (p.nat s70.2.2.2.2.2.2.1) 1)))]] 0 1)), (s70.2.1, (s70.2.2.1, (s70.2.2.2.1, (s70.2.2.2.2.1, (s70.2.2.2.2.2.1, ((p.ar .add .i64 s70.2.2.2.2.2.2.1 (1 : Int)), ()))))))))) (
 opt.need _ (p.eqN 0 0) <|
 opt.need _ (p.eqN (p.len s70.1) (p.len s70.1)) <|
 opt.ret _ (Sum.inr (s70.1, (s70.2.1, (s70.2.2.1, (s70.2.2.2.1, (s70.2.2.2.2.1, (s70.2.2.2.2.2.1, ())))))))))
noncomputable def c45_2 (it : It) (p : Prim) : (List (List (D)) × (List (List (D)) × (List (List (D)) × (List (List (D)) × (Int × (Int × Unit)))))) → Option ((List (List (D)) × (List (List (D)) × (List (List (D)) × (List (List (D)) × (Int × (Int × Unit)))))) ⊕ (List (List (D)) × (List (List (D)) × (List (List (D)) × (Int × Unit))))) :=
 fun s69 => opt.run _ (
 opt.ask _ (p.cmp .lss s69.2.2.2.2.2.1 (p.ofNat (p.len s69.2.2.2.1))) (
 opt.need _ (p.eqN 0 0) <|
 opt.need _ (p.eqN (p.len s69.1) (p.len s69.1)) <|
 opt.bnd ((List (List (D)) × (List (List (D)) × (List (List (D)) × (List (List (D)) × (Int × (Int × Unit))))))) _ (
 it _ _ (b45_3 p) (s69.1, (s69.2.1, (s69.2.2.1, (s69.2.2.2.1, (s69.2.2.2.2.1, (s69.2.2.2.2.2.1, ((0 : Int), ())))))))) fun y71 =>
 opt.need _ (p.eqN 0 0) <|
 opt.need _ (p.eqN (p.len y71.1) (p.len y71.1)) <|
 opt.ret _ (Sum.inl (y71.1, (y71.2.1, (y71.2.2.1, (y71.2.2.2.1, (y71.2.2.2.2.1, ((p.ar .add .i64 y71.2.2.2.2.2.1 (1 : Int)), ())))))))) (
 opt.need _ (p.eqN 0 0) <|
 opt.need _ (p.eqN (p.len s69.1) (p.len s69.1)) <|
 opt.ret _ (Sum.inr (s69.1, (s69.2.1, (s69.2.2.1, (s69.2.2.2.2.1, ())))))))
noncomputable def c45_1 (it : It) (p : Prim) : (List (List (D)) × (List (List (D)) × (List (List (D)) × (Int × Unit)))) → Option ((List (List (D)) × (List (List (D)) × (List (List (D)) × (Int × Unit)))) ⊕ (List (List (D)) × Unit)) :=
 fun s68 => opt.run _ (
 opt.ask _ (p.cmp .lss s68.2.2.2.1 (p.ofNat (p.len s68.2.1))) (
 opt.bnd ((List (List (D)) × (List (List (D)) × (List (List (D)) × (Int × Unit))))) _ (
 it _ _ (c45_2 it p) ([], (s68.1, (s68.2.1, (s68.2.2.1, (s68.2.2.2.1, ((0 : Int), ()))))))) fun y72 =>
 opt.need _ (p.leN (p.add 0 (p.len y72.1)) (p.len y72.1)) <|
 opt.ret _ (Sum.inl (y72.2.1, (y72.2.2.1, ((p.cut y72.1 0 (p.len y72.1)), ((p.ar .add .i64 y72.2.2.2.1 (1 : Int)), ())))))) (
 opt.ret _ (Sum.inr (s68.2.2.1, ()))))
noncomputable def g45 (it : It) : (p : Prim) → (List (List (D)) × (List (List (D)) × Unit)) → Option ((List (List (D)) × Unit)) :=
 fun p x =>
 opt.bnd ((List (List (D)) × Unit)) _ (
 it _ _ (c45_1 it p) (x.1, (x.2.1, (x.1, ((0 : Int), ()))))) fun y73 =>
 opt.ret _ (y73.1, ())
noncomputable def G45 := g45 it0
noncomputable def F45 : Prim → Tup (ctr45).scs → Option (STup (scss (ctr45).outs)) :=
 fun p x => G45 p x
theorem eq45 (p : Prim) (x : Tup (ctr45).scs) : bodyRun opt p (autoEnv Go.Proofs.Try.prog) (mkOrc opt p (autoEnv Go.Proofs.Try.prog) 400 (an45) la45) 400 ctr45 x = G45 p x := by kernel_rfl
theorem gok45 : GamOk Go.Proofs.Try.prog gam45 := fun cf h => by cases h
theorem enters45 : Enters Go.Proofs.Try.prog 45 := enters_auto (b := _) rfl (by kernel_rfl)
theorem ok45 : CtrOk Go.Proofs.Try.prog ctr45 (F45 std) := ctr_of_body (autoEnv_ok follows_mixed) (mkOrc_ok (autoEnv_ok follows_mixed) gok45 _) enters45 (fun x => eq45 std x)
noncomputable def ctr30 : Ctr :=
 ⟨30, [.list 2, .int .i64], [], [(.ret, ⟨[(0, .vec 0 2)], [.row [(CK.int .i64), (CK.int .i64)]], 1⟩)]⟩
noncomputable def la30 : List LA :=
 [⟨30, [false, true, false, true, true], 0, ⟨⟨[(0, .list 2), (1, .int .i64), (5, .vec 0 2), (6, .int .i64)], [.row [(CK.int .i64), (CK.int .i64)]], 26⟩, [((AX.exit 0), ⟨[(5, .vec 0 2)], [.row [(CK.int .i64), (CK.int .i64)]], 26⟩)]⟩⟩]
noncomputable def ja30 : List JA :=
 []
noncomputable def gam30 : List CF :=
 []
noncomputable def an30 : Anns :=
 ⟨gam30, ja30, []⟩
noncomputable def b30_1 (p : Prim) : (List (List (D)) × (List (List (D)) × (Int × (Int × Unit)))) → Option ((List (List (D)) × (List (List (D)) × (Int × (Int × Unit)))) ⊕ (List (List (D)) × Unit)) :=
 fun s90 => opt.run _ (
 opt.ask _ (p.cmp .lss s90.2.2.2.1 (p.ofNat (p.len s90.2.1))) (
 opt.need _ (p.cmp .neq (p.ofNat (p.len s90.2.1)) (0 : Int)) <|
 opt.need _ (p.rowOk s90.2.1 (p.nat (p.ar .rem .i64 (p.ar .add .i64 s90.2.2.2.1 s90.2.2.1) (p.ofNat (p.len s90.2.1)))) [(CK.int .i64), (CK.int .i64)]) <|
 opt.need _ (p.cmp .geq (p.ar .rem .i64 (p.ar .add .i64 s90.2.2.2.1 s90.2.2.1) (p.ofNat (p.len s90.2.1))) (0 : Int)) <|
 opt.need _ (p.and (p.leN (p.add 0 1) (p.len [[(D.int .i64 (p.rdI s90.2.1 (p.nat (p.ar .rem .i64 (p.ar .add .i64 s90.2.2.2.1 s90.2.2.1) (p.ofNat (p.len s90.2.1)))) 0)), (D.int .i64 (p.rdI s90.2.1 (p.nat (p.ar .rem .i64 (p.ar .add .i64 s90.2.2.2.1 s90.2.2.1) (p.ofNat (p.len s90.2.1)))) 1))]])) (p.and (p.leN (p.add 0 (p.len s90.1)) (p.len s90.1)) (p.and (p.leN 1 1) (p.leN (p.add (p.len s90.1) 1) 1000000)))) <|
 opt.need _ (p.eqN 0 0) <|
 opt.need _ (p.eqN (p.add (p.len s90.1) 1) (p.len (p.app (p.cut s90.1 0 (p.len s90.1)) (p.cut [[(D.int .i64 (p.rdI s90.2.1 (p.nat (p.ar .rem .i64 (p.ar .add .i64 s90.2.2.2.1 s90.2.2.1) (p.ofNat (p.len s90.2.1)))) 0)), (D.int .i64 (p.rdI s90.2.1 (p.nat (p.ar .rem .i64 (p.ar .add .i64 s90.2.2.2.1 s90.2.2.1) (p.ofNat (p.len s90.2.1)))) 1))]] 0 1)))) <|
 opt.ret _ (Sum.inl ((p.app (p.cut s90.1 0 (p.len s90.1)) (p.cut [[(D.int .i64 (p.rdI s90.2.1 (p.nat (p.ar .rem .i64 (p.ar .add .i64 s90.2.2.2.1 s90.2.2.1) (p.ofNat (p.len s90.2.1)))) 0)), (D.int .i64 (p.rdI s90.2.1 (p.nat (p.ar .rem .i64 (p.ar .add .i64 s90.2.2.2.1 s90.2.2.1) (p.ofNat (p.len s90.2.1)))) 1))]] 0 1)), (s90.2.1, (s90.2.2.1, ((p.ar .add .i64 s90.2.2.2.1 (1 : Int)), ())))))) (
 opt.need _ (p.eqN 0 0) <|
 opt.need _ (p.eqN (p.len s90.1) (p.len s90.1)) <|
 opt.ret _ (Sum.inr (s90.1, ()))))
noncomputable def g30 (it : It) : (p : Prim) → (List (List (D)) × (Int × Unit)) → Option ((List (List (D)) × Unit)) :=
 fun p x =>
 opt.bnd ((List (List (D)) × Unit)) _ (
 it _ _ (b30_1 p) ([], (x.1, (x.2.1, ((0 : Int), ()))))) fun y91 =>
 opt.need _ (p.eqN 0 0) <|
 opt.need _ (p.eqN (p.len y91.1) (p.len y91.1)) <|
 opt.ret _ (y91.1, ())
noncomputable def G30 := g30 it0
noncomputable def F30 : Prim → Tup (ctr30).scs → Option (STup (scss (ctr30).outs)) :=
 fun p x => G30 p x
theorem eq30 (p : Prim) (x : Tup (ctr30).scs) : bodyRun opt p (autoEnv Go.Proofs.Try.prog) (mkOrc opt p (autoEnv Go.Proofs.Try.prog) 400 (an30) la30) 400 ctr30 x = G30 p x := by kernel_rfl
theorem gok30 : GamOk Go.Proofs.Try.prog gam30 := fun cf h => by cases h
theorem enters30 : Enters Go.Proofs.Try.prog 30 := enters_auto (b := _) rfl (by kernel_rfl)
theorem ok30 : CtrOk Go.Proofs.Try.prog ctr30 (F30 std) := ctr_of_body (autoEnv_ok follows_mixed) (mkOrc_ok (autoEnv_ok follows_mixed) gok30 _) enters30 (fun x => eq30 std x)
noncomputable def ctr75 : Ctr :=
 ⟨75, [.list 2, .int .i64, .list 1, .int .i64], [], [(.ret, ⟨[(0, .agg [.int .i64, .int .i64])], [], 1⟩)]⟩
noncomputable def la75 : List LA :=
 [⟨75, [false, true, false, true, true], 0, ⟨⟨[(0, .list 2), (1, .int .i64), (2, .list 1), (3, .int .i64), (8, .bptr 0 0), (9, .bptr 1 0), (10, .int .i64)], [.box [.int .i64, .int .i64], .box [.int .i64, .int .i64]], 52⟩, [((AX.exit 0), ⟨[(8, .bptr 0 0), (9, .bptr 1 0)], [.box [.int .i64, .int .i64], .box [.int .i64, .int .i64]], 52⟩)]⟩⟩]
noncomputable def ja75 : List JA :=
 [⟨75, [true, false, true, false, false, true, false, false, true, false, true, true], 0, [(AX.normal, ⟨[(0, .list 2), (1, .int .i64), (2, .list 1), (3, .int .i64), (8, .bptr 0 0), (9, .bptr 1 0), (10, .int .i64), (11, .int .i64)], [.box [.int .i64, .int .i64], .box [.int .i64, .int .i64]], 52⟩)]⟩]
noncomputable def gam75 : List CF :=
 []
noncomputable def an75 : Anns :=
 ⟨gam75, ja75, []⟩
noncomputable def b75_1 (p : Prim) : (Int × (Int × (Int × (Int × (List (List (D)) × (Int × (List (List (D)) × (Int × (Int × Unit))))))))) → Option ((Int × (Int × (Int × (Int × (List (List (D)) × (Int × (List (List (D)) × (Int × (Int × Unit))))))))) ⊕ (Int × (Int × (Int × (Int × Unit))))) :=
 fun s108 => opt.run _ (
 opt.ask _ (p.cmp .lss s108.2.2.2.2.2.2.2.2.1 s108.2.2.2.2.2.1) (
 opt.bnd ((Int × (Int × (Int × (Int × (List (List (D)) × (Int × (List (List (D)) × (Int × (Int × (Int × Unit))))))))))) _ (
 opt.run ((Int × (Int × (Int × (Int × (List (List (D)) × (Int × (List (List (D)) × (Int × (Int × (Int × Unit))))))))))) (
 opt.ask _ (p.cmp .gtr (p.ofNat (p.len s108.2.2.2.2.2.2.1)) (0 : Int)) (
 opt.need _ (p.cmp .neq (p.ofNat (p.len s108.2.2.2.2.2.2.1)) (0 : Int)) <|
 opt.need _ (p.rowOk s108.2.2.2.2.2.2.1 (p.nat (p.ar .rem .i64 (p.ar .add .i64 s108.2.2.2.2.2.2.2.1 s108.2.2.2.2.2.2.2.2.1) (p.ofNat (p.len s108.2.2.2.2.2.2.1)))) [(CK.int .u8)]) <|
 opt.need _ (p.cmp .geq (p.ar .rem .i64 (p.ar .add .i64 s108.2.2.2.2.2.2.2.1 s108.2.2.2.2.2.2.2.2.1) (p.ofNat (p.len s108.2.2.2.2.2.2.1))) (0 : Int)) <|
 opt.need _ (p.cmp .neq (p.ofNat (p.len s108.2.2.2.2.1)) (0 : Int)) <|
 opt.ret _ (s108.1, (s108.2.1, (s108.2.2.1, (s108.2.2.2.1, (s108.2.2.2.2.1, (s108.2.2.2.2.2.1, (s108.2.2.2.2.2.2.1, (s108.2.2.2.2.2.2.2.1, (s108.2.2.2.2.2.2.2.2.1, ((p.ar .rem .i64 (p.cvt .i64 (p.rdI s108.2.2.2.2.2.2.1 (p.nat (p.ar .rem .i64 (p.ar .add .i64 s108.2.2.2.2.2.2.2.1 s108.2.2.2.2.2.2.2.2.1) (p.ofNat (p.len s108.2.2.2.2.2.2.1)))) 0)) (p.ofNat (p.len s108.2.2.2.2.1))), ()))))))))))) (
 opt.ret _ (s108.1, (s108.2.1, (s108.2.2.1, (s108.2.2.2.1, (s108.2.2.2.2.1, (s108.2.2.2.2.2.1, (s108.2.2.2.2.2.2.1, (s108.2.2.2.2.2.2.2.1, (s108.2.2.2.2.2.2.2.2.1, ((0 : Int), ()))))))))))))) fun y109 =>
 opt.need _ (p.rowOk y109.2.2.2.2.1 (p.nat y109.2.2.2.2.2.2.2.2.2.1) [(CK.int .i64), (CK.int .i64)]) <|
 opt.need _ (p.cmp .geq y109.2.2.2.2.2.2.2.2.2.1 (0 : Int)) <|
 opt.need _ (p.rowOk y109.2.2.2.2.1 (p.nat y109.2.2.2.2.2.2.2.2.2.1) [(CK.int .i64), (CK.int .i64)]) <|
 opt.need _ (p.cmp .geq y109.2.2.2.2.2.2.2.2.2.1 (0 : Int)) <|
 opt.ret _ (Sum.inl (y109.1, (y109.2.1, ((p.ar .add .i64 y109.2.2.1 (p.rdI y109.2.2.2.2.1 (p.nat y109.2.2.2.2.2.2.2.2.2.1) 0)), ((p.ar .add .i64 y109.2.2.2.1 (p.rdI y109.2.2.2.2.1 (p.nat y109.2.2.2.2.2.2.2.2.2.1) 1)), (y109.2.2.2.2.1, (y109.2.2.2.2.2.1, (y109.2.2.2.2.2.2.1, (y109.2.2.2.2.2.2.2.1, ((p.ar .add .i64 y109.2.2.2.2.2.2.2.2.1 (1 : Int)), ()))))))))))) (
 opt.ret _ (Sum.inr (s108.1, (s108.2.1, (s108.2.2.1, (s108.2.2.2.1, ())))))))
noncomputable def g75 (it : It) : (p : Prim) → (List (List (D)) × (Int × (List (List (D)) × (Int × Unit)))) → Option ((Int × (Int × Unit))) :=
 fun p x =>
 opt.bnd ((Int × (Int × (Int × (Int × Unit))))) _ (
 it _ _ (b75_1 p) ((0 : Int), ((0 : Int), ((0 : Int), ((0 : Int), (x.1, (x.2.1, (x.2.2.1, (x.2.2.2.1, ((0 : Int), ())))))))))) fun y110 =>
 opt.ret _ (y110.2.2.1, (y110.2.2.2.1, ()))
noncomputable def G75 := g75 it0
noncomputable def F75 : Prim → Tup (ctr75).scs → Option (STup (scss (ctr75).outs)) :=
 fun p x => G75 p x
theorem eq75 (p : Prim) (x : Tup (ctr75).scs) : bodyRun opt p (autoEnv Go.Proofs.Try.prog) (mkOrc opt p (autoEnv Go.Proofs.Try.prog) 400 (an75) la75) 400 ctr75 x = G75 p x := by kernel_rfl
theorem gok75 : GamOk Go.Proofs.Try.prog gam75 := fun cf h => by cases h
theorem enters75 : Enters Go.Proofs.Try.prog 75 := enters_auto (b := _) rfl (by kernel_rfl)
theorem ok75 : CtrOk Go.Proofs.Try.prog ctr75 (F75 std) := ctr_of_body (autoEnv_ok follows_mixed) (mkOrc_ok (autoEnv_ok follows_mixed) gok75 _) enters75 (fun x => eq75 std x)
noncomputable def ctr33 : Ctr :=
 ⟨33, [.agg [.list 2, .list 1], .int .u8, .list 1], [], [(.ret, ⟨[(0, .agg [.int .i64, .int .i64, .int .i64])], [], 1⟩)]⟩
noncomputable def la33 : List LA :=
 [⟨33, [false, true, false, true, true, true], 0, ⟨⟨[(2, .list 1), (3, .bptr 0 0), (6, .bptr 1 0), (7, .int .i64), (8, .bptr 2 0), (9, .int .i64)], [.box [.list 2, .list 1], .box [.int .i64, .int .i64, .int .i64], .box [.int .i64, .int .i64]], 57⟩, [((AX.exit 0), ⟨[(6, .bptr 0 0), (7, .int .i64), (8, .bptr 1 0)], [.box [.int .i64, .int .i64, .int .i64], .box [.int .i64, .int .i64]], 57⟩)]⟩⟩]
noncomputable def ja33 : List JA :=
 []
noncomputable def gam33 : List CF :=
 [⟨ctr75, F75⟩]
noncomputable def an33 : Anns :=
 ⟨gam33, ja33, []⟩
noncomputable def c33_1 (it : It) (p : Prim) : (List (List (D)) × (List (List (D)) × (Int × (Int × (Int × (Int × (Int × (List (List (D)) × (Int × (Int × Unit)))))))))) → Option ((List (List (D)) × (List (List (D)) × (Int × (Int × (Int × (Int × (Int × (List (List (D)) × (Int × (Int × Unit)))))))))) ⊕ (Int × (Int × (Int × (Int × (Int × (Int × Unit))))))) :=
 fun s123 => opt.run _ (
 opt.ask _ (p.cmp .lss s123.2.2.2.2.2.2.2.2.2.1 (p.ofNat (p.len s123.2.1))) (
 opt.need _ (p.rowOk s123.2.1 (p.nat s123.2.2.2.2.2.2.2.2.2.1) [(CK.list 2)]) <|
 opt.need _ (p.cmp .geq s123.2.2.2.2.2.2.2.2.2.1 (0 : Int)) <|
 opt.bnd ((Int × (Int × Unit))) _ (g75 it p ((p.rdL s123.2.1 (p.nat s123.2.2.2.2.2.2.2.2.2.1) 0), (s123.2.2.2.2.2.2.2.2.1, (s123.2.2.2.2.2.2.2.1, ((p.ar .mul .i64 (p.ar .add .i64 s123.2.2.2.2.2.2.2.2.2.1 (1 : Int)) s123.2.2.2.2.2.2.2.2.1), ()))))) fun y124 =>
 opt.ret _ (Sum.inl (s123.1, (s123.2.1, (s123.2.2.1, (s123.2.2.2.1, (s123.2.2.2.2.1, ((p.ar .add .i64 s123.2.2.2.2.2.1 y124.1), ((p.ar .add .i64 s123.2.2.2.2.2.2.1 y124.2.1), (s123.2.2.2.2.2.2.2.1, (s123.2.2.2.2.2.2.2.2.1, ((p.ar .add .i64 s123.2.2.2.2.2.2.2.2.2.1 (1 : Int)), ())))))))))))) (
 opt.ret _ (Sum.inr (s123.2.2.1, (s123.2.2.2.1, (s123.2.2.2.2.1, (s123.2.2.2.2.2.1, (s123.2.2.2.2.2.2.1, (s123.2.2.2.2.2.2.2.2.1, ())))))))))
noncomputable def g33 (it : It) : (p : Prim) → (List (List (D)) × (List (List (D)) × (Int × (List (List (D)) × Unit)))) → Option ((Int × (Int × (Int × Unit)))) :=
 fun p x =>
 opt.need _ (p.cmp .neq (20 : Int) (0 : Int)) <|
 opt.bnd ((Int × (Int × Unit))) _ (g75 it p (x.1, ((p.ar .add .i64 (1 : Int) (p.ar .rem .i64 (p.cvt .i64 x.2.2.1) (20 : Int))), (x.2.2.2.1, ((0 : Int), ()))))) fun y122 =>
 opt.bnd ((Int × (Int × (Int × (Int × (Int × (Int × Unit))))))) _ (
 it _ _ (c33_1 it p) (x.1, (x.2.1, ((0 : Int), ((0 : Int), ((0 : Int), (y122.1, (y122.2.1, (x.2.2.2.1, ((p.ar .add .i64 (1 : Int) (p.ar .rem .i64 (p.cvt .i64 x.2.2.1) (20 : Int))), ((0 : Int), ()))))))))))) fun y125 =>
 opt.ret _ (y125.2.2.2.1, (y125.2.2.2.2.1, (y125.2.2.2.2.2.1, ())))
noncomputable def G33 := g33 it0
noncomputable def F33 : Prim → Tup (ctr33).scs → Option (STup (scss (ctr33).outs)) :=
 fun p x => G33 p x
theorem eq33 (p : Prim) (x : Tup (ctr33).scs) : bodyRun opt p (autoEnv Go.Proofs.Try.prog) (mkOrc opt p (autoEnv Go.Proofs.Try.prog) 400 (an33) la33) 400 ctr33 x = G33 p x := by kernel_rfl
theorem gok33 : GamOk Go.Proofs.Try.prog (gam33) := by
  intro cf h
  simp only [gam33, List.mem_cons, List.not_mem_nil, or_false] at h
  rcases h with rfl
  · exact ok75
theorem enters33 : Enters Go.Proofs.Try.prog 33 := enters_auto (b := _) rfl (by kernel_rfl)
theorem ok33 : CtrOk Go.Proofs.Try.prog ctr33 (F33 std) := ctr_of_body (autoEnv_ok follows_mixed) (mkOrc_ok (autoEnv_ok follows_mixed) gok33 _) enters33 (fun x => eq33 std x)
end Go.Am
end

section
set_option linter.unusedVariables false
set_option maxRecDepth 100000
set_option maxHeartbeats 0
namespace Go.Am
noncomputable def ctr15 : Ctr :=
 ⟨15, [], [], [(.ret, ⟨[(0, .bool)], [], 1⟩)]⟩
noncomputable def la15 : List LA :=
 []
noncomputable def ja15 : List JA :=
 [⟨15, [false, false, true, true, true, true, true, true, true, true, true, true, true, true], 0, [(AX.normal, ⟨[(1, .bptr 0 0), (3, .bptr 1 0), (4, .bptr 2 0), (5, .vec 3 2), (7, .bool), (9, .bptr 4 0), (15, .bptr 5 0), (17, .bptr 6 0), (19, .bptr 7 0), (21, .int .i64), (22, .int .i64), (127, .bool)], [.box [.full 8 2, .full 9 1], .box [.full 10 2, .nils], .box [.full 11 2, .nils], .row [(CK.int .i64), (CK.int .i64)], .box [.int .i64, .int .i64], .box [.int .i64, .int .i64, .int .i64], .box [.int .i64, .int .i64, .int .i64], .box [.int .i64, .int .i64], .row [(CK.int .i64), (CK.int .i64)], .row [(CK.list 2)], .row [(CK.int .i64), (CK.int .i64)], .row [(CK.int .i64), (CK.int .i64)]], 170⟩)]⟩]
noncomputable def gam15 : List CF :=
 [⟨ctr38, F38⟩, ⟨ctr36, F36⟩, ⟨ctr20, F20⟩, ⟨ctr27, F27⟩, ⟨ctr25, F25⟩, ⟨ctr37, F37⟩, ⟨ctr32, F32⟩, ⟨ctr39, F39⟩, ⟨ctr23, F23⟩, ⟨ctr21, F21⟩, ⟨ctr16, F16⟩]
noncomputable def an15 : Anns :=
 ⟨gam15, ja15, [⟨15, [false, true, true], ⟨[(1, .bptr 0 0), (2, .bptr 1 0), (3, .bptr 2 0), (4, .bptr 3 0)], [.box [.full 4 2, .full 5 1], .box [.full 6 2, .nils], .box [.full 7 2, .nils], .box [.full 8 2, .nils], .row [(CK.int .i64), (CK.int .i64)], .row [(CK.list 2)], .row [(CK.int .i64), (CK.int .i64)], .row [(CK.int .i64), (CK.int .i64)], .row [(CK.int .i64), (CK.int .i64)]], 170⟩⟩]⟩
noncomputable def g15 (it : It) : (p : Prim) → Unit → Option ((Bool × Unit)) :=
 fun p x =>
 opt.need _ (p.eqN 0 0) <|
 opt.need _ (p.eqN 3 (p.len [[(D.int .i64 (0 : Int)), (D.int .i64 (0 : Int))], [(D.int .i64 (4 : Int)), (D.int .i64 (0 : Int))], [(D.int .i64 (0 : Int)), (D.int .i64 (4 : Int))]])) <|
 opt.need _ (p.eqN 3 (p.len [[(D.int .i64 (0 : Int)), (D.int .i64 (0 : Int))], [(D.int .i64 (4 : Int)), (D.int .i64 (0 : Int))], [(D.int .i64 (0 : Int)), (D.int .i64 (4 : Int))]])) <|
 opt.need _ (p.eqN 0 0) <|
 opt.need _ (p.eqN 1 (p.len [[(D.list Bool.true 2 [[(D.int .i64 (0 : Int)), (D.int .i64 (0 : Int))], [(D.int .i64 (1 : Int)), (D.int .i64 (0 : Int))]])]])) <|
 opt.need _ (p.eqN 1 (p.len [[(D.list Bool.true 2 [[(D.int .i64 (0 : Int)), (D.int .i64 (0 : Int))], [(D.int .i64 (1 : Int)), (D.int .i64 (0 : Int))]])]])) <|
 opt.need _ (p.eqN 0 0) <|
 opt.need _ (p.eqN 1 (p.len [[(D.int .i64 (6 : Int)), (D.int .i64 (0 : Int))]])) <|
 opt.need _ (p.eqN 1 (p.len [[(D.int .i64 (6 : Int)), (D.int .i64 (0 : Int))]])) <|
 opt.need _ (p.eqN 0 0) <|
 opt.need _ (p.eqN 1 (p.len [[(D.int .i64 (4 : Int)), (D.int .i64 (2 : Int))]])) <|
 opt.need _ (p.eqN 1 (p.len [[(D.int .i64 (4 : Int)), (D.int .i64 (2 : Int))]])) <|
 opt.need _ (p.eqN 0 0) <|
 opt.need _ (p.eqN 1 (p.len [[(D.int .i64 (3 : Int)), (D.int .i64 (2 : Int))]])) <|
 opt.need _ (p.eqN 1 (p.len [[(D.int .i64 (3 : Int)), (D.int .i64 (2 : Int))]])) <|
 opt.need _ (p.and (p.and (p.leN (p.add 0 (p.len [[(D.int .i64 (0 : Int)), (D.int .i64 (0 : Int))], [(D.int .i64 (4 : Int)), (D.int .i64 (0 : Int))], [(D.int .i64 (0 : Int)), (D.int .i64 (4 : Int))]])) (p.len [[(D.int .i64 (0 : Int)), (D.int .i64 (0 : Int))], [(D.int .i64 (4 : Int)), (D.int .i64 (0 : Int))], [(D.int .i64 (0 : Int)), (D.int .i64 (4 : Int))]])) (p.and (p.leN (p.add 0 (p.len [[(D.list Bool.true 2 [[(D.int .i64 (0 : Int)), (D.int .i64 (0 : Int))], [(D.int .i64 (1 : Int)), (D.int .i64 (0 : Int))]])]])) (p.len [[(D.list Bool.true 2 [[(D.int .i64 (0 : Int)), (D.int .i64 (0 : Int))], [(D.int .i64 (1 : Int)), (D.int .i64 (0 : Int))]])]])) Bool.true)) Bool.true) <|
 opt.bnd ((List (List (D)) × (Int × Unit))) _ (g16 it p ((p.cut [[(D.int .i64 (0 : Int)), (D.int .i64 (0 : Int))], [(D.int .i64 (4 : Int)), (D.int .i64 (0 : Int))], [(D.int .i64 (0 : Int)), (D.int .i64 (4 : Int))]] 0 (p.len [[(D.int .i64 (0 : Int)), (D.int .i64 (0 : Int))], [(D.int .i64 (4 : Int)), (D.int .i64 (0 : Int))], [(D.int .i64 (0 : Int)), (D.int .i64 (4 : Int))]])), ((p.cut [[(D.list Bool.true 2 [[(D.int .i64 (0 : Int)), (D.int .i64 (0 : Int))], [(D.int .i64 (1 : Int)), (D.int .i64 (0 : Int))]])]] 0 (p.len [[(D.list Bool.true 2 [[(D.int .i64 (0 : Int)), (D.int .i64 (0 : Int))], [(D.int .i64 (1 : Int)), (D.int .i64 (0 : Int))]])]])), ()))) fun y22 =>
 opt.need _ (p.plain y22.1) <|
 opt.need _ (p.and (p.and (p.leN (p.add 0 (p.len [[(D.int .i64 (0 : Int)), (D.int .i64 (0 : Int))], [(D.int .i64 (4 : Int)), (D.int .i64 (0 : Int))], [(D.int .i64 (0 : Int)), (D.int .i64 (4 : Int))]])) (p.len [[(D.int .i64 (0 : Int)), (D.int .i64 (0 : Int))], [(D.int .i64 (4 : Int)), (D.int .i64 (0 : Int))], [(D.int .i64 (0 : Int)), (D.int .i64 (4 : Int))]])) (p.and (p.leN (p.add 0 (p.len [[(D.list Bool.true 2 [[(D.int .i64 (0 : Int)), (D.int .i64 (0 : Int))], [(D.int .i64 (1 : Int)), (D.int .i64 (0 : Int))]])]])) (p.len [[(D.list Bool.true 2 [[(D.int .i64 (0 : Int)), (D.int .i64 (0 : Int))], [(D.int .i64 (1 : Int)), (D.int .i64 (0 : Int))]])]])) Bool.true)) (p.and Bool.true Bool.true)) <|
 opt.bnd ((Bool × (Int × Unit))) _ (g21 it p ((p.cut [[(D.int .i64 (0 : Int)), (D.int .i64 (0 : Int))], [(D.int .i64 (4 : Int)), (D.int .i64 (0 : Int))], [(D.int .i64 (0 : Int)), (D.int .i64 (4 : Int))]] 0 (p.len [[(D.int .i64 (0 : Int)), (D.int .i64 (0 : Int))], [(D.int .i64 (4 : Int)), (D.int .i64 (0 : Int))], [(D.int .i64 (0 : Int)), (D.int .i64 (4 : Int))]])), ((p.cut [[(D.list Bool.true 2 [[(D.int .i64 (0 : Int)), (D.int .i64 (0 : Int))], [(D.int .i64 (1 : Int)), (D.int .i64 (0 : Int))]])]] 0 (p.len [[(D.list Bool.true 2 [[(D.int .i64 (0 : Int)), (D.int .i64 (0 : Int))], [(D.int .i64 (1 : Int)), (D.int .i64 (0 : Int))]])]])), ((3 : Int), ((2 : Int), ()))))) fun y23 =>
 opt.need _ (p.and (p.and (p.leN (p.add 0 (p.len [[(D.int .i64 (0 : Int)), (D.int .i64 (0 : Int))], [(D.int .i64 (4 : Int)), (D.int .i64 (0 : Int))], [(D.int .i64 (0 : Int)), (D.int .i64 (4 : Int))]])) (p.len [[(D.int .i64 (0 : Int)), (D.int .i64 (0 : Int))], [(D.int .i64 (4 : Int)), (D.int .i64 (0 : Int))], [(D.int .i64 (0 : Int)), (D.int .i64 (4 : Int))]])) (p.and (p.leN (p.add 0 (p.len [[(D.list Bool.true 2 [[(D.int .i64 (0 : Int)), (D.int .i64 (0 : Int))], [(D.int .i64 (1 : Int)), (D.int .i64 (0 : Int))]])]])) (p.len [[(D.list Bool.true 2 [[(D.int .i64 (0 : Int)), (D.int .i64 (0 : Int))], [(D.int .i64 (1 : Int)), (D.int .i64 (0 : Int))]])]])) Bool.true)) (p.and (p.leN (p.add 0 4) (p.len [[(D.int .i64 (0 : Int)), (D.int .i64 (0 : Int))], [(D.int .i64 (4 : Int)), (D.int .i64 (0 : Int))], [(D.int .i64 (4 : Int)), (D.int .i64 (4 : Int))], [(D.int .i64 (0 : Int)), (D.int .i64 (4 : Int))]])) Bool.true)) <|
 opt.bnd ((Int × (Int × (Int × Unit)))) _ (g23 it p ((p.cut [[(D.int .i64 (0 : Int)), (D.int .i64 (0 : Int))], [(D.int .i64 (4 : Int)), (D.int .i64 (0 : Int))], [(D.int .i64 (0 : Int)), (D.int .i64 (4 : Int))]] 0 (p.len [[(D.int .i64 (0 : Int)), (D.int .i64 (0 : Int))], [(D.int .i64 (4 : Int)), (D.int .i64 (0 : Int))], [(D.int .i64 (0 : Int)), (D.int .i64 (4 : Int))]])), ((p.cut [[(D.list Bool.true 2 [[(D.int .i64 (0 : Int)), (D.int .i64 (0 : Int))], [(D.int .i64 (1 : Int)), (D.int .i64 (0 : Int))]])]] 0 (p.len [[(D.list Bool.true 2 [[(D.int .i64 (0 : Int)), (D.int .i64 (0 : Int))], [(D.int .i64 (1 : Int)), (D.int .i64 (0 : Int))]])]])), ((p.cut [[(D.int .i64 (0 : Int)), (D.int .i64 (0 : Int))], [(D.int .i64 (4 : Int)), (D.int .i64 (0 : Int))], [(D.int .i64 (4 : Int)), (D.int .i64 (4 : Int))], [(D.int .i64 (0 : Int)), (D.int .i64 (4 : Int))]] 0 4), ())))) fun y24 =>
 opt.need _ (p.and (p.and (p.leN (p.add 0 (p.len [[(D.int .i64 (0 : Int)), (D.int .i64 (0 : Int))], [(D.int .i64 (4 : Int)), (D.int .i64 (0 : Int))], [(D.int .i64 (0 : Int)), (D.int .i64 (4 : Int))]])) (p.len [[(D.int .i64 (0 : Int)), (D.int .i64 (0 : Int))], [(D.int .i64 (4 : Int)), (D.int .i64 (0 : Int))], [(D.int .i64 (0 : Int)), (D.int .i64 (4 : Int))]])) (p.and (p.leN (p.add 0 (p.len [[(D.list Bool.true 2 [[(D.int .i64 (0 : Int)), (D.int .i64 (0 : Int))], [(D.int .i64 (1 : Int)), (D.int .i64 (0 : Int))]])]])) (p.len [[(D.list Bool.true 2 [[(D.int .i64 (0 : Int)), (D.int .i64 (0 : Int))], [(D.int .i64 (1 : Int)), (D.int .i64 (0 : Int))]])]])) Bool.true)) (p.and (p.and (p.leN (p.add 0 (p.len [[(D.int .i64 (6 : Int)), (D.int .i64 (0 : Int))]])) (p.len [[(D.int .i64 (6 : Int)), (D.int .i64 (0 : Int))]])) (p.and Bool.true Bool.true)) (p.and Bool.true Bool.true))) <|
 opt.bnd ((Int × Unit)) _ (g39 it p ((p.cut [[(D.int .i64 (0 : Int)), (D.int .i64 (0 : Int))], [(D.int .i64 (4 : Int)), (D.int .i64 (0 : Int))], [(D.int .i64 (0 : Int)), (D.int .i64 (4 : Int))]] 0 (p.len [[(D.int .i64 (0 : Int)), (D.int .i64 (0 : Int))], [(D.int .i64 (4 : Int)), (D.int .i64 (0 : Int))], [(D.int .i64 (0 : Int)), (D.int .i64 (4 : Int))]])), ((p.cut [[(D.list Bool.true 2 [[(D.int .i64 (0 : Int)), (D.int .i64 (0 : Int))], [(D.int .i64 (1 : Int)), (D.int .i64 (0 : Int))]])]] 0 (p.len [[(D.list Bool.true 2 [[(D.int .i64 (0 : Int)), (D.int .i64 (0 : Int))], [(D.int .i64 (1 : Int)), (D.int .i64 (0 : Int))]])]])), ((p.cut [[(D.int .i64 (6 : Int)), (D.int .i64 (0 : Int))]] 0 (p.len [[(D.int .i64 (6 : Int)), (D.int .i64 (0 : Int))]])), ([], ((1 : Int), ((0 : Int), ((5 : Int), ())))))))) fun y25 =>
 opt.need _ (p.and (p.and (p.leN (p.add 0 (p.len [[(D.int .i64 (0 : Int)), (D.int .i64 (0 : Int))], [(D.int .i64 (4 : Int)), (D.int .i64 (0 : Int))], [(D.int .i64 (0 : Int)), (D.int .i64 (4 : Int))]])) (p.len [[(D.int .i64 (0 : Int)), (D.int .i64 (0 : Int))], [(D.int .i64 (4 : Int)), (D.int .i64 (0 : Int))], [(D.int .i64 (0 : Int)), (D.int .i64 (4 : Int))]])) (p.and (p.leN (p.add 0 (p.len [[(D.list Bool.true 2 [[(D.int .i64 (0 : Int)), (D.int .i64 (0 : Int))], [(D.int .i64 (1 : Int)), (D.int .i64 (0 : Int))]])]])) (p.len [[(D.list Bool.true 2 [[(D.int .i64 (0 : Int)), (D.int .i64 (0 : Int))], [(D.int .i64 (1 : Int)), (D.int .i64 (0 : Int))]])]])) Bool.true)) (p.and (p.and (p.leN (p.add 0 (p.len [[(D.int .i64 (6 : Int)), (D.int .i64 (0 : Int))]])) (p.len [[(D.int .i64 (6 : Int)), (D.int .i64 (0 : Int))]])) (p.and Bool.true Bool.true)) (p.and Bool.true Bool.true))) <|
 opt.bnd ((Int × Unit)) _ (g39 it p ((p.cut [[(D.int .i64 (0 : Int)), (D.int .i64 (0 : Int))], [(D.int .i64 (4 : Int)), (D.int .i64 (0 : Int))], [(D.int .i64 (0 : Int)), (D.int .i64 (4 : Int))]] 0 (p.len [[(D.int .i64 (0 : Int)), (D.int .i64 (0 : Int))], [(D.int .i64 (4 : Int)), (D.int .i64 (0 : Int))], [(D.int .i64 (0 : Int)), (D.int .i64 (4 : Int))]])), ((p.cut [[(D.list Bool.true 2 [[(D.int .i64 (0 : Int)), (D.int .i64 (0 : Int))], [(D.int .i64 (1 : Int)), (D.int .i64 (0 : Int))]])]] 0 (p.len [[(D.list Bool.true 2 [[(D.int .i64 (0 : Int)), (D.int .i64 (0 : Int))], [(D.int .i64 (1 : Int)), (D.int .i64 (0 : Int))]])]])), ((p.cut [[(D.int .i64 (6 : Int)), (D.int .i64 (0 : Int))]] 0 (p.len [[(D.int .i64 (6 : Int)), (D.int .i64 (0 : Int))]])), ([], ((1 : Int), ((0 : Int), ((6 : Int), ())))))))) fun y26 =>
 opt.need _ (p.and (p.and (p.leN (p.add 0 (p.len [[(D.int .i64 (0 : Int)), (D.int .i64 (0 : Int))], [(D.int .i64 (4 : Int)), (D.int .i64 (0 : Int))], [(D.int .i64 (0 : Int)), (D.int .i64 (4 : Int))]])) (p.len [[(D.int .i64 (0 : Int)), (D.int .i64 (0 : Int))], [(D.int .i64 (4 : Int)), (D.int .i64 (0 : Int))], [(D.int .i64 (0 : Int)), (D.int .i64 (4 : Int))]])) (p.and (p.leN (p.add 0 (p.len [[(D.list Bool.true 2 [[(D.int .i64 (0 : Int)), (D.int .i64 (0 : Int))], [(D.int .i64 (1 : Int)), (D.int .i64 (0 : Int))]])]])) (p.len [[(D.list Bool.true 2 [[(D.int .i64 (0 : Int)), (D.int .i64 (0 : Int))], [(D.int .i64 (1 : Int)), (D.int .i64 (0 : Int))]])]])) Bool.true)) (p.and (p.and (p.leN (p.add 0 (p.len [[(D.int .i64 (3 : Int)), (D.int .i64 (2 : Int))]])) (p.len [[(D.int .i64 (3 : Int)), (D.int .i64 (2 : Int))]])) (p.and Bool.true Bool.true)) Bool.true)) <|
 opt.bnd ((Int × (Int × (Int × (Int × Unit))))) _ (g32 it p ((p.cut [[(D.int .i64 (0 : Int)), (D.int .i64 (0 : Int))], [(D.int .i64 (4 : Int)), (D.int .i64 (0 : Int))], [(D.int .i64 (0 : Int)), (D.int .i64 (4 : Int))]] 0 (p.len [[(D.int .i64 (0 : Int)), (D.int .i64 (0 : Int))], [(D.int .i64 (4 : Int)), (D.int .i64 (0 : Int))], [(D.int .i64 (0 : Int)), (D.int .i64 (4 : Int))]])), ((p.cut [[(D.list Bool.true 2 [[(D.int .i64 (0 : Int)), (D.int .i64 (0 : Int))], [(D.int .i64 (1 : Int)), (D.int .i64 (0 : Int))]])]] 0 (p.len [[(D.list Bool.true 2 [[(D.int .i64 (0 : Int)), (D.int .i64 (0 : Int))], [(D.int .i64 (1 : Int)), (D.int .i64 (0 : Int))]])]])), ((p.cut [[(D.int .i64 (3 : Int)), (D.int .i64 (2 : Int))]] 0 (p.len [[(D.int .i64 (3 : Int)), (D.int .i64 (2 : Int))]])), ([], ()))))) fun y27 =>
 opt.need _ (p.and (p.and (p.leN (p.add 0 (p.len [[(D.int .i64 (0 : Int)), (D.int .i64 (0 : Int))], [(D.int .i64 (4 : Int)), (D.int .i64 (0 : Int))], [(D.int .i64 (0 : Int)), (D.int .i64 (4 : Int))]])) (p.len [[(D.int .i64 (0 : Int)), (D.int .i64 (0 : Int))], [(D.int .i64 (4 : Int)), (D.int .i64 (0 : Int))], [(D.int .i64 (0 : Int)), (D.int .i64 (4 : Int))]])) (p.and (p.leN (p.add 0 (p.len [[(D.list Bool.true 2 [[(D.int .i64 (0 : Int)), (D.int .i64 (0 : Int))], [(D.int .i64 (1 : Int)), (D.int .i64 (0 : Int))]])]])) (p.len [[(D.list Bool.true 2 [[(D.int .i64 (0 : Int)), (D.int .i64 (0 : Int))], [(D.int .i64 (1 : Int)), (D.int .i64 (0 : Int))]])]])) Bool.true)) (p.and (p.and (p.leN (p.add 0 (p.len [[(D.int .i64 (4 : Int)), (D.int .i64 (2 : Int))]])) (p.len [[(D.int .i64 (4 : Int)), (D.int .i64 (2 : Int))]])) (p.and Bool.true Bool.true)) Bool.true)) <|
 opt.bnd ((Int × (Int × (Int × (Int × Unit))))) _ (g32 it p ((p.cut [[(D.int .i64 (0 : Int)), (D.int .i64 (0 : Int))], [(D.int .i64 (4 : Int)), (D.int .i64 (0 : Int))], [(D.int .i64 (0 : Int)), (D.int .i64 (4 : Int))]] 0 (p.len [[(D.int .i64 (0 : Int)), (D.int .i64 (0 : Int))], [(D.int .i64 (4 : Int)), (D.int .i64 (0 : Int))], [(D.int .i64 (0 : Int)), (D.int .i64 (4 : Int))]])), ((p.cut [[(D.list Bool.true 2 [[(D.int .i64 (0 : Int)), (D.int .i64 (0 : Int))], [(D.int .i64 (1 : Int)), (D.int .i64 (0 : Int))]])]] 0 (p.len [[(D.list Bool.true 2 [[(D.int .i64 (0 : Int)), (D.int .i64 (0 : Int))], [(D.int .i64 (1 : Int)), (D.int .i64 (0 : Int))]])]])), ((p.cut [[(D.int .i64 (4 : Int)), (D.int .i64 (2 : Int))]] 0 (p.len [[(D.int .i64 (4 : Int)), (D.int .i64 (2 : Int))]])), ([], ()))))) fun y28 =>
 opt.need _ (p.and (p.and (p.leN (p.add 0 (p.len [[(D.int .i64 (0 : Int)), (D.int .i64 (0 : Int))], [(D.int .i64 (4 : Int)), (D.int .i64 (0 : Int))], [(D.int .i64 (0 : Int)), (D.int .i64 (4 : Int))]])) (p.len [[(D.int .i64 (0 : Int)), (D.int .i64 (0 : Int))], [(D.int .i64 (4 : Int)), (D.int .i64 (0 : Int))], [(D.int .i64 (0 : Int)), (D.int .i64 (4 : Int))]])) (p.and (p.leN (p.add 0 (p.len [[(D.list Bool.true 2 [[(D.int .i64 (0 : Int)), (D.int .i64 (0 : Int))], [(D.int .i64 (1 : Int)), (D.int .i64 (0 : Int))]])]])) (p.len [[(D.list Bool.true 2 [[(D.int .i64 (0 : Int)), (D.int .i64 (0 : Int))], [(D.int .i64 (1 : Int)), (D.int .i64 (0 : Int))]])]])) Bool.true)) (p.and (p.and (p.leN (p.add 0 (p.len [[(D.int .i64 (3 : Int)), (D.int .i64 (2 : Int))]])) (p.len [[(D.int .i64 (3 : Int)), (D.int .i64 (2 : Int))]])) (p.and Bool.true Bool.true)) Bool.true)) <|
 opt.bnd ((Int × (Int × (Int × (Int × Unit))))) _ (g37 it p ((p.cut [[(D.int .i64 (0 : Int)), (D.int .i64 (0 : Int))], [(D.int .i64 (4 : Int)), (D.int .i64 (0 : Int))], [(D.int .i64 (0 : Int)), (D.int .i64 (4 : Int))]] 0 (p.len [[(D.int .i64 (0 : Int)), (D.int .i64 (0 : Int))], [(D.int .i64 (4 : Int)), (D.int .i64 (0 : Int))], [(D.int .i64 (0 : Int)), (D.int .i64 (4 : Int))]])), ((p.cut [[(D.list Bool.true 2 [[(D.int .i64 (0 : Int)), (D.int .i64 (0 : Int))], [(D.int .i64 (1 : Int)), (D.int .i64 (0 : Int))]])]] 0 (p.len [[(D.list Bool.true 2 [[(D.int .i64 (0 : Int)), (D.int .i64 (0 : Int))], [(D.int .i64 (1 : Int)), (D.int .i64 (0 : Int))]])]])), ((p.cut [[(D.int .i64 (3 : Int)), (D.int .i64 (2 : Int))]] 0 (p.len [[(D.int .i64 (3 : Int)), (D.int .i64 (2 : Int))]])), ([], ()))))) fun y29 =>
 opt.need _ (p.and (p.and (p.leN (p.add 0 (p.len [[(D.int .i64 (0 : Int)), (D.int .i64 (0 : Int))], [(D.int .i64 (4 : Int)), (D.int .i64 (0 : Int))], [(D.int .i64 (0 : Int)), (D.int .i64 (4 : Int))]])) (p.len [[(D.int .i64 (0 : Int)), (D.int .i64 (0 : Int))], [(D.int .i64 (4 : Int)), (D.int .i64 (0 : Int))], [(D.int .i64 (0 : Int)), (D.int .i64 (4 : Int))]])) (p.and (p.leN (p.add 0 (p.len [[(D.list Bool.true 2 [[(D.int .i64 (0 : Int)), (D.int .i64 (0 : Int))], [(D.int .i64 (1 : Int)), (D.int .i64 (0 : Int))]])]])) (p.len [[(D.list Bool.true 2 [[(D.int .i64 (0 : Int)), (D.int .i64 (0 : Int))], [(D.int .i64 (1 : Int)), (D.int .i64 (0 : Int))]])]])) Bool.true)) (p.and (p.and (p.leN (p.add 0 (p.len [[(D.int .i64 (4 : Int)), (D.int .i64 (2 : Int))]])) (p.len [[(D.int .i64 (4 : Int)), (D.int .i64 (2 : Int))]])) (p.and Bool.true Bool.true)) Bool.true)) <|
 opt.bnd ((Int × (Int × (Int × Unit)))) _ (g25 it p ((p.cut [[(D.int .i64 (0 : Int)), (D.int .i64 (0 : Int))], [(D.int .i64 (4 : Int)), (D.int .i64 (0 : Int))], [(D.int .i64 (0 : Int)), (D.int .i64 (4 : Int))]] 0 (p.len [[(D.int .i64 (0 : Int)), (D.int .i64 (0 : Int))], [(D.int .i64 (4 : Int)), (D.int .i64 (0 : Int))], [(D.int .i64 (0 : Int)), (D.int .i64 (4 : Int))]])), ((p.cut [[(D.list Bool.true 2 [[(D.int .i64 (0 : Int)), (D.int .i64 (0 : Int))], [(D.int .i64 (1 : Int)), (D.int .i64 (0 : Int))]])]] 0 (p.len [[(D.list Bool.true 2 [[(D.int .i64 (0 : Int)), (D.int .i64 (0 : Int))], [(D.int .i64 (1 : Int)), (D.int .i64 (0 : Int))]])]])), ((p.cut [[(D.int .i64 (4 : Int)), (D.int .i64 (2 : Int))]] 0 (p.len [[(D.int .i64 (4 : Int)), (D.int .i64 (2 : Int))]])), ([], ()))))) fun y30 =>
 opt.need _ (p.and (bif (bif (p.leN (p.add 0 (p.len [[(D.int .i64 (0 : Int)), (D.int .i64 (0 : Int))], [(D.int .i64 (4 : Int)), (D.int .i64 (0 : Int))], [(D.int .i64 (0 : Int)), (D.int .i64 (4 : Int))]])) (p.len [[(D.int .i64 (0 : Int)), (D.int .i64 (0 : Int))], [(D.int .i64 (4 : Int)), (D.int .i64 (0 : Int))], [(D.int .i64 (0 : Int)), (D.int .i64 (4 : Int))]])) then (bif (p.leN (p.add 0 (p.len [[(D.list Bool.true 2 [[(D.int .i64 (0 : Int)), (D.int .i64 (0 : Int))], [(D.int .i64 (1 : Int)), (D.int .i64 (0 : Int))]])]])) (p.len [[(D.list Bool.true 2 [[(D.int .i64 (0 : Int)), (D.int .i64 (0 : Int))], [(D.int .i64 (1 : Int)), (D.int .i64 (0 : Int))]])]])) then Bool.true else Bool.false) else Bool.false) then (bif (bif (p.leN (p.add 0 (p.len [[(D.int .i64 (4 : Int)), (D.int .i64 (2 : Int))]])) (p.len [[(D.int .i64 (4 : Int)), (D.int .i64 (2 : Int))]])) then Bool.true else Bool.false) then (bif (bif (p.leN (p.add 0 (p.len [[(D.int .i64 (3 : Int)), (D.int .i64 (2 : Int))]])) (p.len [[(D.int .i64 (3 : Int)), (D.int .i64 (2 : Int))]])) then Bool.true else Bool.false) then Bool.true else Bool.false) else Bool.false) else Bool.false) Bool.true) <|
 opt.bnd ((Int × (Int × (Int × Unit)))) _ (g27 it p ([[(D.list Bool.false 2 (p.cut [[(D.int .i64 (0 : Int)), (D.int .i64 (0 : Int))], [(D.int .i64 (4 : Int)), (D.int .i64 (0 : Int))], [(D.int .i64 (0 : Int)), (D.int .i64 (4 : Int))]] 0 (p.len [[(D.int .i64 (0 : Int)), (D.int .i64 (0 : Int))], [(D.int .i64 (4 : Int)), (D.int .i64 (0 : Int))], [(D.int .i64 (0 : Int)), (D.int .i64 (4 : Int))]]))), (D.list Bool.false 1 (p.cut [[(D.list Bool.true 2 [[(D.int .i64 (0 : Int)), (D.int .i64 (0 : Int))], [(D.int .i64 (1 : Int)), (D.int .i64 (0 : Int))]])]] 0 (p.len [[(D.list Bool.true 2 [[(D.int .i64 (0 : Int)), (D.int .i64 (0 : Int))], [(D.int .i64 (1 : Int)), (D.int .i64 (0 : Int))]])]])))], [(D.list Bool.false 2 (p.cut [[(D.int .i64 (4 : Int)), (D.int .i64 (2 : Int))]] 0 (p.len [[(D.int .i64 (4 : Int)), (D.int .i64 (2 : Int))]]))), (D.list Bool.true 0 [])], [(D.list Bool.false 2 (p.cut [[(D.int .i64 (3 : Int)), (D.int .i64 (2 : Int))]] 0 (p.len [[(D.int .i64 (3 : Int)), (D.int .i64 (2 : Int))]]))), (D.list Bool.true 0 [])]], ())) fun y31 =>
 opt.bnd ((List (List (D)) × (List (List (D)) × (List (List (D)) × (List (List (D)) × (List (List (D)) × (Int × (Int × (Int × (Int × (Int × (Int × (Int × (Int × (Int × (Int × (Bool × (Int × (Int × (Bool × Unit)))))))))))))))))))) _ (
 opt.run ((List (List (D)) × (List (List (D)) × (List (List (D)) × (List (List (D)) × (List (List (D)) × (Int × (Int × (Int × (Int × (Int × (Int × (Int × (Int × (Int × (Int × (Bool × (Int × (Int × (Bool × Unit)))))))))))))))))))) (
 opt.ask _ (p.cmp .neq y22.2.1 (0 : Int)) (
 opt.need _ (p.eqN 0 0) <|
 opt.need _ (p.eqN (p.len [[(D.int .i64 (0 : Int)), (D.int .i64 (0 : Int))], [(D.int .i64 (4 : Int)), (D.int .i64 (0 : Int))], [(D.int .i64 (0 : Int)), (D.int .i64 (4 : Int))]]) (p.len [[(D.int .i64 (0 : Int)), (D.int .i64 (0 : Int))], [(D.int .i64 (4 : Int)), (D.int .i64 (0 : Int))], [(D.int .i64 (0 : Int)), (D.int .i64 (4 : Int))]])) <|
 opt.need _ (p.eqN (p.len [[(D.int .i64 (0 : Int)), (D.int .i64 (0 : Int))], [(D.int .i64 (4 : Int)), (D.int .i64 (0 : Int))], [(D.int .i64 (0 : Int)), (D.int .i64 (4 : Int))]]) (p.len [[(D.int .i64 (0 : Int)), (D.int .i64 (0 : Int))], [(D.int .i64 (4 : Int)), (D.int .i64 (0 : Int))], [(D.int .i64 (0 : Int)), (D.int .i64 (4 : Int))]])) <|
 opt.need _ (p.eqN 0 0) <|
 opt.need _ (p.eqN (p.len [[(D.list Bool.true 2 [[(D.int .i64 (0 : Int)), (D.int .i64 (0 : Int))], [(D.int .i64 (1 : Int)), (D.int .i64 (0 : Int))]])]]) (p.len [[(D.list Bool.true 2 [[(D.int .i64 (0 : Int)), (D.int .i64 (0 : Int))], [(D.int .i64 (1 : Int)), (D.int .i64 (0 : Int))]])]])) <|
 opt.need _ (p.eqN (p.len [[(D.list Bool.true 2 [[(D.int .i64 (0 : Int)), (D.int .i64 (0 : Int))], [(D.int .i64 (1 : Int)), (D.int .i64 (0 : Int))]])]]) (p.len [[(D.list Bool.true 2 [[(D.int .i64 (0 : Int)), (D.int .i64 (0 : Int))], [(D.int .i64 (1 : Int)), (D.int .i64 (0 : Int))]])]])) <|
 opt.need _ (p.eqN 0 0) <|
 opt.need _ (p.eqN (p.len [[(D.int .i64 (4 : Int)), (D.int .i64 (2 : Int))]]) (p.len [[(D.int .i64 (4 : Int)), (D.int .i64 (2 : Int))]])) <|
 opt.need _ (p.eqN (p.len [[(D.int .i64 (4 : Int)), (D.int .i64 (2 : Int))]]) (p.len [[(D.int .i64 (4 : Int)), (D.int .i64 (2 : Int))]])) <|
 opt.need _ (p.eqN 0 0) <|
 opt.need _ (p.eqN (p.len [[(D.int .i64 (3 : Int)), (D.int .i64 (2 : Int))]]) (p.len [[(D.int .i64 (3 : Int)), (D.int .i64 (2 : Int))]])) <|
 opt.need _ (p.eqN (p.len [[(D.int .i64 (3 : Int)), (D.int .i64 (2 : Int))]]) (p.len [[(D.int .i64 (3 : Int)), (D.int .i64 (2 : Int))]])) <|
 opt.need _ (p.eqN 0 0) <|
 opt.need _ (p.eqN (p.len y22.1) (p.len y22.1)) <|
 opt.ret _ (y22.1, ([[(D.int .i64 (0 : Int)), (D.int .i64 (0 : Int))], [(D.int .i64 (4 : Int)), (D.int .i64 (0 : Int))], [(D.int .i64 (0 : Int)), (D.int .i64 (4 : Int))]], ([[(D.list Bool.true 2 [[(D.int .i64 (0 : Int)), (D.int .i64 (0 : Int))], [(D.int .i64 (1 : Int)), (D.int .i64 (0 : Int))]])]], ([[(D.int .i64 (4 : Int)), (D.int .i64 (2 : Int))]], ([[(D.int .i64 (3 : Int)), (D.int .i64 (2 : Int))]], (y24.1, (y24.2.1, (y28.1, (y28.2.1, (y28.2.2.1, (y29.1, (y29.2.1, (y29.2.2.1, (y30.1, (y30.2.1, (y23.1, (y31.1, (y31.2.1, (Bool.true, ())))))))))))))))))))) (
 opt.ask _ (p.cmp .neq y23.2.1 (0 : Int)) (
 opt.need _ (p.eqN 0 0) <|
 opt.need _ (p.eqN (p.len [[(D.int .i64 (0 : Int)), (D.int .i64 (0 : Int))], [(D.int .i64 (4 : Int)), (D.int .i64 (0 : Int))], [(D.int .i64 (0 : Int)), (D.int .i64 (4 : Int))]]) (p.len [[(D.int .i64 (0 : Int)), (D.int .i64 (0 : Int))], [(D.int .i64 (4 : Int)), (D.int .i64 (0 : Int))], [(D.int .i64 (0 : Int)), (D.int .i64 (4 : Int))]])) <|
 opt.need _ (p.eqN (p.len [[(D.int .i64 (0 : Int)), (D.int .i64 (0 : Int))], [(D.int .i64 (4 : Int)), (D.int .i64 (0 : Int))], [(D.int .i64 (0 : Int)), (D.int .i64 (4 : Int))]]) (p.len [[(D.int .i64 (0 : Int)), (D.int .i64 (0 : Int))], [(D.int .i64 (4 : Int)), (D.int .i64 (0 : Int))], [(D.int .i64 (0 : Int)), (D.int .i64 (4 : Int))]])) <|
 opt.need _ (p.eqN 0 0) <|
 opt.need _ (p.eqN (p.len [[(D.list Bool.true 2 [[(D.int .i64 (0 : Int)), (D.int .i64 (0 : Int))], [(D.int .i64 (1 : Int)), (D.int .i64 (0 : Int))]])]]) (p.len [[(D.list Bool.true 2 [[(D.int .i64 (0 : Int)), (D.int .i64 (0 : Int))], [(D.int .i64 (1 : Int)), (D.int .i64 (0 : Int))]])]])) <|
 opt.need _ (p.eqN (p.len [[(D.list Bool.true 2 [[(D.int .i64 (0 : Int)), (D.int .i64 (0 : Int))], [(D.int .i64 (1 : Int)), (D.int .i64 (0 : Int))]])]]) (p.len [[(D.list Bool.true 2 [[(D.int .i64 (0 : Int)), (D.int .i64 (0 : Int))], [(D.int .i64 (1 : Int)), (D.int .i64 (0 : Int))]])]])) <|
 opt.need _ (p.eqN 0 0) <|
 opt.need _ (p.eqN (p.len [[(D.int .i64 (4 : Int)), (D.int .i64 (2 : Int))]]) (p.len [[(D.int .i64 (4 : Int)), (D.int .i64 (2 : Int))]])) <|
 opt.need _ (p.eqN (p.len [[(D.int .i64 (4 : Int)), (D.int .i64 (2 : Int))]]) (p.len [[(D.int .i64 (4 : Int)), (D.int .i64 (2 : Int))]])) <|
 opt.need _ (p.eqN 0 0) <|
 opt.need _ (p.eqN (p.len [[(D.int .i64 (3 : Int)), (D.int .i64 (2 : Int))]]) (p.len [[(D.int .i64 (3 : Int)), (D.int .i64 (2 : Int))]])) <|
 opt.need _ (p.eqN (p.len [[(D.int .i64 (3 : Int)), (D.int .i64 (2 : Int))]]) (p.len [[(D.int .i64 (3 : Int)), (D.int .i64 (2 : Int))]])) <|
 opt.need _ (p.eqN 0 0) <|
 opt.need _ (p.eqN (p.len y22.1) (p.len y22.1)) <|
 opt.ret _ (y22.1, ([[(D.int .i64 (0 : Int)), (D.int .i64 (0 : Int))], [(D.int .i64 (4 : Int)), (D.int .i64 (0 : Int))], [(D.int .i64 (0 : Int)), (D.int .i64 (4 : Int))]], ([[(D.list Bool.true 2 [[(D.int .i64 (0 : Int)), (D.int .i64 (0 : Int))], [(D.int .i64 (1 : Int)), (D.int .i64 (0 : Int))]])]], ([[(D.int .i64 (4 : Int)), (D.int .i64 (2 : Int))]], ([[(D.int .i64 (3 : Int)), (D.int .i64 (2 : Int))]], (y24.1, (y24.2.1, (y28.1, (y28.2.1, (y28.2.2.1, (y29.1, (y29.2.1, (y29.2.2.1, (y30.1, (y30.2.1, (y23.1, (y31.1, (y31.2.1, (Bool.true, ())))))))))))))))))))) (
 opt.ask _ (p.cmp .neq y24.2.2.1 (0 : Int)) (
 opt.need _ (p.eqN 0 0) <|
 opt.need _ (p.eqN (p.len [[(D.int .i64 (0 : Int)), (D.int .i64 (0 : Int))], [(D.int .i64 (4 : Int)), (D.int .i64 (0 : Int))], [(D.int .i64 (0 : Int)), (D.int .i64 (4 : Int))]]) (p.len [[(D.int .i64 (0 : Int)), (D.int .i64 (0 : Int))], [(D.int .i64 (4 : Int)), (D.int .i64 (0 : Int))], [(D.int .i64 (0 : Int)), (D.int .i64 (4 : Int))]])) <|
 opt.need _ (p.eqN (p.len [[(D.int .i64 (0 : Int)), (D.int .i64 (0 : Int))], [(D.int .i64 (4 : Int)), (D.int .i64 (0 : Int))], [(D.int .i64 (0 : Int)), (D.int .i64 (4 : Int))]]) (p.len [[(D.int .i64 (0 : Int)), (D.int .i64 (0 : Int))], [(D.int .i64 (4 : Int)), (D.int .i64 (0 : Int))], [(D.int .i64 (0 : Int)), (D.int .i64 (4 : Int))]])) <|
 opt.need _ (p.eqN 0 0) <|
 opt.need _ (p.eqN (p.len [[(D.list Bool.true 2 [[(D.int .i64 (0 : Int)), (D.int .i64 (0 : Int))], [(D.int .i64 (1 : Int)), (D.int .i64 (0 : Int))]])]]) (p.len [[(D.list Bool.true 2 [[(D.int .i64 (0 : Int)), (D.int .i64 (0 : Int))], [(D.int .i64 (1 : Int)), (D.int .i64 (0 : Int))]])]])) <|
 opt.need _ (p.eqN (p.len [[(D.list Bool.true 2 [[(D.int .i64 (0 : Int)), (D.int .i64 (0 : Int))], [(D.int .i64 (1 : Int)), (D.int .i64 (0 : Int))]])]]) (p.len [[(D.list Bool.true 2 [[(D.int .i64 (0 : Int)), (D.int .i64 (0 : Int))], [(D.int .i64 (1 : Int)), (D.int .i64 (0 : Int))]])]])) <|
 opt.need _ (p.eqN 0 0) <|
 opt.need _ (p.eqN (p.len [[(D.int .i64 (4 : Int)), (D.int .i64 (2 : Int))]]) (p.len [[(D.int .i64 (4 : Int)), (D.int .i64 (2 : Int))]])) <|
 opt.need _ (p.eqN (p.len [[(D.int .i64 (4 : Int)), (D.int .i64 (2 : Int))]]) (p.len [[(D.int .i64 (4 : Int)), (D.int .i64 (2 : Int))]])) <|
 opt.need _ (p.eqN 0 0) <|
 opt.need _ (p.eqN (p.len [[(D.int .i64 (3 : Int)), (D.int .i64 (2 : Int))]]) (p.len [[(D.int .i64 (3 : Int)), (D.int .i64 (2 : Int))]])) <|
 opt.need _ (p.eqN (p.len [[(D.int .i64 (3 : Int)), (D.int .i64 (2 : Int))]]) (p.len [[(D.int .i64 (3 : Int)), (D.int .i64 (2 : Int))]])) <|
 opt.need _ (p.eqN 0 0) <|
 opt.need _ (p.eqN (p.len y22.1) (p.len y22.1)) <|
 opt.ret _ (y22.1, ([[(D.int .i64 (0 : Int)), (D.int .i64 (0 : Int))], [(D.int .i64 (4 : Int)), (D.int .i64 (0 : Int))], [(D.int .i64 (0 : Int)), (D.int .i64 (4 : Int))]], ([[(D.list Bool.true 2 [[(D.int .i64 (0 : Int)), (D.int .i64 (0 : Int))], [(D.int .i64 (1 : Int)), (D.int .i64 (0 : Int))]])]], ([[(D.int .i64 (4 : Int)), (D.int .i64 (2 : Int))]], ([[(D.int .i64 (3 : Int)), (D.int .i64 (2 : Int))]], (y24.1, (y24.2.1, (y28.1, (y28.2.1, (y28.2.2.1, (y29.1, (y29.2.1, (y29.2.2.1, (y30.1, (y30.2.1, (y23.1, (y31.1, (y31.2.1, (Bool.true, ())))))))))))))))))))) (
 opt.ask _ (p.cmp .neq y25.1 (0 : Int)) (
 opt.need _ (p.eqN 0 0) <|
 opt.need _ (p.eqN (p.len [[(D.int .i64 (0 : Int)), (D.int .i64 (0 : Int))], [(D.int .i64 (4 : Int)), (D.int .i64 (0 : Int))], [(D.int .i64 (0 : Int)), (D.int .i64 (4 : Int))]]) (p.len [[(D.int .i64 (0 : Int)), (D.int .i64 (0 : Int))], [(D.int .i64 (4 : Int)), (D.int .i64 (0 : Int))], [(D.int .i64 (0 : Int)), (D.int .i64 (4 : Int))]])) <|
 opt.need _ (p.eqN (p.len [[(D.int .i64 (0 : Int)), (D.int .i64 (0 : Int))], [(D.int .i64 (4 : Int)), (D.int .i64 (0 : Int))], [(D.int .i64 (0 : Int)), (D.int .i64 (4 : Int))]]) (p.len [[(D.int .i64 (0 : Int)), (D.int .i64 (0 : Int))], [(D.int .i64 (4 : Int)), (D.int .i64 (0 : Int))], [(D.int .i64 (0 : Int)), (D.int .i64 (4 : Int))]])) <|
 opt.need _ (p.eqN 0 0) <|
 opt.need _ (p.eqN (p.len [[(D.list Bool.true 2 [[(D.int .i64 (0 : Int)), (D.int .i64 (0 : Int))], [(D.int .i64 (1 : Int)), (D.int .i64 (0 : Int))]])]]) (p.len [[(D.list Bool.true 2 [[(D.int .i64 (0 : Int)), (D.int .i64 (0 : Int))], [(D.int .i64 (1 : Int)), (D.int .i64 (0 : Int))]])]])) <|
 opt.need _ (p.eqN (p.len [[(D.list Bool.true 2 [[(D.int .i64 (0 : Int)), (D.int .i64 (0 : Int))], [(D.int .i64 (1 : Int)), (D.int .i64 (0 : Int))]])]]) (p.len [[(D.list Bool.true 2 [[(D.int .i64 (0 : Int)), (D.int .i64 (0 : Int))], [(D.int .i64 (1 : Int)), (D.int .i64 (0 : Int))]])]])) <|
 opt.need _ (p.eqN 0 0) <|
 opt.need _ (p.eqN (p.len [[(D.int .i64 (4 : Int)), (D.int .i64 (2 : Int))]]) (p.len [[(D.int .i64 (4 : Int)), (D.int .i64 (2 : Int))]])) <|
 opt.need _ (p.eqN (p.len [[(D.int .i64 (4 : Int)), (D.int .i64 (2 : Int))]]) (p.len [[(D.int .i64 (4 : Int)), (D.int .i64 (2 : Int))]])) <|
 opt.need _ (p.eqN 0 0) <|
 opt.need _ (p.eqN (p.len [[(D.int .i64 (3 : Int)), (D.int .i64 (2 : Int))]]) (p.len [[(D.int .i64 (3 : Int)), (D.int .i64 (2 : Int))]])) <|
 opt.need _ (p.eqN (p.len [[(D.int .i64 (3 : Int)), (D.int .i64 (2 : Int))]]) (p.len [[(D.int .i64 (3 : Int)), (D.int .i64 (2 : Int))]])) <|
 opt.need _ (p.eqN 0 0) <|
 opt.need _ (p.eqN (p.len y22.1) (p.len y22.1)) <|
 opt.ret _ (y22.1, ([[(D.int .i64 (0 : Int)), (D.int .i64 (0 : Int))], [(D.int .i64 (4 : Int)), (D.int .i64 (0 : Int))], [(D.int .i64 (0 : Int)), (D.int .i64 (4 : Int))]], ([[(D.list Bool.true 2 [[(D.int .i64 (0 : Int)), (D.int .i64 (0 : Int))], [(D.int .i64 (1 : Int)), (D.int .i64 (0 : Int))]])]], ([[(D.int .i64 (4 : Int)), (D.int .i64 (2 : Int))]], ([[(D.int .i64 (3 : Int)), (D.int .i64 (2 : Int))]], (y24.1, (y24.2.1, (y28.1, (y28.2.1, (y28.2.2.1, (y29.1, (y29.2.1, (y29.2.2.1, (y30.1, (y30.2.1, (y23.1, (y31.1, (y31.2.1, (Bool.true, ())))))))))))))))))))) (
 opt.ask _ (p.cmp .neq y26.1 (14 : Int)) (
 opt.need _ (p.eqN 0 0) <|
 opt.need _ (p.eqN (p.len [[(D.int .i64 (0 : Int)), (D.int .i64 (0 : Int))], [(D.int .i64 (4 : Int)), (D.int .i64 (0 : Int))], [(D.int .i64 (0 : Int)), (D.int .i64 (4 : Int))]]) (p.len [[(D.int .i64 (0 : Int)), (D.int .i64 (0 : Int))], [(D.int .i64 (4 : Int)), (D.int .i64 (0 : Int))], [(D.int .i64 (0 : Int)), (D.int .i64 (4 : Int))]])) <|
 opt.need _ (p.eqN (p.len [[(D.int .i64 (0 : Int)), (D.int .i64 (0 : Int))], [(D.int .i64 (4 : Int)), (D.int .i64 (0 : Int))], [(D.int .i64 (0 : Int)), (D.int .i64 (4 : Int))]]) (p.len [[(D.int .i64 (0 : Int)), (D.int .i64 (0 : Int))], [(D.int .i64 (4 : Int)), (D.int .i64 (0 : Int))], [(D.int .i64 (0 : Int)), (D.int .i64 (4 : Int))]])) <|
 opt.need _ (p.eqN 0 0) <|
 opt.need _ (p.eqN (p.len [[(D.list Bool.true 2 [[(D.int .i64 (0 : Int)), (D.int .i64 (0 : Int))], [(D.int .i64 (1 : Int)), (D.int .i64 (0 : Int))]])]]) (p.len [[(D.list Bool.true 2 [[(D.int .i64 (0 : Int)), (D.int .i64 (0 : Int))], [(D.int .i64 (1 : Int)), (D.int .i64 (0 : Int))]])]])) <|
 opt.need _ (p.eqN (p.len [[(D.list Bool.true 2 [[(D.int .i64 (0 : Int)), (D.int .i64 (0 : Int))], [(D.int .i64 (1 : Int)), (D.int .i64 (0 : Int))]])]]) (p.len [[(D.list Bool.true 2 [[(D.int .i64 (0 : Int)), (D.int .i64 (0 : Int))], [(D.int .i64 (1 : Int)), (D.int .i64 (0 : Int))]])]])) <|
 opt.need _ (p.eqN 0 0) <|
 opt.need _ (p.eqN (p.len [[(D.int .i64 (4 : Int)), (D.int .i64 (2 : Int))]]) (p.len [[(D.int .i64 (4 : Int)), (D.int .i64 (2 : Int))]])) <|
 opt.need _ (p.eqN (p.len [[(D.int .i64 (4 : Int)), (D.int .i64 (2 : Int))]]) (p.len [[(D.int .i64 (4 : Int)), (D.int .i64 (2 : Int))]])) <|
 opt.need _ (p.eqN 0 0) <|
 opt.need _ (p.eqN (p.len [[(D.int .i64 (3 : Int)), (D.int .i64 (2 : Int))]]) (p.len [[(D.int .i64 (3 : Int)), (D.int .i64 (2 : Int))]])) <|
 opt.need _ (p.eqN (p.len [[(D.int .i64 (3 : Int)), (D.int .i64 (2 : Int))]]) (p.len [[(D.int .i64 (3 : Int)), (D.int .i64 (2 : Int))]])) <|
 opt.need _ (p.eqN 0 0) <|
 opt.need _ (p.eqN (p.len y22.1) (p.len y22.1)) <|
 opt.ret _ (y22.1, ([[(D.int .i64 (0 : Int)), (D.int .i64 (0 : Int))], [(D.int .i64 (4 : Int)), (D.int .i64 (0 : Int))], [(D.int .i64 (0 : Int)), (D.int .i64 (4 : Int))]], ([[(D.list Bool.true 2 [[(D.int .i64 (0 : Int)), (D.int .i64 (0 : Int))], [(D.int .i64 (1 : Int)), (D.int .i64 (0 : Int))]])]], ([[(D.int .i64 (4 : Int)), (D.int .i64 (2 : Int))]], ([[(D.int .i64 (3 : Int)), (D.int .i64 (2 : Int))]], (y24.1, (y24.2.1, (y28.1, (y28.2.1, (y28.2.2.1, (y29.1, (y29.2.1, (y29.2.2.1, (y30.1, (y30.2.1, (y23.1, (y31.1, (y31.2.1, (Bool.true, ())))))))))))))))))))) (
 opt.ask _ (p.cmp .neq y27.2.2.2.1 (21 : Int)) (
 opt.need _ (p.eqN 0 0) <|
 opt.need _ (p.eqN (p.len [[(D.int .i64 (0 : Int)), (D.int .i64 (0 : Int))], [(D.int .i64 (4 : Int)), (D.int .i64 (0 : Int))], [(D.int .i64 (0 : Int)), (D.int .i64 (4 : Int))]]) (p.len [[(D.int .i64 (0 : Int)), (D.int .i64 (0 : Int))], [(D.int .i64 (4 : Int)), (D.int .i64 (0 : Int))], [(D.int .i64 (0 : Int)), (D.int .i64 (4 : Int))]])) <|
 opt.need _ (p.eqN (p.len [[(D.int .i64 (0 : Int)), (D.int .i64 (0 : Int))], [(D.int .i64 (4 : Int)), (D.int .i64 (0 : Int))], [(D.int .i64 (0 : Int)), (D.int .i64 (4 : Int))]]) (p.len [[(D.int .i64 (0 : Int)), (D.int .i64 (0 : Int))], [(D.int .i64 (4 : Int)), (D.int .i64 (0 : Int))], [(D.int .i64 (0 : Int)), (D.int .i64 (4 : Int))]])) <|
 opt.need _ (p.eqN 0 0) <|
 opt.need _ (p.eqN (p.len [[(D.list Bool.true 2 [[(D.int .i64 (0 : Int)), (D.int .i64 (0 : Int))], [(D.int .i64 (1 : Int)), (D.int .i64 (0 : Int))]])]]) (p.len [[(D.list Bool.true 2 [[(D.int .i64 (0 : Int)), (D.int .i64 (0 : Int))], [(D.int .i64 (1 : Int)), (D.int .i64 (0 : Int))]])]])) <|
 opt.need _ (p.eqN (p.len [[(D.list Bool.true 2 [[(D.int .i64 (0 : Int)), (D.int .i64 (0 : Int))], [(D.int .i64 (1 : Int)), (D.int .i64 (0 : Int))]])]]) (p.len [[(D.list Bool.true 2 [[(D.int .i64 (0 : Int)), (D.int .i64 (0 : Int))], [(D.int .i64 (1 : Int)), (D.int .i64 (0 : Int))]])]])) <|
 opt.need _ (p.eqN 0 0) <|
 opt.need _ (p.eqN (p.len [[(D.int .i64 (4 : Int)), (D.int .i64 (2 : Int))]]) (p.len [[(D.int .i64 (4 : Int)), (D.int .i64 (2 : Int))]])) <|
 opt.need _ (p.eqN (p.len [[(D.int .i64 (4 : Int)), (D.int .i64 (2 : Int))]]) (p.len [[(D.int .i64 (4 : Int)), (D.int .i64 (2 : Int))]])) <|
 opt.need _ (p.eqN 0 0) <|
 opt.need _ (p.eqN (p.len [[(D.int .i64 (3 : Int)), (D.int .i64 (2 : Int))]]) (p.len [[(D.int .i64 (3 : Int)), (D.int .i64 (2 : Int))]])) <|
 opt.need _ (p.eqN (p.len [[(D.int .i64 (3 : Int)), (D.int .i64 (2 : Int))]]) (p.len [[(D.int .i64 (3 : Int)), (D.int .i64 (2 : Int))]])) <|
 opt.need _ (p.eqN 0 0) <|
 opt.need _ (p.eqN (p.len y22.1) (p.len y22.1)) <|
 opt.ret _ (y22.1, ([[(D.int .i64 (0 : Int)), (D.int .i64 (0 : Int))], [(D.int .i64 (4 : Int)), (D.int .i64 (0 : Int))], [(D.int .i64 (0 : Int)), (D.int .i64 (4 : Int))]], ([[(D.list Bool.true 2 [[(D.int .i64 (0 : Int)), (D.int .i64 (0 : Int))], [(D.int .i64 (1 : Int)), (D.int .i64 (0 : Int))]])]], ([[(D.int .i64 (4 : Int)), (D.int .i64 (2 : Int))]], ([[(D.int .i64 (3 : Int)), (D.int .i64 (2 : Int))]], (y24.1, (y24.2.1, (y28.1, (y28.2.1, (y28.2.2.1, (y29.1, (y29.2.1, (y29.2.2.1, (y30.1, (y30.2.1, (y23.1, (y31.1, (y31.2.1, (Bool.true, ())))))))))))))))))))) (
 opt.ask _ (p.cmp .neq y28.2.2.2.1 (0 : Int)) (
 opt.need _ (p.eqN 0 0) <|
 opt.need _ (p.eqN (p.len [[(D.int .i64 (0 : Int)), (D.int .i64 (0 : Int))], [(D.int .i64 (4 : Int)), (D.int .i64 (0 : Int))], [(D.int .i64 (0 : Int)), (D.int .i64 (4 : Int))]]) (p.len [[(D.int .i64 (0 : Int)), (D.int .i64 (0 : Int))], [(D.int .i64 (4 : Int)), (D.int .i64 (0 : Int))], [(D.int .i64 (0 : Int)), (D.int .i64 (4 : Int))]])) <|
 opt.need _ (p.eqN (p.len [[(D.int .i64 (0 : Int)), (D.int .i64 (0 : Int))], [(D.int .i64 (4 : Int)), (D.int .i64 (0 : Int))], [(D.int .i64 (0 : Int)), (D.int .i64 (4 : Int))]]) (p.len [[(D.int .i64 (0 : Int)), (D.int .i64 (0 : Int))], [(D.int .i64 (4 : Int)), (D.int .i64 (0 : Int))], [(D.int .i64 (0 : Int)), (D.int .i64 (4 : Int))]])) <|
 opt.need _ (p.eqN 0 0) <|
 opt.need _ (p.eqN (p.len [[(D.list Bool.true 2 [[(D.int .i64 (0 : Int)), (D.int .i64 (0 : Int))], [(D.int .i64 (1 : Int)), (D.int .i64 (0 : Int))]])]]) (p.len [[(D.list Bool.true 2 [[(D.int .i64 (0 : Int)), (D.int .i64 (0 : Int))], [(D.int .i64 (1 : Int)), (D.int .i64 (0 : Int))]])]])) <|
 opt.need _ (p.eqN (p.len [[(D.list Bool.true 2 [[(D.int .i64 (0 : Int)), (D.int .i64 (0 : Int))], [(D.int .i64 (1 : Int)), (D.int .i64 (0 : Int))]])]]) (p.len [[(D.list Bool.true 2 [[(D.int .i64 (0 : Int)), (D.int .i64 (0 : Int))], [(D.int .i64 (1 : Int)), (D.int .i64 (0 : Int))]])]])) <|
 opt.need _ (p.eqN 0 0) <|
 opt.need _ (p.eqN (p.len [[(D.int .i64 (4 : Int)), (D.int .i64 (2 : Int))]]) (p.len [[(D.int .i64 (4 : Int)), (D.int .i64 (2 : Int))]])) <|
 opt.need _ (p.eqN (p.len [[(D.int .i64 (4 : Int)), (D.int .i64 (2 : Int))]]) (p.len [[(D.int .i64 (4 : Int)), (D.int .i64 (2 : Int))]])) <|
 opt.need _ (p.eqN 0 0) <|
 opt.need _ (p.eqN (p.len [[(D.int .i64 (3 : Int)), (D.int .i64 (2 : Int))]]) (p.len [[(D.int .i64 (3 : Int)), (D.int .i64 (2 : Int))]])) <|
 opt.need _ (p.eqN (p.len [[(D.int .i64 (3 : Int)), (D.int .i64 (2 : Int))]]) (p.len [[(D.int .i64 (3 : Int)), (D.int .i64 (2 : Int))]])) <|
 opt.need _ (p.eqN 0 0) <|
 opt.need _ (p.eqN (p.len y22.1) (p.len y22.1)) <|
 opt.ret _ (y22.1, ([[(D.int .i64 (0 : Int)), (D.int .i64 (0 : Int))], [(D.int .i64 (4 : Int)), (D.int .i64 (0 : Int))], [(D.int .i64 (0 : Int)), (D.int .i64 (4 : Int))]], ([[(D.list Bool.true 2 [[(D.int .i64 (0 : Int)), (D.int .i64 (0 : Int))], [(D.int .i64 (1 : Int)), (D.int .i64 (0 : Int))]])]], ([[(D.int .i64 (4 : Int)), (D.int .i64 (2 : Int))]], ([[(D.int .i64 (3 : Int)), (D.int .i64 (2 : Int))]], (y24.1, (y24.2.1, (y28.1, (y28.2.1, (y28.2.2.1, (y29.1, (y29.2.1, (y29.2.2.1, (y30.1, (y30.2.1, (y23.1, (y31.1, (y31.2.1, (Bool.true, ())))))))))))))))))))) (
 opt.ask _ (p.cmp .neq y29.2.2.2.1 (0 : Int)) (
 opt.need _ (p.eqN 0 0) <|
 opt.need _ (p.eqN (p.len [[(D.int .i64 (0 : Int)), (D.int .i64 (0 : Int))], [(D.int .i64 (4 : Int)), (D.int .i64 (0 : Int))], [(D.int .i64 (0 : Int)), (D.int .i64 (4 : Int))]]) (p.len [[(D.int .i64 (0 : Int)), (D.int .i64 (0 : Int))], [(D.int .i64 (4 : Int)), (D.int .i64 (0 : Int))], [(D.int .i64 (0 : Int)), (D.int .i64 (4 : Int))]])) <|
 opt.need _ (p.eqN (p.len [[(D.int .i64 (0 : Int)), (D.int .i64 (0 : Int))], [(D.int .i64 (4 : Int)), (D.int .i64 (0 : Int))], [(D.int .i64 (0 : Int)), (D.int .i64 (4 : Int))]]) (p.len [[(D.int .i64 (0 : Int)), (D.int .i64 (0 : Int))], [(D.int .i64 (4 : Int)), (D.int .i64 (0 : Int))], [(D.int .i64 (0 : Int)), (D.int .i64 (4 : Int))]])) <|
 opt.need _ (p.eqN 0 0) <|
 opt.need _ (p.eqN (p.len [[(D.list Bool.true 2 [[(D.int .i64 (0 : Int)), (D.int .i64 (0 : Int))], [(D.int .i64 (1 : Int)), (D.int .i64 (0 : Int))]])]]) (p.len [[(D.list Bool.true 2 [[(D.int .i64 (0 : Int)), (D.int .i64 (0 : Int))], [(D.int .i64 (1 : Int)), (D.int .i64 (0 : Int))]])]])) <|
 opt.need _ (p.eqN (p.len [[(D.list Bool.true 2 [[(D.int .i64 (0 : Int)), (D.int .i64 (0 : Int))], [(D.int .i64 (1 : Int)), (D.int .i64 (0 : Int))]])]]) (p.len [[(D.list Bool.true 2 [[(D.int .i64 (0 : Int)), (D.int .i64 (0 : Int))], [(D.int .i64 (1 : Int)), (D.int .i64 (0 : Int))]])]])) <|
 opt.need _ (p.eqN 0 0) <|
 opt.need _ (p.eqN (p.len [[(D.int .i64 (4 : Int)), (D.int .i64 (2 : Int))]]) (p.len [[(D.int .i64 (4 : Int)), (D.int .i64 (2 : Int))]])) <|
 opt.need _ (p.eqN (p.len [[(D.int .i64 (4 : Int)), (D.int .i64 (2 : Int))]]) (p.len [[(D.int .i64 (4 : Int)), (D.int .i64 (2 : Int))]])) <|
 opt.need _ (p.eqN 0 0) <|
 opt.need _ (p.eqN (p.len [[(D.int .i64 (3 : Int)), (D.int .i64 (2 : Int))]]) (p.len [[(D.int .i64 (3 : Int)), (D.int .i64 (2 : Int))]])) <|
 opt.need _ (p.eqN (p.len [[(D.int .i64 (3 : Int)), (D.int .i64 (2 : Int))]]) (p.len [[(D.int .i64 (3 : Int)), (D.int .i64 (2 : Int))]])) <|
 opt.need _ (p.eqN 0 0) <|
 opt.need _ (p.eqN (p.len y22.1) (p.len y22.1)) <|
 opt.ret _ (y22.1, ([[(D.int .i64 (0 : Int)), (D.int .i64 (0 : Int))], [(D.int .i64 (4 : Int)), (D.int .i64 (0 : Int))], [(D.int .i64 (0 : Int)), (D.int .i64 (4 : Int))]], ([[(D.list Bool.true 2 [[(D.int .i64 (0 : Int)), (D.int .i64 (0 : Int))], [(D.int .i64 (1 : Int)), (D.int .i64 (0 : Int))]])]], ([[(D.int .i64 (4 : Int)), (D.int .i64 (2 : Int))]], ([[(D.int .i64 (3 : Int)), (D.int .i64 (2 : Int))]], (y24.1, (y24.2.1, (y28.1, (y28.2.1, (y28.2.2.1, (y29.1, (y29.2.1, (y29.2.2.1, (y30.1, (y30.2.1, (y23.1, (y31.1, (y31.2.1, (Bool.true, ())))))))))))))))))))) (
 opt.ask _ (p.cmp .neq y30.2.2.1 (0 : Int)) (
 opt.need _ (p.eqN 0 0) <|
 opt.need _ (p.eqN (p.len [[(D.int .i64 (0 : Int)), (D.int .i64 (0 : Int))], [(D.int .i64 (4 : Int)), (D.int .i64 (0 : Int))], [(D.int .i64 (0 : Int)), (D.int .i64 (4 : Int))]]) (p.len [[(D.int .i64 (0 : Int)), (D.int .i64 (0 : Int))], [(D.int .i64 (4 : Int)), (D.int .i64 (0 : Int))], [(D.int .i64 (0 : Int)), (D.int .i64 (4 : Int))]])) <|
 opt.need _ (p.eqN (p.len [[(D.int .i64 (0 : Int)), (D.int .i64 (0 : Int))], [(D.int .i64 (4 : Int)), (D.int .i64 (0 : Int))], [(D.int .i64 (0 : Int)), (D.int .i64 (4 : Int))]]) (p.len [[(D.int .i64 (0 : Int)), (D.int .i64 (0 : Int))], [(D.int .i64 (4 : Int)), (D.int .i64 (0 : Int))], [(D.int .i64 (0 : Int)), (D.int .i64 (4 : Int))]])) <|
 opt.need _ (p.eqN 0 0) <|
 opt.need _ (p.eqN (p.len [[(D.list Bool.true 2 [[(D.int .i64 (0 : Int)), (D.int .i64 (0 : Int))], [(D.int .i64 (1 : Int)), (D.int .i64 (0 : Int))]])]]) (p.len [[(D.list Bool.true 2 [[(D.int .i64 (0 : Int)), (D.int .i64 (0 : Int))], [(D.int .i64 (1 : Int)), (D.int .i64 (0 : Int))]])]])) <|
 opt.need _ (p.eqN (p.len [[(D.list Bool.true 2 [[(D.int .i64 (0 : Int)), (D.int .i64 (0 : Int))], [(D.int .i64 (1 : Int)), (D.int .i64 (0 : Int))]])]]) (p.len [[(D.list Bool.true 2 [[(D.int .i64 (0 : Int)), (D.int .i64 (0 : Int))], [(D.int .i64 (1 : Int)), (D.int .i64 (0 : Int))]])]])) <|
 opt.need _ (p.eqN 0 0) <|
 opt.need _ (p.eqN (p.len [[(D.int .i64 (4 : Int)), (D.int .i64 (2 : Int))]]) (p.len [[(D.int .i64 (4 : Int)), (D.int .i64 (2 : Int))]])) <|
 opt.need _ (p.eqN (p.len [[(D.int .i64 (4 : Int)), (D.int .i64 (2 : Int))]]) (p.len [[(D.int .i64 (4 : Int)), (D.int .i64 (2 : Int))]])) <|
 opt.need _ (p.eqN 0 0) <|
 opt.need _ (p.eqN (p.len [[(D.int .i64 (3 : Int)), (D.int .i64 (2 : Int))]]) (p.len [[(D.int .i64 (3 : Int)), (D.int .i64 (2 : Int))]])) <|
 opt.need _ (p.eqN (p.len [[(D.int .i64 (3 : Int)), (D.int .i64 (2 : Int))]]) (p.len [[(D.int .i64 (3 : Int)), (D.int .i64 (2 : Int))]])) <|
 opt.need _ (p.eqN 0 0) <|
 opt.need _ (p.eqN (p.len y22.1) (p.len y22.1)) <|
 opt.ret _ (y22.1, ([[(D.int .i64 (0 : Int)), (D.int .i64 (0 : Int))], [(D.int .i64 (4 : Int)), (D.int .i64 (0 : Int))], [(D.int .i64 (0 : Int)), (D.int .i64 (4 : Int))]], ([[(D.list Bool.true 2 [[(D.int .i64 (0 : Int)), (D.int .i64 (0 : Int))], [(D.int .i64 (1 : Int)), (D.int .i64 (0 : Int))]])]], ([[(D.int .i64 (4 : Int)), (D.int .i64 (2 : Int))]], ([[(D.int .i64 (3 : Int)), (D.int .i64 (2 : Int))]], (y24.1, (y24.2.1, (y28.1, (y28.2.1, (y28.2.2.1, (y29.1, (y29.2.1, (y29.2.2.1, (y30.1, (y30.2.1, (y23.1, (y31.1, (y31.2.1, (Bool.true, ())))))))))))))))))))) (
 opt.need _ (p.eqN 0 0) <|
 opt.need _ (p.eqN (p.len [[(D.int .i64 (0 : Int)), (D.int .i64 (0 : Int))], [(D.int .i64 (4 : Int)), (D.int .i64 (0 : Int))], [(D.int .i64 (0 : Int)), (D.int .i64 (4 : Int))]]) (p.len [[(D.int .i64 (0 : Int)), (D.int .i64 (0 : Int))], [(D.int .i64 (4 : Int)), (D.int .i64 (0 : Int))], [(D.int .i64 (0 : Int)), (D.int .i64 (4 : Int))]])) <|
 opt.need _ (p.eqN (p.len [[(D.int .i64 (0 : Int)), (D.int .i64 (0 : Int))], [(D.int .i64 (4 : Int)), (D.int .i64 (0 : Int))], [(D.int .i64 (0 : Int)), (D.int .i64 (4 : Int))]]) (p.len [[(D.int .i64 (0 : Int)), (D.int .i64 (0 : Int))], [(D.int .i64 (4 : Int)), (D.int .i64 (0 : Int))], [(D.int .i64 (0 : Int)), (D.int .i64 (4 : Int))]])) <|
 opt.need _ (p.eqN 0 0) <|
 opt.need _ (p.eqN (p.len [[(D.list Bool.true 2 [[(D.int .i64 (0 : Int)), (D.int .i64 (0 : Int))], [(D.int .i64 (1 : Int)), (D.int .i64 (0 : Int))]])]]) (p.len [[(D.list Bool.true 2 [[(D.int .i64 (0 : Int)), (D.int .i64 (0 : Int))], [(D.int .i64 (1 : Int)), (D.int .i64 (0 : Int))]])]])) <|
 opt.need _ (p.eqN (p.len [[(D.list Bool.true 2 [[(D.int .i64 (0 : Int)), (D.int .i64 (0 : Int))], [(D.int .i64 (1 : Int)), (D.int .i64 (0 : Int))]])]]) (p.len [[(D.list Bool.true 2 [[(D.int .i64 (0 : Int)), (D.int .i64 (0 : Int))], [(D.int .i64 (1 : Int)), (D.int .i64 (0 : Int))]])]])) <|
 opt.need _ (p.eqN 0 0) <|
 opt.need _ (p.eqN (p.len [[(D.int .i64 (4 : Int)), (D.int .i64 (2 : Int))]]) (p.len [[(D.int .i64 (4 : Int)), (D.int .i64 (2 : Int))]])) <|
 opt.need _ (p.eqN (p.len [[(D.int .i64 (4 : Int)), (D.int .i64 (2 : Int))]]) (p.len [[(D.int .i64 (4 : Int)), (D.int .i64 (2 : Int))]])) <|
 opt.need _ (p.eqN 0 0) <|
 opt.need _ (p.eqN (p.len [[(D.int .i64 (3 : Int)), (D.int .i64 (2 : Int))]]) (p.len [[(D.int .i64 (3 : Int)), (D.int .i64 (2 : Int))]])) <|
 opt.need _ (p.eqN (p.len [[(D.int .i64 (3 : Int)), (D.int .i64 (2 : Int))]]) (p.len [[(D.int .i64 (3 : Int)), (D.int .i64 (2 : Int))]])) <|
 opt.need _ (p.eqN 0 0) <|
 opt.need _ (p.eqN (p.len y22.1) (p.len y22.1)) <|
 opt.ret _ (y22.1, ([[(D.int .i64 (0 : Int)), (D.int .i64 (0 : Int))], [(D.int .i64 (4 : Int)), (D.int .i64 (0 : Int))], [(D.int .i64 (0 : Int)), (D.int .i64 (4 : Int))]], ([[(D.list Bool.true 2 [[(D.int .i64 (0 : Int)), (D.int .i64 (0 : Int))], [(D.int .i64 (1 : Int)), (D.int .i64 (0 : Int))]])]], ([[(D.int .i64 (4 : Int)), (D.int .i64 (2 : Int))]], ([[(D.int .i64 (3 : Int)), (D.int .i64 (2 : Int))]], (y24.1, (y24.2.1, (y28.1, (y28.2.1, (y28.2.2.1, (y29.1, (y29.2.1, (y29.2.2.1, (y30.1, (y30.2.1, (y23.1, (y31.1, (y31.2.1, ((p.cmp .neq y31.2.2.1 (0 : Int)), ())))))))))))))))))))))))))))))) fun y32 =>
 opt.ask _ y32.2.2.2.2.2.2.2.2.2.2.2.2.2.2.2.2.2.2.1 (
 opt.ret _ (Bool.false, ())) (
 opt.need _ (p.and (p.leN (p.add 0 (p.len y32.1)) (p.len y32.1)) (p.and (p.leN (p.add 0 4) (p.len [[(D.int .i64 (0 : Int)), (D.int .i64 (0 : Int))], [(D.int .i64 (5 : Int)), (D.int .i64 (0 : Int))], [(D.int .i64 (1 : Int)), (D.int .i64 (4 : Int))], [(D.int .i64 (0 : Int)), (D.int .i64 (4 : Int))]])) Bool.true)) <|
 opt.bnd ((Bool × Unit)) _ (g20 it p ((p.cut y32.1 0 (p.len y32.1)), ((p.cut [[(D.int .i64 (0 : Int)), (D.int .i64 (0 : Int))], [(D.int .i64 (5 : Int)), (D.int .i64 (0 : Int))], [(D.int .i64 (1 : Int)), (D.int .i64 (4 : Int))], [(D.int .i64 (0 : Int)), (D.int .i64 (4 : Int))]] 0 4), ()))) fun y33 =>
 opt.ask _ y33.1 (
 opt.ask _ y32.2.2.2.2.2.2.2.2.2.2.2.2.2.2.2.1 (
 opt.ask _ (bif (p.cmp .eql y32.2.2.2.2.2.1 (5 : Int)) then (bif (p.cmp .eql y32.2.2.2.2.2.2.1 (0 : Int)) then Bool.true else Bool.false) else Bool.false) (
 opt.need _ (p.and (p.and (p.leN (p.add 0 (p.len y32.2.1)) (p.len y32.2.1)) (p.and (p.leN (p.add 0 (p.len y32.2.2.1)) (p.len y32.2.2.1)) Bool.true)) (p.and (p.and (p.leN (p.add 0 (p.len y32.2.2.2.1)) (p.len y32.2.2.2.1)) (p.and Bool.true Bool.true)) (p.and Bool.true Bool.true))) <|
 opt.bnd ((Int × Unit)) _ (g36 it p ((p.cut y32.2.1 0 (p.len y32.2.1)), ((p.cut y32.2.2.1 0 (p.len y32.2.2.1)), ((p.cut y32.2.2.2.1 0 (p.len y32.2.2.2.1)), ([], (y32.2.2.2.2.2.2.2.1, (y32.2.2.2.2.2.2.2.2.1, (y32.2.2.2.2.2.2.2.2.2.1, ())))))))) fun y34 =>
 opt.ask _ (p.cmp .eql y34.1 (0 : Int)) (
 opt.need _ (p.and (p.and (p.leN (p.add 0 (p.len y32.2.1)) (p.len y32.2.1)) (p.and (p.leN (p.add 0 (p.len y32.2.2.1)) (p.len y32.2.2.1)) Bool.true)) (p.and (p.and (p.leN (p.add 0 (p.len y32.2.2.2.2.1)) (p.len y32.2.2.2.2.1)) (p.and Bool.true Bool.true)) (p.and Bool.true Bool.true))) <|
 opt.bnd ((Int × Unit)) _ (g38 it p ((p.cut y32.2.1 0 (p.len y32.2.1)), ((p.cut y32.2.2.1 0 (p.len y32.2.2.1)), ((p.cut y32.2.2.2.2.1 0 (p.len y32.2.2.2.2.1)), ([], (y32.2.2.2.2.2.2.2.2.2.2.1, (y32.2.2.2.2.2.2.2.2.2.2.2.1, (y32.2.2.2.2.2.2.2.2.2.2.2.2.1, ())))))))) fun y35 =>
 opt.ask _ (p.cmp .eql y35.1 (0 : Int)) (
 opt.ask _ (bif (p.cmp .eql y32.2.2.2.2.2.2.2.2.2.2.2.2.2.1 (1 : Int)) then (bif (p.cmp .eql y32.2.2.2.2.2.2.2.2.2.2.2.2.2.2.1 (2 : Int)) then Bool.true else Bool.false) else Bool.false) (
 opt.ask _ (p.cmp .eql y32.2.2.2.2.2.2.2.2.2.2.2.2.2.2.2.2.1 (0 : Int)) (
 opt.ret _ ((p.cmp .eql y32.2.2.2.2.2.2.2.2.2.2.2.2.2.2.2.2.2.1 (2 : Int)), ())) (
 opt.ret _ (Bool.false, ()))) (
 opt.ret _ (Bool.false, ()))) (
 opt.ret _ (Bool.false, ()))) (
 opt.ret _ (Bool.false, ()))) (
 opt.ret _ (Bool.false, ()))) (
 opt.ret _ (Bool.false, ()))) (
 opt.ret _ (Bool.false, ())))
noncomputable def G15 := g15 it0
noncomputable def F15 : Prim → Tup (ctr15).scs → Option (STup (scss (ctr15).outs)) :=
 fun p x => G15 p x
theorem eq15 (p : Prim) (x : Tup (ctr15).scs) : bodyRun opt p (autoEnv Go.Proofs.Try.prog) (mkOrc opt p (autoEnv Go.Proofs.Try.prog) 400 (an15) la15) 400 ctr15 x = G15 p x := by kernel_rfl
theorem gok15 : GamOk Go.Proofs.Try.prog (gam15) := by
  intro cf h
  simp only [gam15, List.mem_cons, List.not_mem_nil, or_false] at h
  rcases h with rfl | rfl | rfl | rfl | rfl | rfl | rfl | rfl | rfl | rfl | rfl
  · exact ok38
  · exact ok36
  · exact ok20
  · exact ok27
  · exact ok25
  · exact ok37
  · exact ok32
  · exact ok39
  · exact ok23
  · exact ok21
  · exact ok16
theorem enters15 : Enters Go.Proofs.Try.prog 15 := enters_auto (b := _) rfl (by kernel_rfl)
theorem ok15 : CtrOk Go.Proofs.Try.prog ctr15 (F15 std) := ctr_of_body (autoEnv_ok follows_mixed) (mkOrc_ok (autoEnv_ok follows_mixed) gok15 _) enters15 (fun x => eq15 std x)
end Go.Am
end
