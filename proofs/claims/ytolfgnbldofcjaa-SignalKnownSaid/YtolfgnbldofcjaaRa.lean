/- Texts of this claim. -/
import Derived.Test.YtolfgnbldofcjaaAmE
import Derived.Test.YtolfgnbldofcjaaAmD
import Derived.Test.YtolfgnbldofcjaaProg
import Derived.KernelRfl
section
namespace Go.Am
theorem follows_mixed : Go.Proofs.Try.prog.follows .mixedOrders = true := by kernel_rfl
end Go.Am
end

section
set_option linter.unusedVariables false
set_option maxRecDepth 100000
set_option maxHeartbeats 0
namespace Go.Am
noncomputable def ctr103 : Ctr :=
 ⟨103, [.int .i64, .int .i64], [], [(.ret, ⟨[(0, .int .i64)], [], 1⟩)]⟩
noncomputable def la103 : List LA :=
 []
noncomputable def ja103 : List JA :=
 [⟨103, [true, false, true, true, true], 0, [(AX.ret, ⟨[(4, .int .i64)], [], 20⟩), (AX.normal, ⟨[(0, .int .i64), (1, .int .i64), (6, .bool)], [], 20⟩)]⟩]
noncomputable def gam103 : List CF :=
 []
noncomputable def an103 : Anns :=
 ⟨gam103, ja103, []⟩
noncomputable def G103 : (p : Prim) → (Int × (Int × Unit)) → Option ((Int × Unit)) :=
 fun p x =>
 opt.alt ((Int × Unit)) ((Int × (Int × (Bool × Unit)))) _ (
 opt.run (((Int × Unit) ⊕ (Int × (Int × (Bool × Unit))))) (
 opt.ask _ (p.cmp .neq x.1 x.1) (
 opt.ask _ (p.cmp .neq x.2.1 x.2.1) (
 opt.ret _ (Sum.inl ((0 : Int), ()))) (
 opt.ret _ (Sum.inl ((-1 : Int), ())))) (
 opt.ret _ (Sum.inr (x.1, (x.2.1, ((p.cmp .neq x.2.1 x.2.1), ()))))))) (fun y13 =>
 opt.ret _ (y13.1, ())) (fun y14 =>
 opt.bnd ((Int × (Int × (Bool × Unit)))) _ (some y14) fun y15 =>
 opt.ask _ y15.2.2.1 (
 opt.ret _ ((1 : Int), ())) (
 opt.ask _ (p.cmp .lss y15.1 y15.2.1) (
 opt.ret _ ((-1 : Int), ())) (
 opt.ask _ (p.cmp .gtr y15.1 y15.2.1) (
 opt.ret _ ((1 : Int), ())) (
 opt.ret _ ((0 : Int), ())))))
noncomputable def F103 : Prim → Tup (ctr103).scs → Option (STup (scss (ctr103).outs)) :=
 fun p x => G103 p x
theorem eq103 (p : Prim) (x : Tup (ctr103).scs) : bodyRun opt p (autoEnv Go.Proofs.Try.prog) (mkOrc opt p (autoEnv Go.Proofs.Try.prog) 400 (an103) la103) 400 ctr103 x = G103 p x := by kernel_rfl
theorem gok103 : GamOk Go.Proofs.Try.prog gam103 := fun cf h => by cases h
theorem enters103 : Enters Go.Proofs.Try.prog 103 := enters_auto (b := _) rfl (by kernel_rfl)
theorem ok103 : CtrOk Go.Proofs.Try.prog ctr103 (F103 std) := ctr_of_body (autoEnv_ok follows_mixed) (mkOrc_ok (autoEnv_ok follows_mixed) gok103 _) enters103 (fun x => eq103 std x)
noncomputable def ctr102 : Ctr :=
 ⟨102, [.list 1], [], [(.ret, ⟨[(0, .int .i64)], [], 1⟩)]⟩
noncomputable def la102 : List LA :=
 [⟨102, [false, true, false, true, true], 0, ⟨⟨[(3, .int .i64), (6, .list 1), (7, .int .i64), (8, .int .i64)], [], 18⟩, [(AX.ret, ⟨[(2, .int .i64)], [], 18⟩), ((AX.exit 0), ⟨[(3, .int .i64)], [], 18⟩)]⟩⟩]
noncomputable def ja102 : List JA :=
 []
noncomputable def gam102 : List CF :=
 []
noncomputable def an102 : Anns :=
 ⟨gam102, ja102, []⟩
noncomputable def b102_1 (p : Prim) : (Int × (List (List (D)) × (Int × (Int × Unit)))) → Option ((Int × (List (List (D)) × (Int × (Int × Unit)))) ⊕ ((Int × Unit) ⊕ (Int × Unit))) :=
 fun s30 => opt.run _ (
 opt.ask _ (p.cmp .lss s30.2.2.2.1 s30.2.2.1) (
 opt.need _ (p.rowOk s30.2.1 (p.nat s30.2.2.2.1) [(CK.int .i64)]) <|
 opt.need _ (p.cmp .geq s30.2.2.2.1 (0 : Int)) <|
 opt.ask _ (p.cmp .neq (p.rdI s30.2.1 (p.nat s30.2.2.2.1) 0) s30.1) (
 opt.ret _ (Sum.inr (Sum.inl ((p.rdI s30.2.1 (p.nat s30.2.2.2.1) 0), ())))) (
 opt.ret _ (Sum.inl (s30.1, (s30.2.1, (s30.2.2.1, ((p.ar .add .i64 s30.2.2.2.1 (1 : Int)), ()))))))) (
 opt.ret _ (Sum.inr (Sum.inr (s30.1, ())))))
noncomputable def g102 (it : It) : (p : Prim) → (List (List (D)) × Unit) → Option ((Int × Unit)) :=
 fun p x =>
 opt.alt ((Int × Unit)) ((Int × Unit)) _ (
 it _ _ (b102_1 p) ((0 : Int), (x.1, ((p.ofNat (p.len x.1)), ((0 : Int), ()))))) (fun y31 =>
 opt.ret _ (y31.1, ())) (fun y32 =>
 opt.bnd ((Int × Unit)) _ (some y32) fun y33 =>
 opt.ret _ (y33.1, ()))
noncomputable def G102 := g102 it0
noncomputable def F102 : Prim → Tup (ctr102).scs → Option (STup (scss (ctr102).outs)) :=
 fun p x => G102 p x
theorem eq102 (p : Prim) (x : Tup (ctr102).scs) : bodyRun opt p (autoEnv Go.Proofs.Try.prog) (mkOrc opt p (autoEnv Go.Proofs.Try.prog) 400 (an102) la102) 400 ctr102 x = G102 p x := by kernel_rfl
theorem gok102 : GamOk Go.Proofs.Try.prog gam102 := fun cf h => by cases h
theorem enters102 : Enters Go.Proofs.Try.prog 102 := enters_auto (b := _) rfl (by kernel_rfl)
theorem ok102 : CtrOk Go.Proofs.Try.prog ctr102 (F102 std) := ctr_of_body (autoEnv_ok follows_mixed) (mkOrc_ok (autoEnv_ok follows_mixed) gok102 _) enters102 (fun x => eq102 std x)
noncomputable def ctr87 : Ctr :=
 ⟨87, [.agg [.int .i64, .int .i64], .agg [.int .i64, .int .i64]], [], [(.ret, ⟨[(0, .int .i64)], [], 1⟩)]⟩
noncomputable def la87 : List LA :=
 []
noncomputable def ja87 : List JA :=
 []
noncomputable def gam87 : List CF :=
 [⟨ctr102, F102⟩, ⟨ctr103, F103⟩]
noncomputable def an87 : Anns :=
 ⟨gam87, ja87, []⟩
noncomputable def g87 (it : It) : (p : Prim) → (Int × (Int × (Int × (Int × Unit)))) → Option ((Int × Unit)) :=
 fun p x =>
 opt.bnd ((Int × Unit)) _ (G103 p (x.1, (x.2.2.1, ()))) fun y43 =>
 opt.bnd ((Int × Unit)) _ (G103 p (x.2.1, (x.2.2.2.1, ()))) fun y44 =>
 opt.need _ (p.and (p.leN (p.add 0 2) (p.len [[(D.int .i64 y43.1)], [(D.int .i64 y44.1)]])) Bool.true) <|
 opt.bnd ((Int × Unit)) _ (g102 it p ((p.cut [[(D.int .i64 y43.1)], [(D.int .i64 y44.1)]] 0 2), ())) fun y45 =>
 opt.ret _ (y45.1, ())
noncomputable def G87 := g87 it0
noncomputable def F87 : Prim → Tup (ctr87).scs → Option (STup (scss (ctr87).outs)) :=
 fun p x => G87 p x
theorem eq87 (p : Prim) (x : Tup (ctr87).scs) : bodyRun opt p (autoEnv Go.Proofs.Try.prog) (mkOrc opt p (autoEnv Go.Proofs.Try.prog) 400 (an87) la87) 400 ctr87 x = G87 p x := by kernel_rfl
theorem gok87 : GamOk Go.Proofs.Try.prog (gam87) := by
  intro cf h
  simp only [gam87, List.mem_cons, List.not_mem_nil, or_false] at h
  rcases h with rfl | rfl
  · exact ok102
  · exact ok103
theorem enters87 : Enters Go.Proofs.Try.prog 87 := enters_auto (b := _) rfl (by kernel_rfl)
theorem ok87 : CtrOk Go.Proofs.Try.prog ctr87 (F87 std) := ctr_of_body (autoEnv_ok follows_mixed) (mkOrc_ok (autoEnv_ok follows_mixed) gok87 _) enters87 (fun x => eq87 std x)
noncomputable def ctr106 : Ctr :=
 ⟨106, [.agg [.int .i64, .int .i64]], [], [(.ret, ⟨[(0, .bool)], [], 1⟩)]⟩
noncomputable def la106 : List LA :=
 []
noncomputable def ja106 : List JA :=
 [⟨106, [false, true], 0, [(AX.normal, ⟨[(2, .bool)], [], 16⟩)]⟩]
noncomputable def gam106 : List CF :=
 []
noncomputable def an106 : Anns :=
 ⟨gam106, ja106, []⟩
noncomputable def G106 : (p : Prim) → (Int × (Int × Unit)) → Option ((Bool × Unit)) :=
 fun p x =>
 opt.bnd ((Bool × Unit)) _ (
 opt.run ((Bool × Unit)) (
 opt.ask _ (p.cmp .lss x.1 (0 : Int)) (
 opt.ret _ (Bool.true, ())) (
 opt.ask _ (p.cmp .eql x.1 (0 : Int)) (
 opt.ret _ ((p.cmp .lss x.2.1 (0 : Int)), ())) (
 opt.ret _ (Bool.false, ()))))) fun y54 =>
 opt.ret _ (y54.1, ())
noncomputable def F106 : Prim → Tup (ctr106).scs → Option (STup (scss (ctr106).outs)) :=
 fun p x => G106 p x
theorem eq106 (p : Prim) (x : Tup (ctr106).scs) : bodyRun opt p (autoEnv Go.Proofs.Try.prog) (mkOrc opt p (autoEnv Go.Proofs.Try.prog) 400 (an106) la106) 400 ctr106 x = G106 p x := by kernel_rfl
theorem gok106 : GamOk Go.Proofs.Try.prog gam106 := fun cf h => by cases h
theorem enters106 : Enters Go.Proofs.Try.prog 106 := enters_auto (b := _) rfl (by kernel_rfl)
theorem ok106 : CtrOk Go.Proofs.Try.prog ctr106 (F106 std) := ctr_of_body (autoEnv_ok follows_mixed) (mkOrc_ok (autoEnv_ok follows_mixed) gok106 _) enters106 (fun x => eq106 std x)
noncomputable def ctr98 : Ctr :=
 ⟨98, [.agg [.int .i64, .int .i64], .agg [.int .i64, .int .i64]], [], [(.ret, ⟨[(0, .int .i64)], [], 1⟩)]⟩
noncomputable def la98 : List LA :=
 []
noncomputable def ja98 : List JA :=
 [⟨98, [false, false, true, false, true], 0, [(AX.normal, ⟨[(2, .bptr 0 0), (3, .bptr 1 0), (5, .bool), (6, .bool), (11, .bool)], [.box [.int .i64, .int .i64], .box [.int .i64, .int .i64]], 27⟩)]⟩,
 ⟨98, [true, false, true, false, true], 0, [(AX.ret, ⟨[(4, .int .i64)], [], 27⟩), (AX.normal, ⟨[(2, .bptr 0 0), (3, .bptr 1 0)], [.box [.int .i64, .int .i64], .box [.int .i64, .int .i64]], 27⟩)]⟩,
 ⟨98, [false, true, true, false, true, false, true], 0, [(AX.normal, ⟨[(2, .bptr 0 0), (3, .bptr 1 0), (17, .bool)], [.box [.int .i64, .int .i64], .box [.int .i64, .int .i64]], 27⟩)]⟩]
noncomputable def gam98 : List CF :=
 [⟨ctr103, F103⟩, ⟨ctr106, F106⟩]
noncomputable def an98 : Anns :=
 ⟨gam98, ja98, []⟩
noncomputable def G98 : (p : Prim) → (Int × (Int × (Int × (Int × Unit)))) → Option ((Int × Unit)) :=
 fun p x =>
 opt.bnd ((Bool × Unit)) _ (G106 p (x.1, (x.2.1, ()))) fun y73 =>
 opt.bnd ((Bool × Unit)) _ (G106 p (x.2.2.1, (x.2.2.2.1, ()))) fun y74 =>
 opt.bnd ((Int × (Int × (Int × (Int × (Bool × (Bool × (Bool × Unit)))))))) _ (
 opt.run ((Int × (Int × (Int × (Int × (Bool × (Bool × (Bool × Unit)))))))) (
 opt.ask _ y73.1 (
 opt.ret _ (x.1, (x.2.1, (x.2.2.1, (x.2.2.2.1, (y73.1, (y74.1, ((bif y74.1 then Bool.false else Bool.true), ())))))))) (
 opt.ret _ (x.1, (x.2.1, (x.2.2.1, (x.2.2.2.1, (y73.1, (y74.1, (Bool.false, ())))))))))) fun y75 =>
 opt.alt ((Int × Unit)) ((Int × (Int × (Int × (Int × Unit))))) _ (
 opt.run (((Int × Unit) ⊕ (Int × (Int × (Int × (Int × Unit)))))) (
 opt.ask _ y75.2.2.2.2.2.2.1 (
 opt.ret _ (Sum.inl ((1 : Int), ()))) (
 opt.bnd ((Int × (Int × (Int × (Int × (Bool × Unit)))))) _ (
 opt.run ((Int × (Int × (Int × (Int × (Bool × Unit)))))) (
 opt.ask _ y75.2.2.2.2.2.1 (
 opt.ret _ (y75.1, (y75.2.1, (y75.2.2.1, (y75.2.2.2.1, ((bif y75.2.2.2.2.1 then Bool.false else Bool.true), ())))))) (
 opt.ret _ (y75.1, (y75.2.1, (y75.2.2.1, (y75.2.2.2.1, (Bool.false, ())))))))) fun y76 =>
 opt.ask _ y76.2.2.2.2.1 (
 opt.ret _ (Sum.inl ((-1 : Int), ()))) (
 opt.ret _ (Sum.inr (y76.1, (y76.2.1, (y76.2.2.1, (y76.2.2.2.1, ()))))))))) (fun y77 =>
 opt.ret _ (y77.1, ())) (fun y78 =>
 opt.bnd ((Int × (Int × (Int × (Int × Unit))))) _ (some y78) fun y79 =>
 opt.bnd ((Int × Unit)) _ (G103 p ((0 : Int), ((p.ar .sub .i64 (p.ar .mul .i64 y79.1 y79.2.2.2.1) (p.ar .mul .i64 y79.2.1 y79.2.2.1)), ()))) fun y80 =>
 opt.ret _ (y80.1, ()))
noncomputable def F98 : Prim → Tup (ctr98).scs → Option (STup (scss (ctr98).outs)) :=
 fun p x => G98 p x
theorem eq98 (p : Prim) (x : Tup (ctr98).scs) : bodyRun opt p (autoEnv Go.Proofs.Try.prog) (mkOrc opt p (autoEnv Go.Proofs.Try.prog) 400 (an98) la98) 400 ctr98 x = G98 p x := by kernel_rfl
theorem gok98 : GamOk Go.Proofs.Try.prog (gam98) := by
  intro cf h
  simp only [gam98, List.mem_cons, List.not_mem_nil, or_false] at h
  rcases h with rfl | rfl
  · exact ok103
  · exact ok106
theorem enters98 : Enters Go.Proofs.Try.prog 98 := enters_auto (b := _) rfl (by kernel_rfl)
theorem ok98 : CtrOk Go.Proofs.Try.prog ctr98 (F98 std) := ctr_of_body (autoEnv_ok follows_mixed) (mkOrc_ok (autoEnv_ok follows_mixed) gok98 _) enters98 (fun x => eq98 std x)
noncomputable def ctr99 : Ctr :=
 ⟨99, [.list 2], [], [(.ret, ⟨[(0, .agg [.int .i64, .int .i64])], [], 1⟩)]⟩
noncomputable def la99 : List LA :=
 [⟨99, [false, true, false, true, true], 0, ⟨⟨[(2, .bptr 0 0), (3, .bptr 1 0), (8, .list 2), (9, .int .i64), (10, .int .i64)], [.box [.int .i64, .int .i64], .box [.int .i64, .int .i64]], 28⟩, [((AX.exit 0), ⟨[(2, .bptr 0 0), (3, .bptr 1 0)], [.box [.int .i64, .int .i64], .box [.int .i64, .int .i64]], 28⟩)]⟩⟩,
 ⟨99, [false, true, true, false, false, true, true, false, false, true, false, true, true], 0, ⟨⟨[(2, .bptr 0 0), (3, .bptr 1 0), (8, .list 2), (9, .int .i64), (10, .int .i64), (14, .agg [.int .i64, .int .i64]), (15, .int .i64)], [.box [.int .i64, .int .i64], .box [.int .i64, .int .i64]], 28⟩, [((AX.exit 2), ⟨[(2, .bptr 0 0), (3, .bptr 1 0), (8, .list 2), (9, .int .i64), (10, .int .i64)], [.box [.int .i64, .int .i64], .box [.int .i64, .int .i64]], 28⟩)]⟩⟩]
noncomputable def ja99 : List JA :=
 [⟨99, [false, false, false, true, true, false, false, true, true, false, false, true, true, false, false, true, false, true, true], 0, [(AX.normal, ⟨[(2, .bptr 0 0), (3, .bptr 1 0), (6, .int .i64), (7, .int .i64), (8, .list 2), (9, .int .i64), (10, .int .i64), (14, .agg [.int .i64, .int .i64]), (15, .int .i64)], [.box [.int .i64, .int .i64], .box [.int .i64, .int .i64]], 28⟩)]⟩,
 ⟨99, [true, false, false, true, true, false, false, true, true, false, false, true, true, false, false, true, false, true, true], 0, [(AX.normal, ⟨[(2, .bptr 0 0), (3, .bptr 1 0), (8, .list 2), (9, .int .i64), (10, .int .i64), (14, .agg [.int .i64, .int .i64]), (15, .int .i64)], [.box [.int .i64, .int .i64], .box [.int .i64, .int .i64]], 28⟩)]⟩]
noncomputable def gam99 : List CF :=
 []
noncomputable def an99 : Anns :=
 ⟨gam99, ja99, []⟩
noncomputable def b99_2 (p : Prim) : (Int × (Int × (Int × (Int × (List (List (D)) × (Int × (Int × (Int × (Int × (Int × Unit)))))))))) → Option ((Int × (Int × (Int × (Int × (List (List (D)) × (Int × (Int × (Int × (Int × (Int × Unit)))))))))) ⊕ (Int × (Int × (Int × (Int × (List (List (D)) × (Int × (Int × Unit)))))))) :=
 fun s104 => opt.run _ (
 opt.ask _ (p.cmp .lss s104.2.2.2.2.2.2.2.2.2.1 (2 : Int)) (
 opt.bnd ((Int × (Int × (Int × (Int × (Int × (Int × (List (List (D)) × (Int × (Int × (Int × (Int × (Int × Unit))))))))))))) _ (
 opt.run ((Int × (Int × (Int × (Int × (Int × (Int × (List (List (D)) × (Int × (Int × (Int × (Int × (Int × Unit))))))))))))) (
 opt.ask _ (p.cmp .eql s104.2.2.2.2.2.2.2.2.2.1 (0 : Int)) (
 opt.need _ (bif (p.cmp .geq (0 : Int) (0 : Int)) then (p.cmp .lss (0 : Int) (p.ofNat 2)) else Bool.false) <|
 opt.ret _ (s104.1, (s104.2.1, (s104.2.2.1, (s104.2.2.2.1, (s104.2.2.2.2.2.2.2.2.2.1, (s104.2.2.2.2.2.2.2.1, (s104.2.2.2.2.1, (s104.2.2.2.2.2.1, (s104.2.2.2.2.2.2.1, (s104.2.2.2.2.2.2.2.1, (s104.2.2.2.2.2.2.2.2.1, ((0 : Int), ()))))))))))))) (
 opt.need _ (p.cmp .eql s104.2.2.2.2.2.2.2.2.2.1 (1 : Int)) <|
 opt.need _ (bif (p.cmp .geq (1 : Int) (0 : Int)) then (p.cmp .lss (1 : Int) (p.ofNat 2)) else Bool.false) <|
 opt.ret _ (s104.1, (s104.2.1, (s104.2.2.1, (s104.2.2.2.1, (s104.2.2.2.2.2.2.2.2.2.1, (s104.2.2.2.2.2.2.2.2.1, (s104.2.2.2.2.1, (s104.2.2.2.2.2.1, (s104.2.2.2.2.2.2.1, (s104.2.2.2.2.2.2.2.1, (s104.2.2.2.2.2.2.2.2.1, ((1 : Int), ()))))))))))))))) fun y105 =>
 opt.bnd ((Int × (Int × (Int × (Int × (List (List (D)) × (Int × (Int × (Int × (Int × (Int × Unit))))))))))) _ (
 opt.run ((Int × (Int × (Int × (Int × (List (List (D)) × (Int × (Int × (Int × (Int × (Int × Unit))))))))))) (
 opt.ask _ (p.cmp .eql y105.2.2.2.2.1 (0 : Int)) (
 opt.need _ (bif (p.cmp .geq (0 : Int) (0 : Int)) then (p.cmp .lss (0 : Int) (p.ofNat 2)) else Bool.false) <|
 opt.ask _ (p.cmp .eql (0 : Int) (0 : Int)) (
 opt.need _ (bif (p.cmp .geq (0 : Int) (0 : Int)) then (p.cmp .lss (0 : Int) (p.ofNat 2)) else Bool.false) <|
 opt.ret _ (y105.1, (y105.2.1, ((p.ar .add .i64 y105.2.2.1 y105.2.2.2.2.2.1), (y105.2.2.2.1, (y105.2.2.2.2.2.2.1, (y105.2.2.2.2.2.2.2.1, (y105.2.2.2.2.2.2.2.2.1, (y105.2.2.2.2.2.2.2.2.2.1, (y105.2.2.2.2.2.2.2.2.2.2.1, (y105.2.2.2.2.2.2.2.2.2.2.2.1, ()))))))))))) (
 opt.need _ (p.cmp .eql (0 : Int) (1 : Int)) <|
 opt.need _ (bif (p.cmp .geq (1 : Int) (0 : Int)) then (p.cmp .lss (1 : Int) (p.ofNat 2)) else Bool.false) <|
 opt.ret _ (y105.1, (y105.2.1, (y105.2.2.1, ((p.ar .add .i64 y105.2.2.1 y105.2.2.2.2.2.1), (y105.2.2.2.2.2.2.1, (y105.2.2.2.2.2.2.2.1, (y105.2.2.2.2.2.2.2.2.1, (y105.2.2.2.2.2.2.2.2.2.1, (y105.2.2.2.2.2.2.2.2.2.2.1, (y105.2.2.2.2.2.2.2.2.2.2.2.1, ())))))))))))) (
 opt.need _ (p.cmp .eql y105.2.2.2.2.1 (1 : Int)) <|
 opt.need _ (bif (p.cmp .geq (1 : Int) (0 : Int)) then (p.cmp .lss (1 : Int) (p.ofNat 2)) else Bool.false) <|
 opt.ask _ (p.cmp .eql (1 : Int) (0 : Int)) (
 opt.need _ (bif (p.cmp .geq (0 : Int) (0 : Int)) then (p.cmp .lss (0 : Int) (p.ofNat 2)) else Bool.false) <|
 opt.ret _ (y105.1, (y105.2.1, ((p.ar .add .i64 y105.2.2.2.1 y105.2.2.2.2.2.1), (y105.2.2.2.1, (y105.2.2.2.2.2.2.1, (y105.2.2.2.2.2.2.2.1, (y105.2.2.2.2.2.2.2.2.1, (y105.2.2.2.2.2.2.2.2.2.1, (y105.2.2.2.2.2.2.2.2.2.2.1, (y105.2.2.2.2.2.2.2.2.2.2.2.1, ()))))))))))) (
 opt.need _ (p.cmp .eql (1 : Int) (1 : Int)) <|
 opt.need _ (bif (p.cmp .geq (1 : Int) (0 : Int)) then (p.cmp .lss (1 : Int) (p.ofNat 2)) else Bool.false) <|
 opt.ret _ (y105.1, (y105.2.1, (y105.2.2.1, ((p.ar .add .i64 y105.2.2.2.1 y105.2.2.2.2.2.1), (y105.2.2.2.2.2.2.1, (y105.2.2.2.2.2.2.2.1, (y105.2.2.2.2.2.2.2.2.1, (y105.2.2.2.2.2.2.2.2.2.1, (y105.2.2.2.2.2.2.2.2.2.2.1, (y105.2.2.2.2.2.2.2.2.2.2.2.1, ())))))))))))))) fun y106 =>
 opt.ret _ (Sum.inl (y106.1, (y106.2.1, (y106.2.2.1, (y106.2.2.2.1, (y106.2.2.2.2.1, (y106.2.2.2.2.2.1, (y106.2.2.2.2.2.2.1, (y106.2.2.2.2.2.2.2.1, (y106.2.2.2.2.2.2.2.2.1, ((p.ar .add .i64 y106.2.2.2.2.2.2.2.2.2.1 (1 : Int)), ())))))))))))) (
 opt.ret _ (Sum.inr (s104.1, (s104.2.1, (s104.2.2.1, (s104.2.2.2.1, (s104.2.2.2.2.1, (s104.2.2.2.2.2.1, (s104.2.2.2.2.2.2.1, ()))))))))))
noncomputable def c99_1 (it : It) (p : Prim) : (Int × (Int × (Int × (Int × (List (List (D)) × (Int × (Int × Unit))))))) → Option ((Int × (Int × (Int × (Int × (List (List (D)) × (Int × (Int × Unit))))))) ⊕ (Int × (Int × (Int × (Int × Unit))))) :=
 fun s103 => opt.run _ (
 opt.ask _ (p.cmp .lss s103.2.2.2.2.2.2.1 s103.2.2.2.2.2.1) (
 opt.need _ (p.rowOk s103.2.2.2.2.1 (p.nat s103.2.2.2.2.2.2.1) [(CK.int .i64), (CK.int .i64)]) <|
 opt.need _ (p.cmp .geq s103.2.2.2.2.2.2.1 (0 : Int)) <|
 opt.bnd ((Int × (Int × (Int × (Int × (List (List (D)) × (Int × (Int × Unit)))))))) _ (
 it _ _ (b99_2 p) (s103.1, (s103.2.1, (s103.2.2.1, (s103.2.2.2.1, (s103.2.2.2.2.1, (s103.2.2.2.2.2.1, (s103.2.2.2.2.2.2.1, ((p.rdI s103.2.2.2.2.1 (p.nat s103.2.2.2.2.2.2.1) 0), ((p.rdI s103.2.2.2.2.1 (p.nat s103.2.2.2.2.2.2.1) 1), ((0 : Int), ()))))))))))) fun y107 =>
 opt.ret _ (Sum.inl (y107.1, (y107.2.1, (y107.2.2.1, (y107.2.2.2.1, (y107.2.2.2.2.1, (y107.2.2.2.2.2.1, ((p.ar .add .i64 y107.2.2.2.2.2.2.1 (1 : Int)), ()))))))))) (
 opt.ret _ (Sum.inr (s103.1, (s103.2.1, (s103.2.2.1, (s103.2.2.2.1, ())))))))
noncomputable def g99 (it : It) : (p : Prim) → (List (List (D)) × Unit) → Option ((Int × (Int × Unit))) :=
 fun p x =>
 opt.bnd ((Int × (Int × (Int × (Int × Unit))))) _ (
 it _ _ (c99_1 it p) ((0 : Int), ((0 : Int), ((0 : Int), ((0 : Int), (x.1, ((p.ofNat (p.len x.1)), ((0 : Int), ())))))))) fun y108 =>
 opt.ret _ (y108.2.2.1, (y108.2.2.2.1, ()))
noncomputable def G99 := g99 it0
noncomputable def F99 : Prim → Tup (ctr99).scs → Option (STup (scss (ctr99).outs)) :=
 fun p x => G99 p x
theorem eq99 (p : Prim) (x : Tup (ctr99).scs) : bodyRun opt p (autoEnv Go.Proofs.Try.prog) (mkOrc opt p (autoEnv Go.Proofs.Try.prog) 400 (an99) la99) 400 ctr99 x = G99 p x := by kernel_rfl
theorem gok99 : GamOk Go.Proofs.Try.prog gam99 := fun cf h => by cases h
theorem enters99 : Enters Go.Proofs.Try.prog 99 := enters_auto (b := _) rfl (by kernel_rfl)
theorem ok99 : CtrOk Go.Proofs.Try.prog ctr99 (F99 std) := ctr_of_body (autoEnv_ok follows_mixed) (mkOrc_ok (autoEnv_ok follows_mixed) gok99 _) enters99 (fun x => eq99 std x)
noncomputable def ctr50 : Ctr :=
 ⟨50, [.list 2], [], [(.ret, ⟨[(0, .bool)], [], 1⟩)]⟩
noncomputable def la50 : List LA :=
 []
noncomputable def ja50 : List JA :=
 [⟨50, [false, true], 0, [(AX.normal, ⟨[(2, .bool)], [], 11⟩)]⟩]
noncomputable def gam50 : List CF :=
 []
noncomputable def an50 : Anns :=
 ⟨gam50, ja50, []⟩
noncomputable def G50 : (p : Prim) → (List (List (D)) × Unit) → Option ((Bool × Unit)) :=
 fun p x =>
 opt.bnd ((Bool × Unit)) _ (
 opt.run ((Bool × Unit)) (
 opt.ask _ (p.cmp .gtr (p.ofNat (p.len x.1)) (0 : Int)) (
 opt.ret _ ((p.cmp .leq (p.ofNat (p.len x.1)) (12 : Int)), ())) (
 opt.ret _ (Bool.false, ())))) fun y117 =>
 opt.ret _ (y117.1, ())
noncomputable def F50 : Prim → Tup (ctr50).scs → Option (STup (scss (ctr50).outs)) :=
 fun p x => G50 p x
theorem eq50 (p : Prim) (x : Tup (ctr50).scs) : bodyRun opt p (autoEnv Go.Proofs.Try.prog) (mkOrc opt p (autoEnv Go.Proofs.Try.prog) 400 (an50) la50) 400 ctr50 x = G50 p x := by kernel_rfl
theorem gok50 : GamOk Go.Proofs.Try.prog gam50 := fun cf h => by cases h
theorem enters50 : Enters Go.Proofs.Try.prog 50 := enters_auto (b := _) rfl (by kernel_rfl)
theorem ok50 : CtrOk Go.Proofs.Try.prog ctr50 (F50 std) := ctr_of_body (autoEnv_ok follows_mixed) (mkOrc_ok (autoEnv_ok follows_mixed) gok50 _) enters50 (fun x => eq50 std x)
noncomputable def ctr53 : Ctr :=
 ⟨53, [.int .i64, .int .i64, .list 2], [], [(.ret, ⟨[(0, .bool)], [], 1⟩)]⟩
noncomputable def la53 : List LA :=
 [⟨100, [false, true, false, true], 2, ⟨⟨[(0, .list 2), (1, .clo 83 [] [.bptr 0 0, .bptr 1 0]), (7, .int .i64), (8, .int .i64)], [.box [.int .i64], .box [.int .i64]], 19⟩, [(AX.ret, ⟨[(4, .int .i64)], [.box [.int .i64], .box [.int .i64]], 19⟩), ((AX.exit 0), ⟨[], [.box [.int .i64], .box [.int .i64]], 19⟩)]⟩⟩]
noncomputable def ja53 : List JA :=
 [⟨83, [false, true], 2, [(AX.normal, ⟨[(4, .bool)], [.box [.int .i64], .box [.int .i64]], 21⟩)]⟩]
noncomputable def gam53 : List CF :=
 []
noncomputable def an53 : Anns :=
 ⟨gam53, ja53, []⟩
noncomputable def b53_1 (p : Prim) : (Int × (Int × (List (List (D)) × (Int × (Int × Unit))))) → Option ((Int × (Int × (List (List (D)) × (Int × (Int × Unit))))) ⊕ ((Int × (Int × (Int × Unit))) ⊕ (Int × (Int × Unit)))) :=
 fun s134 => opt.run _ (
 opt.ask _ (p.cmp .lss s134.2.2.2.2.1 s134.2.2.2.1) (
 opt.need _ (p.rowOk s134.2.2.1 (p.nat s134.2.2.2.2.1) [(CK.int .i64), (CK.int .i64)]) <|
 opt.need _ (p.cmp .geq s134.2.2.2.2.1 (0 : Int)) <|
 opt.bnd ((Int × (Int × (Bool × Unit)))) _ (
 opt.run ((Int × (Int × (Bool × Unit)))) (
 opt.ask _ (p.cmp .lss (p.mm .lss (p.rdI s134.2.2.1 (p.nat s134.2.2.2.2.1) 0) (p.rdI s134.2.2.1 (p.nat s134.2.2.2.2.1) 1)) s134.1) (
 opt.ret _ (s134.1, (s134.2.1, (Bool.true, ())))) (
 opt.ret _ (s134.1, (s134.2.1, ((p.cmp .gtr (p.mm .gtr (p.rdI s134.2.2.1 (p.nat s134.2.2.2.2.1) 0) (p.rdI s134.2.2.1 (p.nat s134.2.2.2.2.1) 1)) s134.2.1), ())))))) fun y135 =>
 opt.ask _ y135.2.2.1 (
 opt.ret _ (Sum.inr (Sum.inl (y135.1, (y135.2.1, (s134.2.2.2.2.1, ())))))) (
 opt.ret _ (Sum.inl (y135.1, (y135.2.1, (s134.2.2.1, (s134.2.2.2.1, ((p.ar .add .i64 s134.2.2.2.2.1 (1 : Int)), ())))))))) (
 opt.ret _ (Sum.inr (Sum.inr (s134.1, (s134.2.1, ()))))))
noncomputable def g53 (it : It) : (p : Prim) → (Int × (Int × (List (List (D)) × Unit))) → Option ((Bool × Unit)) :=
 fun p x =>
 opt.alt ((Int × (Int × (Int × Unit)))) ((Int × (Int × Unit))) _ (
 it _ _ (b53_1 p) (x.1, (x.2.1, (x.2.2.1, ((p.ofNat (p.len x.2.2.1)), ((0 : Int), ())))))) (fun y136 =>
 opt.ret _ ((bif (p.cmp .geq y136.2.2.1 (0 : Int)) then Bool.false else Bool.true), ())) (fun y137 =>
 opt.bnd ((Int × (Int × Unit))) _ (some y137) fun y138 =>
 opt.ret _ ((bif (p.cmp .geq (-1 : Int) (0 : Int)) then Bool.false else Bool.true), ()))
noncomputable def G53 := g53 it0
noncomputable def F53 : Prim → Tup (ctr53).scs → Option (STup (scss (ctr53).outs)) :=
 fun p x => G53 p x
theorem eq53 (p : Prim) (x : Tup (ctr53).scs) : bodyRun opt p (autoEnv Go.Proofs.Try.prog) (mkOrc opt p (autoEnv Go.Proofs.Try.prog) 400 (an53) la53) 400 ctr53 x = G53 p x := by kernel_rfl
theorem gok53 : GamOk Go.Proofs.Try.prog gam53 := fun cf h => by cases h
theorem enters53 : Enters Go.Proofs.Try.prog 53 := enters_auto (b := _) rfl (by kernel_rfl)
theorem ok53 : CtrOk Go.Proofs.Try.prog ctr53 (F53 std) := ctr_of_body (autoEnv_ok follows_mixed) (mkOrc_ok (autoEnv_ok follows_mixed) gok53 _) enters53 (fun x => eq53 std x)
noncomputable def ctr60 : Ctr :=
 ⟨60, [.list 2], [], [(.ret, ⟨[(0, .list 2)], [], 1⟩)]⟩
noncomputable def la60 : List LA :=
 [⟨60, [false, true, false, true, true], 0, ⟨⟨[(3, .full 0 2), (9, .list 2), (10, .int .i64), (11, .int .i64)], [.row [(CK.int .i64), (CK.int .i64)]], 26⟩, [((AX.exit 0), ⟨[(3, .full 0 2)], [.row [(CK.int .i64), (CK.int .i64)]], 26⟩)]⟩⟩]
noncomputable def ja60 : List JA :=
 []
noncomputable def gam60 : List CF :=
 []
noncomputable def an60 : Anns :=
 ⟨gam60, ja60, []⟩
noncomputable def b60_1 (p : Prim) : (List (List (D)) × (List (List (D)) × (Int × (Int × Unit)))) → Option ((List (List (D)) × (List (List (D)) × (Int × (Int × Unit)))) ⊕ (List (List (D)) × Unit)) :=
 fun s151 => opt.run _ (
 opt.ask _ (p.cmp .lss s151.2.2.2.1 s151.2.2.1) (
 opt.need _ (p.rowOk s151.2.1 (p.nat s151.2.2.2.1) [(CK.int .i64), (CK.int .i64)]) <|
 opt.need _ (p.cmp .geq s151.2.2.2.1 (0 : Int)) <|
 opt.need _ (bif (p.cmp .geq s151.2.2.2.1 (0 : Int)) then (p.cmp .lss s151.2.2.2.1 (p.ofNat (p.len s151.1))) else Bool.false) <|
 opt.need _ (p.rowOk s151.1 (p.add 0 (p.nat s151.2.2.2.1)) [(CK.int .i64), (CK.int .i64)]) <|
 opt.need _ (p.eqN 0 0) <|
 opt.need _ (p.eqN (p.len s151.1) (p.len (p.set s151.1 (p.add 0 (p.nat s151.2.2.2.1)) [(D.int .i64 (p.rdI s151.2.1 (p.nat s151.2.2.2.1) 0)), (D.int .i64 (p.rdI s151.2.1 (p.nat s151.2.2.2.1) 1))]))) <|
 opt.need _ (p.eqN (p.len s151.1) (p.len (p.set s151.1 (p.add 0 (p.nat s151.2.2.2.1)) [(D.int .i64 (p.rdI s151.2.1 (p.nat s151.2.2.2.1) 0)), (D.int .i64 (p.rdI s151.2.1 (p.nat s151.2.2.2.1) 1))]))) <|
 opt.ret _ (Sum.inl ((p.set s151.1 (p.add 0 (p.nat s151.2.2.2.1)) [(D.int .i64 (p.rdI s151.2.1 (p.nat s151.2.2.2.1) 0)), (D.int .i64 (p.rdI s151.2.1 (p.nat s151.2.2.2.1) 1))]), (s151.2.1, (s151.2.2.1, ((p.ar .add .i64 s151.2.2.2.1 (1 : Int)), ())))))) (
 opt.need _ (p.eqN 0 0) <|
 opt.need _ (p.eqN (p.len s151.1) (p.len s151.1)) <|
 opt.need _ (p.eqN (p.len s151.1) (p.len s151.1)) <|
 opt.ret _ (Sum.inr (s151.1, ()))))
noncomputable def g60 (it : It) : (p : Prim) → (List (List (D)) × Unit) → Option ((List (List (D)) × Unit)) :=
 fun p x =>
 opt.need _ (p.and (p.cmp .geq (p.ofNat (p.len x.1)) (0 : Int)) (p.and (p.cmp .leq (p.ofNat (p.len x.1)) (p.ofNat (p.len x.1))) (p.cmp .leq (p.ofNat (p.len x.1)) (1000000 : Int)))) <|
 opt.need _ (p.eqN 0 0) <|
 opt.need _ (p.eqN (p.nat (p.ofNat (p.len x.1))) (p.len (p.rep (p.nat (p.ofNat (p.len x.1))) [(D.int .i64 (0 : Int)), (D.int .i64 (0 : Int))]))) <|
 opt.need _ (p.eqN (p.nat (p.ofNat (p.len x.1))) (p.len (p.rep (p.nat (p.ofNat (p.len x.1))) [(D.int .i64 (0 : Int)), (D.int .i64 (0 : Int))]))) <|
 opt.bnd ((List (List (D)) × Unit)) _ (
 it _ _ (b60_1 p) ((p.rep (p.nat (p.ofNat (p.len x.1))) [(D.int .i64 (0 : Int)), (D.int .i64 (0 : Int))]), (x.1, ((p.ofNat (p.len x.1)), ((0 : Int), ()))))) fun y152 =>
 opt.need _ (p.leN (p.add 0 (p.len y152.1)) (p.len y152.1)) <|
 opt.ret _ ((p.cut y152.1 0 (p.len y152.1)), ())
noncomputable def G60 := g60 it0
noncomputable def F60 : Prim → Tup (ctr60).scs → Option (STup (scss (ctr60).outs)) :=
 fun p x => G60 p x
theorem eq60 (p : Prim) (x : Tup (ctr60).scs) : bodyRun opt p (autoEnv Go.Proofs.Try.prog) (mkOrc opt p (autoEnv Go.Proofs.Try.prog) 400 (an60) la60) 400 ctr60 x = G60 p x := by kernel_rfl
theorem gok60 : GamOk Go.Proofs.Try.prog gam60 := fun cf h => by cases h
theorem enters60 : Enters Go.Proofs.Try.prog 60 := enters_auto (b := _) rfl (by kernel_rfl)
theorem ok60 : CtrOk Go.Proofs.Try.prog ctr60 (F60 std) := ctr_of_body (autoEnv_ok follows_mixed) (mkOrc_ok (autoEnv_ok follows_mixed) gok60 _) enters60 (fun x => eq60 std x)
noncomputable def ctr20 : Ctr :=
 ⟨20, [.list 2, .list 2], [], [(.ret, ⟨[(0, .bool)], [], 1⟩)]⟩
noncomputable def la20 : List LA :=
 [⟨20, [false, true, false, true, true], 0, ⟨⟨[(0, .list 2), (1, .list 2), (5, .int .i64)], [], 26⟩, [(AX.ret, ⟨[(4, .bool)], [], 26⟩), ((AX.exit 0), ⟨[], [], 26⟩)]⟩⟩]
noncomputable def ja20 : List JA :=
 []
noncomputable def gam20 : List CF :=
 []
noncomputable def an20 : Anns :=
 ⟨gam20, ja20, []⟩
noncomputable def b20_1 (p : Prim) : (List (List (D)) × (List (List (D)) × (Int × Unit))) → Option ((List (List (D)) × (List (List (D)) × (Int × Unit))) ⊕ ((Bool × Unit) ⊕ Unit)) :=
 fun s168 => opt.run _ (
 opt.ask _ (p.cmp .lss s168.2.2.1 (p.ofNat (p.len s168.1))) (
 opt.need _ (p.rowOk s168.1 (p.nat s168.2.2.1) [(CK.int .i64), (CK.int .i64)]) <|
 opt.need _ (p.cmp .geq s168.2.2.1 (0 : Int)) <|
 opt.need _ (p.rowOk s168.2.1 (p.nat s168.2.2.1) [(CK.int .i64), (CK.int .i64)]) <|
 opt.need _ (p.cmp .geq s168.2.2.1 (0 : Int)) <|
 opt.ask _ (bif (bif (p.cmp .eql (p.rdI s168.1 (p.nat s168.2.2.1) 0) (p.rdI s168.2.1 (p.nat s168.2.2.1) 0)) then (bif (p.cmp .eql (p.rdI s168.1 (p.nat s168.2.2.1) 1) (p.rdI s168.2.1 (p.nat s168.2.2.1) 1)) then Bool.true else Bool.false) else Bool.false) then Bool.false else Bool.true) (
 opt.ret _ (Sum.inr (Sum.inl (Bool.false, ())))) (
 opt.ret _ (Sum.inl (s168.1, (s168.2.1, ((p.ar .add .i64 s168.2.2.1 (1 : Int)), ())))))) (
 opt.ret _ (Sum.inr (Sum.inr ()))))
noncomputable def g20 (it : It) : (p : Prim) → (List (List (D)) × (List (List (D)) × Unit)) → Option ((Bool × Unit)) :=
 fun p x =>
 opt.ask _ (p.cmp .neq (p.ofNat (p.len x.1)) (p.ofNat (p.len x.2.1))) (
 opt.ret _ (Bool.false, ())) (
 opt.alt ((Bool × Unit)) (Unit) _ (
 it _ _ (b20_1 p) (x.1, (x.2.1, ((0 : Int), ())))) (fun y169 =>
 opt.ret _ (y169.1, ())) (fun y170 =>
 opt.bnd (Unit) _ (some y170) fun y171 =>
 opt.ret _ (Bool.true, ())))
noncomputable def G20 := g20 it0
noncomputable def F20 : Prim → Tup (ctr20).scs → Option (STup (scss (ctr20).outs)) :=
 fun p x => G20 p x
theorem eq20 (p : Prim) (x : Tup (ctr20).scs) : bodyRun opt p (autoEnv Go.Proofs.Try.prog) (mkOrc opt p (autoEnv Go.Proofs.Try.prog) 400 (an20) la20) 400 ctr20 x = G20 p x := by kernel_rfl
theorem gok20 : GamOk Go.Proofs.Try.prog gam20 := fun cf h => by cases h
theorem enters20 : Enters Go.Proofs.Try.prog 20 := enters_auto (b := _) rfl (by kernel_rfl)
theorem ok20 : CtrOk Go.Proofs.Try.prog ctr20 (F20 std) := ctr_of_body (autoEnv_ok follows_mixed) (mkOrc_ok (autoEnv_ok follows_mixed) gok20 _) enters20 (fun x => eq20 std x)
noncomputable def ctr14 : Ctr :=
 ⟨14, [.agg [.list 2, .list 1]], [], [(.ret, ⟨[(0, .bool)], [], 1⟩)]⟩
noncomputable def la14 : List LA :=
 [⟨14, [false, true, false, true, true], 0, ⟨⟨[(1, .bptr 0 0), (3, .int .i64)], [.box [.list 2, .list 1]], 28⟩, [(AX.ret, ⟨[(2, .bool)], [], 28⟩), ((AX.exit 0), ⟨[], [], 28⟩)]⟩⟩]
noncomputable def ja14 : List JA :=
 [⟨14, [false, false, true], 0, [(AX.normal, ⟨[(1, .bptr 0 0), (13, .bool)], [.box [.list 2, .list 1]], 28⟩)]⟩]
noncomputable def gam14 : List CF :=
 []
noncomputable def an14 : Anns :=
 ⟨gam14, ja14, []⟩
noncomputable def b14_1 (p : Prim) : (List (List (D)) × (List (List (D)) × (Int × Unit))) → Option ((List (List (D)) × (List (List (D)) × (Int × Unit))) ⊕ ((Bool × Unit) ⊕ Unit)) :=
 fun s190 => opt.run _ (
 opt.ask _ (p.cmp .lss s190.2.2.1 (p.ofNat (p.len s190.2.1))) (
 opt.need _ (p.rowOk s190.2.1 (p.nat s190.2.2.1) [(CK.list 2)]) <|
 opt.need _ (p.cmp .geq s190.2.2.1 (0 : Int)) <|
 opt.ask _ (p.cmp .gtr (p.ofNat (p.len (p.rdL s190.2.1 (p.nat s190.2.2.1) 0))) (20 : Int)) (
 opt.ret _ (Sum.inr (Sum.inl (Bool.true, ())))) (
 opt.ret _ (Sum.inl (s190.1, (s190.2.1, ((p.ar .add .i64 s190.2.2.1 (1 : Int)), ())))))) (
 opt.ret _ (Sum.inr (Sum.inr ()))))
noncomputable def g14 (it : It) : (p : Prim) → (List (List (D)) × (List (List (D)) × Unit)) → Option ((Bool × Unit)) :=
 fun p x =>
 opt.bnd ((List (List (D)) × (List (List (D)) × (Bool × Unit)))) _ (
 opt.run ((List (List (D)) × (List (List (D)) × (Bool × Unit)))) (
 opt.ask _ (p.cmp .gtr (p.ofNat (p.len x.1)) (20 : Int)) (
 opt.ret _ (x.1, (x.2.1, (Bool.true, ())))) (
 opt.ret _ (x.1, (x.2.1, ((p.cmp .gtr (p.ofNat (p.len x.2.1)) (8 : Int)), ())))))) fun y189 =>
 opt.ask _ y189.2.2.1 (
 opt.ret _ (Bool.true, ())) (
 opt.alt ((Bool × Unit)) (Unit) _ (
 it _ _ (b14_1 p) (y189.1, (y189.2.1, ((0 : Int), ())))) (fun y191 =>
 opt.ret _ (y191.1, ())) (fun y192 =>
 opt.bnd (Unit) _ (some y192) fun y193 =>
 opt.ret _ (Bool.false, ())))
noncomputable def G14 := g14 it0
noncomputable def F14 : Prim → Tup (ctr14).scs → Option (STup (scss (ctr14).outs)) :=
 fun p x => G14 p x
theorem eq14 (p : Prim) (x : Tup (ctr14).scs) : bodyRun opt p (autoEnv Go.Proofs.Try.prog) (mkOrc opt p (autoEnv Go.Proofs.Try.prog) 400 (an14) la14) 400 ctr14 x = G14 p x := by kernel_rfl
theorem gok14 : GamOk Go.Proofs.Try.prog gam14 := fun cf h => by cases h
theorem enters14 : Enters Go.Proofs.Try.prog 14 := enters_auto (b := _) rfl (by kernel_rfl)
theorem ok14 : CtrOk Go.Proofs.Try.prog ctr14 (F14 std) := ctr_of_body (autoEnv_ok follows_mixed) (mkOrc_ok (autoEnv_ok follows_mixed) gok14 _) enters14 (fun x => eq14 std x)
noncomputable def ctr31 : Ctr :=
 ⟨31, [.int .i64, .int .i64], [], [(.ret, ⟨[(0, .agg [.int .i64, .int .i64])], [], 1⟩)]⟩
noncomputable def la31 : List LA :=
 []
noncomputable def ja31 : List JA :=
 []
noncomputable def gam31 : List CF :=
 []
noncomputable def an31 : Anns :=
 ⟨gam31, ja31, []⟩
noncomputable def G31 : (p : Prim) → (Int × (Int × Unit)) → Option ((Int × (Int × Unit))) :=
 fun p x =>
 opt.ret _ (x.1, (x.2.1, ()))
noncomputable def F31 : Prim → Tup (ctr31).scs → Option (STup (scss (ctr31).outs)) :=
 fun p x => G31 p x
theorem eq31 (p : Prim) (x : Tup (ctr31).scs) : bodyRun opt p (autoEnv Go.Proofs.Try.prog) (mkOrc opt p (autoEnv Go.Proofs.Try.prog) 400 (an31) la31) 400 ctr31 x = G31 p x := by kernel_rfl
theorem gok31 : GamOk Go.Proofs.Try.prog gam31 := fun cf h => by cases h
theorem enters31 : Enters Go.Proofs.Try.prog 31 := enters_auto (b := _) rfl (by kernel_rfl)
theorem ok31 : CtrOk Go.Proofs.Try.prog ctr31 (F31 std) := ctr_of_body (autoEnv_ok follows_mixed) (mkOrc_ok (autoEnv_ok follows_mixed) gok31 _) enters31 (fun x => eq31 std x)
noncomputable def ctr47 : Ctr :=
 ⟨47, [.int .i64, .int .i64], [], [(.ret, ⟨[(0, .agg [.full 0 2, .nils])], [.row [(CK.int .i64), (CK.int .i64)]], 1⟩)]⟩
noncomputable def la47 : List LA :=
 []
noncomputable def ja47 : List JA :=
 []
noncomputable def gam47 : List CF :=
 [⟨ctr31, F31⟩]
noncomputable def an47 : Anns :=
 ⟨gam47, ja47, []⟩
noncomputable def G47 : (p : Prim) → (Int × (Int × Unit)) → Option ((List (List (D)) × Unit)) :=
 fun p x =>
 opt.bnd ((Int × (Int × Unit))) _ (G31 p (x.1, (x.2.1, ()))) fun y207 =>
 opt.need _ (p.eqN 0 0) <|
 opt.need _ (p.eqN 1 (p.len [[(D.int .i64 y207.1), (D.int .i64 y207.2.1)]])) <|
 opt.need _ (p.eqN 1 (p.len [[(D.int .i64 y207.1), (D.int .i64 y207.2.1)]])) <|
 opt.ret _ ([[(D.int .i64 y207.1), (D.int .i64 y207.2.1)]], ())
noncomputable def F47 : Prim → Tup (ctr47).scs → Option (STup (scss (ctr47).outs)) :=
 fun p x => G47 p x
theorem eq47 (p : Prim) (x : Tup (ctr47).scs) : bodyRun opt p (autoEnv Go.Proofs.Try.prog) (mkOrc opt p (autoEnv Go.Proofs.Try.prog) 400 (an47) la47) 400 ctr47 x = G47 p x := by kernel_rfl
theorem gok47 : GamOk Go.Proofs.Try.prog (gam47) := by
  intro cf h
  simp only [gam47, List.mem_cons, List.not_mem_nil, or_false] at h
  rcases h with rfl
  · exact ok31
theorem enters47 : Enters Go.Proofs.Try.prog 47 := enters_auto (b := _) rfl (by kernel_rfl)
theorem ok47 : CtrOk Go.Proofs.Try.prog ctr47 (F47 std) := ctr_of_body (autoEnv_ok follows_mixed) (mkOrc_ok (autoEnv_ok follows_mixed) gok47 _) enters47 (fun x => eq47 std x)
end Go.Am
end

section
set_option linter.unusedVariables false
set_option maxRecDepth 100000
set_option maxHeartbeats 0
namespace Go.Am
noncomputable def ctr18 : Ctr :=
 ⟨18, [.agg [.list 2, .list 1]], [], [(.ret, ⟨[(0, .int .i64)], [], 1⟩)]⟩
noncomputable def la18 : List LA :=
 [⟨81, [false, true, false, true], 1, ⟨⟨[(0, .list 1), (1, .clo 52 [] []), (7, .int .i64), (8, .int .i64)], [.box [.list 2, .list 1]], 19⟩, [(AX.ret, ⟨[(4, .int .i64)], [.box [.list 2, .list 1]], 19⟩), ((AX.exit 0), ⟨[], [.box [.list 2, .list 1]], 19⟩)]⟩⟩,
 ⟨81, [false, true, false, true], 1, ⟨⟨[(0, .list 1), (1, .clo 54 [] []), (7, .int .i64), (8, .int .i64)], [.box [.list 2, .list 1]], 19⟩, [(AX.ret, ⟨[(4, .int .i64)], [.box [.list 2, .list 1]], 19⟩), ((AX.exit 0), ⟨[], [.box [.list 2, .list 1]], 19⟩)]⟩⟩]
noncomputable def ja18 : List JA :=
 [⟨18, [false, false, true, true], 0, [(AX.normal, ⟨[(26, .bool)], [], 27⟩)]⟩,
 ⟨18, [false, false, true], 0, [(AX.normal, ⟨[(1, .bptr 0 0), (17, .bool)], [.box [.list 2, .list 1]], 27⟩)]⟩]
noncomputable def gam18 : List CF :=
 [⟨ctr53, F53⟩, ⟨ctr50, F50⟩]
noncomputable def an18 : Anns :=
 ⟨gam18, ja18, []⟩
noncomputable def c18_2 (it : It) (p : Prim) : (List (List (D)) × (List (List (D)) × (List (List (D)) × (Int × (Int × Unit))))) → Option ((List (List (D)) × (List (List (D)) × (List (List (D)) × (Int × (Int × Unit))))) ⊕ ((List (List (D)) × (List (List (D)) × (Int × Unit))) ⊕ (List (List (D)) × (List (List (D)) × Unit)))) :=
 fun s40 => opt.run _ (
 opt.ask _ (p.cmp .lss s40.2.2.2.2.1 s40.2.2.2.1) (
 opt.need _ (p.rowOk s40.2.2.1 (p.nat s40.2.2.2.2.1) [(CK.list 2)]) <|
 opt.need _ (p.cmp .geq s40.2.2.2.2.1 (0 : Int)) <|
 opt.bnd ((Bool × Unit)) _ (g53 it p ((-1000 : Int), ((1000 : Int), ((p.rdL s40.2.2.1 (p.nat s40.2.2.2.2.1) 0), ())))) fun y41 =>
 opt.ask _ (bif y41.1 then Bool.false else Bool.true) (
 opt.ret _ (Sum.inr (Sum.inl (s40.1, (s40.2.1, (s40.2.2.2.2.1, ())))))) (
 opt.ret _ (Sum.inl (s40.1, (s40.2.1, (s40.2.2.1, (s40.2.2.2.1, ((p.ar .add .i64 s40.2.2.2.2.1 (1 : Int)), ())))))))) (
 opt.ret _ (Sum.inr (Sum.inr (s40.1, (s40.2.1, ()))))))
noncomputable def b18_1 (p : Prim) : (List (List (D)) × (List (List (D)) × (List (List (D)) × (Int × (Int × Unit))))) → Option ((List (List (D)) × (List (List (D)) × (List (List (D)) × (Int × (Int × Unit))))) ⊕ ((List (List (D)) × (List (List (D)) × (Int × Unit))) ⊕ (List (List (D)) × (List (List (D)) × Unit)))) :=
 fun s33 => opt.run _ (
 opt.ask _ (p.cmp .lss s33.2.2.2.2.1 s33.2.2.2.1) (
 opt.need _ (p.rowOk s33.2.2.1 (p.nat s33.2.2.2.2.1) [(CK.list 2)]) <|
 opt.need _ (p.cmp .geq s33.2.2.2.2.1 (0 : Int)) <|
 opt.bnd ((Bool × Unit)) _ (G50 p ((p.rdL s33.2.2.1 (p.nat s33.2.2.2.2.1) 0), ())) fun y34 =>
 opt.ask _ (bif y34.1 then Bool.false else Bool.true) (
 opt.ret _ (Sum.inr (Sum.inl (s33.1, (s33.2.1, (s33.2.2.2.2.1, ())))))) (
 opt.ret _ (Sum.inl (s33.1, (s33.2.1, (s33.2.2.1, (s33.2.2.2.1, ((p.ar .add .i64 s33.2.2.2.2.1 (1 : Int)), ())))))))) (
 opt.ret _ (Sum.inr (Sum.inr (s33.1, (s33.2.1, ()))))))
noncomputable def g18 (it : It) : (p : Prim) → (List (List (D)) × (List (List (D)) × Unit)) → Option ((Int × Unit)) :=
 fun p x =>
 opt.bnd ((List (List (D)) × (List (List (D)) × (Bool × Unit)))) _ (
 opt.run ((List (List (D)) × (List (List (D)) × (Bool × Unit)))) (
 opt.bnd ((Bool × Unit)) _ (G50 p (x.1, ())) fun y32 =>
 opt.ask _ (bif y32.1 then Bool.false else Bool.true) (
 opt.ret _ (x.1, (x.2.1, (Bool.true, ())))) (
 opt.ask _ (p.cmp .gtr (p.ofNat (p.len x.2.1)) (4 : Int)) (
 opt.ret _ (x.1, (x.2.1, (Bool.true, ())))) (
 opt.alt ((List (List (D)) × (List (List (D)) × (Int × Unit)))) ((List (List (D)) × (List (List (D)) × Unit))) _ (
 it _ _ (b18_1 p) (x.1, (x.2.1, (x.2.1, ((p.ofNat (p.len x.2.1)), ((0 : Int), ())))))) (fun y35 =>
 opt.ret _ (y35.1, (y35.2.1, ((p.cmp .geq y35.2.2.1 (0 : Int)), ())))) (fun y36 =>
 opt.bnd ((List (List (D)) × (List (List (D)) × Unit))) _ (some y36) fun y37 =>
 opt.ret _ (y37.1, (y37.2.1, ((p.cmp .geq (-1 : Int) (0 : Int)), ())))))))) fun y38 =>
 opt.ask _ y38.2.2.1 (
 opt.ret _ ((6 : Int), ())) (
 opt.bnd ((Bool × Unit)) _ (
 opt.run ((Bool × Unit)) (
 opt.bnd ((Bool × Unit)) _ (g53 it p ((0 : Int), ((1000 : Int), (y38.1, ())))) fun y39 =>
 opt.ask _ (bif y39.1 then Bool.false else Bool.true) (
 opt.ret _ (Bool.true, ())) (
 opt.alt ((List (List (D)) × (List (List (D)) × (Int × Unit)))) ((List (List (D)) × (List (List (D)) × Unit))) _ (
 it _ _ (c18_2 it p) (y38.1, (y38.2.1, (y38.2.1, ((p.ofNat (p.len y38.2.1)), ((0 : Int), ())))))) (fun y42 =>
 opt.ret _ ((p.cmp .geq y42.2.2.1 (0 : Int)), ())) (fun y43 =>
 opt.bnd ((List (List (D)) × (List (List (D)) × Unit))) _ (some y43) fun y44 =>
 opt.ret _ ((p.cmp .geq (-1 : Int) (0 : Int)), ()))))) fun y45 =>
 opt.ask _ y45.1 (
 opt.ret _ ((3 : Int), ())) (
 opt.ret _ ((0 : Int), ())))
noncomputable def G18 := g18 it0
noncomputable def F18 : Prim → Tup (ctr18).scs → Option (STup (scss (ctr18).outs)) :=
 fun p x => G18 p x
theorem eq18 (p : Prim) (x : Tup (ctr18).scs) : bodyRun opt p (autoEnv Go.Proofs.Try.prog) (mkOrc opt p (autoEnv Go.Proofs.Try.prog) 400 (an18) la18) 400 ctr18 x = G18 p x := by kernel_rfl
theorem gok18 : GamOk Go.Proofs.Try.prog (gam18) := by
  intro cf h
  simp only [gam18, List.mem_cons, List.not_mem_nil, or_false] at h
  rcases h with rfl | rfl
  · exact ok53
  · exact ok50
theorem enters18 : Enters Go.Proofs.Try.prog 18 := enters_auto (b := _) rfl (by kernel_rfl)
theorem ok18 : CtrOk Go.Proofs.Try.prog ctr18 (F18 std) := ctr_of_body (autoEnv_ok follows_mixed) (mkOrc_ok (autoEnv_ok follows_mixed) gok18 _) enters18 (fun x => eq18 std x)
end Go.Am
end

section
set_option linter.unusedVariables false
set_option maxRecDepth 100000
set_option maxHeartbeats 0
namespace Go.Am
noncomputable def ctr57 : Ctr :=
 ⟨57, [.list 2, .agg [.int .i64, .int .i64], .int .i64], [], [(.ret, ⟨[(0, .bool)], [], 1⟩)]⟩
noncomputable def la57 : List LA :=
 [⟨94, [false, true], 7, ⟨⟨[(0, .yld 6), (1, .bptr 5 0), (6, .list 2), (7, .int .i64), (8, .int .i64)], [.box [.list 2], .box [.int .i64, .int .i64], .box [.int .i64], .box [.bool], .box [.clo 84 [] [.bptr 2 0]], .box [.list 2], .loop Go.LoopState.ready Option.none 57 [Bool.false, Bool.true, Bool.false, Bool.true, Bool.true, Bool.true] 47 [(22, .clo 94 [] [.bptr 5 0]), (4, .bptr 1 0), (3, .bptr 0 0), (7, .bptr 4 0), (6, .bptr 3 0)]], 33⟩, [(AX.ret, ⟨[], [.box [.list 2], .box [.int .i64, .int .i64], .box [.int .i64], .box [.bool], .box [.clo 84 [] [.bptr 2 0]], .box [.list 2], .loop Go.LoopState.ready Option.none 57 [Bool.false, Bool.true, Bool.false, Bool.true, Bool.true, Bool.true] 47 [(22, .clo 94 [] [.bptr 5 0]), (4, .bptr 1 0), (3, .bptr 0 0), (7, .bptr 4 0), (6, .bptr 3 0)]], 33⟩), (AX.ret, ⟨[], [.box [.list 2], .box [.int .i64, .int .i64], .box [.int .i64], .box [.bool], .box [.clo 84 [] [.bptr 2 0]], .box [.list 2], .loop Go.LoopState.done (Option.some Go.Code.ret) 57 [Bool.false, Bool.true, Bool.false, Bool.true, Bool.true, Bool.true] 47 [(22, .clo 94 [] [.bptr 5 0]), (4, .bptr 1 0), (3, .bptr 0 0), (7, .bptr 4 0), (6, .bptr 3 0)]], 33⟩), ((AX.exit 0), ⟨[], [.box [.list 2], .box [.int .i64, .int .i64], .box [.int .i64], .box [.bool], .box [.clo 84 [] [.bptr 2 0]], .box [.list 2], .loop Go.LoopState.ready Option.none 57 [Bool.false, Bool.true, Bool.false, Bool.true, Bool.true, Bool.true] 47 [(22, .clo 94 [] [.bptr 5 0]), (4, .bptr 1 0), (3, .bptr 0 0), (7, .bptr 4 0), (6, .bptr 3 0)]], 33⟩)]⟩⟩]
noncomputable def ja57 : List JA :=
 [⟨57, [true, false, true, true, true], 0, [(AX.normal, ⟨[(6, .bptr 0 0)], [.box [.bool]], 47⟩), (AX.ret, ⟨[(6, .bptr 0 0)], [.box [.bool]], 47⟩)]⟩,
 ⟨57, [false, true, false, true, false, true, false, true, true, true], 19, [(AX.normal, ⟨[(3, .bptr 0 0), (4, .bptr 1 0), (6, .bptr 3 0), (7, .bptr 4 0), (46, .bool)], [.box [.list 2], .box [.int .i64, .int .i64], .box [.int .i64], .box [.bool], .box [.clo 84 [] [.bptr 2 0]], .box [.list 2], .dead, .box [.int .i64, .int .i64], .dead, .dead, .dead, .dead, .dead, .dead, .dead, .dead, .dead, .dead, .box [.int .i64, .int .i64]], 47⟩)]⟩]
noncomputable def gam57 : List CF :=
 []
noncomputable def an57 : Anns :=
 ⟨gam57, ja57, []⟩
noncomputable def b57_1 (p : Prim) : (List (List (D)) × (Int × (Int × (Int × (Bool × (List (List (D)) × (List (List (D)) × (Int × (Int × Unit))))))))) → Option ((List (List (D)) × (Int × (Int × (Int × (Bool × (List (List (D)) × (List (List (D)) × (Int × (Int × Unit))))))))) ⊕ ((List (List (D)) × (Int × (Int × (Int × (Bool × (List (List (D)) × Unit)))))) ⊕ ((List (List (D)) × (Int × (Int × (Int × (Bool × (List (List (D)) × Unit)))))) ⊕ (List (List (D)) × (Int × (Int × (Int × (Bool × (List (List (D)) × Unit))))))))) :=
 fun s25 => opt.run _ (
 opt.ask _ (p.cmp .lss s25.2.2.2.2.2.2.2.2.1 s25.2.2.2.2.2.2.2.1) (
 opt.need _ (p.rowOk s25.2.2.2.2.2.2.1 (p.nat s25.2.2.2.2.2.2.2.2.1) [(CK.int .i64), (CK.int .i64)]) <|
 opt.need _ (p.cmp .geq s25.2.2.2.2.2.2.2.2.1 (0 : Int)) <|
 opt.need _ (p.cmp .neq (p.ofNat (p.len s25.2.2.2.2.2.1)) (0 : Int)) <|
 opt.need _ (p.rowOk s25.2.2.2.2.2.1 (p.nat (p.ar .rem .i64 (p.ar .add .i64 s25.2.2.2.2.2.2.2.2.1 (1 : Int)) (p.ofNat (p.len s25.2.2.2.2.2.1)))) [(CK.int .i64), (CK.int .i64)]) <|
 opt.need _ (p.cmp .geq (p.ar .rem .i64 (p.ar .add .i64 s25.2.2.2.2.2.2.2.2.1 (1 : Int)) (p.ofNat (p.len s25.2.2.2.2.2.1))) (0 : Int)) <|
 opt.ask _ (bif (p.cmp .eql (p.ar .sub .i64 (p.rdI s25.2.2.2.2.2.1 (p.nat (p.ar .rem .i64 (p.ar .add .i64 s25.2.2.2.2.2.2.2.2.1 (1 : Int)) (p.ofNat (p.len s25.2.2.2.2.2.1)))) 0) (p.rdI s25.2.2.2.2.2.2.1 (p.nat s25.2.2.2.2.2.2.2.2.1) 0)) (0 : Int)) then (bif (p.cmp .eql (p.ar .sub .i64 (p.rdI s25.2.2.2.2.2.1 (p.nat (p.ar .rem .i64 (p.ar .add .i64 s25.2.2.2.2.2.2.2.2.1 (1 : Int)) (p.ofNat (p.len s25.2.2.2.2.2.1)))) 1) (p.rdI s25.2.2.2.2.2.2.1 (p.nat s25.2.2.2.2.2.2.2.2.1) 1)) (0 : Int)) then Bool.true else Bool.false) else Bool.false) (
 opt.ret _ (Sum.inr (Sum.inl (s25.1, (s25.2.1, (s25.2.2.1, (s25.2.2.2.1, (s25.2.2.2.2.1, (s25.2.2.2.2.2.1, ()))))))))) (
 opt.need _ (p.and Bool.true (p.and Bool.true Bool.true)) <|
 opt.bnd ((List (List (D)) × (Int × (Int × (Int × (Bool × (List (List (D)) × (Int × (Int × (Int × (Int × (Bool × Unit)))))))))))) _ (
 opt.run ((List (List (D)) × (Int × (Int × (Int × (Bool × (List (List (D)) × (Int × (Int × (Int × (Int × (Bool × Unit)))))))))))) (
 opt.ask _ (p.cmp .lss (p.ar .sub .i64 (p.ar .mul .i64 (p.ar .sub .i64 (p.rdI s25.2.2.2.2.2.1 (p.nat (p.ar .rem .i64 (p.ar .add .i64 s25.2.2.2.2.2.2.2.2.1 (1 : Int)) (p.ofNat (p.len s25.2.2.2.2.2.1)))) 0) (p.rdI s25.2.2.2.2.2.2.1 (p.nat s25.2.2.2.2.2.2.2.2.1) 0)) (p.ar .sub .i64 s25.2.2.1 (p.ar .mul .i64 (p.rdI s25.2.2.2.2.2.2.1 (p.nat s25.2.2.2.2.2.2.2.2.1) 1) s25.2.2.2.1))) (p.ar .mul .i64 (p.ar .sub .i64 (p.rdI s25.2.2.2.2.2.1 (p.nat (p.ar .rem .i64 (p.ar .add .i64 s25.2.2.2.2.2.2.2.2.1 (1 : Int)) (p.ofNat (p.len s25.2.2.2.2.2.1)))) 1) (p.rdI s25.2.2.2.2.2.2.1 (p.nat s25.2.2.2.2.2.2.2.2.1) 1)) (p.ar .sub .i64 s25.2.1 (p.ar .mul .i64 (p.rdI s25.2.2.2.2.2.2.1 (p.nat s25.2.2.2.2.2.2.2.2.1) 0) s25.2.2.2.1)))) (0 : Int)) (
 opt.ret _ (s25.1, (s25.2.1, (s25.2.2.1, (s25.2.2.2.1, (s25.2.2.2.2.1, (s25.2.2.2.2.2.1, ((p.rdI s25.2.2.2.2.2.2.1 (p.nat s25.2.2.2.2.2.2.2.2.1) 0), ((p.rdI s25.2.2.2.2.2.2.1 (p.nat s25.2.2.2.2.2.2.2.2.1) 1), ((p.ar .sub .i64 (p.rdI s25.2.2.2.2.2.1 (p.nat (p.ar .rem .i64 (p.ar .add .i64 s25.2.2.2.2.2.2.2.2.1 (1 : Int)) (p.ofNat (p.len s25.2.2.2.2.2.1)))) 0) (p.rdI s25.2.2.2.2.2.2.1 (p.nat s25.2.2.2.2.2.2.2.2.1) 0)), ((p.ar .sub .i64 (p.rdI s25.2.2.2.2.2.1 (p.nat (p.ar .rem .i64 (p.ar .add .i64 s25.2.2.2.2.2.2.2.2.1 (1 : Int)) (p.ofNat (p.len s25.2.2.2.2.2.1)))) 1) (p.rdI s25.2.2.2.2.2.2.1 (p.nat s25.2.2.2.2.2.2.2.2.1) 1)), (Bool.true, ())))))))))))) (
 opt.ask _ (p.cmp .eql (p.ofNat (p.len s25.1)) (2 : Int)) (
 opt.ret _ (s25.1, (s25.2.1, (s25.2.2.1, (s25.2.2.2.1, (s25.2.2.2.2.1, (s25.2.2.2.2.2.1, ((p.rdI s25.2.2.2.2.2.2.1 (p.nat s25.2.2.2.2.2.2.2.2.1) 0), ((p.rdI s25.2.2.2.2.2.2.1 (p.nat s25.2.2.2.2.2.2.2.2.1) 1), ((p.ar .sub .i64 (p.rdI s25.2.2.2.2.2.1 (p.nat (p.ar .rem .i64 (p.ar .add .i64 s25.2.2.2.2.2.2.2.2.1 (1 : Int)) (p.ofNat (p.len s25.2.2.2.2.2.1)))) 0) (p.rdI s25.2.2.2.2.2.2.1 (p.nat s25.2.2.2.2.2.2.2.2.1) 0)), ((p.ar .sub .i64 (p.rdI s25.2.2.2.2.2.1 (p.nat (p.ar .rem .i64 (p.ar .add .i64 s25.2.2.2.2.2.2.2.2.1 (1 : Int)) (p.ofNat (p.len s25.2.2.2.2.2.1)))) 1) (p.rdI s25.2.2.2.2.2.2.1 (p.nat s25.2.2.2.2.2.2.2.2.1) 1)), ((p.cmp .lss (p.ar .add .i64 (p.ar .mul .i64 (p.ar .sub .i64 (p.rdI s25.2.2.2.2.2.1 (p.nat (p.ar .rem .i64 (p.ar .add .i64 s25.2.2.2.2.2.2.2.2.1 (1 : Int)) (p.ofNat (p.len s25.2.2.2.2.2.1)))) 0) (p.rdI s25.2.2.2.2.2.2.1 (p.nat s25.2.2.2.2.2.2.2.2.1) 0)) (p.ar .sub .i64 s25.2.1 (p.ar .mul .i64 (p.rdI s25.2.2.2.2.2.2.1 (p.nat s25.2.2.2.2.2.2.2.2.1) 0) s25.2.2.2.1))) (p.ar .mul .i64 (p.ar .sub .i64 (p.rdI s25.2.2.2.2.2.1 (p.nat (p.ar .rem .i64 (p.ar .add .i64 s25.2.2.2.2.2.2.2.2.1 (1 : Int)) (p.ofNat (p.len s25.2.2.2.2.2.1)))) 1) (p.rdI s25.2.2.2.2.2.2.1 (p.nat s25.2.2.2.2.2.2.2.2.1) 1)) (p.ar .sub .i64 s25.2.2.1 (p.ar .mul .i64 (p.rdI s25.2.2.2.2.2.2.1 (p.nat s25.2.2.2.2.2.2.2.2.1) 1) s25.2.2.2.1)))) (0 : Int)), ())))))))))))) (
 opt.ret _ (s25.1, (s25.2.1, (s25.2.2.1, (s25.2.2.2.1, (s25.2.2.2.2.1, (s25.2.2.2.2.2.1, ((p.rdI s25.2.2.2.2.2.2.1 (p.nat s25.2.2.2.2.2.2.2.2.1) 0), ((p.rdI s25.2.2.2.2.2.2.1 (p.nat s25.2.2.2.2.2.2.2.2.1) 1), ((p.ar .sub .i64 (p.rdI s25.2.2.2.2.2.1 (p.nat (p.ar .rem .i64 (p.ar .add .i64 s25.2.2.2.2.2.2.2.2.1 (1 : Int)) (p.ofNat (p.len s25.2.2.2.2.2.1)))) 0) (p.rdI s25.2.2.2.2.2.2.1 (p.nat s25.2.2.2.2.2.2.2.2.1) 0)), ((p.ar .sub .i64 (p.rdI s25.2.2.2.2.2.1 (p.nat (p.ar .rem .i64 (p.ar .add .i64 s25.2.2.2.2.2.2.2.2.1 (1 : Int)) (p.ofNat (p.len s25.2.2.2.2.2.1)))) 1) (p.rdI s25.2.2.2.2.2.2.1 (p.nat s25.2.2.2.2.2.2.2.2.1) 1)), (Bool.false, ()))))))))))))))) fun y26 =>
 opt.ask _ y26.2.2.2.2.2.2.2.2.2.2.1 (
 opt.ret _ (Sum.inr (Sum.inr (Sum.inl (y26.1, (y26.2.1, (y26.2.2.1, (y26.2.2.2.1, (Bool.false, (y26.2.2.2.2.2.1, ())))))))))) (
 opt.ret _ (Sum.inl (y26.1, (y26.2.1, (y26.2.2.1, (y26.2.2.2.1, (y26.2.2.2.2.1, (y26.2.2.2.2.2.1, (s25.2.2.2.2.2.2.1, (s25.2.2.2.2.2.2.2.1, ((p.ar .add .i64 s25.2.2.2.2.2.2.2.2.1 (1 : Int)), ()))))))))))))) (
 opt.ret _ (Sum.inr (Sum.inr (Sum.inr (s25.1, (s25.2.1, (s25.2.2.1, (s25.2.2.2.1, (s25.2.2.2.2.1, (s25.2.2.2.2.2.1, ())))))))))))
noncomputable def g57 (it : It) : (p : Prim) → (List (List (D)) × (Int × (Int × (Int × Unit)))) → Option ((Bool × Unit)) :=
 fun p x =>
 opt.ask _ (p.cmp .eql (p.ofNat (p.len x.1)) (1 : Int)) (
 opt.need _ (p.rowOk x.1 (p.nat (0 : Int)) [(CK.int .i64), (CK.int .i64)]) <|
 opt.need _ (p.and Bool.true (p.and Bool.true Bool.true)) <|
 opt.ret _ ((bif (p.cmp .eql x.2.1 (p.ar .mul .i64 (p.rdI x.1 (p.nat (0 : Int)) 0) x.2.2.2.1)) then (bif (p.cmp .eql x.2.2.1 (p.ar .mul .i64 (p.rdI x.1 (p.nat (0 : Int)) 1) x.2.2.2.1)) then Bool.true else Bool.false) else Bool.false), ())) (
 opt.alt ((Bool × Unit)) ((Bool × Unit)) _ (
 opt.run (((Bool × Unit) ⊕ (Bool × Unit))) (
 opt.alt ((List (List (D)) × (Int × (Int × (Int × (Bool × (List (List (D)) × Unit))))))) (((List (List (D)) × (Int × (Int × (Int × (Bool × (List (List (D)) × Unit)))))) ⊕ (List (List (D)) × (Int × (Int × (Int × (Bool × (List (List (D)) × Unit)))))))) _ (
 it _ _ (b57_1 p) (x.1, (x.2.1, (x.2.2.1, (x.2.2.2.1, (Bool.false, (x.1, (x.1, ((p.ofNat (p.len x.1)), ((0 : Int), ())))))))))) (fun y27 =>
 opt.ret _ (Sum.inl (y27.2.2.2.2.1, ()))) (fun y28 =>
 opt.alt ((List (List (D)) × (Int × (Int × (Int × (Bool × (List (List (D)) × Unit))))))) ((List (List (D)) × (Int × (Int × (Int × (Bool × (List (List (D)) × Unit))))))) _ (some y28) (fun y29 =>
 opt.ret _ (Sum.inr (y29.2.2.2.2.1, ()))) (fun y30 =>
 opt.bnd ((List (List (D)) × (Int × (Int × (Int × (Bool × (List (List (D)) × Unit))))))) _ (some y30) fun y31 =>
 opt.ret _ (Sum.inl (y31.2.2.2.2.1, ())))))) (fun y32 =>
 opt.ret _ (Bool.true, ())) (fun y33 =>
 opt.bnd ((Bool × Unit)) _ (some y33) fun y34 =>
 opt.ret _ (y34.1, ())))
noncomputable def G57 := g57 it0
noncomputable def F57 : Prim → Tup (ctr57).scs → Option (STup (scss (ctr57).outs)) :=
 fun p x => G57 p x
theorem eq57 (p : Prim) (x : Tup (ctr57).scs) : bodyRun opt p (autoEnv Go.Proofs.Try.prog) (mkOrc opt p (autoEnv Go.Proofs.Try.prog) 400 (an57) la57) 400 ctr57 x = G57 p x := by kernel_rfl
theorem gok57 : GamOk Go.Proofs.Try.prog gam57 := fun cf h => by cases h
theorem enters57 : Enters Go.Proofs.Try.prog 57 := enters_auto (b := _) rfl (by kernel_rfl)
theorem ok57 : CtrOk Go.Proofs.Try.prog ctr57 (F57 std) := ctr_of_body (autoEnv_ok follows_mixed) (mkOrc_ok (autoEnv_ok follows_mixed) gok57 _) enters57 (fun x => eq57 std x)
noncomputable def ctr77 : Ctr :=
 ⟨77, [.int .i64], [], [(.ret, ⟨[(0, .int .i64)], [], 1⟩)]⟩
noncomputable def la77 : List LA :=
 []
noncomputable def ja77 : List JA :=
 []
noncomputable def gam77 : List CF :=
 []
noncomputable def an77 : Anns :=
 ⟨gam77, ja77, []⟩
noncomputable def G77 : (p : Prim) → (Int × Unit) → Option ((Int × Unit)) :=
 fun p x =>
 opt.ret _ ((p.mm .gtr x.1 (p.ar .sub .i64 (0 : Int) x.1)), ())
noncomputable def F77 : Prim → Tup (ctr77).scs → Option (STup (scss (ctr77).outs)) :=
 fun p x => G77 p x
theorem eq77 (p : Prim) (x : Tup (ctr77).scs) : bodyRun opt p (autoEnv Go.Proofs.Try.prog) (mkOrc opt p (autoEnv Go.Proofs.Try.prog) 400 (an77) la77) 400 ctr77 x = G77 p x := by kernel_rfl
theorem gok77 : GamOk Go.Proofs.Try.prog gam77 := fun cf h => by cases h
theorem enters77 : Enters Go.Proofs.Try.prog 77 := enters_auto (b := _) rfl (by kernel_rfl)
theorem ok77 : CtrOk Go.Proofs.Try.prog ctr77 (F77 std) := ctr_of_body (autoEnv_ok follows_mixed) (mkOrc_ok (autoEnv_ok follows_mixed) gok77 _) enters77 (fun x => eq77 std x)
noncomputable def ctr93 : Ctr :=
 ⟨93, [.list 1], [], [(.ret, ⟨[(0, .int .i64)], [], 1⟩)]⟩
noncomputable def la93 : List LA :=
 [⟨93, [false, true, false, true, true], 0, ⟨⟨[(3, .int .i64), (6, .list 1), (7, .int .i64), (8, .int .i64)], [], 22⟩, [((AX.exit 0), ⟨[(3, .int .i64)], [], 22⟩)]⟩⟩,
 ⟨93, [false, true, true, false, false, true, true, false, false, true, false, true, true], 0, ⟨⟨[(3, .int .i64), (5, .int .i64), (6, .list 1), (7, .int .i64), (8, .int .i64)], [], 22⟩, [((AX.exit 2), ⟨[(3, .int .i64), (6, .list 1), (7, .int .i64), (8, .int .i64)], [], 22⟩)]⟩⟩]
noncomputable def ja93 : List JA :=
 []
noncomputable def gam93 : List CF :=
 [⟨ctr77, F77⟩]
noncomputable def an93 : Anns :=
 ⟨gam93, ja93, []⟩
noncomputable def b93_2 (p : Prim) : (Int × (Int × (List (List (D)) × (Int × (Int × Unit))))) → Option ((Int × (Int × (List (List (D)) × (Int × (Int × Unit))))) ⊕ (Int × (List (List (D)) × (Int × (Int × Unit))))) :=
 fun s62 => opt.run _ (
 opt.ask _ (p.cmp .neq s62.2.1 (0 : Int)) (
 opt.need _ (p.cmp .neq s62.2.1 (0 : Int)) <|
 opt.ret _ (Sum.inl (s62.2.1, ((p.ar .rem .i64 s62.1 s62.2.1), (s62.2.2.1, (s62.2.2.2.1, (s62.2.2.2.2.1, ()))))))) (
 opt.ret _ (Sum.inr (s62.1, (s62.2.2.1, (s62.2.2.2.1, (s62.2.2.2.2.1, ())))))))
noncomputable def c93_1 (it : It) (p : Prim) : (Int × (List (List (D)) × (Int × (Int × Unit)))) → Option ((Int × (List (List (D)) × (Int × (Int × Unit)))) ⊕ (Int × Unit)) :=
 fun s60 => opt.run _ (
 opt.ask _ (p.cmp .lss s60.2.2.2.1 s60.2.2.1) (
 opt.need _ (p.rowOk s60.2.1 (p.nat s60.2.2.2.1) [(CK.int .i64)]) <|
 opt.need _ (p.cmp .geq s60.2.2.2.1 (0 : Int)) <|
 opt.bnd ((Int × Unit)) _ (G77 p ((p.rdI s60.2.1 (p.nat s60.2.2.2.1) 0), ())) fun y61 =>
 opt.bnd ((Int × (List (List (D)) × (Int × (Int × Unit))))) _ (
 it _ _ (b93_2 p) (s60.1, (y61.1, (s60.2.1, (s60.2.2.1, (s60.2.2.2.1, ())))))) fun y63 =>
 opt.ret _ (Sum.inl (y63.1, (y63.2.1, (y63.2.2.1, ((p.ar .add .i64 y63.2.2.2.1 (1 : Int)), ())))))) (
 opt.ret _ (Sum.inr (s60.1, ()))))
noncomputable def g93 (it : It) : (p : Prim) → (List (List (D)) × Unit) → Option ((Int × Unit)) :=
 fun p x =>
 opt.bnd ((Int × Unit)) _ (
 it _ _ (c93_1 it p) ((0 : Int), (x.1, ((p.ofNat (p.len x.1)), ((0 : Int), ()))))) fun y64 =>
 opt.ret _ (y64.1, ())
noncomputable def G93 := g93 it0
noncomputable def F93 : Prim → Tup (ctr93).scs → Option (STup (scss (ctr93).outs)) :=
 fun p x => G93 p x
theorem eq93 (p : Prim) (x : Tup (ctr93).scs) : bodyRun opt p (autoEnv Go.Proofs.Try.prog) (mkOrc opt p (autoEnv Go.Proofs.Try.prog) 400 (an93) la93) 400 ctr93 x = G93 p x := by kernel_rfl
theorem gok93 : GamOk Go.Proofs.Try.prog (gam93) := by
  intro cf h
  simp only [gam93, List.mem_cons, List.not_mem_nil, or_false] at h
  rcases h with rfl
  · exact ok77
theorem enters93 : Enters Go.Proofs.Try.prog 93 := enters_auto (b := _) rfl (by kernel_rfl)
theorem ok93 : CtrOk Go.Proofs.Try.prog ctr93 (F93 std) := ctr_of_body (autoEnv_ok follows_mixed) (mkOrc_ok (autoEnv_ok follows_mixed) gok93 _) enters93 (fun x => eq93 std x)
noncomputable def ctr65 : Ctr :=
 ⟨65, [.int .i64, .int .i64], [], [(.ret, ⟨[(0, .agg [.int .i64, .int .i64])], [], 1⟩)]⟩
noncomputable def la65 : List LA :=
 []
noncomputable def ja65 : List JA :=
 []
noncomputable def gam65 : List CF :=
 [⟨ctr93, F93⟩]
noncomputable def an65 : Anns :=
 ⟨gam65, ja65, []⟩
noncomputable def g65 (it : It) : (p : Prim) → (Int × (Int × Unit)) → Option ((Int × (Int × Unit))) :=
 fun p x =>
 opt.need _ (p.and (p.leN (p.add 0 2) (p.len [[(D.int .i64 x.1)], [(D.int .i64 x.2.1)]])) Bool.true) <|
 opt.bnd ((Int × Unit)) _ (g93 it p ((p.cut [[(D.int .i64 x.1)], [(D.int .i64 x.2.1)]] 0 2), ())) fun y72 =>
 opt.need _ (p.cmp .neq y72.1 (0 : Int)) <|
 opt.need _ (p.cmp .neq y72.1 (0 : Int)) <|
 opt.ret _ ((p.ar .quo .i64 x.1 y72.1), ((p.ar .quo .i64 x.2.1 y72.1), ()))
noncomputable def G65 := g65 it0
noncomputable def F65 : Prim → Tup (ctr65).scs → Option (STup (scss (ctr65).outs)) :=
 fun p x => G65 p x
theorem eq65 (p : Prim) (x : Tup (ctr65).scs) : bodyRun opt p (autoEnv Go.Proofs.Try.prog) (mkOrc opt p (autoEnv Go.Proofs.Try.prog) 400 (an65) la65) 400 ctr65 x = G65 p x := by kernel_rfl
theorem gok65 : GamOk Go.Proofs.Try.prog (gam65) := by
  intro cf h
  simp only [gam65, List.mem_cons, List.not_mem_nil, or_false] at h
  rcases h with rfl
  · exact ok93
theorem enters65 : Enters Go.Proofs.Try.prog 65 := enters_auto (b := _) rfl (by kernel_rfl)
theorem ok65 : CtrOk Go.Proofs.Try.prog ctr65 (F65 std) := ctr_of_body (autoEnv_ok follows_mixed) (mkOrc_ok (autoEnv_ok follows_mixed) gok65 _) enters65 (fun x => eq65 std x)
noncomputable def ctr71 : Ctr :=
 ⟨71, [.agg [.int .i64, .int .i64], .agg [.int .i64, .int .i64]], [], [(.ret, ⟨[(0, .bool)], [], 1⟩)]⟩
noncomputable def la71 : List LA :=
 []
noncomputable def ja71 : List JA :=
 [⟨71, [false, false, true, true, true, true], 0, [(AX.normal, ⟨[(2, .bptr 0 0), (3, .bptr 1 0), (7, .int .i64), (8, .int .i64), (40, .bool)], [.box [.int .i64, .int .i64], .box [.int .i64, .int .i64]], 53⟩)]⟩]
noncomputable def gam71 : (Prim → Tup (ctr71).scs → Option (STup (scss (ctr71).outs))) → List CF :=
 fun R => [⟨ctr71, R⟩]
noncomputable def an71 : (Prim → Tup (ctr71).scs → Option (STup (scss (ctr71).outs))) → Anns :=
 fun R => ⟨gam71 R, ja71, []⟩
noncomputable def G71 : (Prim → Tup (ctr71).scs → Option (STup (scss (ctr71).outs))) → (p : Prim) → (Int × (Int × (Int × (Int × Unit)))) → Option ((Bool × Unit)) :=
 fun R => fun p x =>
 opt.need _ (p.cmp .neq x.2.1 (0 : Int)) <|
 opt.need _ (p.cmp .neq x.2.2.2.1 (0 : Int)) <|
 opt.ask _ (p.cmp .neq (p.ar .quo .i64 x.1 x.2.1) (p.ar .quo .i64 x.2.2.1 x.2.2.2.1)) (
 opt.ret _ ((p.cmp .lss (p.ar .quo .i64 x.1 x.2.1) (p.ar .quo .i64 x.2.2.1 x.2.2.2.1)), ())) (
 opt.need _ (p.cmp .neq x.2.1 (0 : Int)) <|
 opt.need _ (p.cmp .neq x.2.2.2.1 (0 : Int)) <|
 opt.bnd ((Int × (Int × (Int × (Int × (Int × (Int × (Bool × Unit)))))))) _ (
 opt.run ((Int × (Int × (Int × (Int × (Int × (Int × (Bool × Unit)))))))) (
 opt.ask _ (p.cmp .eql (p.ar .rem .i64 x.1 x.2.1) (0 : Int)) (
 opt.ret _ (x.1, (x.2.1, (x.2.2.1, (x.2.2.2.1, ((p.ar .rem .i64 x.1 x.2.1), ((p.ar .rem .i64 x.2.2.1 x.2.2.2.1), (Bool.true, ())))))))) (
 opt.ret _ (x.1, (x.2.1, (x.2.2.1, (x.2.2.2.1, ((p.ar .rem .i64 x.1 x.2.1), ((p.ar .rem .i64 x.2.2.1 x.2.2.2.1), ((p.cmp .eql (p.ar .rem .i64 x.2.2.1 x.2.2.2.1) (0 : Int)), ())))))))))) fun y92 =>
 opt.ask _ y92.2.2.2.2.2.2.1 (
 opt.ret _ ((p.cmp .lss y92.2.2.2.2.1 y92.2.2.2.2.2.1), ())) (
 opt.bnd ((Bool × Unit)) _ (R p (y92.2.2.2.1, (y92.2.2.2.2.2.1, (y92.2.1, (y92.2.2.2.2.1, ()))))) fun y93 =>
 opt.ret _ (y93.1, ())))
noncomputable def Fr71 : Nat → Prim → Tup (ctr71).scs → Option (STup (scss (ctr71).outs)) :=
 fun n => Nat.rec (motive := fun _ => (Prim → Tup (ctr71).scs → Option (STup (scss (ctr71).outs)))) (fun _ _ => none) (fun _ f p x => G71 f p x) n
noncomputable def F71 : Prim → Tup (ctr71).scs → Option (STup (scss (ctr71).outs)) :=
 Fr71 100
theorem eq71 (R : (Prim → Tup (ctr71).scs → Option (STup (scss (ctr71).outs)))) (p : Prim) (x : Tup (ctr71).scs) : bodyRun opt p (autoEnv Go.Proofs.Try.prog) (mkOrc opt p (autoEnv Go.Proofs.Try.prog) 400 (an71 R) la71) 400 ctr71 x = G71 R p x := by kernel_rfl
theorem gok71 (R : (Prim → Tup (ctr71).scs → Option (STup (scss (ctr71).outs)))) (hR : CtrOk Go.Proofs.Try.prog ctr71 (R std)) : GamOk Go.Proofs.Try.prog (gam71 R) := by
  intro cf h
  simp only [gam71, List.mem_cons, List.not_mem_nil, or_false] at h
  rcases h with rfl
  · exact hR
theorem enters71 : Enters Go.Proofs.Try.prog 71 := enters_auto (b := _) rfl (by kernel_rfl)
theorem ok71_step (R : (Prim → Tup (ctr71).scs → Option (STup (scss (ctr71).outs)))) (hR : CtrOk Go.Proofs.Try.prog ctr71 (R std)) : CtrOk Go.Proofs.Try.prog ctr71 (fun x => G71 R std x) := ctr_of_body (autoEnv_ok follows_mixed) (mkOrc_ok (autoEnv_ok follows_mixed) (gok71 R hR) _) enters71 (fun x => eq71 R std x)
theorem ok71_n : ∀ n, CtrOk Go.Proofs.Try.prog ctr71 (Fr71 n std)
  | 0 => ⟨enters71, fun x y h => nomatch h⟩
  | n + 1 => ok71_step (Fr71 n) (ok71_n n)
theorem ok71 : CtrOk Go.Proofs.Try.prog ctr71 (F71 std) := ok71_n 100
noncomputable def ctr76 : Ctr :=
 ⟨76, [.agg [.int .i64, .int .i64, .int .i64, .int .i64], .agg [.int .i64, .int .i64, .int .i64, .int .i64]], [], [(.ret, ⟨[(0, .tuple [.agg [.int .i64, .int .i64, .int .i64], .bool])], [], 1⟩)]⟩
noncomputable def la76 : List LA :=
 []
noncomputable def ja76 : List JA :=
 [⟨76, [true, false, true, true, true, true], 0, [(AX.normal, ⟨[(2, .bptr 0 0), (4, .bptr 1 0), (6, .int .i64), (8, .int .i64), (9, .int .i64)], [.box [.int .i64, .int .i64, .int .i64, .int .i64], .box [.int .i64, .int .i64, .int .i64]], 101⟩)]⟩,
 ⟨76, [false, false, true, true, true, true, true], 0, [(AX.normal, ⟨[(2, .bptr 0 0), (4, .bptr 1 0), (6, .int .i64), (8, .int .i64), (57, .bool)], [.box [.int .i64, .int .i64, .int .i64, .int .i64], .box [.int .i64, .int .i64, .int .i64]], 101⟩)]⟩]
noncomputable def gam76 : List CF :=
 [⟨ctr93, F93⟩]
noncomputable def an76 : Anns :=
 ⟨gam76, ja76, []⟩
noncomputable def g76 (it : It) : (p : Prim) → (Int × (Int × (Int × (Int × (Int × (Int × (Int × (Int × Unit)))))))) → Option ((Int × (Int × (Int × (Bool × Unit))))) :=
 fun p x =>
 opt.bnd ((Int × (Int × (Int × (Int × (Int × (Int × (Int × (Int × (Int × (Int × Unit))))))))))) _ (
 opt.run ((Int × (Int × (Int × (Int × (Int × (Int × (Int × (Int × (Int × (Int × Unit))))))))))) (
 opt.ask _ (p.cmp .lss (p.ar .sub .i64 (p.ar .mul .i64 x.2.2.1 x.2.2.2.2.2.2.2.1) (p.ar .mul .i64 x.2.2.2.1 x.2.2.2.2.2.2.1)) (0 : Int)) (
 opt.ret _ (x.1, (x.2.1, (x.2.2.1, (x.2.2.2.1, ((0 : Int), ((0 : Int), ((0 : Int), ((p.ar .sub .i64 (0 : Int) (p.ar .sub .i64 (p.ar .mul .i64 x.2.2.1 x.2.2.2.2.2.2.2.1) (p.ar .mul .i64 x.2.2.2.1 x.2.2.2.2.2.2.1))), ((p.ar .sub .i64 (0 : Int) (p.ar .sub .i64 (p.ar .mul .i64 (p.ar .sub .i64 x.2.2.2.2.1 x.1) x.2.2.2.2.2.2.2.1) (p.ar .mul .i64 (p.ar .sub .i64 x.2.2.2.2.2.1 x.2.1) x.2.2.2.2.2.2.1))), ((p.ar .sub .i64 (0 : Int) (p.ar .sub .i64 (p.ar .mul .i64 (p.ar .sub .i64 x.2.2.2.2.1 x.1) x.2.2.2.1) (p.ar .mul .i64 (p.ar .sub .i64 x.2.2.2.2.2.1 x.2.1) x.2.2.1))), ()))))))))))) (
 opt.ret _ (x.1, (x.2.1, (x.2.2.1, (x.2.2.2.1, ((0 : Int), ((0 : Int), ((0 : Int), ((p.ar .sub .i64 (p.ar .mul .i64 x.2.2.1 x.2.2.2.2.2.2.2.1) (p.ar .mul .i64 x.2.2.2.1 x.2.2.2.2.2.2.1)), ((p.ar .sub .i64 (p.ar .mul .i64 (p.ar .sub .i64 x.2.2.2.2.1 x.1) x.2.2.2.2.2.2.2.1) (p.ar .mul .i64 (p.ar .sub .i64 x.2.2.2.2.2.1 x.2.1) x.2.2.2.2.2.2.1)), ((p.ar .sub .i64 (p.ar .mul .i64 (p.ar .sub .i64 x.2.2.2.2.1 x.1) x.2.2.2.1) (p.ar .mul .i64 (p.ar .sub .i64 x.2.2.2.2.2.1 x.2.1) x.2.2.1)), ()))))))))))))) fun y106 =>
 opt.bnd ((Int × (Int × (Int × (Int × (Int × (Int × (Int × (Int × (Int × (Bool × Unit))))))))))) _ (
 opt.run ((Int × (Int × (Int × (Int × (Int × (Int × (Int × (Int × (Int × (Bool × Unit))))))))))) (
 opt.ask _ (p.cmp .eql y106.2.2.2.2.2.2.2.1 (0 : Int)) (
 opt.ret _ (y106.1, (y106.2.1, (y106.2.2.1, (y106.2.2.2.1, (y106.2.2.2.2.1, (y106.2.2.2.2.2.1, (y106.2.2.2.2.2.2.1, (y106.2.2.2.2.2.2.2.1, (y106.2.2.2.2.2.2.2.2.1, (Bool.true, ()))))))))))) (
 opt.ask _ (p.cmp .lss y106.2.2.2.2.2.2.2.2.1 (0 : Int)) (
 opt.ret _ (y106.1, (y106.2.1, (y106.2.2.1, (y106.2.2.2.1, (y106.2.2.2.2.1, (y106.2.2.2.2.2.1, (y106.2.2.2.2.2.2.1, (y106.2.2.2.2.2.2.2.1, (y106.2.2.2.2.2.2.2.2.1, (Bool.true, ()))))))))))) (
 opt.ask _ (p.cmp .gtr y106.2.2.2.2.2.2.2.2.1 y106.2.2.2.2.2.2.2.1) (
 opt.ret _ (y106.1, (y106.2.1, (y106.2.2.1, (y106.2.2.2.1, (y106.2.2.2.2.1, (y106.2.2.2.2.2.1, (y106.2.2.2.2.2.2.1, (y106.2.2.2.2.2.2.2.1, (y106.2.2.2.2.2.2.2.2.1, (Bool.true, ()))))))))))) (
 opt.ask _ (p.cmp .lss y106.2.2.2.2.2.2.2.2.2.1 (0 : Int)) (
 opt.ret _ (y106.1, (y106.2.1, (y106.2.2.1, (y106.2.2.2.1, (y106.2.2.2.2.1, (y106.2.2.2.2.2.1, (y106.2.2.2.2.2.2.1, (y106.2.2.2.2.2.2.2.1, (y106.2.2.2.2.2.2.2.2.1, (Bool.true, ()))))))))))) (
 opt.ret _ (y106.1, (y106.2.1, (y106.2.2.1, (y106.2.2.2.1, (y106.2.2.2.2.1, (y106.2.2.2.2.2.1, (y106.2.2.2.2.2.2.1, (y106.2.2.2.2.2.2.2.1, (y106.2.2.2.2.2.2.2.2.1, ((p.cmp .gtr y106.2.2.2.2.2.2.2.2.2.1 y106.2.2.2.2.2.2.2.1), ())))))))))))))))) fun y107 =>
 opt.ask _ y107.2.2.2.2.2.2.2.2.2.1 (
 opt.ret _ ((0 : Int), ((0 : Int), ((0 : Int), (Bool.false, ()))))) (
 opt.need _ (p.and (p.leN (p.add 0 3) (p.len [[(D.int .i64 (p.ar .add .i64 (p.ar .mul .i64 y107.1 y107.2.2.2.2.2.2.2.1) (p.ar .mul .i64 y107.2.2.1 y107.2.2.2.2.2.2.2.2.1)))], [(D.int .i64 (p.ar .add .i64 (p.ar .mul .i64 y107.2.1 y107.2.2.2.2.2.2.2.1) (p.ar .mul .i64 y107.2.2.2.1 y107.2.2.2.2.2.2.2.2.1)))], [(D.int .i64 y107.2.2.2.2.2.2.2.1)]])) Bool.true) <|
 opt.bnd ((Int × Unit)) _ (g93 it p ((p.cut [[(D.int .i64 (p.ar .add .i64 (p.ar .mul .i64 y107.1 y107.2.2.2.2.2.2.2.1) (p.ar .mul .i64 y107.2.2.1 y107.2.2.2.2.2.2.2.2.1)))], [(D.int .i64 (p.ar .add .i64 (p.ar .mul .i64 y107.2.1 y107.2.2.2.2.2.2.2.1) (p.ar .mul .i64 y107.2.2.2.1 y107.2.2.2.2.2.2.2.2.1)))], [(D.int .i64 y107.2.2.2.2.2.2.2.1)]] 0 3), ())) fun y108 =>
 opt.need _ (p.cmp .neq y108.1 (0 : Int)) <|
 opt.need _ (p.cmp .neq y108.1 (0 : Int)) <|
 opt.need _ (p.cmp .neq y108.1 (0 : Int)) <|
 opt.ret _ ((p.ar .quo .i64 (p.ar .add .i64 (p.ar .mul .i64 y107.1 y107.2.2.2.2.2.2.2.1) (p.ar .mul .i64 y107.2.2.1 y107.2.2.2.2.2.2.2.2.1)) y108.1), ((p.ar .quo .i64 (p.ar .add .i64 (p.ar .mul .i64 y107.2.1 y107.2.2.2.2.2.2.2.1) (p.ar .mul .i64 y107.2.2.2.1 y107.2.2.2.2.2.2.2.2.1)) y108.1), ((p.ar .quo .i64 y107.2.2.2.2.2.2.2.1 y108.1), (Bool.true, ())))))
noncomputable def G76 := g76 it0
noncomputable def F76 : Prim → Tup (ctr76).scs → Option (STup (scss (ctr76).outs)) :=
 fun p x => G76 p x
theorem eq76 (p : Prim) (x : Tup (ctr76).scs) : bodyRun opt p (autoEnv Go.Proofs.Try.prog) (mkOrc opt p (autoEnv Go.Proofs.Try.prog) 400 (an76) la76) 400 ctr76 x = G76 p x := by kernel_rfl
theorem gok76 : GamOk Go.Proofs.Try.prog (gam76) := by
  intro cf h
  simp only [gam76, List.mem_cons, List.not_mem_nil, or_false] at h
  rcases h with rfl
  · exact ok93
theorem enters76 : Enters Go.Proofs.Try.prog 76 := enters_auto (b := _) rfl (by kernel_rfl)
theorem ok76 : CtrOk Go.Proofs.Try.prog ctr76 (F76 std) := ctr_of_body (autoEnv_ok follows_mixed) (mkOrc_ok (autoEnv_ok follows_mixed) gok76 _) enters76 (fun x => eq76 std x)
noncomputable def ctr68 : Ctr :=
 ⟨68, [.agg [.int .i64, .int .i64], .agg [.int .i64, .int .i64, .int .i64, .int .i64]], [], [(.ret, ⟨[(0, .tuple [.agg [.int .i64, .int .i64], .bool])], [], 1⟩)]⟩
noncomputable def la68 : List LA :=
 []
noncomputable def ja68 : List JA :=
 [⟨68, [false, false, true, true, true], 0, [(AX.normal, ⟨[(3, .bptr 0 0), (4, .bptr 1 0), (6, .bptr 2 0), (8, .int .i64), (29, .bool)], [.box [.int .i64, .int .i64, .int .i64, .int .i64], .box [.int .i64, .int .i64], .box [.int .i64, .int .i64]], 40⟩)]⟩]
noncomputable def gam68 : List CF :=
 [⟨ctr65, F65⟩]
noncomputable def an68 : Anns :=
 ⟨gam68, ja68, []⟩
noncomputable def g68 (it : It) : (p : Prim) → (Int × (Int × (Int × (Int × (Int × (Int × Unit)))))) → Option ((Int × (Int × (Bool × Unit)))) :=
 fun p x =>
 opt.bnd ((Int × (Int × (Int × (Int × (Int × (Int × (Int × (Int × (Int × (Bool × Unit))))))))))) _ (
 opt.run ((Int × (Int × (Int × (Int × (Int × (Int × (Int × (Int × (Int × (Bool × Unit))))))))))) (
 opt.ask _ (p.cmp .leq (p.ar .add .i64 (p.ar .mul .i64 x.2.2.2.2.1 (p.ar .sub .i64 x.1 x.2.2.1)) (p.ar .mul .i64 x.2.2.2.2.2.1 (p.ar .sub .i64 x.2.1 x.2.2.2.1))) (0 : Int)) (
 opt.ret _ (x.2.2.1, (x.2.2.2.1, (x.2.2.2.2.1, (x.2.2.2.2.2.1, ((0 : Int), ((0 : Int), ((p.ar .sub .i64 x.1 x.2.2.1), ((p.ar .sub .i64 x.2.1 x.2.2.2.1), ((p.ar .add .i64 (p.ar .mul .i64 x.2.2.2.2.1 x.2.2.2.2.1) (p.ar .mul .i64 x.2.2.2.2.2.1 x.2.2.2.2.2.1)), (Bool.true, ()))))))))))) (
 opt.ret _ (x.2.2.1, (x.2.2.2.1, (x.2.2.2.2.1, (x.2.2.2.2.2.1, ((0 : Int), ((0 : Int), ((p.ar .sub .i64 x.1 x.2.2.1), ((p.ar .sub .i64 x.2.1 x.2.2.2.1), ((p.ar .add .i64 (p.ar .mul .i64 x.2.2.2.2.1 x.2.2.2.2.1) (p.ar .mul .i64 x.2.2.2.2.2.1 x.2.2.2.2.2.1)), ((p.cmp .geq (p.ar .add .i64 (p.ar .mul .i64 x.2.2.2.2.1 (p.ar .sub .i64 x.1 x.2.2.1)) (p.ar .mul .i64 x.2.2.2.2.2.1 (p.ar .sub .i64 x.2.1 x.2.2.2.1))) (p.ar .add .i64 (p.ar .mul .i64 x.2.2.2.2.1 x.2.2.2.2.1) (p.ar .mul .i64 x.2.2.2.2.2.1 x.2.2.2.2.2.1))), ()))))))))))))) fun y119 =>
 opt.ask _ y119.2.2.2.2.2.2.2.2.2.1 (
 opt.ret _ ((0 : Int), ((0 : Int), (Bool.false, ())))) (
 opt.bnd ((Int × (Int × Unit))) _ (g65 it p ((p.ar .mul .i64 (p.ar .sub .i64 (p.ar .mul .i64 y119.2.2.1 y119.2.2.2.2.2.2.2.1) (p.ar .mul .i64 y119.2.2.2.1 y119.2.2.2.2.2.2.1)) (p.ar .sub .i64 (p.ar .mul .i64 y119.2.2.1 y119.2.2.2.2.2.2.2.1) (p.ar .mul .i64 y119.2.2.2.1 y119.2.2.2.2.2.2.1))), (y119.2.2.2.2.2.2.2.2.1, ()))) fun y120 =>
 opt.ret _ (y120.1, (y120.2.1, (Bool.true, ()))))
noncomputable def G68 := g68 it0
noncomputable def F68 : Prim → Tup (ctr68).scs → Option (STup (scss (ctr68).outs)) :=
 fun p x => G68 p x
theorem eq68 (p : Prim) (x : Tup (ctr68).scs) : bodyRun opt p (autoEnv Go.Proofs.Try.prog) (mkOrc opt p (autoEnv Go.Proofs.Try.prog) 400 (an68) la68) 400 ctr68 x = G68 p x := by kernel_rfl
theorem gok68 : GamOk Go.Proofs.Try.prog (gam68) := by
  intro cf h
  simp only [gam68, List.mem_cons, List.not_mem_nil, or_false] at h
  rcases h with rfl
  · exact ok65
theorem enters68 : Enters Go.Proofs.Try.prog 68 := enters_auto (b := _) rfl (by kernel_rfl)
theorem ok68 : CtrOk Go.Proofs.Try.prog ctr68 (F68 std) := ctr_of_body (autoEnv_ok follows_mixed) (mkOrc_ok (autoEnv_ok follows_mixed) gok68 _) enters68 (fun x => eq68 std x)
end Go.Am
end

section
set_option linter.unusedVariables false
set_option maxRecDepth 100000
set_option maxHeartbeats 0
namespace Go.Am
noncomputable def ctr78 : Ctr :=
 ⟨78, [.list 2, .clo 66 [.agg [.int .i64, .int .i64]] []], [], [(.ret, ⟨[(0, .int .i64)], [], 1⟩)]⟩
noncomputable def la78 : List LA :=
 [⟨78, [false, true, false, true, true], 0, ⟨⟨[(1, .clo 66 [.agg [.int .i64, .int .i64]] []), (5, .int .i64), (13, .list 2), (14, .int .i64), (15, .int .i64)], [], 26⟩, [((AX.exit 0), ⟨[(5, .int .i64)], [], 26⟩)]⟩⟩]
noncomputable def ja78 : List JA :=
 []
noncomputable def gam78 : List CF :=
 []
noncomputable def an78 : Anns :=
 ⟨gam78, ja78, []⟩
noncomputable def b78_1 (p : Prim) : (Int × (Int × (Int × (List (List (D)) × (Int × (Int × Unit)))))) → Option ((Int × (Int × (Int × (List (List (D)) × (Int × (Int × Unit)))))) ⊕ (Int × Unit)) :=
 fun s14 => opt.run _ (
 opt.ask _ (p.cmp .lss s14.2.2.2.2.2.1 s14.2.2.2.2.1) (
 opt.need _ (p.rowOk s14.2.2.2.1 (p.nat s14.2.2.2.2.2.1) [(CK.int .i64), (CK.int .i64)]) <|
 opt.need _ (p.cmp .geq s14.2.2.2.2.2.1 (0 : Int)) <|
 opt.ret _ (Sum.inl (s14.1, (s14.2.1, ((p.mm .gtr s14.2.2.1 (p.ar .add .i64 (p.ar .mul .i64 s14.1 (p.rdI s14.2.2.2.1 (p.nat s14.2.2.2.2.2.1) 0)) (p.ar .mul .i64 s14.2.1 (p.rdI s14.2.2.2.1 (p.nat s14.2.2.2.2.2.1) 1)))), (s14.2.2.2.1, (s14.2.2.2.2.1, ((p.ar .add .i64 s14.2.2.2.2.2.1 (1 : Int)), ())))))))) (
 opt.ret _ (Sum.inr (s14.2.2.1, ()))))
noncomputable def g78 (it : It) : (p : Prim) → (List (List (D)) × (Int × (Int × Unit))) → Option ((Int × Unit)) :=
 fun p x =>
 opt.need _ (p.rowOk x.1 (p.nat (0 : Int)) [(CK.int .i64), (CK.int .i64)]) <|
 opt.bnd ((Int × Unit)) _ (
 it _ _ (b78_1 p) (x.2.1, (x.2.2.1, ((p.ar .add .i64 (p.ar .mul .i64 x.2.1 (p.rdI x.1 (p.nat (0 : Int)) 0)) (p.ar .mul .i64 x.2.2.1 (p.rdI x.1 (p.nat (0 : Int)) 1))), (x.1, ((p.ofNat (p.len x.1)), ((0 : Int), ()))))))) fun y15 =>
 opt.ret _ (y15.1, ())
noncomputable def G78 := g78 it0
noncomputable def F78 : Prim → Tup (ctr78).scs → Option (STup (scss (ctr78).outs)) :=
 fun p x => G78 p x
theorem eq78 (p : Prim) (x : Tup (ctr78).scs) : bodyRun opt p (autoEnv Go.Proofs.Try.prog) (mkOrc opt p (autoEnv Go.Proofs.Try.prog) 400 (an78) la78) 400 ctr78 x = G78 p x := by kernel_rfl
theorem gok78 : GamOk Go.Proofs.Try.prog gam78 := fun cf h => by cases h
theorem enters78 : Enters Go.Proofs.Try.prog 78 := enters_auto (b := _) rfl (by kernel_rfl)
theorem ok78 : CtrOk Go.Proofs.Try.prog ctr78 (F78 std) := ctr_of_body (autoEnv_ok follows_mixed) (mkOrc_ok (autoEnv_ok follows_mixed) gok78 _) enters78 (fun x => eq78 std x)
noncomputable def ctr92 : Ctr :=
 ⟨92, [.list 2, .list 2, .agg [.int .i64, .int .i64]], [], [(.ret, ⟨[(0, .tuple [.int .i64, .bool])], [], 1⟩)]⟩
noncomputable def la92 : List LA :=
 []
noncomputable def ja92 : List JA :=
 []
noncomputable def gam92 : List CF :=
 [⟨ctr78, F78⟩]
noncomputable def an92 : Anns :=
 ⟨gam92, ja92, []⟩
noncomputable def g92 (it : It) : (p : Prim) → (List (List (D)) × (List (List (D)) × (Int × (Int × Unit)))) → Option ((Int × (Bool × Unit))) :=
 fun p x =>
 opt.bnd ((Int × Unit)) _ (g78 it p (x.1, (x.2.2.1, (x.2.2.2.1, ())))) fun y21 =>
 opt.bnd ((Int × Unit)) _ (g78 it p (x.2.1, ((p.ar .sub .i64 (0 : Int) x.2.2.1), ((p.ar .sub .i64 (0 : Int) x.2.2.2.1), ())))) fun y22 =>
 opt.ret _ (y21.1, ((p.cmp .lss y21.1 (p.ar .sub .i64 (0 : Int) y22.1)), ()))
noncomputable def G92 := g92 it0
noncomputable def F92 : Prim → Tup (ctr92).scs → Option (STup (scss (ctr92).outs)) :=
 fun p x => G92 p x
theorem eq92 (p : Prim) (x : Tup (ctr92).scs) : bodyRun opt p (autoEnv Go.Proofs.Try.prog) (mkOrc opt p (autoEnv Go.Proofs.Try.prog) 400 (an92) la92) 400 ctr92 x = G92 p x := by kernel_rfl
theorem gok92 : GamOk Go.Proofs.Try.prog (gam92) := by
  intro cf h
  simp only [gam92, List.mem_cons, List.not_mem_nil, or_false] at h
  rcases h with rfl
  · exact ok78
theorem enters92 : Enters Go.Proofs.Try.prog 92 := enters_auto (b := _) rfl (by kernel_rfl)
theorem ok92 : CtrOk Go.Proofs.Try.prog ctr92 (F92 std) := ctr_of_body (autoEnv_ok follows_mixed) (mkOrc_ok (autoEnv_ok follows_mixed) gok92 _) enters92 (fun x => eq92 std x)
noncomputable def ctr63 : Ctr :=
 ⟨63, [.list 2, .list 2], [], [(.ret, ⟨[(0, .tuple [.agg [.int .i64, .int .i64, .int .i64], .bool])], [], 1⟩)]⟩
noncomputable def la63 : List LA :=
 [⟨63, [false, true, false, true, false, true], 0, ⟨⟨[(0, .list 2), (1, .list 2), (4, .bptr 0 0), (6, .bptr 1 0), (20, .list 2), (21, .int .i64), (22, .int .i64)], [.box [.int .i64, .int .i64, .int .i64], .box [.vec 2 2], .row [(CK.int .i64), (CK.int .i64)]], 94⟩, [((AX.exit 0), ⟨[(0, .list 2), (1, .list 2), (4, .bptr 0 0), (6, .bptr 1 0)], [.box [.int .i64, .int .i64, .int .i64], .box [.vec 2 2], .row [(CK.int .i64), (CK.int .i64)]], 94⟩)]⟩⟩,
 ⟨63, [false, true, true, false, false, true, true, false, false, true, false, true, false, true], 0, ⟨⟨[(0, .list 2), (1, .list 2), (4, .bptr 0 0), (6, .bptr 1 0), (8, .bptr 2 0), (20, .list 2), (21, .int .i64), (22, .int .i64), (26, .list 2), (27, .int .i64), (28, .int .i64)], [.box [.int .i64, .int .i64, .int .i64], .box [.vec 3 2], .box [.int .i64, .int .i64], .row [(CK.int .i64), (CK.int .i64)]], 94⟩, [((AX.exit 2), ⟨[(0, .list 2), (1, .list 2), (4, .bptr 0 0), (6, .bptr 1 0), (20, .list 2), (21, .int .i64), (22, .int .i64)], [.box [.int .i64, .int .i64, .int .i64], .box [.vec 2 2], .row [(CK.int .i64), (CK.int .i64)]], 94⟩)]⟩⟩,
 ⟨63, [false, true, false, true, true, false, true], 0, ⟨⟨[(0, .list 2), (1, .list 2), (4, .bptr 0 0), (6, .bptr 1 0), (42, .full 2 1), (43, .int .i64), (44, .int .i64)], [.box [.int .i64, .int .i64, .int .i64], .box [.vec 3 2], .row [(CK.list 2)], .row [(CK.int .i64), (CK.int .i64)]], 94⟩, [((AX.exit 4), ⟨[(0, .list 2), (1, .list 2), (4, .bptr 0 0), (6, .bptr 1 0)], [.box [.int .i64, .int .i64, .int .i64], .box [.vec 2 2], .row [(CK.int .i64), (CK.int .i64)]], 94⟩)]⟩⟩,
 ⟨94, [false, true], 6, ⟨⟨[(0, .yld 5), (1, .bptr 4 0), (6, .list 2), (7, .int .i64), (8, .int .i64)], [.box [.int .i64, .int .i64, .int .i64], .box [.vec 6 2], .row [(CK.list 2)], .dead, .box [.list 2], .loop Go.LoopState.ready Option.none 63 [Bool.false, Bool.true, Bool.true, Bool.false, Bool.false, Bool.true, Bool.true, Bool.false, Bool.false, Bool.true, Bool.false, Bool.true, Bool.true, Bool.false, Bool.true] 94 [(49, .clo 94 [] [.bptr 4 0]), (43, .int .i64), (42, .full 2 1), (6, .bptr 1 0), (1, .list 2), (4, .bptr 0 0), (0, .list 2), (44, .int .i64)], .row [(CK.int .i64), (CK.int .i64)]], 33⟩, [(AX.ret, ⟨[], [.box [.int .i64, .int .i64, .int .i64], .box [.vec 6 2], .row [(CK.list 2)], .dead, .box [.list 2], .loop Go.LoopState.ready Option.none 63 [Bool.false, Bool.true, Bool.true, Bool.false, Bool.false, Bool.true, Bool.true, Bool.false, Bool.false, Bool.true, Bool.false, Bool.true, Bool.true, Bool.false, Bool.true] 94 [(49, .clo 94 [] [.bptr 4 0]), (43, .int .i64), (42, .full 2 1), (6, .bptr 1 0), (1, .list 2), (4, .bptr 0 0), (0, .list 2), (44, .int .i64)], .row [(CK.int .i64), (CK.int .i64)]], 33⟩), ((AX.exit 0), ⟨[], [.box [.int .i64, .int .i64, .int .i64], .box [.vec 6 2], .row [(CK.list 2)], .dead, .box [.list 2], .loop Go.LoopState.ready Option.none 63 [Bool.false, Bool.true, Bool.true, Bool.false, Bool.false, Bool.true, Bool.true, Bool.false, Bool.false, Bool.true, Bool.false, Bool.true, Bool.true, Bool.false, Bool.true] 94 [(49, .clo 94 [] [.bptr 4 0]), (43, .int .i64), (42, .full 2 1), (6, .bptr 1 0), (1, .list 2), (4, .bptr 0 0), (0, .list 2), (44, .int .i64)], .row [(CK.int .i64), (CK.int .i64)]], 33⟩)]⟩⟩,
 ⟨63, [false, true, false, true, true, true, true, true, true, false, true], 0, ⟨⟨[(0, .list 2), (1, .list 2), (4, .bptr 0 0), (14, .bool), (15, .bptr 1 0), (71, .vec 2 2), (72, .int .i64), (73, .int .i64)], [.box [.int .i64, .int .i64, .int .i64], .box [.int .i64, .int .i64, .int .i64], .row [(CK.int .i64), (CK.int .i64)]], 94⟩, [((AX.exit 8), ⟨[(4, .bptr 0 0), (14, .bool), (15, .bptr 1 0)], [.box [.int .i64, .int .i64, .int .i64], .box [.int .i64, .int .i64, .int .i64]], 94⟩)]⟩⟩]
noncomputable def ja63 : List JA :=
 [⟨63, [true, true, false, false, true, true, false, false, true, false, true, true, false, true], 0, [(AX.normal, ⟨[(0, .list 2), (1, .list 2), (4, .bptr 0 0), (6, .bptr 1 0), (42, .full 2 1), (43, .int .i64), (44, .int .i64)], [.box [.int .i64, .int .i64, .int .i64], .box [.vec 3 2], .row [(CK.list 2)], .row [(CK.int .i64), (CK.int .i64)]], 94⟩)]⟩]
noncomputable def gam63 : List CF :=
 [⟨ctr92, F92⟩]
noncomputable def an63 : Anns :=
 ⟨gam63, ja63, []⟩
noncomputable def c63_5 (it : It) (p : Prim) : (List (List (D)) × (Int × (Int × (Int × (Int × (Int × (Int × (List (List (D)) × (List (List (D)) × (Bool × (Int × (Int × Unit)))))))))))) → Option ((List (List (D)) × (Int × (Int × (Int × (Int × (Int × (Int × (List (List (D)) × (List (List (D)) × (Bool × (Int × (Int × Unit)))))))))))) ⊕ (Int × (Int × (Int × (Int × (Int × (Int × (Bool × Unit)))))))) :=
 fun s99 => opt.run _ (
 opt.ask _ (p.cmp .lss s99.2.2.2.2.2.2.2.2.2.2.2.1 s99.2.2.2.2.2.2.2.2.2.2.1) (
 opt.need _ (bif (p.cmp .geq s99.2.2.2.2.2.2.2.2.2.2.2.1 (0 : Int)) then (p.cmp .lss s99.2.2.2.2.2.2.2.2.2.2.2.1 (p.ofNat (p.len s99.1))) else Bool.false) <|
 opt.need _ (p.rowOk s99.1 (p.add 0 (p.nat s99.2.2.2.2.2.2.2.2.2.2.2.1)) [(CK.int .i64), (CK.int .i64)]) <|
 opt.bnd ((Int × (Bool × Unit))) _ (g92 it p (s99.2.2.2.2.2.2.2.1, (s99.2.2.2.2.2.2.2.2.1, ((p.rdI s99.1 (p.add 0 (p.nat s99.2.2.2.2.2.2.2.2.2.2.2.1)) 0), ((p.rdI s99.1 (p.add 0 (p.nat s99.2.2.2.2.2.2.2.2.2.2.2.1)) 1), ()))))) fun y100 =>
 opt.ask _ y100.2.1 (
 opt.ret _ (Sum.inr (s99.2.1, (s99.2.2.1, (s99.2.2.2.1, ((p.rdI s99.1 (p.add 0 (p.nat s99.2.2.2.2.2.2.2.2.2.2.2.1)) 0), ((p.rdI s99.1 (p.add 0 (p.nat s99.2.2.2.2.2.2.2.2.2.2.2.1)) 1), (y100.1, (Bool.true, ()))))))))) (
 opt.need _ (p.eqN 0 0) <|
 opt.need _ (p.eqN (p.len s99.1) (p.len s99.1)) <|
 opt.ret _ (Sum.inl (s99.1, (s99.2.1, (s99.2.2.1, (s99.2.2.2.1, (s99.2.2.2.2.1, (s99.2.2.2.2.2.1, (s99.2.2.2.2.2.2.1, (s99.2.2.2.2.2.2.2.1, (s99.2.2.2.2.2.2.2.2.1, (s99.2.2.2.2.2.2.2.2.2.1, (s99.2.2.2.2.2.2.2.2.2.2.1, ((p.ar .add .i64 s99.2.2.2.2.2.2.2.2.2.2.2.1 (1 : Int)), ()))))))))))))))) (
 opt.ret _ (Sum.inr (s99.2.1, (s99.2.2.1, (s99.2.2.2.1, (s99.2.2.2.2.1, (s99.2.2.2.2.2.1, (s99.2.2.2.2.2.2.1, (s99.2.2.2.2.2.2.2.2.2.1, ()))))))))))
noncomputable def b63_4 (p : Prim) : (List (List (D)) × (List (List (D)) × (Int × (Int × (Int × (List (List (D)) × (Int × (List (List (D)) × (List (List (D)) × (Int × (List (List (D)) × (Int × (Int × Unit))))))))))))) → Option ((List (List (D)) × (List (List (D)) × (Int × (Int × (Int × (List (List (D)) × (Int × (List (List (D)) × (List (List (D)) × (Int × (List (List (D)) × (Int × (Int × Unit))))))))))))) ⊕ ((List (List (D)) × (List (List (D)) × (Int × (Int × (Int × (List (List (D)) × (Int × (List (List (D)) × (List (List (D)) × (Int × Unit)))))))))) ⊕ (List (List (D)) × (List (List (D)) × (Int × (Int × (Int × (List (List (D)) × (Int × (List (List (D)) × (List (List (D)) × (Int × Unit)))))))))))) :=
 fun s93 => opt.run _ (
 opt.ask _ (p.cmp .lss s93.2.2.2.2.2.2.2.2.2.2.2.2.1 s93.2.2.2.2.2.2.2.2.2.2.2.1) (
 opt.need _ (p.rowOk s93.2.2.2.2.2.2.2.2.2.2.1 (p.nat s93.2.2.2.2.2.2.2.2.2.2.2.2.1) [(CK.int .i64), (CK.int .i64)]) <|
 opt.need _ (p.cmp .geq s93.2.2.2.2.2.2.2.2.2.2.2.2.1 (0 : Int)) <|
 opt.need _ (p.cmp .neq (p.ofNat (p.len s93.2.2.2.2.2.1)) (0 : Int)) <|
 opt.need _ (p.rowOk s93.2.2.2.2.2.1 (p.nat (p.ar .rem .i64 (p.ar .add .i64 s93.2.2.2.2.2.2.2.2.2.2.2.2.1 (1 : Int)) (p.ofNat (p.len s93.2.2.2.2.2.1)))) [(CK.int .i64), (CK.int .i64)]) <|
 opt.need _ (p.cmp .geq (p.ar .rem .i64 (p.ar .add .i64 s93.2.2.2.2.2.2.2.2.2.2.2.2.1 (1 : Int)) (p.ofNat (p.len s93.2.2.2.2.2.1))) (0 : Int)) <|
 opt.ask _ (bif (p.cmp .eql (p.ar .sub .i64 (p.rdI s93.2.2.2.2.2.1 (p.nat (p.ar .rem .i64 (p.ar .add .i64 s93.2.2.2.2.2.2.2.2.2.2.2.2.1 (1 : Int)) (p.ofNat (p.len s93.2.2.2.2.2.1)))) 0) (p.rdI s93.2.2.2.2.2.2.2.2.2.2.1 (p.nat s93.2.2.2.2.2.2.2.2.2.2.2.2.1) 0)) (0 : Int)) then (bif (p.cmp .eql (p.ar .sub .i64 (p.rdI s93.2.2.2.2.2.1 (p.nat (p.ar .rem .i64 (p.ar .add .i64 s93.2.2.2.2.2.2.2.2.2.2.2.2.1 (1 : Int)) (p.ofNat (p.len s93.2.2.2.2.2.1)))) 1) (p.rdI s93.2.2.2.2.2.2.2.2.2.2.1 (p.nat s93.2.2.2.2.2.2.2.2.2.2.2.2.1) 1)) (0 : Int)) then Bool.true else Bool.false) else Bool.false) (
 opt.need _ (p.eqN 0 0) <|
 opt.need _ (p.eqN (p.len s93.2.1) (p.len s93.2.1)) <|
 opt.need _ (p.eqN 0 0) <|
 opt.need _ (p.eqN (p.len s93.1) (p.len s93.1)) <|
 opt.need _ (p.eqN (p.len s93.1) (p.len s93.1)) <|
 opt.ret _ (Sum.inr (Sum.inl (s93.1, (s93.2.1, (s93.2.2.1, (s93.2.2.2.1, (s93.2.2.2.2.1, (s93.2.2.2.2.2.1, (s93.2.2.2.2.2.2.1, (s93.2.2.2.2.2.2.2.1, (s93.2.2.2.2.2.2.2.2.1, (s93.2.2.2.2.2.2.2.2.2.1, ()))))))))))))) (
 opt.need _ (p.and (p.leN (p.add 0 2) (p.len [[(D.int .i64 (p.ar .sub .i64 (p.rdI s93.2.2.2.2.2.1 (p.nat (p.ar .rem .i64 (p.ar .add .i64 s93.2.2.2.2.2.2.2.2.2.2.2.2.1 (1 : Int)) (p.ofNat (p.len s93.2.2.2.2.2.1)))) 1) (p.rdI s93.2.2.2.2.2.2.2.2.2.2.1 (p.nat s93.2.2.2.2.2.2.2.2.2.2.2.2.1) 1))), (D.int .i64 (p.ar .sub .i64 (0 : Int) (p.ar .sub .i64 (p.rdI s93.2.2.2.2.2.1 (p.nat (p.ar .rem .i64 (p.ar .add .i64 s93.2.2.2.2.2.2.2.2.2.2.2.2.1 (1 : Int)) (p.ofNat (p.len s93.2.2.2.2.2.1)))) 0) (p.rdI s93.2.2.2.2.2.2.2.2.2.2.1 (p.nat s93.2.2.2.2.2.2.2.2.2.2.2.2.1) 0))))], [(D.int .i64 (p.ar .sub .i64 (0 : Int) (p.ar .sub .i64 (p.rdI s93.2.2.2.2.2.1 (p.nat (p.ar .rem .i64 (p.ar .add .i64 s93.2.2.2.2.2.2.2.2.2.2.2.2.1 (1 : Int)) (p.ofNat (p.len s93.2.2.2.2.2.1)))) 1) (p.rdI s93.2.2.2.2.2.2.2.2.2.2.1 (p.nat s93.2.2.2.2.2.2.2.2.2.2.2.2.1) 1)))), (D.int .i64 (p.ar .sub .i64 (p.rdI s93.2.2.2.2.2.1 (p.nat (p.ar .rem .i64 (p.ar .add .i64 s93.2.2.2.2.2.2.2.2.2.2.2.2.1 (1 : Int)) (p.ofNat (p.len s93.2.2.2.2.2.1)))) 0) (p.rdI s93.2.2.2.2.2.2.2.2.2.2.1 (p.nat s93.2.2.2.2.2.2.2.2.2.2.2.2.1) 0)))]])) (p.and (p.leN (p.add 0 (p.len s93.2.1)) (p.len s93.2.1)) (p.and (p.leN 1 2) (p.leN (p.add (p.len s93.2.1) 2) 1000000)))) <|
 opt.need _ (p.eqN 0 0) <|
 opt.need _ (p.eqN (p.add (p.len s93.2.1) 2) (p.len (p.app (p.cut s93.2.1 0 (p.len s93.2.1)) (p.cut [[(D.int .i64 (p.ar .sub .i64 (p.rdI s93.2.2.2.2.2.1 (p.nat (p.ar .rem .i64 (p.ar .add .i64 s93.2.2.2.2.2.2.2.2.2.2.2.2.1 (1 : Int)) (p.ofNat (p.len s93.2.2.2.2.2.1)))) 1) (p.rdI s93.2.2.2.2.2.2.2.2.2.2.1 (p.nat s93.2.2.2.2.2.2.2.2.2.2.2.2.1) 1))), (D.int .i64 (p.ar .sub .i64 (0 : Int) (p.ar .sub .i64 (p.rdI s93.2.2.2.2.2.1 (p.nat (p.ar .rem .i64 (p.ar .add .i64 s93.2.2.2.2.2.2.2.2.2.2.2.2.1 (1 : Int)) (p.ofNat (p.len s93.2.2.2.2.2.1)))) 0) (p.rdI s93.2.2.2.2.2.2.2.2.2.2.1 (p.nat s93.2.2.2.2.2.2.2.2.2.2.2.2.1) 0))))], [(D.int .i64 (p.ar .sub .i64 (0 : Int) (p.ar .sub .i64 (p.rdI s93.2.2.2.2.2.1 (p.nat (p.ar .rem .i64 (p.ar .add .i64 s93.2.2.2.2.2.2.2.2.2.2.2.2.1 (1 : Int)) (p.ofNat (p.len s93.2.2.2.2.2.1)))) 1) (p.rdI s93.2.2.2.2.2.2.2.2.2.2.1 (p.nat s93.2.2.2.2.2.2.2.2.2.2.2.2.1) 1)))), (D.int .i64 (p.ar .sub .i64 (p.rdI s93.2.2.2.2.2.1 (p.nat (p.ar .rem .i64 (p.ar .add .i64 s93.2.2.2.2.2.2.2.2.2.2.2.2.1 (1 : Int)) (p.ofNat (p.len s93.2.2.2.2.2.1)))) 0) (p.rdI s93.2.2.2.2.2.2.2.2.2.2.1 (p.nat s93.2.2.2.2.2.2.2.2.2.2.2.2.1) 0)))]] 0 2)))) <|
 opt.need _ (p.eqN 0 0) <|
 opt.need _ (p.eqN (p.len s93.1) (p.len s93.1)) <|
 opt.need _ (p.eqN (p.len s93.1) (p.len s93.1)) <|
 opt.ret _ (Sum.inl (s93.1, ((p.app (p.cut s93.2.1 0 (p.len s93.2.1)) (p.cut [[(D.int .i64 (p.ar .sub .i64 (p.rdI s93.2.2.2.2.2.1 (p.nat (p.ar .rem .i64 (p.ar .add .i64 s93.2.2.2.2.2.2.2.2.2.2.2.2.1 (1 : Int)) (p.ofNat (p.len s93.2.2.2.2.2.1)))) 1) (p.rdI s93.2.2.2.2.2.2.2.2.2.2.1 (p.nat s93.2.2.2.2.2.2.2.2.2.2.2.2.1) 1))), (D.int .i64 (p.ar .sub .i64 (0 : Int) (p.ar .sub .i64 (p.rdI s93.2.2.2.2.2.1 (p.nat (p.ar .rem .i64 (p.ar .add .i64 s93.2.2.2.2.2.2.2.2.2.2.2.2.1 (1 : Int)) (p.ofNat (p.len s93.2.2.2.2.2.1)))) 0) (p.rdI s93.2.2.2.2.2.2.2.2.2.2.1 (p.nat s93.2.2.2.2.2.2.2.2.2.2.2.2.1) 0))))], [(D.int .i64 (p.ar .sub .i64 (0 : Int) (p.ar .sub .i64 (p.rdI s93.2.2.2.2.2.1 (p.nat (p.ar .rem .i64 (p.ar .add .i64 s93.2.2.2.2.2.2.2.2.2.2.2.2.1 (1 : Int)) (p.ofNat (p.len s93.2.2.2.2.2.1)))) 1) (p.rdI s93.2.2.2.2.2.2.2.2.2.2.1 (p.nat s93.2.2.2.2.2.2.2.2.2.2.2.2.1) 1)))), (D.int .i64 (p.ar .sub .i64 (p.rdI s93.2.2.2.2.2.1 (p.nat (p.ar .rem .i64 (p.ar .add .i64 s93.2.2.2.2.2.2.2.2.2.2.2.2.1 (1 : Int)) (p.ofNat (p.len s93.2.2.2.2.2.1)))) 0) (p.rdI s93.2.2.2.2.2.2.2.2.2.2.1 (p.nat s93.2.2.2.2.2.2.2.2.2.2.2.2.1) 0)))]] 0 2)), (s93.2.2.1, (s93.2.2.2.1, (s93.2.2.2.2.1, (s93.2.2.2.2.2.1, (s93.2.2.2.2.2.2.1, (s93.2.2.2.2.2.2.2.1, (s93.2.2.2.2.2.2.2.2.1, (s93.2.2.2.2.2.2.2.2.2.1, (s93.2.2.2.2.2.2.2.2.2.2.1, (s93.2.2.2.2.2.2.2.2.2.2.2.1, ((p.ar .add .i64 s93.2.2.2.2.2.2.2.2.2.2.2.2.1 (1 : Int)), ())))))))))))))))) (
 opt.need _ (p.eqN 0 0) <|
 opt.need _ (p.eqN (p.len s93.2.1) (p.len s93.2.1)) <|
 opt.need _ (p.eqN 0 0) <|
 opt.need _ (p.eqN (p.len s93.1) (p.len s93.1)) <|
 opt.need _ (p.eqN (p.len s93.1) (p.len s93.1)) <|
 opt.ret _ (Sum.inr (Sum.inr (s93.1, (s93.2.1, (s93.2.2.1, (s93.2.2.2.1, (s93.2.2.2.2.1, (s93.2.2.2.2.2.1, (s93.2.2.2.2.2.2.1, (s93.2.2.2.2.2.2.2.1, (s93.2.2.2.2.2.2.2.2.1, (s93.2.2.2.2.2.2.2.2.2.1, ()))))))))))))))
noncomputable def c63_3 (it : It) (p : Prim) : (List (List (D)) × (List (List (D)) × (Int × (Int × (Int × (List (List (D)) × (List (List (D)) × (Int × (Int × Unit))))))))) → Option ((List (List (D)) × (List (List (D)) × (Int × (Int × (Int × (List (List (D)) × (List (List (D)) × (Int × (Int × Unit))))))))) ⊕ (List (List (D)) × (Int × (Int × (Int × (List (List (D)) × (List (List (D)) × Unit))))))) :=
 fun s92 => opt.run _ (
 opt.ask _ (p.cmp .lss s92.2.2.2.2.2.2.2.2.1 s92.2.2.2.2.2.2.2.1) (
 opt.need _ (bif (p.cmp .geq s92.2.2.2.2.2.2.2.2.1 (0 : Int)) then (p.cmp .lss s92.2.2.2.2.2.2.2.2.1 (p.ofNat (p.len s92.1))) else Bool.false) <|
 opt.need _ (p.rowOk s92.1 (p.add 0 (p.nat s92.2.2.2.2.2.2.2.2.1)) [(CK.list 2)]) <|
 opt.bnd ((List (List (D)) × (List (List (D)) × (Int × (Int × (Int × (List (List (D)) × (List (List (D)) × (Int × (Int × Unit)))))))))) _ (
 opt.run ((List (List (D)) × (List (List (D)) × (Int × (Int × (Int × (List (List (D)) × (List (List (D)) × (Int × (Int × Unit)))))))))) (
 opt.need _ (p.eqN 0 0) <|
 opt.need _ (p.eqN (p.len s92.2.1) (p.len s92.2.1)) <|
 opt.need _ (p.eqN 0 0) <|
 opt.need _ (p.eqN (p.len s92.1) (p.len s92.1)) <|
 opt.need _ (p.eqN (p.len s92.1) (p.len s92.1)) <|
 opt.alt ((List (List (D)) × (List (List (D)) × (Int × (Int × (Int × (List (List (D)) × (Int × (List (List (D)) × (List (List (D)) × (Int × Unit))))))))))) ((List (List (D)) × (List (List (D)) × (Int × (Int × (Int × (List (List (D)) × (Int × (List (List (D)) × (List (List (D)) × (Int × Unit))))))))))) _ (
 it _ _ (b63_4 p) (s92.1, (s92.2.1, (s92.2.2.1, (s92.2.2.2.1, (s92.2.2.2.2.1, ((p.rdL s92.1 (p.add 0 (p.nat s92.2.2.2.2.2.2.2.2.1)) 0), (s92.2.2.2.2.2.2.2.1, (s92.2.2.2.2.2.2.1, (s92.2.2.2.2.2.1, (s92.2.2.2.2.2.2.2.2.1, ((p.rdL s92.1 (p.add 0 (p.nat s92.2.2.2.2.2.2.2.2.1)) 0), ((p.ofNat (p.len (p.rdL s92.1 (p.add 0 (p.nat s92.2.2.2.2.2.2.2.2.1)) 0))), ((0 : Int), ())))))))))))))) (fun y94 =>
 opt.need _ (p.eqN 0 0) <|
 opt.need _ (p.eqN (p.len y94.2.1) (p.len y94.2.1)) <|
 opt.need _ (p.eqN 0 0) <|
 opt.need _ (p.eqN (p.len s92.1) (p.len y94.1)) <|
 opt.need _ (p.eqN (p.len s92.1) (p.len y94.1)) <|
 opt.ret _ (y94.1, (y94.2.1, (y94.2.2.1, (y94.2.2.2.1, (y94.2.2.2.2.1, (s92.2.2.2.2.2.1, (s92.2.2.2.2.2.2.1, (s92.2.2.2.2.2.2.2.1, (s92.2.2.2.2.2.2.2.2.1, ())))))))))) (fun y95 =>
 opt.bnd ((List (List (D)) × (List (List (D)) × (Int × (Int × (Int × (List (List (D)) × (Int × (List (List (D)) × (List (List (D)) × (Int × Unit))))))))))) _ (some y95) fun y96 =>
 opt.need _ (p.eqN 0 0) <|
 opt.need _ (p.eqN (p.len y96.2.1) (p.len y96.2.1)) <|
 opt.need _ (p.eqN 0 0) <|
 opt.need _ (p.eqN (p.len s92.1) (p.len y96.1)) <|
 opt.need _ (p.eqN (p.len s92.1) (p.len y96.1)) <|
 opt.ret _ (y96.1, (y96.2.1, (y96.2.2.1, (y96.2.2.2.1, (y96.2.2.2.2.1, (s92.2.2.2.2.2.1, (s92.2.2.2.2.2.2.1, (s92.2.2.2.2.2.2.2.1, (s92.2.2.2.2.2.2.2.2.1, ())))))))))))) fun y97 =>
 opt.need _ (p.eqN 0 0) <|
 opt.need _ (p.eqN (p.len y97.2.1) (p.len y97.2.1)) <|
 opt.need _ (p.eqN 0 0) <|
 opt.need _ (p.eqN (p.len y97.1) (p.len y97.1)) <|
 opt.need _ (p.eqN (p.len y97.1) (p.len y97.1)) <|
 opt.ret _ (Sum.inl (y97.1, (y97.2.1, (y97.2.2.1, (y97.2.2.2.1, (y97.2.2.2.2.1, (y97.2.2.2.2.2.1, (y97.2.2.2.2.2.2.1, (y97.2.2.2.2.2.2.2.1, ((p.ar .add .i64 y97.2.2.2.2.2.2.2.2.1 (1 : Int)), ()))))))))))) (
 opt.need _ (p.eqN 0 0) <|
 opt.need _ (p.eqN (p.len s92.2.1) (p.len s92.2.1)) <|
 opt.ret _ (Sum.inr (s92.2.1, (s92.2.2.1, (s92.2.2.2.1, (s92.2.2.2.2.1, (s92.2.2.2.2.2.1, (s92.2.2.2.2.2.2.1, ())))))))))
noncomputable def b63_2 (p : Prim) : (List (List (D)) × (Int × (Int × (Int × (Int × (Int × (List (List (D)) × (List (List (D)) × (List (List (D)) × (Int × (Int × (List (List (D)) × (Int × (Int × Unit)))))))))))))) → Option ((List (List (D)) × (Int × (Int × (Int × (Int × (Int × (List (List (D)) × (List (List (D)) × (List (List (D)) × (Int × (Int × (List (List (D)) × (Int × (Int × Unit)))))))))))))) ⊕ (List (List (D)) × (Int × (Int × (Int × (List (List (D)) × (List (List (D)) × (List (List (D)) × (Int × (Int × Unit)))))))))) :=
 fun s89 => opt.run _ (
 opt.ask _ (p.cmp .lss s89.2.2.2.2.2.2.2.2.2.2.2.2.2.1 s89.2.2.2.2.2.2.2.2.2.2.2.2.1) (
 opt.need _ (p.rowOk s89.2.2.2.2.2.2.2.2.2.2.2.1 (p.nat s89.2.2.2.2.2.2.2.2.2.2.2.2.2.1) [(CK.int .i64), (CK.int .i64)]) <|
 opt.need _ (p.cmp .geq s89.2.2.2.2.2.2.2.2.2.2.2.2.2.1 (0 : Int)) <|
 opt.need _ (p.and (p.leN (p.add 0 1) (p.len [[(D.int .i64 (p.ar .sub .i64 (p.rdI s89.2.2.2.2.2.2.2.2.2.2.2.1 (p.nat s89.2.2.2.2.2.2.2.2.2.2.2.2.2.1) 0) s89.2.2.2.2.1)), (D.int .i64 (p.ar .sub .i64 (p.rdI s89.2.2.2.2.2.2.2.2.2.2.2.1 (p.nat s89.2.2.2.2.2.2.2.2.2.2.2.2.2.1) 1) s89.2.2.2.2.2.1))]])) (p.and (p.leN (p.add 0 (p.len s89.1)) (p.len s89.1)) (p.and (p.leN 1 1) (p.leN (p.add (p.len s89.1) 1) 1000000)))) <|
 opt.need _ (p.eqN 0 0) <|
 opt.need _ (p.eqN (p.add (p.len s89.1) 1) (p.len (p.app (p.cut s89.1 0 (p.len s89.1)) (p.cut [[(D.int .i64 (p.ar .sub .i64 (p.rdI s89.2.2.2.2.2.2.2.2.2.2.2.1 (p.nat s89.2.2.2.2.2.2.2.2.2.2.2.2.2.1) 0) s89.2.2.2.2.1)), (D.int .i64 (p.ar .sub .i64 (p.rdI s89.2.2.2.2.2.2.2.2.2.2.2.1 (p.nat s89.2.2.2.2.2.2.2.2.2.2.2.2.2.1) 1) s89.2.2.2.2.2.1))]] 0 1)))) <|
 opt.ret _ (Sum.inl ((p.app (p.cut s89.1 0 (p.len s89.1)) (p.cut [[(D.int .i64 (p.ar .sub .i64 (p.rdI s89.2.2.2.2.2.2.2.2.2.2.2.1 (p.nat s89.2.2.2.2.2.2.2.2.2.2.2.2.2.1) 0) s89.2.2.2.2.1)), (D.int .i64 (p.ar .sub .i64 (p.rdI s89.2.2.2.2.2.2.2.2.2.2.2.1 (p.nat s89.2.2.2.2.2.2.2.2.2.2.2.2.2.1) 1) s89.2.2.2.2.2.1))]] 0 1)), (s89.2.1, (s89.2.2.1, (s89.2.2.2.1, (s89.2.2.2.2.1, (s89.2.2.2.2.2.1, (s89.2.2.2.2.2.2.1, (s89.2.2.2.2.2.2.2.1, (s89.2.2.2.2.2.2.2.2.1, (s89.2.2.2.2.2.2.2.2.2.1, (s89.2.2.2.2.2.2.2.2.2.2.1, (s89.2.2.2.2.2.2.2.2.2.2.2.1, (s89.2.2.2.2.2.2.2.2.2.2.2.2.1, ((p.ar .add .i64 s89.2.2.2.2.2.2.2.2.2.2.2.2.2.1 (1 : Int)), ())))))))))))))))) (
 opt.need _ (p.eqN 0 0) <|
 opt.need _ (p.eqN (p.len s89.1) (p.len s89.1)) <|
 opt.ret _ (Sum.inr (s89.1, (s89.2.1, (s89.2.2.1, (s89.2.2.2.1, (s89.2.2.2.2.2.2.1, (s89.2.2.2.2.2.2.2.1, (s89.2.2.2.2.2.2.2.2.1, (s89.2.2.2.2.2.2.2.2.2.1, (s89.2.2.2.2.2.2.2.2.2.2.1, ()))))))))))))
noncomputable def c63_1 (it : It) (p : Prim) : (List (List (D)) × (Int × (Int × (Int × (List (List (D)) × (List (List (D)) × (List (List (D)) × (Int × (Int × Unit))))))))) → Option ((List (List (D)) × (Int × (Int × (Int × (List (List (D)) × (List (List (D)) × (List (List (D)) × (Int × (Int × Unit))))))))) ⊕ (List (List (D)) × (Int × (Int × (Int × (List (List (D)) × (List (List (D)) × Unit))))))) :=
 fun s88 => opt.run _ (
 opt.ask _ (p.cmp .lss s88.2.2.2.2.2.2.2.2.1 s88.2.2.2.2.2.2.2.1) (
 opt.need _ (p.rowOk s88.2.2.2.2.2.2.1 (p.nat s88.2.2.2.2.2.2.2.2.1) [(CK.int .i64), (CK.int .i64)]) <|
 opt.need _ (p.cmp .geq s88.2.2.2.2.2.2.2.2.1 (0 : Int)) <|
 opt.need _ (p.eqN 0 0) <|
 opt.need _ (p.eqN (p.len s88.1) (p.len s88.1)) <|
 opt.bnd ((List (List (D)) × (Int × (Int × (Int × (List (List (D)) × (List (List (D)) × (List (List (D)) × (Int × (Int × Unit)))))))))) _ (
 it _ _ (b63_2 p) (s88.1, (s88.2.1, (s88.2.2.1, (s88.2.2.2.1, ((p.rdI s88.2.2.2.2.2.2.1 (p.nat s88.2.2.2.2.2.2.2.2.1) 0), ((p.rdI s88.2.2.2.2.2.2.1 (p.nat s88.2.2.2.2.2.2.2.2.1) 1), (s88.2.2.2.2.1, (s88.2.2.2.2.2.1, (s88.2.2.2.2.2.2.1, (s88.2.2.2.2.2.2.2.1, (s88.2.2.2.2.2.2.2.2.1, (s88.2.2.2.2.2.1, ((p.ofNat (p.len s88.2.2.2.2.2.1)), ((0 : Int), ()))))))))))))))) fun y90 =>
 opt.need _ (p.eqN 0 0) <|
 opt.need _ (p.eqN (p.len y90.1) (p.len y90.1)) <|
 opt.ret _ (Sum.inl (y90.1, (y90.2.1, (y90.2.2.1, (y90.2.2.2.1, (y90.2.2.2.2.1, (y90.2.2.2.2.2.1, (y90.2.2.2.2.2.2.1, (y90.2.2.2.2.2.2.2.1, ((p.ar .add .i64 y90.2.2.2.2.2.2.2.2.1 (1 : Int)), ()))))))))))) (
 opt.need _ (p.eqN 0 0) <|
 opt.need _ (p.eqN (p.len s88.1) (p.len s88.1)) <|
 opt.ret _ (Sum.inr (s88.1, (s88.2.1, (s88.2.2.1, (s88.2.2.2.1, (s88.2.2.2.2.1, (s88.2.2.2.2.2.1, ())))))))))
noncomputable def g63 (it : It) : (p : Prim) → (List (List (D)) × (List (List (D)) × Unit)) → Option ((Int × (Int × (Int × (Bool × Unit))))) :=
 fun p x =>
 opt.bnd ((List (List (D)) × (Int × (Int × (Int × (List (List (D)) × (List (List (D)) × Unit))))))) _ (
 it _ _ (c63_1 it p) ([], ((0 : Int), ((0 : Int), ((0 : Int), (x.1, (x.2.1, (x.1, ((p.ofNat (p.len x.1)), ((0 : Int), ())))))))))) fun y91 =>
 opt.need _ (p.eqN 0 0) <|
 opt.need _ (p.eqN (p.len y91.1) (p.len y91.1)) <|
 opt.need _ (p.eqN 0 0) <|
 opt.need _ (p.eqN 2 (p.len [[(D.list Bool.false 2 y91.2.2.2.2.1)], [(D.list Bool.false 2 y91.2.2.2.2.2.1)]])) <|
 opt.need _ (p.eqN 2 (p.len [[(D.list Bool.false 2 y91.2.2.2.2.1)], [(D.list Bool.false 2 y91.2.2.2.2.2.1)]])) <|
 opt.bnd ((List (List (D)) × (Int × (Int × (Int × (List (List (D)) × (List (List (D)) × Unit))))))) _ (
 it _ _ (c63_3 it p) ([[(D.list Bool.false 2 y91.2.2.2.2.1)], [(D.list Bool.false 2 y91.2.2.2.2.2.1)]], (y91.1, (y91.2.1, (y91.2.2.1, (y91.2.2.2.1, (y91.2.2.2.2.1, (y91.2.2.2.2.2.1, ((p.ofNat 2), ((0 : Int), ())))))))))) fun y98 =>
 opt.need _ (p.eqN 0 0) <|
 opt.need _ (p.eqN (p.len y98.1) (p.len y98.1)) <|
 opt.bnd ((Int × (Int × (Int × (Int × (Int × (Int × (Bool × Unit)))))))) _ (
 it _ _ (c63_5 it p) (y98.1, (y98.2.1, (y98.2.2.1, (y98.2.2.2.1, ((0 : Int), ((0 : Int), ((0 : Int), (y98.2.2.2.2.1, (y98.2.2.2.2.2.1, (Bool.false, ((p.ofNat (p.len y98.1)), ((0 : Int), ()))))))))))))) fun y101 =>
 opt.ret _ (y101.2.2.2.1, (y101.2.2.2.2.1, (y101.2.2.2.2.2.1, (y101.2.2.2.2.2.2.1, ()))))
noncomputable def G63 := g63 it0
noncomputable def F63 : Prim → Tup (ctr63).scs → Option (STup (scss (ctr63).outs)) :=
 fun p x => G63 p x
theorem eq63 (p : Prim) (x : Tup (ctr63).scs) : bodyRun opt p (autoEnv Go.Proofs.Try.prog) (mkOrc opt p (autoEnv Go.Proofs.Try.prog) 400 (an63) la63) 400 ctr63 x = G63 p x := by kernel_rfl
theorem gok63 : GamOk Go.Proofs.Try.prog (gam63) := by
  intro cf h
  simp only [gam63, List.mem_cons, List.not_mem_nil, or_false] at h
  rcases h with rfl
  · exact ok92
theorem enters63 : Enters Go.Proofs.Try.prog 63 := enters_auto (b := _) rfl (by kernel_rfl)
theorem ok63 : CtrOk Go.Proofs.Try.prog ctr63 (F63 std) := ctr_of_body (autoEnv_ok follows_mixed) (mkOrc_ok (autoEnv_ok follows_mixed) gok63 _) enters63 (fun x => eq63 std x)
end Go.Am
end

section
set_option linter.unusedVariables false
set_option maxRecDepth 100000
set_option maxHeartbeats 0
namespace Go.Am
noncomputable def ctr109o : Ctr :=
 ⟨109, [.full 0 2, .int .i64, .int .i64, .clo 87 [] []], [.row [(CK.int .i64), (CK.int .i64)]], []⟩
noncomputable def F109o : Prim → Tup (ctr109o).scs → Option (STup (scss (ctr109o).outs)) :=
 fun _ _ => none
theorem enters109o : Enters Go.Proofs.Try.prog 109 := enters_auto (b := _) rfl (by kernel_rfl)
theorem ok109o : CtrOk Go.Proofs.Try.prog ctr109o (F109o std) := ⟨enters109o, fun x y h => by cases h⟩
noncomputable def ctr110o : Ctr :=
 ⟨110, [.full 0 2, .int .i64, .int .i64, .clo 87 [] []], [.row [(CK.int .i64), (CK.int .i64)]], []⟩
noncomputable def F110o : Prim → Tup (ctr110o).scs → Option (STup (scss (ctr110o).outs)) :=
 fun _ _ => none
theorem enters110o : Enters Go.Proofs.Try.prog 110 := enters_auto (b := _) rfl (by kernel_rfl)
theorem ok110o : CtrOk Go.Proofs.Try.prog ctr110o (F110o std) := ⟨enters110o, fun x y h => by cases h⟩
noncomputable def ctr111o : Ctr :=
 ⟨111, [.full 0 2, .int .i64, .int .i64, .clo 87 [] []], [.row [(CK.int .i64), (CK.int .i64)]], []⟩
noncomputable def F111o : Prim → Tup (ctr111o).scs → Option (STup (scss (ctr111o).outs)) :=
 fun _ _ => none
theorem enters111o : Enters Go.Proofs.Try.prog 111 := enters_auto (b := _) rfl (by kernel_rfl)
theorem ok111o : CtrOk Go.Proofs.Try.prog ctr111o (F111o std) := ⟨enters111o, fun x y h => by cases h⟩
noncomputable def ctr112o : Ctr :=
 ⟨112, [.full 0 2, .int .i64, .int .i64, .clo 87 [] []], [.row [(CK.int .i64), (CK.int .i64)]], []⟩
noncomputable def F112o : Prim → Tup (ctr112o).scs → Option (STup (scss (ctr112o).outs)) :=
 fun _ _ => none
theorem enters112o : Enters Go.Proofs.Try.prog 112 := enters_auto (b := _) rfl (by kernel_rfl)
theorem ok112o : CtrOk Go.Proofs.Try.prog ctr112o (F112o std) := ⟨enters112o, fun x y h => by cases h⟩
noncomputable def ctr113o : Ctr :=
 ⟨113, [.full 0 2, .int .i64, .int .i64, .clo 87 [] []], [.row [(CK.int .i64), (CK.int .i64)]], []⟩
noncomputable def F113o : Prim → Tup (ctr113o).scs → Option (STup (scss (ctr113o).outs)) :=
 fun _ _ => none
theorem enters113o : Enters Go.Proofs.Try.prog 113 := enters_auto (b := _) rfl (by kernel_rfl)
theorem ok113o : CtrOk Go.Proofs.Try.prog ctr113o (F113o std) := ⟨enters113o, fun x y h => by cases h⟩
noncomputable def ctr114o : Ctr :=
 ⟨114, [.full 0 2, .int .i64, .int .i64, .int .i64, .clo 87 [] []], [.row [(CK.int .i64), (CK.int .i64)]], []⟩
noncomputable def F114o : Prim → Tup (ctr114o).scs → Option (STup (scss (ctr114o).outs)) :=
 fun _ _ => none
theorem enters114o : Enters Go.Proofs.Try.prog 114 := enters_auto (b := _) rfl (by kernel_rfl)
theorem ok114o : CtrOk Go.Proofs.Try.prog ctr114o (F114o std) := ⟨enters114o, fun x y h => by cases h⟩
noncomputable def ctr115o : Ctr :=
 ⟨115, [.full 0 2, .int .i64, .int .i64, .int .i64, .clo 87 [] []], [.row [(CK.int .i64), (CK.int .i64)]], []⟩
noncomputable def F115o : Prim → Tup (ctr115o).scs → Option (STup (scss (ctr115o).outs)) :=
 fun _ _ => none
theorem enters115o : Enters Go.Proofs.Try.prog 115 := enters_auto (b := _) rfl (by kernel_rfl)
theorem ok115o : CtrOk Go.Proofs.Try.prog ctr115o (F115o std) := ⟨enters115o, fun x y h => by cases h⟩
noncomputable def ctr117o : Ctr :=
 ⟨117, [.int .u64], [], [(.ret, ⟨[(0, .int .i64)], [], 1⟩)]⟩
noncomputable def la117o : List LA :=
 []
noncomputable def ja117o : List JA :=
 [⟨117, [true, false, true, true], 0, [(AX.normal, ⟨[(0, .int .u64), (2, .int .i64)], [], 25⟩)]⟩,
 ⟨117, [true, false, true], 0, [(AX.normal, ⟨[(0, .int .u64), (2, .int .i64)], [], 25⟩)]⟩,
 ⟨117, [true, false, true, true, true], 0, [(AX.normal, ⟨[(0, .int .u64), (2, .int .i64)], [], 25⟩)]⟩]
noncomputable def gam117o : List CF :=
 []
noncomputable def an117o : Anns :=
 ⟨gam117o, ja117o, []⟩
noncomputable def G117o : (p : Prim) → (Int × Unit) → Option ((Int × Unit)) :=
 fun p x =>
 opt.bnd ((Int × (Int × Unit))) _ (
 opt.run ((Int × (Int × Unit))) (
 opt.ask _ (p.cmp .geq x.1 (4294967296 : Int)) (
 opt.need _ (p.cmp .geq (32 : Int) (0 : Int)) <|
 opt.ret _ ((p.ar .shr .u64 x.1 (32 : Int)), ((32 : Int), ()))) (
 opt.ret _ (x.1, ((0 : Int), ()))))) fun y17 =>
 opt.bnd ((Int × (Int × Unit))) _ (
 opt.run ((Int × (Int × Unit))) (
 opt.ask _ (p.cmp .geq y17.1 (65536 : Int)) (
 opt.need _ (p.cmp .geq (16 : Int) (0 : Int)) <|
 opt.ret _ ((p.ar .shr .u64 y17.1 (16 : Int)), ((p.ar .add .i64 y17.2.1 (16 : Int)), ()))) (
 opt.ret _ (y17.1, (y17.2.1, ()))))) fun y18 =>
 opt.bnd ((Int × (Int × Unit))) _ (
 opt.run ((Int × (Int × Unit))) (
 opt.ask _ (p.cmp .geq y18.1 (256 : Int)) (
 opt.need _ (p.cmp .geq (8 : Int) (0 : Int)) <|
 opt.ret _ ((p.ar .shr .u64 y18.1 (8 : Int)), ((p.ar .add .i64 y18.2.1 (8 : Int)), ()))) (
 opt.ret _ (y18.1, (y18.2.1, ()))))) fun y19 =>
 opt.need _ (bif (p.cmp .geq (p.cvt .u8 y19.1) (0 : Int)) then (p.cmp .lss (p.cvt .u8 y19.1) (p.ofNat 256)) else Bool.false) <|
 opt.ret _ ((p.ar .add .i64 y19.2.1 (p.cvt .i64 (p.byte (ByteArray.mk #[0, 1, 2, 2, 3, 3, 3, 3, 4, 4, 4, 4, 4, 4, 4, 4, 5, 5, 5, 5, 5, 5, 5, 5, 5, 5, 5, 5, 5, 5, 5, 5, 6, 6, 6, 6, 6, 6, 6, 6, 6, 6, 6, 6, 6, 6, 6, 6, 6, 6, 6, 6, 6, 6, 6, 6, 6, 6, 6, 6, 6, 6, 6, 6, 7, 7, 7, 7, 7, 7, 7, 7, 7, 7, 7, 7, 7, 7, 7, 7, 7, 7, 7, 7, 7, 7, 7, 7, 7, 7, 7, 7, 7, 7, 7, 7, 7, 7, 7, 7, 7, 7, 7, 7, 7, 7, 7, 7, 7, 7, 7, 7, 7, 7, 7, 7, 7, 7, 7, 7, 7, 7, 7, 7, 7, 7, 7, 7, 8, 8, 8, 8, 8, 8, 8, 8, 8, 8, 8, 8, 8, 8, 8, 8, 8, 8, 8, 8, 8, 8, 8, 8, 8, 8, 8, 8, 8, 8, 8, 8, 8, 8, 8, 8, 8, 8, 8, 8, 8, 8, 8, 8, 8, 8, 8, 8, 8, 8, 8, 8, 8, 8, 8, 8, 8, 8, 8, 8, 8, 8, 8, 8, 8, 8, 8, 8, 8, 8, 8, 8, 8, 8, 8, 8, 8, 8, 8, 8, 8, 8, 8, 8, 8, 8, 8, 8, 8, 8, 8, 8, 8, 8, 8, 8, 8, 8, 8, 8, 8, 8, 8, 8, 8, 8, 8, 8, 8, 8, 8, 8, 8, 8, 8, 8, 8, 8, 8, 8, 8, 8, 8, 8, 8, 8, 8, 8]) (p.cvt .u8 y19.1)))), ())
noncomputable def F117o : Prim → Tup (ctr117o).scs → Option (STup (scss (ctr117o).outs)) :=
 fun p x => G117o p x
theorem eq117o (p : Prim) (x : Tup (ctr117o).scs) : bodyRun opt p (autoEnv Go.Proofs.Try.prog) (mkOrc opt p (autoEnv Go.Proofs.Try.prog) 400 (an117o) la117o) 400 ctr117o x = G117o p x := by kernel_rfl
theorem gok117o : GamOk Go.Proofs.Try.prog gam117o := fun cf h => by cases h
theorem enters117o : Enters Go.Proofs.Try.prog 117 := enters_auto (b := _) rfl (by kernel_rfl)
theorem ok117o : CtrOk Go.Proofs.Try.prog ctr117o (F117o std) := ctr_of_body (autoEnv_ok follows_mixed) (mkOrc_ok (autoEnv_ok follows_mixed) gok117o _) enters117o (fun x => eq117o std x)
noncomputable def ctr105o : Ctr :=
 ⟨105, [.int .u64], [], [(.ret, ⟨[(0, .int .i64)], [], 1⟩)]⟩
noncomputable def la105o : List LA :=
 []
noncomputable def ja105o : List JA :=
 []
noncomputable def gam105o : List CF :=
 [⟨ctr117o, F117o⟩]
noncomputable def an105o : Anns :=
 ⟨gam105o, ja105o, []⟩
noncomputable def G105o : (p : Prim) → (Int × Unit) → Option ((Int × Unit)) :=
 fun p x =>
 opt.bnd ((Int × Unit)) _ (G117o p (x.1, ())) fun y24 =>
 opt.ret _ (y24.1, ())
noncomputable def F105o : Prim → Tup (ctr105o).scs → Option (STup (scss (ctr105o).outs)) :=
 fun p x => G105o p x
theorem eq105o (p : Prim) (x : Tup (ctr105o).scs) : bodyRun opt p (autoEnv Go.Proofs.Try.prog) (mkOrc opt p (autoEnv Go.Proofs.Try.prog) 400 (an105o) la105o) 400 ctr105o x = G105o p x := by kernel_rfl
theorem gok105o : GamOk Go.Proofs.Try.prog (gam105o) := by
  intro cf h
  simp only [gam105o, List.mem_cons, List.not_mem_nil, or_false] at h
  rcases h with rfl
  · exact ok117o
theorem enters105o : Enters Go.Proofs.Try.prog 105 := enters_auto (b := _) rfl (by kernel_rfl)
theorem ok105o : CtrOk Go.Proofs.Try.prog ctr105o (F105o std) := ctr_of_body (autoEnv_ok follows_mixed) (mkOrc_ok (autoEnv_ok follows_mixed) gok105o _) enters105o (fun x => eq105o std x)
noncomputable def ctr108o : Ctr :=
 ⟨108, [.full 0 2, .int .i64, .int .i64, .clo 87 [] []], [.row [(CK.int .i64), (CK.int .i64)]], [(.ret, ⟨[(0, .tuple [])], [.row [(CK.int .i64), (CK.int .i64)]], 1⟩)]⟩
noncomputable def la108o : List LA :=
 [⟨108, [false, true], 1, ⟨⟨[(0, .full 0 2), (1, .int .i64), (2, .int .i64), (3, .clo 87 [] []), (8, .int .i64)], [.row [(CK.int .i64), (CK.int .i64)]], 53⟩, [((AX.exit 0), ⟨[], [.row [(CK.int .i64), (CK.int .i64)]], 53⟩)]⟩⟩,
 ⟨108, [false, true, false, false, true, false, false, true], 1, ⟨⟨[(0, .full 0 2), (1, .int .i64), (2, .int .i64), (3, .clo 87 [] []), (8, .int .i64), (9, .int .i64)], [.row [(CK.int .i64), (CK.int .i64)]], 53⟩, [((AX.exit 2), ⟨[(0, .full 0 2), (1, .int .i64), (2, .int .i64), (3, .clo 87 [] []), (8, .int .i64)], [.row [(CK.int .i64), (CK.int .i64)]], 53⟩)]⟩⟩]
noncomputable def ja108o : List JA :=
 []
noncomputable def gam108o : List CF :=
 [⟨ctr87, F87⟩]
noncomputable def an108o : Anns :=
 ⟨gam108o, ja108o, []⟩
noncomputable def c108o_2 (it : It) (p : Prim) : (List (List (D)) × (Int × (Int × (Int × (Int × Unit))))) → Option ((List (List (D)) × (Int × (Int × (Int × (Int × Unit))))) ⊕ (List (List (D)) × (Int × (Int × (Int × Unit))))) :=
 fun s53 => opt.run _ (
 opt.ask _ (p.cmp .gtr s53.2.2.2.2.1 s53.2.1) (
 opt.need _ (bif (p.cmp .geq s53.2.2.2.2.1 (0 : Int)) then (p.cmp .lss s53.2.2.2.2.1 (p.ofNat (p.len s53.1))) else Bool.false) <|
 opt.need _ (p.rowOk s53.1 (p.add 0 (p.nat s53.2.2.2.2.1)) [(CK.int .i64), (CK.int .i64)]) <|
 opt.need _ (bif (p.cmp .geq (p.ar .sub .i64 s53.2.2.2.2.1 (1 : Int)) (0 : Int)) then (p.cmp .lss (p.ar .sub .i64 s53.2.2.2.2.1 (1 : Int)) (p.ofNat (p.len s53.1))) else Bool.false) <|
 opt.need _ (p.rowOk s53.1 (p.add 0 (p.nat (p.ar .sub .i64 s53.2.2.2.2.1 (1 : Int)))) [(CK.int .i64), (CK.int .i64)]) <|
 opt.bnd ((Int × Unit)) _ (g87 it p ((p.rdI s53.1 (p.add 0 (p.nat s53.2.2.2.2.1)) 0), ((p.rdI s53.1 (p.add 0 (p.nat s53.2.2.2.2.1)) 1), ((p.rdI s53.1 (p.add 0 (p.nat (p.ar .sub .i64 s53.2.2.2.2.1 (1 : Int)))) 0), ((p.rdI s53.1 (p.add 0 (p.nat (p.ar .sub .i64 s53.2.2.2.2.1 (1 : Int)))) 1), ()))))) fun y54 =>
 opt.ask _ (p.cmp .lss y54.1 (0 : Int)) (
 opt.need _ (bif (p.cmp .geq (p.ar .sub .i64 s53.2.2.2.2.1 (1 : Int)) (0 : Int)) then (p.cmp .lss (p.ar .sub .i64 s53.2.2.2.2.1 (1 : Int)) (p.ofNat (p.len s53.1))) else Bool.false) <|
 opt.need _ (p.rowOk s53.1 (p.add 0 (p.nat (p.ar .sub .i64 s53.2.2.2.2.1 (1 : Int)))) [(CK.int .i64), (CK.int .i64)]) <|
 opt.need _ (bif (p.cmp .geq s53.2.2.2.2.1 (0 : Int)) then (p.cmp .lss s53.2.2.2.2.1 (p.ofNat (p.len s53.1))) else Bool.false) <|
 opt.need _ (p.rowOk s53.1 (p.add 0 (p.nat s53.2.2.2.2.1)) [(CK.int .i64), (CK.int .i64)]) <|
 opt.need _ (bif (p.cmp .geq s53.2.2.2.2.1 (0 : Int)) then (p.cmp .lss s53.2.2.2.2.1 (p.ofNat (p.len s53.1))) else Bool.false) <|
 opt.need _ (p.rowOk s53.1 (p.add 0 (p.nat s53.2.2.2.2.1)) [(CK.int .i64), (CK.int .i64)]) <|
 opt.need _ (bif (p.cmp .geq (p.ar .sub .i64 s53.2.2.2.2.1 (1 : Int)) (0 : Int)) then (p.cmp .lss (p.ar .sub .i64 s53.2.2.2.2.1 (1 : Int)) (p.ofNat (p.len s53.1))) else Bool.false) <|
 opt.need _ (p.rowOk (p.set s53.1 (p.add 0 (p.nat s53.2.2.2.2.1)) [(D.int .i64 (p.rdI s53.1 (p.add 0 (p.nat (p.ar .sub .i64 s53.2.2.2.2.1 (1 : Int)))) 0)), (D.int .i64 (p.rdI s53.1 (p.add 0 (p.nat (p.ar .sub .i64 s53.2.2.2.2.1 (1 : Int)))) 1))]) (p.add 0 (p.nat (p.ar .sub .i64 s53.2.2.2.2.1 (1 : Int)))) [(CK.int .i64), (CK.int .i64)]) <|
 opt.need _ (p.eqN 0 0) <|
 opt.need _ (p.eqN (p.len s53.1) (p.len (p.set (p.set s53.1 (p.add 0 (p.nat s53.2.2.2.2.1)) [(D.int .i64 (p.rdI s53.1 (p.add 0 (p.nat (p.ar .sub .i64 s53.2.2.2.2.1 (1 : Int)))) 0)), (D.int .i64 (p.rdI s53.1 (p.add 0 (p.nat (p.ar .sub .i64 s53.2.2.2.2.1 (1 : Int)))) 1))]) (p.add 0 (p.nat (p.ar .sub .i64 s53.2.2.2.2.1 (1 : Int)))) [(D.int .i64 (p.rdI s53.1 (p.add 0 (p.nat s53.2.2.2.2.1)) 0)), (D.int .i64 (p.rdI s53.1 (p.add 0 (p.nat s53.2.2.2.2.1)) 1))]))) <|
 opt.need _ (p.eqN (p.len s53.1) (p.len (p.set (p.set s53.1 (p.add 0 (p.nat s53.2.2.2.2.1)) [(D.int .i64 (p.rdI s53.1 (p.add 0 (p.nat (p.ar .sub .i64 s53.2.2.2.2.1 (1 : Int)))) 0)), (D.int .i64 (p.rdI s53.1 (p.add 0 (p.nat (p.ar .sub .i64 s53.2.2.2.2.1 (1 : Int)))) 1))]) (p.add 0 (p.nat (p.ar .sub .i64 s53.2.2.2.2.1 (1 : Int)))) [(D.int .i64 (p.rdI s53.1 (p.add 0 (p.nat s53.2.2.2.2.1)) 0)), (D.int .i64 (p.rdI s53.1 (p.add 0 (p.nat s53.2.2.2.2.1)) 1))]))) <|
 opt.ret _ (Sum.inl ((p.set (p.set s53.1 (p.add 0 (p.nat s53.2.2.2.2.1)) [(D.int .i64 (p.rdI s53.1 (p.add 0 (p.nat (p.ar .sub .i64 s53.2.2.2.2.1 (1 : Int)))) 0)), (D.int .i64 (p.rdI s53.1 (p.add 0 (p.nat (p.ar .sub .i64 s53.2.2.2.2.1 (1 : Int)))) 1))]) (p.add 0 (p.nat (p.ar .sub .i64 s53.2.2.2.2.1 (1 : Int)))) [(D.int .i64 (p.rdI s53.1 (p.add 0 (p.nat s53.2.2.2.2.1)) 0)), (D.int .i64 (p.rdI s53.1 (p.add 0 (p.nat s53.2.2.2.2.1)) 1))]), (s53.2.1, (s53.2.2.1, (s53.2.2.2.1, ((p.ar .sub .i64 s53.2.2.2.2.1 (1 : Int)), ()))))))) (
 opt.need _ (p.eqN 0 0) <|
 opt.need _ (p.eqN (p.len s53.1) (p.len s53.1)) <|
 opt.need _ (p.eqN (p.len s53.1) (p.len s53.1)) <|
 opt.ret _ (Sum.inr (s53.1, (s53.2.1, (s53.2.2.1, (s53.2.2.2.1, ()))))))) (
 opt.need _ (p.eqN 0 0) <|
 opt.need _ (p.eqN (p.len s53.1) (p.len s53.1)) <|
 opt.need _ (p.eqN (p.len s53.1) (p.len s53.1)) <|
 opt.ret _ (Sum.inr (s53.1, (s53.2.1, (s53.2.2.1, (s53.2.2.2.1, ())))))))
noncomputable def c108o_1 (it : It) (p : Prim) : (List (List (D)) × (Int × (Int × (Int × Unit)))) → Option ((List (List (D)) × (Int × (Int × (Int × Unit)))) ⊕ (List (List (D)) × Unit)) :=
 fun s52 => opt.run _ (
 opt.ask _ (p.cmp .lss s52.2.2.2.1 s52.2.2.1) (
 opt.need _ (p.eqN 0 0) <|
 opt.need _ (p.eqN (p.len s52.1) (p.len s52.1)) <|
 opt.need _ (p.eqN (p.len s52.1) (p.len s52.1)) <|
 opt.bnd ((List (List (D)) × (Int × (Int × (Int × Unit))))) _ (
 it _ _ (c108o_2 it p) (s52.1, (s52.2.1, (s52.2.2.1, (s52.2.2.2.1, (s52.2.2.2.1, ())))))) fun y55 =>
 opt.need _ (p.eqN 0 0) <|
 opt.need _ (p.eqN (p.len y55.1) (p.len y55.1)) <|
 opt.need _ (p.eqN (p.len y55.1) (p.len y55.1)) <|
 opt.ret _ (Sum.inl (y55.1, (y55.2.1, (y55.2.2.1, ((p.ar .add .i64 y55.2.2.2.1 (1 : Int)), ())))))) (
 opt.ret _ (Sum.inr (s52.1, ()))))
noncomputable def g108o (it : It) : (p : Prim) → (List (List (D)) × (Int × (Int × Unit))) → Option ((List (List (D)) × Unit)) :=
 fun p x =>
 opt.need _ (p.eqN 0 0) <|
 opt.need _ (p.eqN (p.len x.1) (p.len x.1)) <|
 opt.need _ (p.eqN (p.len x.1) (p.len x.1)) <|
 opt.bnd ((List (List (D)) × Unit)) _ (
 it _ _ (c108o_1 it p) (x.1, (x.2.1, (x.2.2.1, ((p.ar .add .i64 x.2.1 (1 : Int)), ()))))) fun y56 =>
 opt.ret _ (y56.1, ())
noncomputable def G108o := g108o it0
noncomputable def F108o : Prim → Tup (ctr108o).scs → Option (STup (scss (ctr108o).outs)) :=
 fun p x => G108o p x
theorem eq108o (p : Prim) (x : Tup (ctr108o).scs) : bodyRun opt p (autoEnv Go.Proofs.Try.prog) (mkOrc opt p (autoEnv Go.Proofs.Try.prog) 400 (an108o) la108o) 400 ctr108o x = G108o p x := by kernel_rfl
theorem gok108o : GamOk Go.Proofs.Try.prog (gam108o) := by
  intro cf h
  simp only [gam108o, List.mem_cons, List.not_mem_nil, or_false] at h
  rcases h with rfl
  · exact ok87
theorem enters108o : Enters Go.Proofs.Try.prog 108 := enters_auto (b := _) rfl (by kernel_rfl)
theorem ok108o : CtrOk Go.Proofs.Try.prog ctr108o (F108o std) := ctr_of_body (autoEnv_ok follows_mixed) (mkOrc_ok (autoEnv_ok follows_mixed) gok108o _) enters108o (fun x => eq108o std x)
noncomputable def ctr104o : Ctr :=
 ⟨104, [.full 0 2, .int .i64, .int .i64, .int .i64, .clo 87 [] []], [.row [(CK.int .i64), (CK.int .i64)]], [(.ret, ⟨[(0, .tuple [])], [.row [(CK.int .i64), (CK.int .i64)]], 1⟩)]⟩
noncomputable def la104o : List LA :=
 [⟨104, [false, true, true], 1, ⟨⟨[(0, .full 0 2), (1, .int .i64), (2, .int .i64), (3, .int .i64), (4, .clo 87 [] []), (10, .bool), (11, .bool)], [.row [(CK.int .i64), (CK.int .i64)]], 148⟩, [(AX.ret, ⟨[], [.row [(CK.int .i64), (CK.int .i64)]], 148⟩)]⟩⟩]
noncomputable def ja104o : List JA :=
 []
noncomputable def gam104o : List CF :=
 [⟨ctr111o, F111o⟩, ⟨ctr110o, F110o⟩, ⟨ctr109o, F109o⟩, ⟨ctr108o, F108o⟩]
noncomputable def an104o : Anns :=
 ⟨gam104o, ja104o, []⟩
noncomputable def c104o_1 (it : It) (p : Prim) : (List (List (D)) × (Int × (Int × (Int × (Bool × (Bool × Unit)))))) → Option ((List (List (D)) × (Int × (Int × (Int × (Bool × (Bool × Unit)))))) ⊕ (List (List (D)) × Unit)) :=
 fun s64 => opt.run _ (
 opt.ask _ (p.cmp .leq (p.ar .sub .i64 s64.2.2.1 s64.2.1) (12 : Int)) (
 opt.need _ (p.eqN 0 0) <|
 opt.need _ (p.eqN (p.len s64.1) (p.len s64.1)) <|
 opt.need _ (p.eqN (p.len s64.1) (p.len s64.1)) <|
 opt.bnd ((List (List (D)) × Unit)) _ (g108o it p (s64.1, (s64.2.1, (s64.2.2.1, ())))) fun y65 =>
 opt.ret _ (Sum.inr (y65.1, ()))) (
 opt.ask _ (p.cmp .eql s64.2.2.2.1 (0 : Int)) (
 opt.need _ (p.eqN 0 0) <|
 opt.need _ (p.eqN (p.len s64.1) (p.len s64.1)) <|
 opt.need _ (p.eqN (p.len s64.1) (p.len s64.1)) <|
 opt.no _ 81) (
 opt.ask _ (bif s64.2.2.2.2.1 then Bool.false else Bool.true) (
 opt.need _ (p.eqN 0 0) <|
 opt.need _ (p.eqN (p.len s64.1) (p.len s64.1)) <|
 opt.need _ (p.eqN (p.len s64.1) (p.len s64.1)) <|
 opt.no _ 81) (
 opt.need _ (p.eqN 0 0) <|
 opt.need _ (p.eqN (p.len s64.1) (p.len s64.1)) <|
 opt.need _ (p.eqN (p.len s64.1) (p.len s64.1)) <|
 opt.no _ 81))))
noncomputable def g104o (it : It) : (p : Prim) → (List (List (D)) × (Int × (Int × (Int × Unit)))) → Option ((List (List (D)) × Unit)) :=
 fun p x =>
 opt.need _ (p.eqN 0 0) <|
 opt.need _ (p.eqN (p.len x.1) (p.len x.1)) <|
 opt.need _ (p.eqN (p.len x.1) (p.len x.1)) <|
 opt.bnd ((List (List (D)) × Unit)) _ (
 it _ _ (c104o_1 it p) (x.1, (x.2.1, (x.2.2.1, (x.2.2.2.1, (Bool.true, (Bool.true, ()))))))) fun y66 =>
 opt.ret _ (y66.1, ())
noncomputable def G104o := g104o it0
noncomputable def F104o : Prim → Tup (ctr104o).scs → Option (STup (scss (ctr104o).outs)) :=
 fun p x => G104o p x
theorem eq104o (p : Prim) (x : Tup (ctr104o).scs) : bodyRun opt p (autoEnv Go.Proofs.Try.prog) (mkOrc opt p (autoEnv Go.Proofs.Try.prog) 400 (an104o) la104o) 400 ctr104o x = G104o p x := by kernel_rfl
theorem gok104o : GamOk Go.Proofs.Try.prog (gam104o) := by
  intro cf h
  simp only [gam104o, List.mem_cons, List.not_mem_nil, or_false] at h
  rcases h with rfl | rfl | rfl | rfl
  · exact ok111o
  · exact ok110o
  · exact ok109o
  · exact ok108o
theorem enters104o : Enters Go.Proofs.Try.prog 104 := enters_auto (b := _) rfl (by kernel_rfl)
theorem ok104o : CtrOk Go.Proofs.Try.prog ctr104o (F104o std) := ctr_of_body (autoEnv_ok follows_mixed) (mkOrc_ok (autoEnv_ok follows_mixed) gok104o _) enters104o (fun x => eq104o std x)
noncomputable def ctr97o : Ctr :=
 ⟨97, [.full 0 2, .clo 87 [] []], [.row [(CK.int .i64), (CK.int .i64)]], [(.ret, ⟨[(0, .tuple [])], [.row [(CK.int .i64), (CK.int .i64)]], 1⟩)]⟩
noncomputable def la97o : List LA :=
 []
noncomputable def ja97o : List JA :=
 []
noncomputable def gam97o : List CF :=
 [⟨ctr104o, F104o⟩, ⟨ctr105o, F105o⟩]
noncomputable def an97o : Anns :=
 ⟨gam97o, ja97o, []⟩
noncomputable def g97o (it : It) : (p : Prim) → (List (List (D)) × Unit) → Option ((List (List (D)) × Unit)) :=
 fun p x =>
 opt.bnd ((Int × Unit)) _ (G105o p ((p.cvt .u64 (p.ofNat (p.len x.1))), ())) fun y71 =>
 opt.need _ (p.eqN 0 0) <|
 opt.need _ (p.eqN (p.len x.1) (p.len x.1)) <|
 opt.need _ (p.eqN (p.len x.1) (p.len x.1)) <|
 opt.bnd ((List (List (D)) × Unit)) _ (g104o it p (x.1, ((0 : Int), ((p.ofNat (p.len x.1)), (y71.1, ()))))) fun y72 =>
 opt.ret _ (y72.1, ())
noncomputable def G97o := g97o it0
noncomputable def F97o : Prim → Tup (ctr97o).scs → Option (STup (scss (ctr97o).outs)) :=
 fun p x => G97o p x
theorem eq97o (p : Prim) (x : Tup (ctr97o).scs) : bodyRun opt p (autoEnv Go.Proofs.Try.prog) (mkOrc opt p (autoEnv Go.Proofs.Try.prog) 400 (an97o) la97o) 400 ctr97o x = G97o p x := by kernel_rfl
theorem gok97o : GamOk Go.Proofs.Try.prog (gam97o) := by
  intro cf h
  simp only [gam97o, List.mem_cons, List.not_mem_nil, or_false] at h
  rcases h with rfl | rfl
  · exact ok104o
  · exact ok105o
theorem enters97o : Enters Go.Proofs.Try.prog 97 := enters_auto (b := _) rfl (by kernel_rfl)
theorem ok97o : CtrOk Go.Proofs.Try.prog ctr97o (F97o std) := ctr_of_body (autoEnv_ok follows_mixed) (mkOrc_ok (autoEnv_ok follows_mixed) gok97o _) enters97o (fun x => eq97o std x)
end Go.Am
end

section
set_option linter.unusedVariables false
set_option maxRecDepth 100000
set_option maxHeartbeats 0
namespace Go.Am
noncomputable def ctr109t : Ctr :=
 ⟨109, [.vec 0 2, .int .i64, .int .i64, .clo 98 [] []], [.row [(CK.int .i64), (CK.int .i64)]], []⟩
noncomputable def F109t : Prim → Tup (ctr109t).scs → Option (STup (scss (ctr109t).outs)) :=
 fun _ _ => none
theorem enters109t : Enters Go.Proofs.Try.prog 109 := enters_auto (b := _) rfl (by kernel_rfl)
theorem ok109t : CtrOk Go.Proofs.Try.prog ctr109t (F109t std) := ⟨enters109t, fun x y h => by cases h⟩
noncomputable def ctr110t : Ctr :=
 ⟨110, [.vec 0 2, .int .i64, .int .i64, .clo 98 [] []], [.row [(CK.int .i64), (CK.int .i64)]], []⟩
noncomputable def F110t : Prim → Tup (ctr110t).scs → Option (STup (scss (ctr110t).outs)) :=
 fun _ _ => none
theorem enters110t : Enters Go.Proofs.Try.prog 110 := enters_auto (b := _) rfl (by kernel_rfl)
theorem ok110t : CtrOk Go.Proofs.Try.prog ctr110t (F110t std) := ⟨enters110t, fun x y h => by cases h⟩
noncomputable def ctr111t : Ctr :=
 ⟨111, [.vec 0 2, .int .i64, .int .i64, .clo 98 [] []], [.row [(CK.int .i64), (CK.int .i64)]], []⟩
noncomputable def F111t : Prim → Tup (ctr111t).scs → Option (STup (scss (ctr111t).outs)) :=
 fun _ _ => none
theorem enters111t : Enters Go.Proofs.Try.prog 111 := enters_auto (b := _) rfl (by kernel_rfl)
theorem ok111t : CtrOk Go.Proofs.Try.prog ctr111t (F111t std) := ⟨enters111t, fun x y h => by cases h⟩
noncomputable def ctr112t : Ctr :=
 ⟨112, [.vec 0 2, .int .i64, .int .i64, .clo 98 [] []], [.row [(CK.int .i64), (CK.int .i64)]], []⟩
noncomputable def F112t : Prim → Tup (ctr112t).scs → Option (STup (scss (ctr112t).outs)) :=
 fun _ _ => none
theorem enters112t : Enters Go.Proofs.Try.prog 112 := enters_auto (b := _) rfl (by kernel_rfl)
theorem ok112t : CtrOk Go.Proofs.Try.prog ctr112t (F112t std) := ⟨enters112t, fun x y h => by cases h⟩
noncomputable def ctr113t : Ctr :=
 ⟨113, [.vec 0 2, .int .i64, .int .i64, .clo 98 [] []], [.row [(CK.int .i64), (CK.int .i64)]], []⟩
noncomputable def F113t : Prim → Tup (ctr113t).scs → Option (STup (scss (ctr113t).outs)) :=
 fun _ _ => none
theorem enters113t : Enters Go.Proofs.Try.prog 113 := enters_auto (b := _) rfl (by kernel_rfl)
theorem ok113t : CtrOk Go.Proofs.Try.prog ctr113t (F113t std) := ⟨enters113t, fun x y h => by cases h⟩
noncomputable def ctr114t : Ctr :=
 ⟨114, [.vec 0 2, .int .i64, .int .i64, .int .i64, .clo 98 [] []], [.row [(CK.int .i64), (CK.int .i64)]], []⟩
noncomputable def F114t : Prim → Tup (ctr114t).scs → Option (STup (scss (ctr114t).outs)) :=
 fun _ _ => none
theorem enters114t : Enters Go.Proofs.Try.prog 114 := enters_auto (b := _) rfl (by kernel_rfl)
theorem ok114t : CtrOk Go.Proofs.Try.prog ctr114t (F114t std) := ⟨enters114t, fun x y h => by cases h⟩
noncomputable def ctr115t : Ctr :=
 ⟨115, [.vec 0 2, .int .i64, .int .i64, .int .i64, .clo 98 [] []], [.row [(CK.int .i64), (CK.int .i64)]], []⟩
noncomputable def F115t : Prim → Tup (ctr115t).scs → Option (STup (scss (ctr115t).outs)) :=
 fun _ _ => none
theorem enters115t : Enters Go.Proofs.Try.prog 115 := enters_auto (b := _) rfl (by kernel_rfl)
theorem ok115t : CtrOk Go.Proofs.Try.prog ctr115t (F115t std) := ⟨enters115t, fun x y h => by cases h⟩
noncomputable def ctr117t : Ctr :=
 ⟨117, [.int .u64], [], [(.ret, ⟨[(0, .int .i64)], [], 1⟩)]⟩
noncomputable def la117t : List LA :=
 []
noncomputable def ja117t : List JA :=
 [⟨117, [true, false, true, true], 0, [(AX.normal, ⟨[(0, .int .u64), (2, .int .i64)], [], 25⟩)]⟩,
 ⟨117, [true, false, true], 0, [(AX.normal, ⟨[(0, .int .u64), (2, .int .i64)], [], 25⟩)]⟩,
 ⟨117, [true, false, true, true, true], 0, [(AX.normal, ⟨[(0, .int .u64), (2, .int .i64)], [], 25⟩)]⟩]
noncomputable def gam117t : List CF :=
 []
noncomputable def an117t : Anns :=
 ⟨gam117t, ja117t, []⟩
noncomputable def G117t : (p : Prim) → (Int × Unit) → Option ((Int × Unit)) :=
 fun p x =>
 opt.bnd ((Int × (Int × Unit))) _ (
 opt.run ((Int × (Int × Unit))) (
 opt.ask _ (p.cmp .geq x.1 (4294967296 : Int)) (
 opt.need _ (p.cmp .geq (32 : Int) (0 : Int)) <|
 opt.ret _ ((p.ar .shr .u64 x.1 (32 : Int)), ((32 : Int), ()))) (
 opt.ret _ (x.1, ((0 : Int), ()))))) fun y17 =>
 opt.bnd ((Int × (Int × Unit))) _ (
 opt.run ((Int × (Int × Unit))) (
 opt.ask _ (p.cmp .geq y17.1 (65536 : Int)) (
 opt.need _ (p.cmp .geq (16 : Int) (0 : Int)) <|
 opt.ret _ ((p.ar .shr .u64 y17.1 (16 : Int)), ((p.ar .add .i64 y17.2.1 (16 : Int)), ()))) (
 opt.ret _ (y17.1, (y17.2.1, ()))))) fun y18 =>
 opt.bnd ((Int × (Int × Unit))) _ (
 opt.run ((Int × (Int × Unit))) (
 opt.ask _ (p.cmp .geq y18.1 (256 : Int)) (
 opt.need _ (p.cmp .geq (8 : Int) (0 : Int)) <|
 opt.ret _ ((p.ar .shr .u64 y18.1 (8 : Int)), ((p.ar .add .i64 y18.2.1 (8 : Int)), ()))) (
 opt.ret _ (y18.1, (y18.2.1, ()))))) fun y19 =>
 opt.need _ (bif (p.cmp .geq (p.cvt .u8 y19.1) (0 : Int)) then (p.cmp .lss (p.cvt .u8 y19.1) (p.ofNat 256)) else Bool.false) <|
 opt.ret _ ((p.ar .add .i64 y19.2.1 (p.cvt .i64 (p.byte (ByteArray.mk #[0, 1, 2, 2, 3, 3, 3, 3, 4, 4, 4, 4, 4, 4, 4, 4, 5, 5, 5, 5, 5, 5, 5, 5, 5, 5, 5, 5, 5, 5, 5, 5, 6, 6, 6, 6, 6, 6, 6, 6, 6, 6, 6, 6, 6, 6, 6, 6, 6, 6, 6, 6, 6, 6, 6, 6, 6, 6, 6, 6, 6, 6, 6, 6, 7, 7, 7, 7, 7, 7, 7, 7, 7, 7, 7, 7, 7, 7, 7, 7, 7, 7, 7, 7, 7, 7, 7, 7, 7, 7, 7, 7, 7, 7, 7, 7, 7, 7, 7, 7, 7, 7, 7, 7, 7, 7, 7, 7, 7, 7, 7, 7, 7, 7, 7, 7, 7, 7, 7, 7, 7, 7, 7, 7, 7, 7, 7, 7, 8, 8, 8, 8, 8, 8, 8, 8, 8, 8, 8, 8, 8, 8, 8, 8, 8, 8, 8, 8, 8, 8, 8, 8, 8, 8, 8, 8, 8, 8, 8, 8, 8, 8, 8, 8, 8, 8, 8, 8, 8, 8, 8, 8, 8, 8, 8, 8, 8, 8, 8, 8, 8, 8, 8, 8, 8, 8, 8, 8, 8, 8, 8, 8, 8, 8, 8, 8, 8, 8, 8, 8, 8, 8, 8, 8, 8, 8, 8, 8, 8, 8, 8, 8, 8, 8, 8, 8, 8, 8, 8, 8, 8, 8, 8, 8, 8, 8, 8, 8, 8, 8, 8, 8, 8, 8, 8, 8, 8, 8, 8, 8, 8, 8, 8, 8, 8, 8, 8, 8, 8, 8, 8, 8, 8, 8, 8, 8]) (p.cvt .u8 y19.1)))), ())
noncomputable def F117t : Prim → Tup (ctr117t).scs → Option (STup (scss (ctr117t).outs)) :=
 fun p x => G117t p x
theorem eq117t (p : Prim) (x : Tup (ctr117t).scs) : bodyRun opt p (autoEnv Go.Proofs.Try.prog) (mkOrc opt p (autoEnv Go.Proofs.Try.prog) 400 (an117t) la117t) 400 ctr117t x = G117t p x := by kernel_rfl
theorem gok117t : GamOk Go.Proofs.Try.prog gam117t := fun cf h => by cases h
theorem enters117t : Enters Go.Proofs.Try.prog 117 := enters_auto (b := _) rfl (by kernel_rfl)
theorem ok117t : CtrOk Go.Proofs.Try.prog ctr117t (F117t std) := ctr_of_body (autoEnv_ok follows_mixed) (mkOrc_ok (autoEnv_ok follows_mixed) gok117t _) enters117t (fun x => eq117t std x)
noncomputable def ctr105t : Ctr :=
 ⟨105, [.int .u64], [], [(.ret, ⟨[(0, .int .i64)], [], 1⟩)]⟩
noncomputable def la105t : List LA :=
 []
noncomputable def ja105t : List JA :=
 []
noncomputable def gam105t : List CF :=
 [⟨ctr117t, F117t⟩]
noncomputable def an105t : Anns :=
 ⟨gam105t, ja105t, []⟩
noncomputable def G105t : (p : Prim) → (Int × Unit) → Option ((Int × Unit)) :=
 fun p x =>
 opt.bnd ((Int × Unit)) _ (G117t p (x.1, ())) fun y24 =>
 opt.ret _ (y24.1, ())
noncomputable def F105t : Prim → Tup (ctr105t).scs → Option (STup (scss (ctr105t).outs)) :=
 fun p x => G105t p x
theorem eq105t (p : Prim) (x : Tup (ctr105t).scs) : bodyRun opt p (autoEnv Go.Proofs.Try.prog) (mkOrc opt p (autoEnv Go.Proofs.Try.prog) 400 (an105t) la105t) 400 ctr105t x = G105t p x := by kernel_rfl
theorem gok105t : GamOk Go.Proofs.Try.prog (gam105t) := by
  intro cf h
  simp only [gam105t, List.mem_cons, List.not_mem_nil, or_false] at h
  rcases h with rfl
  · exact ok117t
theorem enters105t : Enters Go.Proofs.Try.prog 105 := enters_auto (b := _) rfl (by kernel_rfl)
theorem ok105t : CtrOk Go.Proofs.Try.prog ctr105t (F105t std) := ctr_of_body (autoEnv_ok follows_mixed) (mkOrc_ok (autoEnv_ok follows_mixed) gok105t _) enters105t (fun x => eq105t std x)
noncomputable def ctr108t : Ctr :=
 ⟨108, [.vec 0 2, .int .i64, .int .i64, .clo 98 [] []], [.row [(CK.int .i64), (CK.int .i64)]], [(.ret, ⟨[(0, .tuple [])], [.row [(CK.int .i64), (CK.int .i64)]], 1⟩)]⟩
noncomputable def la108t : List LA :=
 [⟨108, [false, true], 1, ⟨⟨[(0, .vec 0 2), (1, .int .i64), (2, .int .i64), (3, .clo 98 [] []), (8, .int .i64)], [.row [(CK.int .i64), (CK.int .i64)]], 53⟩, [((AX.exit 0), ⟨[], [.row [(CK.int .i64), (CK.int .i64)]], 53⟩)]⟩⟩,
 ⟨108, [false, true, false, false, true, false, false, true], 1, ⟨⟨[(0, .vec 0 2), (1, .int .i64), (2, .int .i64), (3, .clo 98 [] []), (8, .int .i64), (9, .int .i64)], [.row [(CK.int .i64), (CK.int .i64)]], 53⟩, [((AX.exit 2), ⟨[(0, .vec 0 2), (1, .int .i64), (2, .int .i64), (3, .clo 98 [] []), (8, .int .i64)], [.row [(CK.int .i64), (CK.int .i64)]], 53⟩)]⟩⟩]
noncomputable def ja108t : List JA :=
 []
noncomputable def gam108t : List CF :=
 [⟨ctr98, F98⟩]
noncomputable def an108t : Anns :=
 ⟨gam108t, ja108t, []⟩
noncomputable def b108t_2 (p : Prim) : (List (List (D)) × (Int × (Int × (Int × (Int × Unit))))) → Option ((List (List (D)) × (Int × (Int × (Int × (Int × Unit))))) ⊕ (List (List (D)) × (Int × (Int × (Int × Unit))))) :=
 fun s53 => opt.run _ (
 opt.ask _ (p.cmp .gtr s53.2.2.2.2.1 s53.2.1) (
 opt.need _ (bif (p.cmp .geq s53.2.2.2.2.1 (0 : Int)) then (p.cmp .lss s53.2.2.2.2.1 (p.ofNat (p.len s53.1))) else Bool.false) <|
 opt.need _ (p.rowOk s53.1 (p.add 0 (p.nat s53.2.2.2.2.1)) [(CK.int .i64), (CK.int .i64)]) <|
 opt.need _ (bif (p.cmp .geq (p.ar .sub .i64 s53.2.2.2.2.1 (1 : Int)) (0 : Int)) then (p.cmp .lss (p.ar .sub .i64 s53.2.2.2.2.1 (1 : Int)) (p.ofNat (p.len s53.1))) else Bool.false) <|
 opt.need _ (p.rowOk s53.1 (p.add 0 (p.nat (p.ar .sub .i64 s53.2.2.2.2.1 (1 : Int)))) [(CK.int .i64), (CK.int .i64)]) <|
 opt.bnd ((Int × Unit)) _ (G98 p ((p.rdI s53.1 (p.add 0 (p.nat s53.2.2.2.2.1)) 0), ((p.rdI s53.1 (p.add 0 (p.nat s53.2.2.2.2.1)) 1), ((p.rdI s53.1 (p.add 0 (p.nat (p.ar .sub .i64 s53.2.2.2.2.1 (1 : Int)))) 0), ((p.rdI s53.1 (p.add 0 (p.nat (p.ar .sub .i64 s53.2.2.2.2.1 (1 : Int)))) 1), ()))))) fun y54 =>
 opt.ask _ (p.cmp .lss y54.1 (0 : Int)) (
 opt.need _ (bif (p.cmp .geq (p.ar .sub .i64 s53.2.2.2.2.1 (1 : Int)) (0 : Int)) then (p.cmp .lss (p.ar .sub .i64 s53.2.2.2.2.1 (1 : Int)) (p.ofNat (p.len s53.1))) else Bool.false) <|
 opt.need _ (p.rowOk s53.1 (p.add 0 (p.nat (p.ar .sub .i64 s53.2.2.2.2.1 (1 : Int)))) [(CK.int .i64), (CK.int .i64)]) <|
 opt.need _ (bif (p.cmp .geq s53.2.2.2.2.1 (0 : Int)) then (p.cmp .lss s53.2.2.2.2.1 (p.ofNat (p.len s53.1))) else Bool.false) <|
 opt.need _ (p.rowOk s53.1 (p.add 0 (p.nat s53.2.2.2.2.1)) [(CK.int .i64), (CK.int .i64)]) <|
 opt.need _ (bif (p.cmp .geq s53.2.2.2.2.1 (0 : Int)) then (p.cmp .lss s53.2.2.2.2.1 (p.ofNat (p.len s53.1))) else Bool.false) <|
 opt.need _ (p.rowOk s53.1 (p.add 0 (p.nat s53.2.2.2.2.1)) [(CK.int .i64), (CK.int .i64)]) <|
 opt.need _ (bif (p.cmp .geq (p.ar .sub .i64 s53.2.2.2.2.1 (1 : Int)) (0 : Int)) then (p.cmp .lss (p.ar .sub .i64 s53.2.2.2.2.1 (1 : Int)) (p.ofNat (p.len s53.1))) else Bool.false) <|
 opt.need _ (p.rowOk (p.set s53.1 (p.add 0 (p.nat s53.2.2.2.2.1)) [(D.int .i64 (p.rdI s53.1 (p.add 0 (p.nat (p.ar .sub .i64 s53.2.2.2.2.1 (1 : Int)))) 0)), (D.int .i64 (p.rdI s53.1 (p.add 0 (p.nat (p.ar .sub .i64 s53.2.2.2.2.1 (1 : Int)))) 1))]) (p.add 0 (p.nat (p.ar .sub .i64 s53.2.2.2.2.1 (1 : Int)))) [(CK.int .i64), (CK.int .i64)]) <|
 opt.need _ (p.eqN 0 0) <|
 opt.need _ (p.eqN (p.len s53.1) (p.len (p.set (p.set s53.1 (p.add 0 (p.nat s53.2.2.2.2.1)) [(D.int .i64 (p.rdI s53.1 (p.add 0 (p.nat (p.ar .sub .i64 s53.2.2.2.2.1 (1 : Int)))) 0)), (D.int .i64 (p.rdI s53.1 (p.add 0 (p.nat (p.ar .sub .i64 s53.2.2.2.2.1 (1 : Int)))) 1))]) (p.add 0 (p.nat (p.ar .sub .i64 s53.2.2.2.2.1 (1 : Int)))) [(D.int .i64 (p.rdI s53.1 (p.add 0 (p.nat s53.2.2.2.2.1)) 0)), (D.int .i64 (p.rdI s53.1 (p.add 0 (p.nat s53.2.2.2.2.1)) 1))]))) <|
 opt.ret _ (Sum.inl ((p.set (p.set s53.1 (p.add 0 (p.nat s53.2.2.2.2.1)) [(D.int .i64 (p.rdI s53.1 (p.add 0 (p.nat (p.ar .sub .i64 s53.2.2.2.2.1 (1 : Int)))) 0)), (D.int .i64 (p.rdI s53.1 (p.add 0 (p.nat (p.ar .sub .i64 s53.2.2.2.2.1 (1 : Int)))) 1))]) (p.add 0 (p.nat (p.ar .sub .i64 s53.2.2.2.2.1 (1 : Int)))) [(D.int .i64 (p.rdI s53.1 (p.add 0 (p.nat s53.2.2.2.2.1)) 0)), (D.int .i64 (p.rdI s53.1 (p.add 0 (p.nat s53.2.2.2.2.1)) 1))]), (s53.2.1, (s53.2.2.1, (s53.2.2.2.1, ((p.ar .sub .i64 s53.2.2.2.2.1 (1 : Int)), ()))))))) (
 opt.need _ (p.eqN 0 0) <|
 opt.need _ (p.eqN (p.len s53.1) (p.len s53.1)) <|
 opt.ret _ (Sum.inr (s53.1, (s53.2.1, (s53.2.2.1, (s53.2.2.2.1, ()))))))) (
 opt.need _ (p.eqN 0 0) <|
 opt.need _ (p.eqN (p.len s53.1) (p.len s53.1)) <|
 opt.ret _ (Sum.inr (s53.1, (s53.2.1, (s53.2.2.1, (s53.2.2.2.1, ())))))))
noncomputable def c108t_1 (it : It) (p : Prim) : (List (List (D)) × (Int × (Int × (Int × Unit)))) → Option ((List (List (D)) × (Int × (Int × (Int × Unit)))) ⊕ (List (List (D)) × Unit)) :=
 fun s52 => opt.run _ (
 opt.ask _ (p.cmp .lss s52.2.2.2.1 s52.2.2.1) (
 opt.need _ (p.eqN 0 0) <|
 opt.need _ (p.eqN (p.len s52.1) (p.len s52.1)) <|
 opt.bnd ((List (List (D)) × (Int × (Int × (Int × Unit))))) _ (
 it _ _ (b108t_2 p) (s52.1, (s52.2.1, (s52.2.2.1, (s52.2.2.2.1, (s52.2.2.2.1, ())))))) fun y55 =>
 opt.need _ (p.eqN 0 0) <|
 opt.need _ (p.eqN (p.len y55.1) (p.len y55.1)) <|
 opt.ret _ (Sum.inl (y55.1, (y55.2.1, (y55.2.2.1, ((p.ar .add .i64 y55.2.2.2.1 (1 : Int)), ())))))) (
 opt.ret _ (Sum.inr (s52.1, ()))))
noncomputable def g108t (it : It) : (p : Prim) → (List (List (D)) × (Int × (Int × Unit))) → Option ((List (List (D)) × Unit)) :=
 fun p x =>
 opt.need _ (p.eqN 0 0) <|
 opt.need _ (p.eqN (p.len x.1) (p.len x.1)) <|
 opt.bnd ((List (List (D)) × Unit)) _ (
 it _ _ (c108t_1 it p) (x.1, (x.2.1, (x.2.2.1, ((p.ar .add .i64 x.2.1 (1 : Int)), ()))))) fun y56 =>
 opt.ret _ (y56.1, ())
noncomputable def G108t := g108t it0
noncomputable def F108t : Prim → Tup (ctr108t).scs → Option (STup (scss (ctr108t).outs)) :=
 fun p x => G108t p x
theorem eq108t (p : Prim) (x : Tup (ctr108t).scs) : bodyRun opt p (autoEnv Go.Proofs.Try.prog) (mkOrc opt p (autoEnv Go.Proofs.Try.prog) 400 (an108t) la108t) 400 ctr108t x = G108t p x := by kernel_rfl
theorem gok108t : GamOk Go.Proofs.Try.prog (gam108t) := by
  intro cf h
  simp only [gam108t, List.mem_cons, List.not_mem_nil, or_false] at h
  rcases h with rfl
  · exact ok98
theorem enters108t : Enters Go.Proofs.Try.prog 108 := enters_auto (b := _) rfl (by kernel_rfl)
theorem ok108t : CtrOk Go.Proofs.Try.prog ctr108t (F108t std) := ctr_of_body (autoEnv_ok follows_mixed) (mkOrc_ok (autoEnv_ok follows_mixed) gok108t _) enters108t (fun x => eq108t std x)
noncomputable def ctr104t : Ctr :=
 ⟨104, [.vec 0 2, .int .i64, .int .i64, .int .i64, .clo 98 [] []], [.row [(CK.int .i64), (CK.int .i64)]], [(.ret, ⟨[(0, .tuple [])], [.row [(CK.int .i64), (CK.int .i64)]], 1⟩)]⟩
noncomputable def la104t : List LA :=
 [⟨104, [false, true, true], 1, ⟨⟨[(0, .vec 0 2), (1, .int .i64), (2, .int .i64), (3, .int .i64), (4, .clo 98 [] []), (10, .bool), (11, .bool)], [.row [(CK.int .i64), (CK.int .i64)]], 148⟩, [(AX.ret, ⟨[], [.row [(CK.int .i64), (CK.int .i64)]], 148⟩)]⟩⟩]
noncomputable def ja104t : List JA :=
 []
noncomputable def gam104t : List CF :=
 [⟨ctr111t, F111t⟩, ⟨ctr110t, F110t⟩, ⟨ctr109t, F109t⟩, ⟨ctr108t, F108t⟩]
noncomputable def an104t : Anns :=
 ⟨gam104t, ja104t, []⟩
noncomputable def c104t_1 (it : It) (p : Prim) : (List (List (D)) × (Int × (Int × (Int × (Bool × (Bool × Unit)))))) → Option ((List (List (D)) × (Int × (Int × (Int × (Bool × (Bool × Unit)))))) ⊕ (List (List (D)) × Unit)) :=
 fun s64 => opt.run _ (
 opt.ask _ (p.cmp .leq (p.ar .sub .i64 s64.2.2.1 s64.2.1) (12 : Int)) (
 opt.need _ (p.eqN 0 0) <|
 opt.need _ (p.eqN (p.len s64.1) (p.len s64.1)) <|
 opt.bnd ((List (List (D)) × Unit)) _ (g108t it p (s64.1, (s64.2.1, (s64.2.2.1, ())))) fun y65 =>
 opt.ret _ (Sum.inr (y65.1, ()))) (
 opt.ask _ (p.cmp .eql s64.2.2.2.1 (0 : Int)) (
 opt.need _ (p.eqN 0 0) <|
 opt.need _ (p.eqN (p.len s64.1) (p.len s64.1)) <|
 opt.no _ 81) (
 opt.ask _ (bif s64.2.2.2.2.1 then Bool.false else Bool.true) (
 opt.need _ (p.eqN 0 0) <|
 opt.need _ (p.eqN (p.len s64.1) (p.len s64.1)) <|
 opt.no _ 81) (
 opt.need _ (p.eqN 0 0) <|
 opt.need _ (p.eqN (p.len s64.1) (p.len s64.1)) <|
 opt.no _ 81))))
noncomputable def g104t (it : It) : (p : Prim) → (List (List (D)) × (Int × (Int × (Int × Unit)))) → Option ((List (List (D)) × Unit)) :=
 fun p x =>
 opt.need _ (p.eqN 0 0) <|
 opt.need _ (p.eqN (p.len x.1) (p.len x.1)) <|
 opt.bnd ((List (List (D)) × Unit)) _ (
 it _ _ (c104t_1 it p) (x.1, (x.2.1, (x.2.2.1, (x.2.2.2.1, (Bool.true, (Bool.true, ()))))))) fun y66 =>
 opt.ret _ (y66.1, ())
noncomputable def G104t := g104t it0
noncomputable def F104t : Prim → Tup (ctr104t).scs → Option (STup (scss (ctr104t).outs)) :=
 fun p x => G104t p x
theorem eq104t (p : Prim) (x : Tup (ctr104t).scs) : bodyRun opt p (autoEnv Go.Proofs.Try.prog) (mkOrc opt p (autoEnv Go.Proofs.Try.prog) 400 (an104t) la104t) 400 ctr104t x = G104t p x := by kernel_rfl
theorem gok104t : GamOk Go.Proofs.Try.prog (gam104t) := by
  intro cf h
  simp only [gam104t, List.mem_cons, List.not_mem_nil, or_false] at h
  rcases h with rfl | rfl | rfl | rfl
  · exact ok111t
  · exact ok110t
  · exact ok109t
  · exact ok108t
theorem enters104t : Enters Go.Proofs.Try.prog 104 := enters_auto (b := _) rfl (by kernel_rfl)
theorem ok104t : CtrOk Go.Proofs.Try.prog ctr104t (F104t std) := ctr_of_body (autoEnv_ok follows_mixed) (mkOrc_ok (autoEnv_ok follows_mixed) gok104t _) enters104t (fun x => eq104t std x)
noncomputable def ctr97t : Ctr :=
 ⟨97, [.vec 0 2, .clo 98 [] []], [.row [(CK.int .i64), (CK.int .i64)]], [(.ret, ⟨[(0, .tuple [])], [.row [(CK.int .i64), (CK.int .i64)]], 1⟩)]⟩
noncomputable def la97t : List LA :=
 []
noncomputable def ja97t : List JA :=
 []
noncomputable def gam97t : List CF :=
 [⟨ctr104t, F104t⟩, ⟨ctr105t, F105t⟩]
noncomputable def an97t : Anns :=
 ⟨gam97t, ja97t, []⟩
noncomputable def g97t (it : It) : (p : Prim) → (List (List (D)) × Unit) → Option ((List (List (D)) × Unit)) :=
 fun p x =>
 opt.bnd ((Int × Unit)) _ (G105t p ((p.cvt .u64 (p.ofNat (p.len x.1))), ())) fun y71 =>
 opt.need _ (p.eqN 0 0) <|
 opt.need _ (p.eqN (p.len x.1) (p.len x.1)) <|
 opt.bnd ((List (List (D)) × Unit)) _ (g104t it p (x.1, ((0 : Int), ((p.ofNat (p.len x.1)), (y71.1, ()))))) fun y72 =>
 opt.ret _ (y72.1, ())
noncomputable def G97t := g97t it0
noncomputable def F97t : Prim → Tup (ctr97t).scs → Option (STup (scss (ctr97t).outs)) :=
 fun p x => G97t p x
theorem eq97t (p : Prim) (x : Tup (ctr97t).scs) : bodyRun opt p (autoEnv Go.Proofs.Try.prog) (mkOrc opt p (autoEnv Go.Proofs.Try.prog) 400 (an97t) la97t) 400 ctr97t x = G97t p x := by kernel_rfl
theorem gok97t : GamOk Go.Proofs.Try.prog (gam97t) := by
  intro cf h
  simp only [gam97t, List.mem_cons, List.not_mem_nil, or_false] at h
  rcases h with rfl | rfl
  · exact ok104t
  · exact ok105t
theorem enters97t : Enters Go.Proofs.Try.prog 97 := enters_auto (b := _) rfl (by kernel_rfl)
theorem ok97t : CtrOk Go.Proofs.Try.prog ctr97t (F97t std) := ctr_of_body (autoEnv_ok follows_mixed) (mkOrc_ok (autoEnv_ok follows_mixed) gok97t _) enters97t (fun x => eq97t std x)
end Go.Am
end

section
set_option linter.unusedVariables false
set_option maxRecDepth 100000
set_option maxHeartbeats 0
namespace Go.Am
noncomputable def ctr88 : Ctr :=
 ⟨88, [.list 2], [], [(.ret, ⟨[(0, .slc 0 2)], [.row [(CK.int .i64), (CK.int .i64)]], 1⟩)]⟩
noncomputable def la88 : List LA :=
 [⟨88, [false, true, false, true, true], 0, ⟨⟨[(3, .vec 0 2), (6, .list 2), (7, .int .i64), (8, .int .i64)], [.row [(CK.int .i64), (CK.int .i64)]], 61⟩, [((AX.exit 0), ⟨[(3, .vec 0 2)], [.row [(CK.int .i64), (CK.int .i64)]], 61⟩)]⟩⟩,
 ⟨88, [false, false, true, false, false, true, true, false, false, true, false, true, true], 0, ⟨⟨[(3, .sl 0 2), (5, .bptr 1 0), (6, .list 2), (7, .int .i64), (8, .int .i64)], [.row [(CK.int .i64), (CK.int .i64)], .box [.int .i64, .int .i64]], 61⟩, [((AX.exit 2), ⟨[(3, .sl 0 2), (5, .bptr 1 0), (6, .list 2), (7, .int .i64), (8, .int .i64)], [.row [(CK.int .i64), (CK.int .i64)], .box [.int .i64, .int .i64]], 61⟩)]⟩⟩]
noncomputable def ja88 : List JA :=
 []
noncomputable def gam88 : List CF :=
 []
noncomputable def an88 : Anns :=
 ⟨gam88, ja88, []⟩
noncomputable def b88_2 (p : Prim) : (List (List (D)) × (Int × (Int × (Nat × (Nat × (List (List (D)) × (Int × (Int × Unit)))))))) → Option ((List (List (D)) × (Int × (Int × (Nat × (Nat × (List (List (D)) × (Int × (Int × Unit)))))))) ⊕ (List (List (D)) × (Int × (Int × (Nat × (Nat × (List (List (D)) × (Int × (Int × Unit))))))))) :=
 fun s34 => opt.run _ (
 opt.ask _ (p.cmp .gtr (p.ofNat s34.2.2.2.2.1) (1 : Int)) (
 opt.need _ (bif (p.cmp .geq (p.ar .sub .i64 (p.ofNat s34.2.2.2.2.1) (1 : Int)) (0 : Int)) then (p.cmp .lss (p.ar .sub .i64 (p.ofNat s34.2.2.2.2.1) (1 : Int)) (p.ofNat s34.2.2.2.2.1)) else Bool.false) <|
 opt.need _ (p.rowOk s34.1 (p.add s34.2.2.2.1 (p.nat (p.ar .sub .i64 (p.ofNat s34.2.2.2.2.1) (1 : Int)))) [(CK.int .i64), (CK.int .i64)]) <|
 opt.need _ (bif (p.cmp .geq (p.ar .sub .i64 (p.ofNat s34.2.2.2.2.1) (2 : Int)) (0 : Int)) then (p.cmp .lss (p.ar .sub .i64 (p.ofNat s34.2.2.2.2.1) (2 : Int)) (p.ofNat s34.2.2.2.2.1)) else Bool.false) <|
 opt.need _ (p.rowOk s34.1 (p.add s34.2.2.2.1 (p.nat (p.ar .sub .i64 (p.ofNat s34.2.2.2.2.1) (2 : Int)))) [(CK.int .i64), (CK.int .i64)]) <|
 opt.need _ (bif (p.cmp .geq (p.ar .sub .i64 (p.ofNat s34.2.2.2.2.1) (2 : Int)) (0 : Int)) then (p.cmp .lss (p.ar .sub .i64 (p.ofNat s34.2.2.2.2.1) (2 : Int)) (p.ofNat s34.2.2.2.2.1)) else Bool.false) <|
 opt.need _ (p.rowOk s34.1 (p.add s34.2.2.2.1 (p.nat (p.ar .sub .i64 (p.ofNat s34.2.2.2.2.1) (2 : Int)))) [(CK.int .i64), (CK.int .i64)]) <|
 opt.ask _ (p.cmp .leq (p.ar .sub .i64 (p.ar .mul .i64 (p.ar .sub .i64 (p.rdI s34.1 (p.add s34.2.2.2.1 (p.nat (p.ar .sub .i64 (p.ofNat s34.2.2.2.2.1) (1 : Int)))) 0) (p.rdI s34.1 (p.add s34.2.2.2.1 (p.nat (p.ar .sub .i64 (p.ofNat s34.2.2.2.2.1) (2 : Int)))) 0)) (p.ar .sub .i64 s34.2.2.1 (p.rdI s34.1 (p.add s34.2.2.2.1 (p.nat (p.ar .sub .i64 (p.ofNat s34.2.2.2.2.1) (2 : Int)))) 1))) (p.ar .mul .i64 (p.ar .sub .i64 (p.rdI s34.1 (p.add s34.2.2.2.1 (p.nat (p.ar .sub .i64 (p.ofNat s34.2.2.2.2.1) (1 : Int)))) 1) (p.rdI s34.1 (p.add s34.2.2.2.1 (p.nat (p.ar .sub .i64 (p.ofNat s34.2.2.2.2.1) (2 : Int)))) 1)) (p.ar .sub .i64 s34.2.1 (p.rdI s34.1 (p.add s34.2.2.2.1 (p.nat (p.ar .sub .i64 (p.ofNat s34.2.2.2.2.1) (2 : Int)))) 0)))) (0 : Int)) (
 opt.need _ (p.and (p.cmp .geq (0 : Int) (0 : Int)) (p.and (p.cmp .leq (0 : Int) (p.ar .sub .i64 (p.ofNat s34.2.2.2.2.1) (1 : Int))) (p.and (p.cmp .leq (p.ar .sub .i64 (p.ofNat s34.2.2.2.2.1) (1 : Int)) (p.ar .sub .i64 (p.ofNat s34.2.2.2.2.1) (1 : Int))) (p.cmp .leq (p.ar .sub .i64 (p.ofNat s34.2.2.2.2.1) (1 : Int)) (p.ofNat s34.2.2.2.2.1))))) <|
 opt.need _ (p.leN (p.add (p.add s34.2.2.2.1 (p.nat (0 : Int))) (p.sub (p.nat (p.ar .sub .i64 (p.ofNat s34.2.2.2.2.1) (1 : Int))) (p.nat (0 : Int)))) (p.len s34.1)) <|
 opt.ret _ (Sum.inl (s34.1, (s34.2.1, (s34.2.2.1, ((p.add s34.2.2.2.1 (p.nat (0 : Int))), ((p.sub (p.nat (p.ar .sub .i64 (p.ofNat s34.2.2.2.2.1) (1 : Int))) (p.nat (0 : Int))), (s34.2.2.2.2.2.1, (s34.2.2.2.2.2.2.1, (s34.2.2.2.2.2.2.2.1, ())))))))))) (
 opt.ret _ (Sum.inr (s34.1, (s34.2.1, (s34.2.2.1, (s34.2.2.2.1, (s34.2.2.2.2.1, (s34.2.2.2.2.2.1, (s34.2.2.2.2.2.2.1, (s34.2.2.2.2.2.2.2.1, ()))))))))))) (
 opt.ret _ (Sum.inr (s34.1, (s34.2.1, (s34.2.2.1, (s34.2.2.2.1, (s34.2.2.2.2.1, (s34.2.2.2.2.2.1, (s34.2.2.2.2.2.2.1, (s34.2.2.2.2.2.2.2.1, ())))))))))))
noncomputable def c88_1 (it : It) (p : Prim) : (List (List (D)) × (List (List (D)) × (Int × (Int × Unit)))) → Option ((List (List (D)) × (List (List (D)) × (Int × (Int × Unit)))) ⊕ (List (List (D)) × Unit)) :=
 fun s33 => opt.run _ (
 opt.ask _ (p.cmp .lss s33.2.2.2.1 s33.2.2.1) (
 opt.need _ (p.rowOk s33.2.1 (p.nat s33.2.2.2.1) [(CK.int .i64), (CK.int .i64)]) <|
 opt.need _ (p.cmp .geq s33.2.2.2.1 (0 : Int)) <|
 opt.bnd ((List (List (D)) × (Int × (Int × (Nat × (Nat × (List (List (D)) × (Int × (Int × Unit))))))))) _ (
 it _ _ (b88_2 p) (s33.1, ((p.rdI s33.2.1 (p.nat s33.2.2.2.1) 0), ((p.rdI s33.2.1 (p.nat s33.2.2.2.1) 1), (0, ((p.len s33.1), (s33.2.1, (s33.2.2.1, (s33.2.2.2.1, ()))))))))) fun y35 =>
 opt.need _ (p.and (p.leN (p.add 0 1) (p.len [[(D.int .i64 y35.2.1), (D.int .i64 y35.2.2.1)]])) (p.and (p.leN (p.add y35.2.2.2.1 y35.2.2.2.2.1) (p.len y35.1)) (p.and (p.leN 1 1) (p.leN (p.add y35.2.2.2.2.1 1) 1000000)))) <|
 opt.need _ (p.eqN 0 0) <|
 opt.need _ (p.eqN (p.add y35.2.2.2.2.1 1) (p.len (p.app (p.cut y35.1 y35.2.2.2.1 y35.2.2.2.2.1) (p.cut [[(D.int .i64 y35.2.1), (D.int .i64 y35.2.2.1)]] 0 1)))) <|
 opt.ret _ (Sum.inl ((p.app (p.cut y35.1 y35.2.2.2.1 y35.2.2.2.2.1) (p.cut [[(D.int .i64 y35.2.1), (D.int .i64 y35.2.2.1)]] 0 1)), (y35.2.2.2.2.2.1, (y35.2.2.2.2.2.2.1, ((p.ar .add .i64 y35.2.2.2.2.2.2.2.1 (1 : Int)), ())))))) (
 opt.need _ (p.eqN 0 0) <|
 opt.need _ (p.eqN (p.len s33.1) (p.len s33.1)) <|
 opt.ret _ (Sum.inr (s33.1, ()))))
noncomputable def g88 (it : It) : (p : Prim) → (List (List (D)) × Unit) → Option ((List (List (D)) × (Nat × (Nat × (Nat × Unit))))) :=
 fun p x =>
 opt.bnd ((List (List (D)) × Unit)) _ (
 it _ _ (c88_1 it p) ([], (x.1, ((p.ofNat (p.len x.1)), ((0 : Int), ()))))) fun y36 =>
 opt.need _ (p.and (p.cmp .geq (0 : Int) (0 : Int)) (p.and (p.cmp .leq (0 : Int) (p.ar .sub .i64 (p.ofNat (p.len y36.1)) (1 : Int))) (p.and (p.cmp .leq (p.ar .sub .i64 (p.ofNat (p.len y36.1)) (1 : Int)) (p.ar .sub .i64 (p.ofNat (p.len y36.1)) (1 : Int))) (p.cmp .leq (p.ar .sub .i64 (p.ofNat (p.len y36.1)) (1 : Int)) (p.ofNat (p.len y36.1)))))) <|
 opt.ret _ (y36.1, ((p.add 0 (p.nat (0 : Int))), ((p.sub (p.nat (p.ar .sub .i64 (p.ofNat (p.len y36.1)) (1 : Int))) (p.nat (0 : Int))), ((p.sub (p.nat (p.ar .sub .i64 (p.ofNat (p.len y36.1)) (1 : Int))) (p.nat (0 : Int))), ()))))
noncomputable def G88 := g88 it0
noncomputable def F88 : Prim → Tup (ctr88).scs → Option (STup (scss (ctr88).outs)) :=
 fun p x => G88 p x
theorem eq88 (p : Prim) (x : Tup (ctr88).scs) : bodyRun opt p (autoEnv Go.Proofs.Try.prog) (mkOrc opt p (autoEnv Go.Proofs.Try.prog) 400 (an88) la88) 400 ctr88 x = G88 p x := by kernel_rfl
theorem gok88 : GamOk Go.Proofs.Try.prog gam88 := fun cf h => by cases h
theorem enters88 : Enters Go.Proofs.Try.prog 88 := enters_auto (b := _) rfl (by kernel_rfl)
theorem ok88 : CtrOk Go.Proofs.Try.prog ctr88 (F88 std) := ctr_of_body (autoEnv_ok follows_mixed) (mkOrc_ok (autoEnv_ok follows_mixed) gok88 _) enters88 (fun x => eq88 std x)
noncomputable def ctr101 : Ctr :=
 ⟨101, [.slc 0 2], [.row [(CK.int .i64), (CK.int .i64)]], [(.ret, ⟨[(0, .slc 0 2)], [.row [(CK.int .i64), (CK.int .i64)]], 1⟩)]⟩
noncomputable def la101 : List LA :=
 [⟨101, [false, true, false, true, true], 1, ⟨⟨[(0, .slc 0 2), (3, .int .i64)], [.row [(CK.int .i64), (CK.int .i64)]], 61⟩, [((AX.exit 0), ⟨[(0, .slc 0 2)], [.row [(CK.int .i64), (CK.int .i64)]], 61⟩)]⟩⟩,
 ⟨101, [false, true, false, true, false, true, false, false, true, false, false, true, false, true, true], 1, ⟨⟨[(0, .slc 0 2), (3, .int .i64), (4, .slc 0 2), (5, .int .i64)], [.row [(CK.int .i64), (CK.int .i64)]], 61⟩, [((AX.exit 2), ⟨[(0, .slc 0 2), (3, .int .i64)], [.row [(CK.int .i64), (CK.int .i64)]], 61⟩)]⟩⟩]
noncomputable def ja101 : List JA :=
 [⟨101, [true, false, false, true, false, false, true, false, true, false, true, false, false, true, false, false, true, false, true, true], 1, [(AX.normal, ⟨[(0, .slc 0 2), (3, .int .i64), (4, .slc 0 2), (5, .int .i64)], [.row [(CK.int .i64), (CK.int .i64)]], 61⟩)]⟩]
noncomputable def gam101 : List CF :=
 []
noncomputable def an101 : Anns :=
 ⟨gam101, ja101, []⟩
noncomputable def b101_2 (p : Prim) : (List (List (D)) × (Nat × (Nat × (Nat × (Int × (Nat × (Nat × (Nat × (Int × Unit))))))))) → Option ((List (List (D)) × (Nat × (Nat × (Nat × (Int × (Nat × (Nat × (Nat × (Int × Unit))))))))) ⊕ (List (List (D)) × (Nat × (Nat × (Nat × (Int × Unit)))))) :=
 fun s63 => opt.run _ (
 opt.ask _ (p.cmp .lss s63.2.2.2.2.2.2.2.2.1 (p.ofNat s63.2.2.2.2.2.2.1)) (
 opt.need _ (bif (p.cmp .geq s63.2.2.2.2.2.2.2.2.1 (0 : Int)) then (p.cmp .lss s63.2.2.2.2.2.2.2.2.1 (p.ofNat s63.2.2.2.2.2.2.1)) else Bool.false) <|
 opt.need _ (p.rowOk s63.1 (p.add s63.2.2.2.2.2.1 (p.nat s63.2.2.2.2.2.2.2.2.1)) [(CK.int .i64), (CK.int .i64)]) <|
 opt.need _ (bif (p.cmp .geq (p.ar .sub .i64 s63.2.2.2.2.2.2.2.2.1 (1 : Int)) (0 : Int)) then (p.cmp .lss (p.ar .sub .i64 s63.2.2.2.2.2.2.2.2.1 (1 : Int)) (p.ofNat s63.2.2.2.2.2.2.1)) else Bool.false) <|
 opt.need _ (p.rowOk s63.1 (p.add s63.2.2.2.2.2.1 (p.nat (p.ar .sub .i64 s63.2.2.2.2.2.2.2.2.1 (1 : Int)))) [(CK.int .i64), (CK.int .i64)]) <|
 opt.bnd ((List (List (D)) × (Nat × (Nat × (Nat × (Int × (Nat × (Nat × (Nat × (Int × Unit)))))))))) _ (
 opt.run ((List (List (D)) × (Nat × (Nat × (Nat × (Int × (Nat × (Nat × (Nat × (Int × Unit)))))))))) (
 opt.ask _ (bif (bif (p.cmp .eql (p.rdI s63.1 (p.add s63.2.2.2.2.2.1 (p.nat s63.2.2.2.2.2.2.2.2.1)) 0) (p.rdI s63.1 (p.add s63.2.2.2.2.2.1 (p.nat (p.ar .sub .i64 s63.2.2.2.2.2.2.2.2.1 (1 : Int)))) 0)) then (bif (p.cmp .eql (p.rdI s63.1 (p.add s63.2.2.2.2.2.1 (p.nat s63.2.2.2.2.2.2.2.2.1)) 1) (p.rdI s63.1 (p.add s63.2.2.2.2.2.1 (p.nat (p.ar .sub .i64 s63.2.2.2.2.2.2.2.2.1 (1 : Int)))) 1)) then Bool.true else Bool.false) else Bool.false) then Bool.false else Bool.true) (
 opt.need _ (bif (p.cmp .geq s63.2.2.2.2.2.2.2.2.1 (0 : Int)) then (p.cmp .lss s63.2.2.2.2.2.2.2.2.1 (p.ofNat s63.2.2.2.2.2.2.1)) else Bool.false) <|
 opt.need _ (p.rowOk s63.1 (p.add s63.2.2.2.2.2.1 (p.nat s63.2.2.2.2.2.2.2.2.1)) [(CK.int .i64), (CK.int .i64)]) <|
 opt.need _ (bif (p.cmp .geq s63.2.2.2.2.1 (0 : Int)) then (p.cmp .lss s63.2.2.2.2.1 (p.ofNat s63.2.2.1)) else Bool.false) <|
 opt.need _ (p.rowOk s63.1 (p.add s63.2.1 (p.nat s63.2.2.2.2.1)) [(CK.int .i64), (CK.int .i64)]) <|
 opt.ret _ ((p.set s63.1 (p.add s63.2.1 (p.nat s63.2.2.2.2.1)) [(D.int .i64 (p.rdI s63.1 (p.add s63.2.2.2.2.2.1 (p.nat s63.2.2.2.2.2.2.2.2.1)) 0)), (D.int .i64 (p.rdI s63.1 (p.add s63.2.2.2.2.2.1 (p.nat s63.2.2.2.2.2.2.2.2.1)) 1))]), (s63.2.1, (s63.2.2.1, (s63.2.2.2.1, ((p.ar .add .i64 s63.2.2.2.2.1 (1 : Int)), (s63.2.2.2.2.2.1, (s63.2.2.2.2.2.2.1, (s63.2.2.2.2.2.2.2.1, (s63.2.2.2.2.2.2.2.2.1, ())))))))))) (
 opt.ret _ (s63.1, (s63.2.1, (s63.2.2.1, (s63.2.2.2.1, (s63.2.2.2.2.1, (s63.2.2.2.2.2.1, (s63.2.2.2.2.2.2.1, (s63.2.2.2.2.2.2.2.1, (s63.2.2.2.2.2.2.2.2.1, ())))))))))))) fun y64 =>
 opt.ret _ (Sum.inl (y64.1, (y64.2.1, (y64.2.2.1, (y64.2.2.2.1, (y64.2.2.2.2.1, (y64.2.2.2.2.2.1, (y64.2.2.2.2.2.2.1, (y64.2.2.2.2.2.2.2.1, ((p.ar .add .i64 y64.2.2.2.2.2.2.2.2.1 (1 : Int)), ()))))))))))) (
 opt.ret _ (Sum.inr (s63.1, (s63.2.1, (s63.2.2.1, (s63.2.2.2.1, (s63.2.2.2.2.1, ()))))))))
noncomputable def c101_1 (it : It) (p : Prim) : (List (List (D)) × (Nat × (Nat × (Nat × (Int × Unit))))) → Option ((List (List (D)) × (Nat × (Nat × (Nat × (Int × Unit))))) ⊕ (List (List (D)) × (Nat × (Nat × (Nat × Unit))))) :=
 fun s62 => opt.run _ (
 opt.ask _ (p.cmp .lss s62.2.2.2.2.1 (p.ofNat s62.2.2.1)) (
 opt.need _ (bif (p.cmp .geq s62.2.2.2.2.1 (0 : Int)) then (p.cmp .lss s62.2.2.2.2.1 (p.ofNat s62.2.2.1)) else Bool.false) <|
 opt.need _ (p.rowOk s62.1 (p.add s62.2.1 (p.nat s62.2.2.2.2.1)) [(CK.int .i64), (CK.int .i64)]) <|
 opt.need _ (bif (p.cmp .geq (p.ar .sub .i64 s62.2.2.2.2.1 (1 : Int)) (0 : Int)) then (p.cmp .lss (p.ar .sub .i64 s62.2.2.2.2.1 (1 : Int)) (p.ofNat s62.2.2.1)) else Bool.false) <|
 opt.need _ (p.rowOk s62.1 (p.add s62.2.1 (p.nat (p.ar .sub .i64 s62.2.2.2.2.1 (1 : Int)))) [(CK.int .i64), (CK.int .i64)]) <|
 opt.ask _ (bif (p.cmp .eql (p.rdI s62.1 (p.add s62.2.1 (p.nat s62.2.2.2.2.1)) 0) (p.rdI s62.1 (p.add s62.2.1 (p.nat (p.ar .sub .i64 s62.2.2.2.2.1 (1 : Int)))) 0)) then (bif (p.cmp .eql (p.rdI s62.1 (p.add s62.2.1 (p.nat s62.2.2.2.2.1)) 1) (p.rdI s62.1 (p.add s62.2.1 (p.nat (p.ar .sub .i64 s62.2.2.2.2.1 (1 : Int)))) 1)) then Bool.true else Bool.false) else Bool.false) (
 opt.need _ (p.and (p.cmp .geq s62.2.2.2.2.1 (0 : Int)) (p.and (p.cmp .leq s62.2.2.2.2.1 (p.ofNat s62.2.2.1)) (p.cmp .leq (p.ofNat s62.2.2.1) (p.ofNat s62.2.2.1)))) <|
 opt.bnd ((List (List (D)) × (Nat × (Nat × (Nat × (Int × Unit)))))) _ (
 it _ _ (b101_2 p) (s62.1, (s62.2.1, (s62.2.2.1, (s62.2.2.2.1, (s62.2.2.2.2.1, ((p.add s62.2.1 (p.nat s62.2.2.2.2.1)), ((p.sub (p.nat (p.ofNat s62.2.2.1)) (p.nat s62.2.2.2.2.1)), ((p.sub s62.2.2.2.1 (p.nat s62.2.2.2.2.1)), ((1 : Int), ())))))))))) fun y65 =>
 opt.need _ (p.and (p.cmp .geq y65.2.2.2.2.1 (0 : Int)) (p.and (p.cmp .leq y65.2.2.2.2.1 (p.ofNat y65.2.2.1)) (p.cmp .leq (p.ofNat y65.2.2.1) (p.ofNat y65.2.2.1)))) <|
 opt.no _ 41) (
 opt.ret _ (Sum.inl (s62.1, (s62.2.1, (s62.2.2.1, (s62.2.2.2.1, ((p.ar .add .i64 s62.2.2.2.2.1 (1 : Int)), ())))))))) (
 opt.ret _ (Sum.inr (s62.1, (s62.2.1, (s62.2.2.1, (s62.2.2.2.1, ())))))))
noncomputable def g101 (it : It) : (p : Prim) → (List (List (D)) × (Nat × (Nat × (Nat × Unit)))) → Option ((List (List (D)) × (Nat × (Nat × (Nat × Unit))))) :=
 fun p x =>
 opt.ask _ (p.cmp .lss (p.ofNat x.2.2.1) (2 : Int)) (
 opt.ret _ (x.1, (x.2.1, (x.2.2.1, (x.2.2.2.1, ()))))) (
 opt.bnd ((List (List (D)) × (Nat × (Nat × (Nat × Unit))))) _ (
 it _ _ (c101_1 it p) (x.1, (x.2.1, (x.2.2.1, (x.2.2.2.1, ((1 : Int), ())))))) fun y66 =>
 opt.ret _ (y66.1, (y66.2.1, (y66.2.2.1, (y66.2.2.2.1, ())))))
noncomputable def G101 := g101 it0
noncomputable def F101 : Prim → Tup (ctr101).scs → Option (STup (scss (ctr101).outs)) :=
 fun p x => G101 p x
theorem eq101 (p : Prim) (x : Tup (ctr101).scs) : bodyRun opt p (autoEnv Go.Proofs.Try.prog) (mkOrc opt p (autoEnv Go.Proofs.Try.prog) 400 (an101) la101) 400 ctr101 x = G101 p x := by kernel_rfl
theorem gok101 : GamOk Go.Proofs.Try.prog gam101 := fun cf h => by cases h
theorem enters101 : Enters Go.Proofs.Try.prog 101 := enters_auto (b := _) rfl (by kernel_rfl)
theorem ok101 : CtrOk Go.Proofs.Try.prog ctr101 (F101 std) := ctr_of_body (autoEnv_ok follows_mixed) (mkOrc_ok (autoEnv_ok follows_mixed) gok101 _) enters101 (fun x => eq101 std x)
noncomputable def ctr86 : Ctr :=
 ⟨86, [.list 2, .clo 87 [] []], [], [(.ret, ⟨[(0, .slc 0 2)], [.row [(CK.int .i64), (CK.int .i64)]], 1⟩)]⟩
noncomputable def la86 : List LA :=
 []
noncomputable def ja86 : List JA :=
 []
noncomputable def gam86 : List CF :=
 [⟨ctr101, F101⟩, ⟨ctr97o, F97o⟩]
noncomputable def an86 : Anns :=
 ⟨gam86, ja86, []⟩
noncomputable def g86 (it : It) : (p : Prim) → (List (List (D)) × Unit) → Option ((List (List (D)) × (Nat × (Nat × (Nat × Unit))))) :=
 fun p x =>
 opt.need _ (p.and (p.cmp .geq (p.ofNat (p.len x.1)) (0 : Int)) (p.and (p.cmp .leq (p.ofNat (p.len x.1)) (p.ofNat (p.len x.1))) (p.cmp .leq (p.ofNat (p.len x.1)) (1000000 : Int)))) <|
 opt.need _ (p.and Bool.true (p.and (p.leN (p.len x.1) (p.nat (p.ofNat (p.len x.1)))) (p.leN (p.add 0 (p.nat (p.ofNat (p.len x.1)))) (p.len (p.rep (p.nat (p.ofNat (p.len x.1))) [(D.int .i64 (0 : Int)), (D.int .i64 (0 : Int))]))))) <|
 opt.need _ (p.eqN 0 0) <|
 opt.need _ (p.eqN (p.nat (p.ofNat (p.len x.1))) (p.len (p.splice (p.rep (p.nat (p.ofNat (p.len x.1))) [(D.int .i64 (0 : Int)), (D.int .i64 (0 : Int))]) 0 x.1))) <|
 opt.need _ (p.eqN (p.nat (p.ofNat (p.len x.1))) (p.len (p.splice (p.rep (p.nat (p.ofNat (p.len x.1))) [(D.int .i64 (0 : Int)), (D.int .i64 (0 : Int))]) 0 x.1))) <|
 opt.bnd ((List (List (D)) × Unit)) _ (g97o it p ((p.splice (p.rep (p.nat (p.ofNat (p.len x.1))) [(D.int .i64 (0 : Int)), (D.int .i64 (0 : Int))]) 0 x.1), ())) fun y71 =>
 opt.bnd ((List (List (D)) × (Nat × (Nat × (Nat × Unit))))) _ (g101 it p (y71.1, (0, ((p.nat (p.ofNat (p.len x.1))), ((p.nat (p.ofNat (p.len x.1))), ()))))) fun y72 =>
 opt.ret _ (y72.1, (y72.2.1, (y72.2.2.1, (y72.2.2.2.1, ()))))
noncomputable def G86 := g86 it0
noncomputable def F86 : Prim → Tup (ctr86).scs → Option (STup (scss (ctr86).outs)) :=
 fun p x => G86 p x
theorem eq86 (p : Prim) (x : Tup (ctr86).scs) : bodyRun opt p (autoEnv Go.Proofs.Try.prog) (mkOrc opt p (autoEnv Go.Proofs.Try.prog) 400 (an86) la86) 400 ctr86 x = G86 p x := by kernel_rfl
theorem gok86 : GamOk Go.Proofs.Try.prog (gam86) := by
  intro cf h
  simp only [gam86, List.mem_cons, List.not_mem_nil, or_false] at h
  rcases h with rfl | rfl
  · exact ok101
  · exact ok97o
theorem enters86 : Enters Go.Proofs.Try.prog 86 := enters_auto (b := _) rfl (by kernel_rfl)
theorem ok86 : CtrOk Go.Proofs.Try.prog ctr86 (F86 std) := ctr_of_body (autoEnv_ok follows_mixed) (mkOrc_ok (autoEnv_ok follows_mixed) gok86 _) enters86 (fun x => eq86 std x)
noncomputable def ctr89 : Ctr :=
 ⟨89, [.slc 0 2], [.row [(CK.int .i64), (CK.int .i64)]], [(.ret, ⟨[(0, .tuple [])], [.row [(CK.int .i64), (CK.int .i64)]], 1⟩)]⟩
noncomputable def la89 : List LA :=
 [⟨89, [false, true], 1, ⟨⟨[(0, .slc 0 2), (2, .int .i64), (3, .int .i64)], [.row [(CK.int .i64), (CK.int .i64)]], 28⟩, [((AX.exit 0), ⟨[], [.row [(CK.int .i64), (CK.int .i64)]], 28⟩)]⟩⟩]
noncomputable def ja89 : List JA :=
 []
noncomputable def gam89 : List CF :=
 []
noncomputable def an89 : Anns :=
 ⟨gam89, ja89, []⟩
noncomputable def b89_1 (p : Prim) : (List (List (D)) × (Nat × (Nat × (Nat × (Int × (Int × Unit)))))) → Option ((List (List (D)) × (Nat × (Nat × (Nat × (Int × (Int × Unit)))))) ⊕ (List (List (D)) × Unit)) :=
 fun s90 => opt.run _ (
 opt.ask _ (p.cmp .lss s90.2.2.2.2.1 s90.2.2.2.2.2.1) (
 opt.need _ (bif (p.cmp .geq s90.2.2.2.2.2.1 (0 : Int)) then (p.cmp .lss s90.2.2.2.2.2.1 (p.ofNat s90.2.2.1)) else Bool.false) <|
 opt.need _ (p.rowOk s90.1 (p.add s90.2.1 (p.nat s90.2.2.2.2.2.1)) [(CK.int .i64), (CK.int .i64)]) <|
 opt.need _ (bif (p.cmp .geq s90.2.2.2.2.1 (0 : Int)) then (p.cmp .lss s90.2.2.2.2.1 (p.ofNat s90.2.2.1)) else Bool.false) <|
 opt.need _ (p.rowOk s90.1 (p.add s90.2.1 (p.nat s90.2.2.2.2.1)) [(CK.int .i64), (CK.int .i64)]) <|
 opt.need _ (bif (p.cmp .geq s90.2.2.2.2.1 (0 : Int)) then (p.cmp .lss s90.2.2.2.2.1 (p.ofNat s90.2.2.1)) else Bool.false) <|
 opt.need _ (p.rowOk s90.1 (p.add s90.2.1 (p.nat s90.2.2.2.2.1)) [(CK.int .i64), (CK.int .i64)]) <|
 opt.need _ (bif (p.cmp .geq s90.2.2.2.2.2.1 (0 : Int)) then (p.cmp .lss s90.2.2.2.2.2.1 (p.ofNat s90.2.2.1)) else Bool.false) <|
 opt.need _ (p.rowOk (p.set s90.1 (p.add s90.2.1 (p.nat s90.2.2.2.2.1)) [(D.int .i64 (p.rdI s90.1 (p.add s90.2.1 (p.nat s90.2.2.2.2.2.1)) 0)), (D.int .i64 (p.rdI s90.1 (p.add s90.2.1 (p.nat s90.2.2.2.2.2.1)) 1))]) (p.add s90.2.1 (p.nat s90.2.2.2.2.2.1)) [(CK.int .i64), (CK.int .i64)]) <|
 opt.ret _ (Sum.inl ((p.set (p.set s90.1 (p.add s90.2.1 (p.nat s90.2.2.2.2.1)) [(D.int .i64 (p.rdI s90.1 (p.add s90.2.1 (p.nat s90.2.2.2.2.2.1)) 0)), (D.int .i64 (p.rdI s90.1 (p.add s90.2.1 (p.nat s90.2.2.2.2.2.1)) 1))]) (p.add s90.2.1 (p.nat s90.2.2.2.2.2.1)) [(D.int .i64 (p.rdI s90.1 (p.add s90.2.1 (p.nat s90.2.2.2.2.1)) 0)), (D.int .i64 (p.rdI s90.1 (p.add s90.2.1 (p.nat s90.2.2.2.2.1)) 1))]), (s90.2.1, (s90.2.2.1, (s90.2.2.2.1, ((p.ar .add .i64 s90.2.2.2.2.1 (1 : Int)), ((p.ar .sub .i64 s90.2.2.2.2.2.1 (1 : Int)), ())))))))) (
 opt.ret _ (Sum.inr (s90.1, ()))))
noncomputable def g89 (it : It) : (p : Prim) → (List (List (D)) × (Nat × (Nat × (Nat × Unit)))) → Option ((List (List (D)) × Unit)) :=
 fun p x =>
 opt.bnd ((List (List (D)) × Unit)) _ (
 it _ _ (b89_1 p) (x.1, (x.2.1, (x.2.2.1, (x.2.2.2.1, ((0 : Int), ((p.ar .sub .i64 (p.ofNat x.2.2.1) (1 : Int)), ()))))))) fun y91 =>
 opt.ret _ (y91.1, ())
noncomputable def G89 := g89 it0
noncomputable def F89 : Prim → Tup (ctr89).scs → Option (STup (scss (ctr89).outs)) :=
 fun p x => G89 p x
theorem eq89 (p : Prim) (x : Tup (ctr89).scs) : bodyRun opt p (autoEnv Go.Proofs.Try.prog) (mkOrc opt p (autoEnv Go.Proofs.Try.prog) 400 (an89) la89) 400 ctr89 x = G89 p x := by kernel_rfl
theorem gok89 : GamOk Go.Proofs.Try.prog gam89 := fun cf h => by cases h
theorem enters89 : Enters Go.Proofs.Try.prog 89 := enters_auto (b := _) rfl (by kernel_rfl)
theorem ok89 : CtrOk Go.Proofs.Try.prog ctr89 (F89 std) := ctr_of_body (autoEnv_ok follows_mixed) (mkOrc_ok (autoEnv_ok follows_mixed) gok89 _) enters89 (fun x => eq89 std x)
noncomputable def ctr59 : Ctr :=
 ⟨59, [.list 2], [], [(.ret, ⟨[(0, .list 2)], [], 1⟩)]⟩
noncomputable def la59 : List LA :=
 []
noncomputable def ja59 : List JA :=
 []
noncomputable def gam59 : List CF :=
 [⟨ctr89, F89⟩, ⟨ctr88, F88⟩, ⟨ctr86, F86⟩]
noncomputable def an59 : Anns :=
 ⟨gam59, ja59, []⟩
noncomputable def g59 (it : It) : (p : Prim) → (List (List (D)) × Unit) → Option ((List (List (D)) × Unit)) :=
 fun p x =>
 opt.bnd ((List (List (D)) × (Nat × (Nat × (Nat × Unit))))) _ (g86 it p (x.1, ())) fun y97 =>
 opt.ask _ (p.cmp .eql (p.ofNat y97.2.2.1) (1 : Int)) (
 opt.need _ (p.leN (p.add y97.2.1 y97.2.2.1) (p.len y97.1)) <|
 opt.ret _ ((p.cut y97.1 y97.2.1 y97.2.2.1), ())) (
 opt.need _ (p.and (p.leN (p.add y97.2.1 y97.2.2.1) (p.len y97.1)) Bool.true) <|
 opt.bnd ((List (List (D)) × (Nat × (Nat × (Nat × Unit))))) _ (g88 it p ((p.cut y97.1 y97.2.1 y97.2.2.1), ())) fun y98 =>
 opt.need _ (p.plain y98.1) <|
 opt.bnd ((List (List (D)) × Unit)) _ (g89 it p (y97.1, (y97.2.1, (y97.2.2.1, (y97.2.2.2.1, ()))))) fun y99 =>
 opt.need _ (p.and (p.leN (p.add y97.2.1 y97.2.2.1) (p.len y99.1)) Bool.true) <|
 opt.bnd ((List (List (D)) × (Nat × (Nat × (Nat × Unit))))) _ (g88 it p ((p.cut y99.1 y97.2.1 y97.2.2.1), ())) fun y100 =>
 opt.need _ (p.plain y100.1) <|
 opt.ask _ (p.leN (p.add y98.2.2.1 y100.2.2.1) y98.2.2.2.1) (
 opt.need _ (p.and (p.leN (p.add y100.2.1 y100.2.2.1) (p.len y100.1)) (p.and (p.leN (p.add y98.2.1 y98.2.2.1) (p.len y98.1)) (p.and (p.leN 1 y100.2.2.1) (p.leN (p.add y98.2.1 y98.2.2.2.1) (p.len y98.1))))) <|
 opt.need _ (p.leN (p.add y98.2.1 (p.add y98.2.2.1 y100.2.2.1)) (p.len (p.splice y98.1 (p.add y98.2.1 y98.2.2.1) (p.cut y100.1 y100.2.1 y100.2.2.1)))) <|
 opt.ret _ ((p.cut (p.splice y98.1 (p.add y98.2.1 y98.2.2.1) (p.cut y100.1 y100.2.1 y100.2.2.1)) y98.2.1 (p.add y98.2.2.1 y100.2.2.1)), ())) (
 opt.need _ (p.and (p.leN (p.add y100.2.1 y100.2.2.1) (p.len y100.1)) (p.and (p.leN (p.add y98.2.1 y98.2.2.1) (p.len y98.1)) (p.and (p.leN 1 y100.2.2.1) (p.leN (p.add y98.2.2.1 y100.2.2.1) 1000000)))) <|
 opt.need _ (p.leN (p.add 0 (p.add y98.2.2.1 y100.2.2.1)) (p.len (p.app (p.cut y98.1 y98.2.1 y98.2.2.1) (p.cut y100.1 y100.2.1 y100.2.2.1)))) <|
 opt.ret _ ((p.cut (p.app (p.cut y98.1 y98.2.1 y98.2.2.1) (p.cut y100.1 y100.2.1 y100.2.2.1)) 0 (p.add y98.2.2.1 y100.2.2.1)), ())))
noncomputable def G59 := g59 it0
noncomputable def F59 : Prim → Tup (ctr59).scs → Option (STup (scss (ctr59).outs)) :=
 fun p x => G59 p x
theorem eq59 (p : Prim) (x : Tup (ctr59).scs) : bodyRun opt p (autoEnv Go.Proofs.Try.prog) (mkOrc opt p (autoEnv Go.Proofs.Try.prog) 400 (an59) la59) 400 ctr59 x = G59 p x := by kernel_rfl
theorem gok59 : GamOk Go.Proofs.Try.prog (gam59) := by
  intro cf h
  simp only [gam59, List.mem_cons, List.not_mem_nil, or_false] at h
  rcases h with rfl | rfl | rfl
  · exact ok89
  · exact ok88
  · exact ok86
theorem enters59 : Enters Go.Proofs.Try.prog 59 := enters_auto (b := _) rfl (by kernel_rfl)
theorem ok59 : CtrOk Go.Proofs.Try.prog ctr59 (F59 std) := ctr_of_body (autoEnv_ok follows_mixed) (mkOrc_ok (autoEnv_ok follows_mixed) gok59 _) enters59 (fun x => eq59 std x)
end Go.Am
end

section
set_option linter.unusedVariables false
set_option maxRecDepth 100000
set_option maxHeartbeats 0
namespace Go.Am
noncomputable def ctr80 : Ctr :=
 ⟨80, [.list 2, .list 2], [], [(.ret, ⟨[(0, .list 2)], [], 1⟩)]⟩
noncomputable def la80 : List LA :=
 [⟨80, [false, true, false, true, true], 0, ⟨⟨[(0, .list 2), (1, .list 2), (5, .bptr 0 0), (15, .full 1 1), (16, .int .i64), (17, .int .i64)], [.box [.vec 2 2], .row [(CK.list 2)], .row [(CK.int .i64), (CK.int .i64)]], 82⟩, [((AX.exit 0), ⟨[(0, .list 2), (1, .list 2), (5, .bptr 0 0)], [.box [.vec 1 2], .row [(CK.int .i64), (CK.int .i64)]], 82⟩)]⟩⟩,
 ⟨94, [false, true], 5, ⟨⟨[(0, .yld 4), (1, .bptr 3 0), (6, .list 2), (7, .int .i64), (8, .int .i64)], [.box [.vec 5 2], .row [(CK.list 2)], .dead, .box [.list 2], .loop Go.LoopState.ready Option.none 80 [Bool.false, Bool.true, Bool.true, Bool.false, Bool.false, Bool.true, Bool.true, Bool.false, Bool.false, Bool.true, Bool.false, Bool.true, Bool.true] 82 [(22, .clo 94 [] [.bptr 3 0]), (16, .int .i64), (15, .full 1 1), (5, .bptr 0 0), (1, .list 2), (0, .list 2), (17, .int .i64)], .row [(CK.int .i64), (CK.int .i64)]], 33⟩, [(AX.ret, ⟨[], [.box [.vec 5 2], .row [(CK.list 2)], .dead, .box [.list 2], .loop Go.LoopState.ready Option.none 80 [Bool.false, Bool.true, Bool.true, Bool.false, Bool.false, Bool.true, Bool.true, Bool.false, Bool.false, Bool.true, Bool.false, Bool.true, Bool.true] 82 [(22, .clo 94 [] [.bptr 3 0]), (16, .int .i64), (15, .full 1 1), (5, .bptr 0 0), (1, .list 2), (0, .list 2), (17, .int .i64)], .row [(CK.int .i64), (CK.int .i64)]], 33⟩), ((AX.exit 0), ⟨[], [.box [.vec 5 2], .row [(CK.list 2)], .dead, .box [.list 2], .loop Go.LoopState.ready Option.none 80 [Bool.false, Bool.true, Bool.true, Bool.false, Bool.false, Bool.true, Bool.true, Bool.false, Bool.false, Bool.true, Bool.false, Bool.true, Bool.true] 82 [(22, .clo 94 [] [.bptr 3 0]), (16, .int .i64), (15, .full 1 1), (5, .bptr 0 0), (1, .list 2), (0, .list 2), (17, .int .i64)], .row [(CK.int .i64), (CK.int .i64)]], 33⟩)]⟩⟩,
 ⟨80, [false, true, false, true, true, true, true, true, true], 0, ⟨⟨[(5, .bptr 0 0), (9, .bptr 1 0), (10, .sl 2 2), (42, .vec 3 2), (43, .int .i64), (44, .int .i64)], [.box [.vec 3 2], .box [.int .i64, .int .i64], .row [(CK.int .i64), (CK.int .i64)], .row [(CK.int .i64), (CK.int .i64)]], 82⟩, [((AX.exit 4), ⟨[(10, .sl 0 2)], [.row [(CK.int .i64), (CK.int .i64)]], 82⟩)]⟩⟩]
noncomputable def ja80 : List JA :=
 [⟨80, [true, true, false, false, true, true, false, false, true, false, true, true], 0, [(AX.normal, ⟨[(0, .list 2), (1, .list 2), (5, .bptr 0 0), (15, .full 1 1), (16, .int .i64), (17, .int .i64)], [.box [.vec 2 2], .row [(CK.list 2)], .row [(CK.int .i64), (CK.int .i64)]], 82⟩)]⟩,
 ⟨80, [false, true, true, false, false, true, false, true, true, true, true, true, true], 0, [(AX.normal, ⟨[(5, .bptr 0 0), (9, .bptr 1 0), (10, .sl 2 2), (42, .vec 3 2), (43, .int .i64), (44, .int .i64)], [.box [.vec 3 2], .box [.int .i64, .int .i64], .row [(CK.int .i64), (CK.int .i64)], .row [(CK.int .i64), (CK.int .i64)]], 82⟩)]⟩,
 ⟨80, [true, false, true, true, true, true, true, true, true], 0, [(AX.normal, ⟨[(10, .sl 0 2)], [.row [(CK.int .i64), (CK.int .i64)]], 82⟩)]⟩]
noncomputable def gam80 : List CF :=
 [⟨ctr98, F98⟩, ⟨ctr99, F99⟩, ⟨ctr97t, F97t⟩]
noncomputable def an80 : Anns :=
 ⟨gam80, ja80, []⟩
noncomputable def c80_3 (it : It) (p : Prim) : (List (List (D)) × (List (List (D)) × (Int × (Int × (Nat × (Nat × (Int × (Int × Unit)))))))) → Option ((List (List (D)) × (List (List (D)) × (Int × (Int × (Nat × (Nat × (Int × (Int × Unit)))))))) ⊕ (List (List (D)) × (Nat × (Nat × Unit)))) :=
 fun s87 => opt.run _ (
 opt.ask _ (p.cmp .lss s87.2.2.2.2.2.2.2.1 s87.2.2.2.2.2.2.1) (
 opt.bnd ((List (List (D)) × (List (List (D)) × (Int × (Int × (Nat × (Nat × (Int × (Int × Unit))))))))) _ (
 opt.run ((List (List (D)) × (List (List (D)) × (Int × (Int × (Nat × (Nat × (Int × (Int × Unit))))))))) (
 opt.need _ (bif (p.cmp .geq s87.2.2.2.2.2.2.2.1 (0 : Int)) then (p.cmp .lss s87.2.2.2.2.2.2.2.1 (p.ofNat (p.len s87.2.1))) else Bool.false) <|
 opt.need _ (p.rowOk s87.2.1 (p.add 0 (p.nat s87.2.2.2.2.2.2.2.1)) [(CK.int .i64), (CK.int .i64)]) <|
 opt.need _ (p.and (p.leN (p.add 0 2) (p.len [[(D.int .i64 s87.2.2.1), (D.int .i64 s87.2.2.2.1)], [(D.int .i64 (p.rdI s87.2.1 (p.add 0 (p.nat s87.2.2.2.2.2.2.2.1)) 0)), (D.int .i64 (p.rdI s87.2.1 (p.add 0 (p.nat s87.2.2.2.2.2.2.2.1)) 1))]])) Bool.true) <|
 opt.bnd ((Int × (Int × Unit))) _ (g99 it p ((p.cut [[(D.int .i64 s87.2.2.1), (D.int .i64 s87.2.2.2.1)], [(D.int .i64 (p.rdI s87.2.1 (p.add 0 (p.nat s87.2.2.2.2.2.2.2.1)) 0)), (D.int .i64 (p.rdI s87.2.1 (p.add 0 (p.nat s87.2.2.2.2.2.2.2.1)) 1))]] 0 2), ())) fun y88 =>
 opt.ask _ (p.cmp .lss (p.ar .add .i64 s87.2.2.2.2.2.2.2.1 (1 : Int)) (p.ofNat (p.len s87.2.1))) (
 opt.need _ (bif (p.cmp .geq (p.ar .add .i64 s87.2.2.2.2.2.2.2.1 (1 : Int)) (0 : Int)) then (p.cmp .lss (p.ar .add .i64 s87.2.2.2.2.2.2.2.1 (1 : Int)) (p.ofNat (p.len s87.2.1))) else Bool.false) <|
 opt.need _ (p.rowOk s87.2.1 (p.add 0 (p.nat (p.ar .add .i64 s87.2.2.2.2.2.2.2.1 (1 : Int)))) [(CK.int .i64), (CK.int .i64)]) <|
 opt.bnd ((Int × Unit)) _ (G98 p ((p.rdI s87.2.1 (p.add 0 (p.nat s87.2.2.2.2.2.2.2.1)) 0), ((p.rdI s87.2.1 (p.add 0 (p.nat s87.2.2.2.2.2.2.2.1)) 1), ((p.rdI s87.2.1 (p.add 0 (p.nat (p.ar .add .i64 s87.2.2.2.2.2.2.2.1 (1 : Int)))) 0), ((p.rdI s87.2.1 (p.add 0 (p.nat (p.ar .add .i64 s87.2.2.2.2.2.2.2.1 (1 : Int)))) 1), ()))))) fun y89 =>
 opt.ask _ (p.cmp .eql y89.1 (0 : Int)) (
 opt.need _ (p.eqN 0 0) <|
 opt.need _ (p.eqN (p.len s87.2.1) (p.len s87.2.1)) <|
 opt.need _ (p.eqN 0 0) <|
 opt.need _ (p.eqN (p.len s87.2.1) (p.len s87.2.1)) <|
 opt.ret _ (s87.1, (s87.2.1, (y88.1, (y88.2.1, (s87.2.2.2.2.1, (s87.2.2.2.2.2.1, (s87.2.2.2.2.2.2.1, (s87.2.2.2.2.2.2.2.1, ()))))))))) (
 opt.need _ (p.and (p.leN (p.add 0 1) (p.len [[(D.int .i64 y88.1), (D.int .i64 y88.2.1)]])) (p.and (p.leN (p.add s87.2.2.2.2.1 s87.2.2.2.2.2.1) (p.len s87.1)) (p.and (p.leN 1 1) (p.leN (p.add s87.2.2.2.2.2.1 1) 1000000)))) <|
 opt.need _ (p.eqN 0 0) <|
 opt.need _ (p.eqN (p.len s87.2.1) (p.len s87.2.1)) <|
 opt.need _ (p.eqN 0 0) <|
 opt.need _ (p.eqN (p.len s87.2.1) (p.len s87.2.1)) <|
 opt.ret _ ((p.app (p.cut s87.1 s87.2.2.2.2.1 s87.2.2.2.2.2.1) (p.cut [[(D.int .i64 y88.1), (D.int .i64 y88.2.1)]] 0 1)), (s87.2.1, (y88.1, (y88.2.1, (0, ((p.add s87.2.2.2.2.2.1 1), (s87.2.2.2.2.2.2.1, (s87.2.2.2.2.2.2.2.1, ())))))))))) (
 opt.need _ (p.and (p.leN (p.add 0 1) (p.len [[(D.int .i64 y88.1), (D.int .i64 y88.2.1)]])) (p.and (p.leN (p.add s87.2.2.2.2.1 s87.2.2.2.2.2.1) (p.len s87.1)) (p.and (p.leN 1 1) (p.leN (p.add s87.2.2.2.2.2.1 1) 1000000)))) <|
 opt.need _ (p.eqN 0 0) <|
 opt.need _ (p.eqN (p.len s87.2.1) (p.len s87.2.1)) <|
 opt.need _ (p.eqN 0 0) <|
 opt.need _ (p.eqN (p.len s87.2.1) (p.len s87.2.1)) <|
 opt.ret _ ((p.app (p.cut s87.1 s87.2.2.2.2.1 s87.2.2.2.2.2.1) (p.cut [[(D.int .i64 y88.1), (D.int .i64 y88.2.1)]] 0 1)), (s87.2.1, (y88.1, (y88.2.1, (0, ((p.add s87.2.2.2.2.2.1 1), (s87.2.2.2.2.2.2.1, (s87.2.2.2.2.2.2.2.1, ()))))))))))) fun y90 =>
 opt.need _ (p.eqN 0 0) <|
 opt.need _ (p.eqN (p.len y90.2.1) (p.len y90.2.1)) <|
 opt.need _ (p.eqN 0 0) <|
 opt.need _ (p.eqN (p.len y90.2.1) (p.len y90.2.1)) <|
 opt.ret _ (Sum.inl (y90.1, (y90.2.1, (y90.2.2.1, (y90.2.2.2.1, (y90.2.2.2.2.1, (y90.2.2.2.2.2.1, (y90.2.2.2.2.2.2.1, ((p.ar .add .i64 y90.2.2.2.2.2.2.2.1 (1 : Int)), ())))))))))) (
 opt.ret _ (Sum.inr (s87.1, (s87.2.2.2.2.1, (s87.2.2.2.2.2.1, ()))))))
noncomputable def b80_2 (p : Prim) : (List (List (D)) × (List (List (D)) × (List (List (D)) × (Int × (List (List (D)) × (List (List (D)) × (Int × (List (List (D)) × (Int × (Int × Unit)))))))))) → Option ((List (List (D)) × (List (List (D)) × (List (List (D)) × (Int × (List (List (D)) × (List (List (D)) × (Int × (List (List (D)) × (Int × (Int × Unit)))))))))) ⊕ ((List (List (D)) × (List (List (D)) × (List (List (D)) × (Int × (List (List (D)) × (List (List (D)) × (Int × Unit))))))) ⊕ (List (List (D)) × (List (List (D)) × (List (List (D)) × (Int × (List (List (D)) × (List (List (D)) × (Int × Unit))))))))) :=
 fun s79 => opt.run _ (
 opt.ask _ (p.cmp .lss s79.2.2.2.2.2.2.2.2.2.1 s79.2.2.2.2.2.2.2.2.1) (
 opt.need _ (p.rowOk s79.2.2.2.2.2.2.2.1 (p.nat s79.2.2.2.2.2.2.2.2.2.1) [(CK.int .i64), (CK.int .i64)]) <|
 opt.need _ (p.cmp .geq s79.2.2.2.2.2.2.2.2.2.1 (0 : Int)) <|
 opt.need _ (p.cmp .neq (p.ofNat (p.len s79.2.2.1)) (0 : Int)) <|
 opt.need _ (p.rowOk s79.2.2.1 (p.nat (p.ar .rem .i64 (p.ar .add .i64 s79.2.2.2.2.2.2.2.2.2.1 (1 : Int)) (p.ofNat (p.len s79.2.2.1)))) [(CK.int .i64), (CK.int .i64)]) <|
 opt.need _ (p.cmp .geq (p.ar .rem .i64 (p.ar .add .i64 s79.2.2.2.2.2.2.2.2.2.1 (1 : Int)) (p.ofNat (p.len s79.2.2.1))) (0 : Int)) <|
 opt.ask _ (bif (p.cmp .eql (p.ar .sub .i64 (p.rdI s79.2.2.1 (p.nat (p.ar .rem .i64 (p.ar .add .i64 s79.2.2.2.2.2.2.2.2.2.1 (1 : Int)) (p.ofNat (p.len s79.2.2.1)))) 0) (p.rdI s79.2.2.2.2.2.2.2.1 (p.nat s79.2.2.2.2.2.2.2.2.2.1) 0)) (0 : Int)) then (bif (p.cmp .eql (p.ar .sub .i64 (p.rdI s79.2.2.1 (p.nat (p.ar .rem .i64 (p.ar .add .i64 s79.2.2.2.2.2.2.2.2.2.1 (1 : Int)) (p.ofNat (p.len s79.2.2.1)))) 1) (p.rdI s79.2.2.2.2.2.2.2.1 (p.nat s79.2.2.2.2.2.2.2.2.2.1) 1)) (0 : Int)) then Bool.true else Bool.false) else Bool.false) (
 opt.need _ (p.eqN 0 0) <|
 opt.need _ (p.eqN (p.len s79.2.1) (p.len s79.2.1)) <|
 opt.need _ (p.eqN 0 0) <|
 opt.need _ (p.eqN (p.len s79.1) (p.len s79.1)) <|
 opt.need _ (p.eqN (p.len s79.1) (p.len s79.1)) <|
 opt.ret _ (Sum.inr (Sum.inl (s79.1, (s79.2.1, (s79.2.2.1, (s79.2.2.2.1, (s79.2.2.2.2.1, (s79.2.2.2.2.2.1, (s79.2.2.2.2.2.2.1, ())))))))))) (
 opt.need _ (p.and (p.leN (p.add 0 1) (p.len [[(D.int .i64 (p.ar .sub .i64 (p.rdI s79.2.2.1 (p.nat (p.ar .rem .i64 (p.ar .add .i64 s79.2.2.2.2.2.2.2.2.2.1 (1 : Int)) (p.ofNat (p.len s79.2.2.1)))) 0) (p.rdI s79.2.2.2.2.2.2.2.1 (p.nat s79.2.2.2.2.2.2.2.2.2.1) 0))), (D.int .i64 (p.ar .sub .i64 (p.rdI s79.2.2.1 (p.nat (p.ar .rem .i64 (p.ar .add .i64 s79.2.2.2.2.2.2.2.2.2.1 (1 : Int)) (p.ofNat (p.len s79.2.2.1)))) 1) (p.rdI s79.2.2.2.2.2.2.2.1 (p.nat s79.2.2.2.2.2.2.2.2.2.1) 1)))]])) (p.and (p.leN (p.add 0 (p.len s79.2.1)) (p.len s79.2.1)) (p.and (p.leN 1 1) (p.leN (p.add (p.len s79.2.1) 1) 1000000)))) <|
 opt.need _ (p.eqN 0 0) <|
 opt.need _ (p.eqN (p.add (p.len s79.2.1) 1) (p.len (p.app (p.cut s79.2.1 0 (p.len s79.2.1)) (p.cut [[(D.int .i64 (p.ar .sub .i64 (p.rdI s79.2.2.1 (p.nat (p.ar .rem .i64 (p.ar .add .i64 s79.2.2.2.2.2.2.2.2.2.1 (1 : Int)) (p.ofNat (p.len s79.2.2.1)))) 0) (p.rdI s79.2.2.2.2.2.2.2.1 (p.nat s79.2.2.2.2.2.2.2.2.2.1) 0))), (D.int .i64 (p.ar .sub .i64 (p.rdI s79.2.2.1 (p.nat (p.ar .rem .i64 (p.ar .add .i64 s79.2.2.2.2.2.2.2.2.2.1 (1 : Int)) (p.ofNat (p.len s79.2.2.1)))) 1) (p.rdI s79.2.2.2.2.2.2.2.1 (p.nat s79.2.2.2.2.2.2.2.2.2.1) 1)))]] 0 1)))) <|
 opt.need _ (p.eqN 0 0) <|
 opt.need _ (p.eqN (p.len s79.1) (p.len s79.1)) <|
 opt.need _ (p.eqN (p.len s79.1) (p.len s79.1)) <|
 opt.ret _ (Sum.inl (s79.1, ((p.app (p.cut s79.2.1 0 (p.len s79.2.1)) (p.cut [[(D.int .i64 (p.ar .sub .i64 (p.rdI s79.2.2.1 (p.nat (p.ar .rem .i64 (p.ar .add .i64 s79.2.2.2.2.2.2.2.2.2.1 (1 : Int)) (p.ofNat (p.len s79.2.2.1)))) 0) (p.rdI s79.2.2.2.2.2.2.2.1 (p.nat s79.2.2.2.2.2.2.2.2.2.1) 0))), (D.int .i64 (p.ar .sub .i64 (p.rdI s79.2.2.1 (p.nat (p.ar .rem .i64 (p.ar .add .i64 s79.2.2.2.2.2.2.2.2.2.1 (1 : Int)) (p.ofNat (p.len s79.2.2.1)))) 1) (p.rdI s79.2.2.2.2.2.2.2.1 (p.nat s79.2.2.2.2.2.2.2.2.2.1) 1)))]] 0 1)), (s79.2.2.1, (s79.2.2.2.1, (s79.2.2.2.2.1, (s79.2.2.2.2.2.1, (s79.2.2.2.2.2.2.1, (s79.2.2.2.2.2.2.2.1, (s79.2.2.2.2.2.2.2.2.1, ((p.ar .add .i64 s79.2.2.2.2.2.2.2.2.2.1 (1 : Int)), ()))))))))))))) (
 opt.need _ (p.eqN 0 0) <|
 opt.need _ (p.eqN (p.len s79.2.1) (p.len s79.2.1)) <|
 opt.need _ (p.eqN 0 0) <|
 opt.need _ (p.eqN (p.len s79.1) (p.len s79.1)) <|
 opt.need _ (p.eqN (p.len s79.1) (p.len s79.1)) <|
 opt.ret _ (Sum.inr (Sum.inr (s79.1, (s79.2.1, (s79.2.2.1, (s79.2.2.2.1, (s79.2.2.2.2.1, (s79.2.2.2.2.2.1, (s79.2.2.2.2.2.2.1, ())))))))))))
noncomputable def c80_1 (it : It) (p : Prim) : (List (List (D)) × (List (List (D)) × (List (List (D)) × (List (List (D)) × (Int × (Int × Unit)))))) → Option ((List (List (D)) × (List (List (D)) × (List (List (D)) × (List (List (D)) × (Int × (Int × Unit)))))) ⊕ (List (List (D)) × (List (List (D)) × (List (List (D)) × Unit)))) :=
 fun s78 => opt.run _ (
 opt.ask _ (p.cmp .lss s78.2.2.2.2.2.1 s78.2.2.2.2.1) (
 opt.need _ (bif (p.cmp .geq s78.2.2.2.2.2.1 (0 : Int)) then (p.cmp .lss s78.2.2.2.2.2.1 (p.ofNat (p.len s78.1))) else Bool.false) <|
 opt.need _ (p.rowOk s78.1 (p.add 0 (p.nat s78.2.2.2.2.2.1)) [(CK.list 2)]) <|
 opt.bnd ((List (List (D)) × (List (List (D)) × (List (List (D)) × (List (List (D)) × (Int × (Int × Unit))))))) _ (
 opt.run ((List (List (D)) × (List (List (D)) × (List (List (D)) × (List (List (D)) × (Int × (Int × Unit))))))) (
 opt.need _ (p.eqN 0 0) <|
 opt.need _ (p.eqN (p.len s78.2.1) (p.len s78.2.1)) <|
 opt.need _ (p.eqN 0 0) <|
 opt.need _ (p.eqN (p.len s78.1) (p.len s78.1)) <|
 opt.need _ (p.eqN (p.len s78.1) (p.len s78.1)) <|
 opt.alt ((List (List (D)) × (List (List (D)) × (List (List (D)) × (Int × (List (List (D)) × (List (List (D)) × (Int × Unit)))))))) ((List (List (D)) × (List (List (D)) × (List (List (D)) × (Int × (List (List (D)) × (List (List (D)) × (Int × Unit)))))))) _ (
 it _ _ (b80_2 p) (s78.1, (s78.2.1, ((p.rdL s78.1 (p.add 0 (p.nat s78.2.2.2.2.2.1)) 0), (s78.2.2.2.2.1, (s78.2.2.2.1, (s78.2.2.1, (s78.2.2.2.2.2.1, ((p.rdL s78.1 (p.add 0 (p.nat s78.2.2.2.2.2.1)) 0), ((p.ofNat (p.len (p.rdL s78.1 (p.add 0 (p.nat s78.2.2.2.2.2.1)) 0))), ((0 : Int), ()))))))))))) (fun y80 =>
 opt.need _ (p.eqN 0 0) <|
 opt.need _ (p.eqN (p.len y80.2.1) (p.len y80.2.1)) <|
 opt.need _ (p.eqN 0 0) <|
 opt.need _ (p.eqN (p.len s78.1) (p.len y80.1)) <|
 opt.need _ (p.eqN (p.len s78.1) (p.len y80.1)) <|
 opt.ret _ (y80.1, (y80.2.1, (s78.2.2.1, (s78.2.2.2.1, (s78.2.2.2.2.1, (s78.2.2.2.2.2.1, ()))))))) (fun y81 =>
 opt.bnd ((List (List (D)) × (List (List (D)) × (List (List (D)) × (Int × (List (List (D)) × (List (List (D)) × (Int × Unit)))))))) _ (some y81) fun y82 =>
 opt.need _ (p.eqN 0 0) <|
 opt.need _ (p.eqN (p.len y82.2.1) (p.len y82.2.1)) <|
 opt.need _ (p.eqN 0 0) <|
 opt.need _ (p.eqN (p.len s78.1) (p.len y82.1)) <|
 opt.need _ (p.eqN (p.len s78.1) (p.len y82.1)) <|
 opt.ret _ (y82.1, (y82.2.1, (s78.2.2.1, (s78.2.2.2.1, (s78.2.2.2.2.1, (s78.2.2.2.2.2.1, ()))))))))) fun y83 =>
 opt.need _ (p.eqN 0 0) <|
 opt.need _ (p.eqN (p.len y83.2.1) (p.len y83.2.1)) <|
 opt.need _ (p.eqN 0 0) <|
 opt.need _ (p.eqN (p.len y83.1) (p.len y83.1)) <|
 opt.need _ (p.eqN (p.len y83.1) (p.len y83.1)) <|
 opt.ret _ (Sum.inl (y83.1, (y83.2.1, (y83.2.2.1, (y83.2.2.2.1, (y83.2.2.2.2.1, ((p.ar .add .i64 y83.2.2.2.2.2.1 (1 : Int)), ())))))))) (
 opt.need _ (p.eqN 0 0) <|
 opt.need _ (p.eqN (p.len s78.2.1) (p.len s78.2.1)) <|
 opt.ret _ (Sum.inr (s78.2.1, (s78.2.2.1, (s78.2.2.2.1, ()))))))
noncomputable def g80 (it : It) : (p : Prim) → (List (List (D)) × (List (List (D)) × Unit)) → Option ((List (List (D)) × Unit)) :=
 fun p x =>
 opt.need _ (p.eqN 0 0) <|
 opt.need _ (p.eqN 2 (p.len [[(D.list Bool.false 2 x.1)], [(D.list Bool.false 2 x.2.1)]])) <|
 opt.need _ (p.eqN 2 (p.len [[(D.list Bool.false 2 x.1)], [(D.list Bool.false 2 x.2.1)]])) <|
 opt.bnd ((List (List (D)) × (List (List (D)) × (List (List (D)) × Unit)))) _ (
 it _ _ (c80_1 it p) ([[(D.list Bool.false 2 x.1)], [(D.list Bool.false 2 x.2.1)]], ([], (x.1, (x.2.1, ((p.ofNat 2), ((0 : Int), ()))))))) fun y84 =>
 opt.need _ (p.eqN 0 0) <|
 opt.need _ (p.eqN (p.len y84.1) (p.len y84.1)) <|
 opt.bnd ((List (List (D)) × Unit)) _ (g97t it p (y84.1, ())) fun y85 =>
 opt.need _ (p.rowOk y84.2.1 (p.nat (0 : Int)) [(CK.int .i64), (CK.int .i64)]) <|
 opt.need _ (p.rowOk y84.2.2.1 (p.nat (0 : Int)) [(CK.int .i64), (CK.int .i64)]) <|
 opt.need _ (p.and (p.leN (p.add 0 2) (p.len [[(D.int .i64 (p.rdI y84.2.1 (p.nat (0 : Int)) 0)), (D.int .i64 (p.rdI y84.2.1 (p.nat (0 : Int)) 1))], [(D.int .i64 (p.rdI y84.2.2.1 (p.nat (0 : Int)) 0)), (D.int .i64 (p.rdI y84.2.2.1 (p.nat (0 : Int)) 1))]])) Bool.true) <|
 opt.bnd ((Int × (Int × Unit))) _ (g99 it p ((p.cut [[(D.int .i64 (p.rdI y84.2.1 (p.nat (0 : Int)) 0)), (D.int .i64 (p.rdI y84.2.1 (p.nat (0 : Int)) 1))], [(D.int .i64 (p.rdI y84.2.2.1 (p.nat (0 : Int)) 0)), (D.int .i64 (p.rdI y84.2.2.1 (p.nat (0 : Int)) 1))]] 0 2), ())) fun y86 =>
 opt.need _ (p.eqN 0 0) <|
 opt.need _ (p.eqN (p.len y84.1) (p.len y85.1)) <|
 opt.need _ (p.leN (p.add 0 1) (p.len [[(D.int .i64 y86.1), (D.int .i64 y86.2.1)]])) <|
 opt.need _ (p.eqN 0 0) <|
 opt.need _ (p.eqN (p.len y84.1) (p.len y85.1)) <|
 opt.bnd ((List (List (D)) × (Nat × (Nat × Unit)))) _ (
 it _ _ (c80_3 it p) ([[(D.int .i64 y86.1), (D.int .i64 y86.2.1)]], (y85.1, (y86.1, (y86.2.1, (0, (1, ((p.ofNat (p.len y84.1)), ((0 : Int), ()))))))))) fun y91 =>
 opt.bnd ((List (List (D)) × (Nat × (Nat × Unit)))) _ (
 opt.run ((List (List (D)) × (Nat × (Nat × Unit)))) (
 opt.ask _ (p.cmp .gtr (p.ofNat y91.2.2.1) (1 : Int)) (
 opt.need _ (p.and (p.cmp .geq (0 : Int) (0 : Int)) (p.and (p.cmp .leq (0 : Int) (p.ar .sub .i64 (p.ofNat y91.2.2.1) (1 : Int))) (p.cmp .leq (p.ar .sub .i64 (p.ofNat y91.2.2.1) (1 : Int)) (p.ofNat y91.2.2.1)))) <|
 opt.ret _ (y91.1, ((p.add y91.2.1 (p.nat (0 : Int))), ((p.sub (p.nat (p.ar .sub .i64 (p.ofNat y91.2.2.1) (1 : Int))) (p.nat (0 : Int))), ())))) (
 opt.ret _ (y91.1, (y91.2.1, (y91.2.2.1, ())))))) fun y92 =>
 opt.need _ (p.leN (p.add y92.2.1 y92.2.2.1) (p.len y92.1)) <|
 opt.ret _ ((p.cut y92.1 y92.2.1 y92.2.2.1), ())
noncomputable def G80 := g80 it0
noncomputable def F80 : Prim → Tup (ctr80).scs → Option (STup (scss (ctr80).outs)) :=
 fun p x => G80 p x
theorem eq80 (p : Prim) (x : Tup (ctr80).scs) : bodyRun opt p (autoEnv Go.Proofs.Try.prog) (mkOrc opt p (autoEnv Go.Proofs.Try.prog) 400 (an80) la80) 400 ctr80 x = G80 p x := by kernel_rfl
theorem gok80 : GamOk Go.Proofs.Try.prog (gam80) := by
  intro cf h
  simp only [gam80, List.mem_cons, List.not_mem_nil, or_false] at h
  rcases h with rfl | rfl | rfl
  · exact ok98
  · exact ok99
  · exact ok97t
theorem enters80 : Enters Go.Proofs.Try.prog 80 := enters_auto (b := _) rfl (by kernel_rfl)
theorem ok80 : CtrOk Go.Proofs.Try.prog ctr80 (F80 std) := ctr_of_body (autoEnv_ok follows_mixed) (mkOrc_ok (autoEnv_ok follows_mixed) gok80 _) enters80 (fun x => eq80 std x)
end Go.Am
end

section
set_option linter.unusedVariables false
set_option maxRecDepth 100000
set_option maxHeartbeats 0
namespace Go.Am
noncomputable def ctr48 : Ctr :=
 ⟨48, [.agg [.list 2, .list 1]], [], [(.ret, ⟨[(0, .tuple [.nilp, .int .i64])], [], 1⟩), (.ret, ⟨[(0, .tuple [.bptr 0 0, .int .i64])], [.box [.list 2, .list 1, .list 2]], 1⟩)]⟩
noncomputable def la48 : List LA :=
 [⟨48, [false, true, false, true, true, true], 0, ⟨⟨[(5, .bptr 0 0), (24, .list 1), (25, .int .i64), (26, .int .i64)], [.box [.list 2, .list 1, .list 2]], 43⟩, [((AX.exit 0), ⟨[(5, .bptr 0 0)], [.box [.list 2, .list 1, .list 2]], 43⟩)]⟩⟩]
noncomputable def ja48 : List JA :=
 []
noncomputable def gam48 : List CF :=
 [⟨ctr80, F80⟩, ⟨ctr59, F59⟩, ⟨ctr60, F60⟩, ⟨ctr18, F18⟩]
noncomputable def an48 : Anns :=
 ⟨gam48, ja48, []⟩
noncomputable def c48_1 (it : It) (p : Prim) : (List (List (D)) × (List (List (D)) × (List (List (D)) × (List (List (D)) × (Int × (Int × Unit)))))) → Option ((List (List (D)) × (List (List (D)) × (List (List (D)) × (List (List (D)) × (Int × (Int × Unit)))))) ⊕ (List (List (D)) × (List (List (D)) × (List (List (D)) × Unit)))) :=
 fun s22 => opt.run _ (
 opt.ask _ (p.cmp .lss s22.2.2.2.2.2.1 s22.2.2.2.2.1) (
 opt.need _ (p.rowOk s22.2.2.2.1 (p.nat s22.2.2.2.2.2.1) [(CK.list 2)]) <|
 opt.need _ (p.cmp .geq s22.2.2.2.2.2.1 (0 : Int)) <|
 opt.bnd ((List (List (D)) × Unit)) _ (g60 it p ((p.rdL s22.2.2.2.1 (p.nat s22.2.2.2.2.2.1) 0), ())) fun y23 =>
 opt.bnd ((List (List (D)) × Unit)) _ (g59 it p (y23.1, ())) fun y24 =>
 opt.bnd ((List (List (D)) × Unit)) _ (g80 it p (s22.2.2.1, (y24.1, ()))) fun y25 =>
 opt.ret _ (Sum.inl (s22.1, (s22.2.1, (y25.1, (s22.2.2.2.1, (s22.2.2.2.2.1, ((p.ar .add .i64 s22.2.2.2.2.2.1 (1 : Int)), ())))))))) (
 opt.ret _ (Sum.inr (s22.1, (s22.2.1, (s22.2.2.1, ()))))))
noncomputable def g48 (it : It) : (p : Prim) → (List (List (D)) × (List (List (D)) × Unit)) → Option (((Int × Unit) ⊕ (List (List (D)) × (List (List (D)) × (List (List (D)) × (Int × Unit)))))) :=
 fun p x =>
 opt.bnd ((Int × Unit)) _ (g18 it p (x.1, (x.2.1, ()))) fun y19 =>
 opt.ask _ (p.cmp .neq y19.1 (0 : Int)) (
 opt.ret _ (Sum.inl (y19.1, ()))) (
 opt.bnd ((List (List (D)) × Unit)) _ (g60 it p (x.1, ())) fun y20 =>
 opt.bnd ((List (List (D)) × Unit)) _ (g59 it p (y20.1, ())) fun y21 =>
 opt.bnd ((List (List (D)) × (List (List (D)) × (List (List (D)) × Unit)))) _ (
 it _ _ (c48_1 it p) (x.1, (x.2.1, (y21.1, (x.2.1, ((p.ofNat (p.len x.2.1)), ((0 : Int), ()))))))) fun y26 =>
 opt.ret _ (Sum.inr (y26.1, (y26.2.1, (y26.2.2.1, ((0 : Int), ()))))))
noncomputable def G48 := g48 it0
noncomputable def F48 : Prim → Tup (ctr48).scs → Option (STup (scss (ctr48).outs)) :=
 fun p x => G48 p x
theorem eq48 (p : Prim) (x : Tup (ctr48).scs) : bodyRun opt p (autoEnv Go.Proofs.Try.prog) (mkOrc opt p (autoEnv Go.Proofs.Try.prog) 400 (an48) la48) 400 ctr48 x = G48 p x := by kernel_rfl
theorem gok48 : GamOk Go.Proofs.Try.prog (gam48) := by
  intro cf h
  simp only [gam48, List.mem_cons, List.not_mem_nil, or_false] at h
  rcases h with rfl | rfl | rfl | rfl
  · exact ok80
  · exact ok59
  · exact ok60
  · exact ok18
theorem enters48 : Enters Go.Proofs.Try.prog 48 := enters_auto (b := _) rfl (by kernel_rfl)
theorem ok48 : CtrOk Go.Proofs.Try.prog ctr48 (F48 std) := ctr_of_body (autoEnv_ok follows_mixed) (mkOrc_ok (autoEnv_ok follows_mixed) gok48 _) enters48 (fun x => eq48 std x)
noncomputable def ctr16 : Ctr :=
 ⟨16, [.agg [.list 2, .list 1]], [], [(.ret, ⟨[(0, .tuple [.vec 0 2, .int .i64])], [.row [(CK.int .i64), (CK.int .i64)]], 1⟩)]⟩
noncomputable def la16 : List LA :=
 [⟨16, [false, true, false, true, true, true, true], 0, ⟨⟨[(6, .vec 0 2), (20, .list 2), (21, .int .i64), (22, .int .i64)], [.row [(CK.int .i64), (CK.int .i64)]], 36⟩, [((AX.exit 0), ⟨[(6, .vec 0 2)], [.row [(CK.int .i64), (CK.int .i64)]], 36⟩)]⟩⟩]
noncomputable def ja16 : List JA :=
 []
noncomputable def gam16 : List CF :=
 [⟨ctr48, F48⟩]
noncomputable def an16 : Anns :=
 ⟨gam16, ja16, []⟩
noncomputable def b16_1 (p : Prim) : (List (List (D)) × (List (List (D)) × (Int × (Int × Unit)))) → Option ((List (List (D)) × (List (List (D)) × (Int × (Int × Unit)))) ⊕ (List (List (D)) × Unit)) :=
 fun s51 => opt.run _ (
 opt.ask _ (p.cmp .lss s51.2.2.2.1 s51.2.2.1) (
 opt.need _ (p.rowOk s51.2.1 (p.nat s51.2.2.2.1) [(CK.int .i64), (CK.int .i64)]) <|
 opt.need _ (p.cmp .geq s51.2.2.2.1 (0 : Int)) <|
 opt.need _ (p.and (p.leN (p.add 0 1) (p.len [[(D.int .i64 (p.rdI s51.2.1 (p.nat s51.2.2.2.1) 0)), (D.int .i64 (p.rdI s51.2.1 (p.nat s51.2.2.2.1) 1))]])) (p.and (p.leN (p.add 0 (p.len s51.1)) (p.len s51.1)) (p.and (p.leN 1 1) (p.leN (p.add (p.len s51.1) 1) 1000000)))) <|
 opt.need _ (p.eqN 0 0) <|
 opt.need _ (p.eqN (p.add (p.len s51.1) 1) (p.len (p.app (p.cut s51.1 0 (p.len s51.1)) (p.cut [[(D.int .i64 (p.rdI s51.2.1 (p.nat s51.2.2.2.1) 0)), (D.int .i64 (p.rdI s51.2.1 (p.nat s51.2.2.2.1) 1))]] 0 1)))) <|
 opt.ret _ (Sum.inl ((p.app (p.cut s51.1 0 (p.len s51.1)) (p.cut [[(D.int .i64 (p.rdI s51.2.1 (p.nat s51.2.2.2.1) 0)), (D.int .i64 (p.rdI s51.2.1 (p.nat s51.2.2.2.1) 1))]] 0 1)), (s51.2.1, (s51.2.2.1, ((p.ar .add .i64 s51.2.2.2.1 (1 : Int)), ())))))) (
 opt.need _ (p.eqN 0 0) <|
 opt.need _ (p.eqN (p.len s51.1) (p.len s51.1)) <|
 opt.ret _ (Sum.inr (s51.1, ()))))
noncomputable def g16 (it : It) : (p : Prim) → (List (List (D)) × (List (List (D)) × Unit)) → Option ((List (List (D)) × (Int × Unit))) :=
 fun p x =>
 opt.alt ((Int × Unit)) ((List (List (D)) × (List (List (D)) × (List (List (D)) × (Int × Unit))))) _ (g48 it p (x.1, (x.2.1, ()))) (fun y48 =>
 opt.ask _ (p.cmp .neq y48.1 (0 : Int)) (
 opt.ret _ ([], (y48.1, ()))) (
 opt.no _ 41)) (fun y49 =>
 opt.bnd ((List (List (D)) × (List (List (D)) × (List (List (D)) × (Int × Unit))))) _ (some y49) fun y50 =>
 opt.ask _ (p.cmp .neq y50.2.2.2.1 (0 : Int)) (
 opt.ret _ ([], (y50.2.2.2.1, ()))) (
 opt.bnd ((List (List (D)) × Unit)) _ (
 it _ _ (b16_1 p) ([], (y50.2.2.1, ((p.ofNat (p.len y50.2.2.1)), ((0 : Int), ()))))) fun y52 =>
 opt.need _ (p.eqN 0 0) <|
 opt.need _ (p.eqN (p.len y52.1) (p.len y52.1)) <|
 opt.ret _ (y52.1, ((0 : Int), ()))))
noncomputable def G16 := g16 it0
noncomputable def F16 : Prim → Tup (ctr16).scs → Option (STup (scss (ctr16).outs)) :=
 fun p x => G16 p x
theorem eq16 (p : Prim) (x : Tup (ctr16).scs) : bodyRun opt p (autoEnv Go.Proofs.Try.prog) (mkOrc opt p (autoEnv Go.Proofs.Try.prog) 400 (an16) la16) 400 ctr16 x = G16 p x := by kernel_rfl
theorem gok16 : GamOk Go.Proofs.Try.prog (gam16) := by
  intro cf h
  simp only [gam16, List.mem_cons, List.not_mem_nil, or_false] at h
  rcases h with rfl
  · exact ok48
theorem enters16 : Enters Go.Proofs.Try.prog 16 := enters_auto (b := _) rfl (by kernel_rfl)
theorem ok16 : CtrOk Go.Proofs.Try.prog ctr16 (F16 std) := ctr_of_body (autoEnv_ok follows_mixed) (mkOrc_ok (autoEnv_ok follows_mixed) gok16 _) enters16 (fun x => eq16 std x)
noncomputable def ctr62 : Ctr :=
 ⟨62, [.agg [.list 2, .list 1], .agg [.list 2, .list 1]], [], [(.ret, ⟨[(0, .tuple [.nilp, .nilp, .int .i64])], [], 1⟩), (.ret, ⟨[(0, .tuple [.nilp, .bptr 0 0, .int .i64])], [.box [.list 2, .list 1, .list 2]], 1⟩), (.ret, ⟨[(0, .tuple [.bptr 0 0, .nilp, .int .i64])], [.box [.list 2, .list 1, .list 2]], 1⟩), (.ret, ⟨[(0, .tuple [.bptr 0 0, .bptr 1 0, .int .i64])], [.box [.list 2, .list 1, .list 2], .box [.list 2, .list 1, .list 2]], 1⟩)]⟩
noncomputable def la62 : List LA :=
 []
noncomputable def ja62 : List JA :=
 []
noncomputable def gam62 : List CF :=
 [⟨ctr48, F48⟩]
noncomputable def an62 : Anns :=
 ⟨gam62, ja62, []⟩
noncomputable def g62 (it : It) : (p : Prim) → (List (List (D)) × (List (List (D)) × (List (List (D)) × (List (List (D)) × Unit)))) → Option (((Int × Unit) ⊕ ((List (List (D)) × (List (List (D)) × (List (List (D)) × (Int × Unit)))) ⊕ ((List (List (D)) × (List (List (D)) × (List (List (D)) × (Int × Unit)))) ⊕ (List (List (D)) × (List (List (D)) × (List (List (D)) × (List (List (D)) × (List (List (D)) × (List (List (D)) × (Int × Unit))))))))))) :=
 fun p x =>
 opt.alt ((Int × Unit)) ((List (List (D)) × (List (List (D)) × (List (List (D)) × (Int × Unit))))) _ (g48 it p (x.1, (x.2.1, ()))) (fun y70 =>
 opt.ask _ (p.cmp .neq y70.1 (0 : Int)) (
 opt.ret _ (Sum.inl (y70.1, ()))) (
 opt.alt ((Int × Unit)) ((List (List (D)) × (List (List (D)) × (List (List (D)) × (Int × Unit))))) _ (g48 it p (x.2.2.1, (x.2.2.2.1, ()))) (fun y72 =>
 opt.ret _ (Sum.inl (y72.1, ()))) (fun y73 =>
 opt.bnd ((List (List (D)) × (List (List (D)) × (List (List (D)) × (Int × Unit))))) _ (some y73) fun y74 =>
 opt.ret _ (Sum.inr (Sum.inl (y74.1, (y74.2.1, (y74.2.2.1, (y74.2.2.2.1, ()))))))))) (fun y71 =>
 opt.bnd ((List (List (D)) × (List (List (D)) × (List (List (D)) × (Int × Unit))))) _ (some y71) fun y75 =>
 opt.ask _ (p.cmp .neq y75.2.2.2.1 (0 : Int)) (
 opt.ret _ (Sum.inl (y75.2.2.2.1, ()))) (
 opt.alt ((Int × Unit)) ((List (List (D)) × (List (List (D)) × (List (List (D)) × (Int × Unit))))) _ (g48 it p (x.2.2.1, (x.2.2.2.1, ()))) (fun y76 =>
 opt.ret _ (Sum.inr (Sum.inr (Sum.inl (y75.1, (y75.2.1, (y75.2.2.1, (y76.1, ())))))))) (fun y77 =>
 opt.bnd ((List (List (D)) × (List (List (D)) × (List (List (D)) × (Int × Unit))))) _ (some y77) fun y78 =>
 opt.ret _ (Sum.inr (Sum.inr (Sum.inr (y75.1, (y75.2.1, (y75.2.2.1, (y78.1, (y78.2.1, (y78.2.2.1, (y78.2.2.2.1, ())))))))))))))
noncomputable def G62 := g62 it0
noncomputable def F62 : Prim → Tup (ctr62).scs → Option (STup (scss (ctr62).outs)) :=
 fun p x => G62 p x
theorem eq62 (p : Prim) (x : Tup (ctr62).scs) : bodyRun opt p (autoEnv Go.Proofs.Try.prog) (mkOrc opt p (autoEnv Go.Proofs.Try.prog) 400 (an62) la62) 400 ctr62 x = G62 p x := by kernel_rfl
theorem gok62 : GamOk Go.Proofs.Try.prog (gam62) := by
  intro cf h
  simp only [gam62, List.mem_cons, List.not_mem_nil, or_false] at h
  rcases h with rfl
  · exact ok48
theorem enters62 : Enters Go.Proofs.Try.prog 62 := enters_auto (b := _) rfl (by kernel_rfl)
theorem ok62 : CtrOk Go.Proofs.Try.prog ctr62 (F62 std) := ctr_of_body (autoEnv_ok follows_mixed) (mkOrc_ok (autoEnv_ok follows_mixed) gok62 _) enters62 (fun x => eq62 std x)
end Go.Am
end
