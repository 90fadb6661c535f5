/- Texts of this claim. -/
import Derived.Test.YtolfgnbldofcjaaRa
import Derived.Test.YtolfgnbldofcjaaProg
import Derived.KernelRfl
section
set_option linter.unusedVariables false
set_option maxRecDepth 100000
set_option maxHeartbeats 0
namespace Go.Am
noncomputable def ctr21 : Ctr :=
 ⟨21, [.agg [.list 2, .list 1], .agg [.int .i64, .int .i64]], [], [(.ret, ⟨[(0, .tuple [.bool, .int .i64])], [], 1⟩)]⟩
noncomputable def la21 : List LA :=
 []
noncomputable def ja21 : List JA :=
 []
noncomputable def gam21 : List CF :=
 [⟨ctr57, F57⟩, ⟨ctr53, F53⟩, ⟨ctr48, F48⟩]
noncomputable def an21 : Anns :=
 ⟨gam21, ja21, []⟩
noncomputable def g21 (it : It) : (p : Prim) → (List (List (D)) × (List (List (D)) × (Int × (Int × Unit)))) → Option ((Bool × (Int × Unit))) :=
 fun p x =>
 opt.alt ((Int × Unit)) ((List (List (D)) × (List (List (D)) × (List (List (D)) × (Int × Unit))))) _ (g48 it p (x.1, (x.2.1, ()))) (fun y16 =>
 opt.ask _ (p.cmp .neq y16.1 (0 : Int)) (
 opt.ret _ (Bool.false, (y16.1, ()))) (
 opt.need _ (p.and Bool.true (p.and Bool.true (p.and (p.leN (p.add 0 1) (p.len [[(D.int .i64 x.2.2.1), (D.int .i64 x.2.2.2.1)]])) Bool.true))) <|
 opt.bnd ((Bool × Unit)) _ (g53 it p ((-1099511627776 : Int), ((1099511627776 : Int), ((p.cut [[(D.int .i64 x.2.2.1), (D.int .i64 x.2.2.2.1)]] 0 1), ())))) fun y18 =>
 opt.ask _ (bif y18.1 then Bool.false else Bool.true) (
 opt.ret _ (Bool.false, ((3 : Int), ()))) (
 opt.no _ 41))) (fun y17 =>
 opt.bnd ((List (List (D)) × (List (List (D)) × (List (List (D)) × (Int × Unit))))) _ (some y17) fun y19 =>
 opt.ask _ (p.cmp .neq y19.2.2.2.1 (0 : Int)) (
 opt.ret _ (Bool.false, (y19.2.2.2.1, ()))) (
 opt.need _ (p.and Bool.true (p.and Bool.true (p.and (p.leN (p.add 0 1) (p.len [[(D.int .i64 x.2.2.1), (D.int .i64 x.2.2.2.1)]])) Bool.true))) <|
 opt.bnd ((Bool × Unit)) _ (g53 it p ((-1099511627776 : Int), ((1099511627776 : Int), ((p.cut [[(D.int .i64 x.2.2.1), (D.int .i64 x.2.2.2.1)]] 0 1), ())))) fun y20 =>
 opt.ask _ (bif y20.1 then Bool.false else Bool.true) (
 opt.ret _ (Bool.false, ((3 : Int), ()))) (
 opt.bnd ((Bool × Unit)) _ (g57 it p (y19.2.2.1, (x.2.2.1, (x.2.2.2.1, ((1 : Int), ()))))) fun y21 =>
 opt.ret _ (y21.1, ((0 : Int), ())))))
noncomputable def G21 := g21 it0
noncomputable def F21 : Prim → Tup (ctr21).scs → Option (STup (scss (ctr21).outs)) :=
 fun p x => G21 p x
theorem eq21 (p : Prim) (x : Tup (ctr21).scs) : bodyRun opt p (autoEnv Go.Proofs.Try.prog) (mkOrc opt p (autoEnv Go.Proofs.Try.prog) 400 (an21) la21) 400 ctr21 x = G21 p x := by kernel_rfl
theorem gok21 : GamOk Go.Proofs.Try.prog (gam21) := by
  intro cf h
  simp only [gam21, List.mem_cons, List.not_mem_nil, or_false] at h
  rcases h with rfl | rfl | rfl
  · exact ok57
  · exact ok53
  · exact ok48
theorem enters21 : Enters Go.Proofs.Try.prog 21 := enters_auto (b := _) rfl (by kernel_rfl)
theorem ok21 : CtrOk Go.Proofs.Try.prog ctr21 (F21 std) := ctr_of_body (autoEnv_ok follows_mixed) (mkOrc_ok (autoEnv_ok follows_mixed) gok21 _) enters21 (fun x => eq21 std x)
noncomputable def ctr23 : Ctr :=
 ⟨23, [.agg [.list 2, .list 1], .list 2], [], [(.ret, ⟨[(0, .tuple [.agg [.int .i64, .int .i64], .int .i64])], [], 1⟩)]⟩
noncomputable def la23 : List LA :=
 [⟨23, [false, true, false, true, true, true, true], 0, ⟨⟨[(4, .bptr 0 0), (8, .list 2), (37, .list 2), (38, .int .i64), (39, .int .i64)], [.box [.int .i64, .int .i64]], 54⟩, [(AX.ret, ⟨[(4, .bptr 0 0), (5, .int .i64)], [.box [.int .i64, .int .i64]], 54⟩), ((AX.exit 1), ⟨[(4, .bptr 0 0)], [.box [.int .i64, .int .i64]], 54⟩)]⟩⟩]
noncomputable def ja23 : List JA :=
 [⟨23, [true, true, true, false, false, true, true], 0, [(AX.ret, ⟨[(4, .bptr 0 0), (5, .int .i64)], [.box [.int .i64, .int .i64]], 54⟩), (AX.normal, ⟨[(1, .list 2), (4, .bptr 0 0), (6, .nilp)], [.box [.int .i64, .int .i64]], 54⟩), (AX.normal, ⟨[(1, .list 2), (4, .bptr 0 0), (6, .bptr 1 0)], [.box [.int .i64, .int .i64], .box [.list 2, .list 1, .list 2]], 54⟩)]⟩,
 ⟨23, [true, false, false, true, true], 0, [(AX.ret, ⟨[(4, .bptr 0 0), (5, .int .i64)], [.box [.int .i64, .int .i64]], 54⟩), (AX.normal, ⟨[(1, .list 2), (4, .bptr 0 0), (6, .nilp)], [.box [.int .i64, .int .i64]], 54⟩), (AX.normal, ⟨[(1, .list 2), (4, .bptr 0 0), (6, .bptr 1 0)], [.box [.int .i64, .int .i64], .box [.list 2, .list 1, .list 2]], 54⟩)]⟩]
noncomputable def gam23 : List CF :=
 [⟨ctr57, F57⟩, ⟨ctr59, F59⟩, ⟨ctr60, F60⟩, ⟨ctr53, F53⟩, ⟨ctr50, F50⟩, ⟨ctr48, F48⟩]
noncomputable def an23 : Anns :=
 ⟨gam23, ja23, []⟩
noncomputable def c23_2 (it : It) (p : Prim) : (Int × (Int × (List (List (D)) × (List (List (D)) × (Int × (Int × Unit)))))) → Option ((Int × (Int × (List (List (D)) × (List (List (D)) × (Int × (Int × Unit)))))) ⊕ ((Int × (Int × (Int × Unit))) ⊕ (Int × (Int × Unit)))) :=
 fun s104 => opt.run _ (
 opt.ask _ (p.cmp .lss s104.2.2.2.2.2.1 s104.2.2.2.2.1) (
 opt.need _ (p.rowOk s104.2.2.2.1 (p.nat s104.2.2.2.2.2.1) [(CK.int .i64), (CK.int .i64)]) <|
 opt.need _ (p.cmp .geq s104.2.2.2.2.2.1 (0 : Int)) <|
 opt.bnd ((Bool × Unit)) _ (g57 it p (s104.2.2.1, ((p.rdI s104.2.2.2.1 (p.nat s104.2.2.2.2.2.1) 0), ((p.rdI s104.2.2.2.1 (p.nat s104.2.2.2.2.2.1) 1), ((1 : Int), ()))))) fun y105 =>
 opt.ask _ (bif y105.1 then Bool.false else Bool.true) (
 opt.ret _ (Sum.inr (Sum.inl ((p.rdI s104.2.2.2.1 (p.nat s104.2.2.2.2.2.1) 0), ((p.rdI s104.2.2.2.1 (p.nat s104.2.2.2.2.2.1) 1), ((0 : Int), ())))))) (
 opt.ret _ (Sum.inl (s104.1, (s104.2.1, (s104.2.2.1, (s104.2.2.2.1, (s104.2.2.2.2.1, ((p.ar .add .i64 s104.2.2.2.2.2.1 (1 : Int)), ()))))))))) (
 opt.ret _ (Sum.inr (Sum.inr (s104.1, (s104.2.1, ()))))))
noncomputable def c23_1 (it : It) (p : Prim) : (Int × (Int × (List (List (D)) × (List (List (D)) × (Int × (Int × Unit)))))) → Option ((Int × (Int × (List (List (D)) × (List (List (D)) × (Int × (Int × Unit)))))) ⊕ ((Int × (Int × (Int × Unit))) ⊕ (Int × (Int × Unit)))) :=
 fun s82 => opt.run _ (
 opt.ask _ (p.cmp .lss s82.2.2.2.2.2.1 s82.2.2.2.2.1) (
 opt.need _ (p.rowOk s82.2.2.2.1 (p.nat s82.2.2.2.2.2.1) [(CK.int .i64), (CK.int .i64)]) <|
 opt.need _ (p.cmp .geq s82.2.2.2.2.2.1 (0 : Int)) <|
 opt.bnd ((Bool × Unit)) _ (g57 it p (s82.2.2.1, ((p.rdI s82.2.2.2.1 (p.nat s82.2.2.2.2.2.1) 0), ((p.rdI s82.2.2.2.1 (p.nat s82.2.2.2.2.2.1) 1), ((1 : Int), ()))))) fun y83 =>
 opt.ask _ (bif y83.1 then Bool.false else Bool.true) (
 opt.ret _ (Sum.inr (Sum.inl ((p.rdI s82.2.2.2.1 (p.nat s82.2.2.2.2.2.1) 0), ((p.rdI s82.2.2.2.1 (p.nat s82.2.2.2.2.2.1) 1), ((0 : Int), ())))))) (
 opt.ret _ (Sum.inl (s82.1, (s82.2.1, (s82.2.2.1, (s82.2.2.2.1, (s82.2.2.2.2.1, ((p.ar .add .i64 s82.2.2.2.2.2.1 (1 : Int)), ()))))))))) (
 opt.ret _ (Sum.inr (Sum.inr (s82.1, (s82.2.1, ()))))))
noncomputable def g23 (it : It) : (p : Prim) → (List (List (D)) × (List (List (D)) × (List (List (D)) × Unit))) → Option ((Int × (Int × (Int × Unit)))) :=
 fun p x =>
 opt.alt ((Int × Unit)) ((List (List (D)) × (List (List (D)) × (List (List (D)) × (Int × Unit))))) _ (g48 it p (x.1, (x.2.1, ()))) (fun y64 =>
 opt.alt ((Int × (Int × (Int × Unit)))) (((Int × (Int × (List (List (D)) × Unit))) ⊕ (Int × (Int × (List (List (D)) × (List (List (D)) × (List (List (D)) × (List (List (D)) × Unit)))))))) _ (
 opt.run (((Int × (Int × (Int × Unit))) ⊕ ((Int × (Int × (List (List (D)) × Unit))) ⊕ (Int × (Int × (List (List (D)) × (List (List (D)) × (List (List (D)) × (List (List (D)) × Unit))))))))) (
 opt.ask _ (p.cmp .neq y64.1 (0 : Int)) (
 opt.ret _ (Sum.inl ((0 : Int), ((0 : Int), (y64.1, ()))))) (
 opt.bnd ((Bool × Unit)) _ (G50 p (x.2.2.1, ())) fun y66 =>
 opt.alt ((Int × (Int × (Int × Unit)))) (((Int × (Int × (List (List (D)) × Unit))) ⊕ (Int × (Int × (List (List (D)) × (List (List (D)) × (List (List (D)) × (List (List (D)) × Unit)))))))) _ (
 opt.run (((Int × (Int × (Int × Unit))) ⊕ ((Int × (Int × (List (List (D)) × Unit))) ⊕ (Int × (Int × (List (List (D)) × (List (List (D)) × (List (List (D)) × (List (List (D)) × Unit))))))))) (
 opt.ask _ (bif y66.1 then Bool.false else Bool.true) (
 opt.ret _ (Sum.inl ((0 : Int), ((0 : Int), ((6 : Int), ()))))) (
 opt.bnd ((Bool × Unit)) _ (g53 it p ((-10000 : Int), ((10000 : Int), (x.2.2.1, ())))) fun y67 =>
 opt.ask _ (bif y67.1 then Bool.false else Bool.true) (
 opt.ret _ (Sum.inl ((0 : Int), ((0 : Int), ((3 : Int), ()))))) (
 opt.ret _ (Sum.inr (Sum.inl ((0 : Int), ((0 : Int), (x.2.2.1, ()))))))))) (fun y68 =>
 opt.ret _ (Sum.inl (y68.1, (y68.2.1, (y68.2.2.1, ()))))) (fun y69 =>
 opt.alt ((Int × (Int × (List (List (D)) × Unit)))) ((Int × (Int × (List (List (D)) × (List (List (D)) × (List (List (D)) × (List (List (D)) × Unit))))))) _ (some y69) (fun y70 =>
 opt.ret _ (Sum.inr (Sum.inl (y70.1, (y70.2.1, (y70.2.2.1, ())))))) (fun y71 =>
 opt.bnd ((Int × (Int × (List (List (D)) × (List (List (D)) × (List (List (D)) × (List (List (D)) × Unit))))))) _ (some y71) fun y72 =>
 opt.ret _ (Sum.inr (Sum.inr (y72.1, (y72.2.1, (y72.2.2.1, (y72.2.2.2.1, (y72.2.2.2.2.1, (y72.2.2.2.2.2.1, ()))))))))))))) (fun y73 =>
 opt.ret _ (y73.1, (y73.2.1, (y73.2.2.1, ())))) (fun y74 =>
 opt.alt ((Int × (Int × (List (List (D)) × Unit)))) ((Int × (Int × (List (List (D)) × (List (List (D)) × (List (List (D)) × (List (List (D)) × Unit))))))) _ (some y74) (fun y75 =>
 opt.bnd ((List (List (D)) × Unit)) _ (g60 it p (y75.2.2.1, ())) fun y77 =>
 opt.bnd ((List (List (D)) × Unit)) _ (g59 it p (y77.1, ())) fun y78 =>
 opt.no _ 41) (fun y76 =>
 opt.bnd ((Int × (Int × (List (List (D)) × (List (List (D)) × (List (List (D)) × (List (List (D)) × Unit))))))) _ (some y76) fun y79 =>
 opt.bnd ((List (List (D)) × Unit)) _ (g60 it p (y79.2.2.2.2.2.1, ())) fun y80 =>
 opt.bnd ((List (List (D)) × Unit)) _ (g59 it p (y80.1, ())) fun y81 =>
 opt.alt ((Int × (Int × (Int × Unit)))) ((Int × (Int × Unit))) _ (
 it _ _ (c23_1 it p) (y79.1, (y79.2.1, (y81.1, (y79.2.2.2.2.1, ((p.ofNat (p.len y79.2.2.2.2.1)), ((0 : Int), ()))))))) (fun y84 =>
 opt.ret _ (y84.1, (y84.2.1, (y84.2.2.1, ())))) (fun y85 =>
 opt.bnd ((Int × (Int × Unit))) _ (some y85) fun y86 =>
 opt.ret _ ((0 : Int), ((0 : Int), ((5 : Int), ()))))))) (fun y65 =>
 opt.bnd ((List (List (D)) × (List (List (D)) × (List (List (D)) × (Int × Unit))))) _ (some y65) fun y87 =>
 opt.alt ((Int × (Int × (Int × Unit)))) (((Int × (Int × (List (List (D)) × Unit))) ⊕ (Int × (Int × (List (List (D)) × (List (List (D)) × (List (List (D)) × (List (List (D)) × Unit)))))))) _ (
 opt.run (((Int × (Int × (Int × Unit))) ⊕ ((Int × (Int × (List (List (D)) × Unit))) ⊕ (Int × (Int × (List (List (D)) × (List (List (D)) × (List (List (D)) × (List (List (D)) × Unit))))))))) (
 opt.ask _ (p.cmp .neq y87.2.2.2.1 (0 : Int)) (
 opt.ret _ (Sum.inl ((0 : Int), ((0 : Int), (y87.2.2.2.1, ()))))) (
 opt.bnd ((Bool × Unit)) _ (G50 p (x.2.2.1, ())) fun y88 =>
 opt.alt ((Int × (Int × (Int × Unit)))) (((Int × (Int × (List (List (D)) × Unit))) ⊕ (Int × (Int × (List (List (D)) × (List (List (D)) × (List (List (D)) × (List (List (D)) × Unit)))))))) _ (
 opt.run (((Int × (Int × (Int × Unit))) ⊕ ((Int × (Int × (List (List (D)) × Unit))) ⊕ (Int × (Int × (List (List (D)) × (List (List (D)) × (List (List (D)) × (List (List (D)) × Unit))))))))) (
 opt.ask _ (bif y88.1 then Bool.false else Bool.true) (
 opt.ret _ (Sum.inl ((0 : Int), ((0 : Int), ((6 : Int), ()))))) (
 opt.bnd ((Bool × Unit)) _ (g53 it p ((-10000 : Int), ((10000 : Int), (x.2.2.1, ())))) fun y89 =>
 opt.ask _ (bif y89.1 then Bool.false else Bool.true) (
 opt.ret _ (Sum.inl ((0 : Int), ((0 : Int), ((3 : Int), ()))))) (
 opt.ret _ (Sum.inr (Sum.inr ((0 : Int), ((0 : Int), (y87.1, (y87.2.1, (y87.2.2.1, (x.2.2.1, ())))))))))))) (fun y90 =>
 opt.ret _ (Sum.inl (y90.1, (y90.2.1, (y90.2.2.1, ()))))) (fun y91 =>
 opt.alt ((Int × (Int × (List (List (D)) × Unit)))) ((Int × (Int × (List (List (D)) × (List (List (D)) × (List (List (D)) × (List (List (D)) × Unit))))))) _ (some y91) (fun y92 =>
 opt.ret _ (Sum.inr (Sum.inl (y92.1, (y92.2.1, (y92.2.2.1, ())))))) (fun y93 =>
 opt.bnd ((Int × (Int × (List (List (D)) × (List (List (D)) × (List (List (D)) × (List (List (D)) × Unit))))))) _ (some y93) fun y94 =>
 opt.ret _ (Sum.inr (Sum.inr (y94.1, (y94.2.1, (y94.2.2.1, (y94.2.2.2.1, (y94.2.2.2.2.1, (y94.2.2.2.2.2.1, ()))))))))))))) (fun y95 =>
 opt.ret _ (y95.1, (y95.2.1, (y95.2.2.1, ())))) (fun y96 =>
 opt.alt ((Int × (Int × (List (List (D)) × Unit)))) ((Int × (Int × (List (List (D)) × (List (List (D)) × (List (List (D)) × (List (List (D)) × Unit))))))) _ (some y96) (fun y97 =>
 opt.bnd ((List (List (D)) × Unit)) _ (g60 it p (y97.2.2.1, ())) fun y99 =>
 opt.bnd ((List (List (D)) × Unit)) _ (g59 it p (y99.1, ())) fun y100 =>
 opt.no _ 41) (fun y98 =>
 opt.bnd ((Int × (Int × (List (List (D)) × (List (List (D)) × (List (List (D)) × (List (List (D)) × Unit))))))) _ (some y98) fun y101 =>
 opt.bnd ((List (List (D)) × Unit)) _ (g60 it p (y101.2.2.2.2.2.1, ())) fun y102 =>
 opt.bnd ((List (List (D)) × Unit)) _ (g59 it p (y102.1, ())) fun y103 =>
 opt.alt ((Int × (Int × (Int × Unit)))) ((Int × (Int × Unit))) _ (
 it _ _ (c23_2 it p) (y101.1, (y101.2.1, (y103.1, (y101.2.2.2.2.1, ((p.ofNat (p.len y101.2.2.2.2.1)), ((0 : Int), ()))))))) (fun y106 =>
 opt.ret _ (y106.1, (y106.2.1, (y106.2.2.1, ())))) (fun y107 =>
 opt.bnd ((Int × (Int × Unit))) _ (some y107) fun y108 =>
 opt.ret _ ((0 : Int), ((0 : Int), ((5 : Int), ())))))))
noncomputable def G23 := g23 it0
noncomputable def F23 : Prim → Tup (ctr23).scs → Option (STup (scss (ctr23).outs)) :=
 fun p x => G23 p x
theorem eq23 (p : Prim) (x : Tup (ctr23).scs) : bodyRun opt p (autoEnv Go.Proofs.Try.prog) (mkOrc opt p (autoEnv Go.Proofs.Try.prog) 400 (an23) la23) 400 ctr23 x = G23 p x := by kernel_rfl
theorem gok23 : GamOk Go.Proofs.Try.prog (gam23) := by
  intro cf h
  simp only [gam23, List.mem_cons, List.not_mem_nil, or_false] at h
  rcases h with rfl | rfl | rfl | rfl | rfl | rfl
  · exact ok57
  · exact ok59
  · exact ok60
  · exact ok53
  · exact ok50
  · exact ok48
theorem enters23 : Enters Go.Proofs.Try.prog 23 := enters_auto (b := _) rfl (by kernel_rfl)
theorem ok23 : CtrOk Go.Proofs.Try.prog ctr23 (F23 std) := ctr_of_body (autoEnv_ok follows_mixed) (mkOrc_ok (autoEnv_ok follows_mixed) gok23 _) enters23 (fun x => eq23 std x)
end Go.Am
end

section
set_option linter.unusedVariables false
set_option maxRecDepth 100000
set_option maxHeartbeats 0
namespace Go.Am
noncomputable def ctr32 : Ctr :=
 ⟨32, [.agg [.list 2, .list 1], .agg [.list 2, .list 1]], [], [(.ret, ⟨[(0, .tuple [.agg [.int .i64, .int .i64, .int .i64], .int .i64])], [], 1⟩)]⟩
noncomputable def la32 : List LA :=
 []
noncomputable def ja32 : List JA :=
 []
noncomputable def gam32 : List CF :=
 [⟨ctr63, F63⟩, ⟨ctr62, F62⟩]
noncomputable def an32 : Anns :=
 ⟨gam32, ja32, []⟩
noncomputable def g32 (it : It) : (p : Prim) → (List (List (D)) × (List (List (D)) × (List (List (D)) × (List (List (D)) × Unit)))) → Option ((Int × (Int × (Int × (Int × Unit))))) :=
 fun p x =>
 opt.alt ((Int × Unit)) (((List (List (D)) × (List (List (D)) × (List (List (D)) × (Int × Unit)))) ⊕ ((List (List (D)) × (List (List (D)) × (List (List (D)) × (Int × Unit)))) ⊕ (List (List (D)) × (List (List (D)) × (List (List (D)) × (List (List (D)) × (List (List (D)) × (List (List (D)) × (Int × Unit)))))))))) _ (g62 it p (x.1, (x.2.1, (x.2.2.1, (x.2.2.2.1, ()))))) (fun y19 =>
 opt.ask _ (p.cmp .neq y19.1 (0 : Int)) (
 opt.ret _ ((0 : Int), ((0 : Int), ((0 : Int), (y19.1, ()))))) (
 opt.no _ 41)) (fun y20 =>
 opt.alt ((List (List (D)) × (List (List (D)) × (List (List (D)) × (Int × Unit))))) (((List (List (D)) × (List (List (D)) × (List (List (D)) × (Int × Unit)))) ⊕ (List (List (D)) × (List (List (D)) × (List (List (D)) × (List (List (D)) × (List (List (D)) × (List (List (D)) × (Int × Unit))))))))) _ (some y20) (fun y21 =>
 opt.ask _ (p.cmp .neq y21.2.2.2.1 (0 : Int)) (
 opt.ret _ ((0 : Int), ((0 : Int), ((0 : Int), (y21.2.2.2.1, ()))))) (
 opt.no _ 41)) (fun y22 =>
 opt.alt ((List (List (D)) × (List (List (D)) × (List (List (D)) × (Int × Unit))))) ((List (List (D)) × (List (List (D)) × (List (List (D)) × (List (List (D)) × (List (List (D)) × (List (List (D)) × (Int × Unit)))))))) _ (some y22) (fun y23 =>
 opt.ask _ (p.cmp .neq y23.2.2.2.1 (0 : Int)) (
 opt.ret _ ((0 : Int), ((0 : Int), ((0 : Int), (y23.2.2.2.1, ()))))) (
 opt.no _ 41)) (fun y24 =>
 opt.bnd ((List (List (D)) × (List (List (D)) × (List (List (D)) × (List (List (D)) × (List (List (D)) × (List (List (D)) × (Int × Unit)))))))) _ (some y24) fun y25 =>
 opt.ask _ (p.cmp .neq y25.2.2.2.2.2.2.1 (0 : Int)) (
 opt.ret _ ((0 : Int), ((0 : Int), ((0 : Int), (y25.2.2.2.2.2.2.1, ()))))) (
 opt.bnd ((Int × (Int × (Int × (Bool × Unit))))) _ (g63 it p (y25.2.2.1, (y25.2.2.2.2.2.1, ()))) fun y26 =>
 opt.ask _ (bif y26.2.2.2.1 then Bool.false else Bool.true) (
 opt.ret _ ((0 : Int), ((0 : Int), ((0 : Int), ((21 : Int), ()))))) (
 opt.ret _ (y26.1, (y26.2.1, (y26.2.2.1, ((0 : Int), ())))))))))
noncomputable def G32 := g32 it0
noncomputable def F32 : Prim → Tup (ctr32).scs → Option (STup (scss (ctr32).outs)) :=
 fun p x => G32 p x
theorem eq32 (p : Prim) (x : Tup (ctr32).scs) : bodyRun opt p (autoEnv Go.Proofs.Try.prog) (mkOrc opt p (autoEnv Go.Proofs.Try.prog) 400 (an32) la32) 400 ctr32 x = G32 p x := by kernel_rfl
theorem gok32 : GamOk Go.Proofs.Try.prog (gam32) := by
  intro cf h
  simp only [gam32, List.mem_cons, List.not_mem_nil, or_false] at h
  rcases h with rfl | rfl
  · exact ok63
  · exact ok62
theorem enters32 : Enters Go.Proofs.Try.prog 32 := enters_auto (b := _) rfl (by kernel_rfl)
theorem ok32 : CtrOk Go.Proofs.Try.prog ctr32 (F32 std) := ctr_of_body (autoEnv_ok follows_mixed) (mkOrc_ok (autoEnv_ok follows_mixed) gok32 _) enters32 (fun x => eq32 std x)
end Go.Am
end

section
set_option linter.unusedVariables false
set_option maxRecDepth 100000
set_option maxHeartbeats 0
namespace Go.Am
noncomputable def ctr27 : Ctr :=
 ⟨27, [.list 2], [], [(.ret, ⟨[(0, .tuple [.int .i64, .int .i64, .int .i64])], [], 1⟩)]⟩
noncomputable def la27 : List LA :=
 [⟨27, [false, true, false, true, true, true], 0, ⟨⟨[(5, .vec 0 1), (22, .list 2), (23, .int .i64), (24, .int .i64)], [.row [(CK.ref [(CR.list 2), (CR.list 1), (CR.list 2)])]], 103⟩, [(AX.ret, ⟨[(2, .int .i64), (3, .int .i64), (4, .int .i64)], [], 103⟩), ((AX.exit 0), ⟨[(5, .vec 0 1)], [.row [(CK.ref [(CR.list 2), (CR.list 1), (CR.list 2)])]], 103⟩)]⟩⟩,
 ⟨27, [false, true, false, true, true, true, true, true], 0, ⟨⟨[(5, .vec 0 1), (10, .map 1), (42, .vec 0 1), (43, .int .i64), (44, .int .i64)], [.row [(CK.ref [(CR.list 2), (CR.list 1), (CR.list 2)])], .map], 103⟩, [((AX.exit 2), ⟨[(5, .vec 0 1), (10, .map 1)], [.row [(CK.ref [(CR.list 2), (CR.list 1), (CR.list 2)])], .map], 103⟩)]⟩⟩,
 ⟨27, [false, true, true, false, false, true, true, false, false, true, false, true, true, true, true, true], 0, ⟨⟨[(5, .vec 0 1), (10, .map 1), (11, .int .i64), (12, .ref [.list 2, .list 1, .list 2]), (42, .vec 0 1), (43, .int .i64), (44, .int .i64), (52, .slc 0 1), (53, .int .i64), (54, .int .i64)], [.row [(CK.ref [(CR.list 2), (CR.list 1), (CR.list 2)])], .map], 103⟩, [((AX.exit 4), ⟨[(5, .vec 0 1), (10, .map 1), (42, .vec 0 1), (43, .int .i64), (44, .int .i64)], [.row [(CK.ref [(CR.list 2), (CR.list 1), (CR.list 2)])], .map], 103⟩)]⟩⟩,
 ⟨27, [false, true, false, true, true, true, true, true, true], 0, ⟨⟨[(5, .vec 0 1), (10, .map 1), (84, .int .i64), (85, .int .i64)], [.row [(CK.ref [(CR.list 2), (CR.list 1), (CR.list 2)])], .map], 103⟩, [(AX.ret, ⟨[(2, .int .i64), (3, .int .i64), (4, .int .i64)], [], 103⟩), ((AX.exit 6), ⟨[], [], 103⟩)]⟩⟩,
 ⟨27, [false, true, true, false, false, true, true, false, false, true, false, true, true, true, true, true, true], 0, ⟨⟨[(5, .vec 0 1), (10, .map 1), (17, .int .i64), (84, .int .i64), (85, .int .i64), (89, .int .i64), (90, .int .i64)], [.row [(CK.ref [(CR.list 2), (CR.list 1), (CR.list 2)])], .map], 103⟩, [(AX.ret, ⟨[(2, .int .i64), (3, .int .i64), (4, .int .i64)], [], 103⟩), ((AX.exit 8), ⟨[(5, .vec 0 1), (10, .map 1), (84, .int .i64), (85, .int .i64)], [.row [(CK.ref [(CR.list 2), (CR.list 1), (CR.list 2)])], .map], 103⟩)]⟩⟩]
noncomputable def ja27 : List JA :=
 [⟨27, [true, true, true, false, false, true, true, false, false, true, true, false, false, true, true, false, false, true, false, true, true, true, true, true], 0, [(AX.normal, ⟨[(5, .vec 0 1), (10, .map 1), (11, .int .i64), (12, .ref [.list 2, .list 1, .list 2]), (42, .vec 0 1), (43, .int .i64), (44, .int .i64), (52, .slc 0 1), (53, .int .i64), (54, .int .i64)], [.row [(CK.ref [(CR.list 2), (CR.list 1), (CR.list 2)])], .map], 103⟩)]⟩,
 ⟨27, [false, true, true, false, false, true, true, false, false, true, true, false, false, true, false, true, true, true, true, true, true], 0, [(AX.ret, ⟨[(2, .int .i64), (3, .int .i64), (4, .int .i64)], [], 103⟩), (AX.normal, ⟨[(5, .vec 0 1), (10, .map 1), (17, .int .i64), (84, .int .i64), (85, .int .i64), (89, .int .i64), (90, .int .i64)], [.row [(CK.ref [(CR.list 2), (CR.list 1), (CR.list 2)])], .map], 103⟩)]⟩,
 ⟨27, [false, true, true, false, false, true, false, true, true, true], 0, [(AX.ret, ⟨[(2, .int .i64), (3, .int .i64), (4, .int .i64)], [], 103⟩), (AX.normal, ⟨[(5, .vec 0 1), (22, .list 2), (23, .int .i64), (24, .int .i64)], [.row [(CK.ref [(CR.list 2), (CR.list 1), (CR.list 2)])]], 103⟩)]⟩]
noncomputable def gam27 : List CF :=
 [⟨ctr63, F63⟩, ⟨ctr48, F48⟩]
noncomputable def an27 : Anns :=
 ⟨gam27, ja27, [⟨27, [true, true, true, false, false, true, true, false, false, true, false, true, true, true], ⟨[(5, .vec 0 1), (8, .ref [.list 2, .list 1, .list 2]), (22, .list 2), (23, .int .i64), (24, .int .i64)], [.row [(CK.ref [(CR.list 2), (CR.list 1), (CR.list 2)])]], 103⟩⟩]⟩
noncomputable def b27_5 (p : Prim) : (List (List (D)) × (List ((D × D)) × (Int × (Int × (Int × (Int × (Int × Unit))))))) → Option ((List (List (D)) × (List ((D × D)) × (Int × (Int × (Int × (Int × (Int × Unit))))))) ⊕ ((Int × (Int × (Int × Unit))) ⊕ (List (List (D)) × (List ((D × D)) × (Int × (Int × Unit)))))) :=
 fun s82 => opt.run _ (
 opt.ask _ (p.cmp .lss s82.2.2.2.2.2.2.1 s82.2.2.2.2.2.1) (
 opt.alt ((Int × (Int × (Int × Unit)))) ((List (List (D)) × (List ((D × D)) × (Int × (Int × (Int × (Int × (Int × Unit)))))))) _ (
 opt.run (((Int × (Int × (Int × Unit))) ⊕ (List (List (D)) × (List ((D × D)) × (Int × (Int × (Int × (Int × (Int × Unit))))))))) (
 opt.need _ (p.mOk s82.2.1 [SK.i, SK.i] Bool.true (D.agg [(D.int .i64 s82.2.2.1), (D.int .i64 s82.2.2.2.2.2.2.1)]) Bool.false [(CK.int .i64)]) <|
 opt.ask _ (p.mhas s82.2.1 [SK.i, SK.i] Bool.true (D.agg [(D.int .i64 s82.2.2.1), (D.int .i64 s82.2.2.2.2.2.2.1)])) (
 opt.ask _ (p.cmp .gtr (p.mI s82.2.1 [SK.i, SK.i] Bool.true (D.agg [(D.int .i64 s82.2.2.1), (D.int .i64 s82.2.2.2.2.2.2.1)]) 0) (0 : Int)) (
 opt.ret _ (Sum.inl (s82.2.2.1, (s82.2.2.2.2.2.2.1, ((0 : Int), ()))))) (
 opt.need _ (p.eqN 0 0) <|
 opt.need _ (p.eqN (p.len s82.1) (p.len s82.1)) <|
 opt.ret _ (Sum.inr (s82.1, (s82.2.1, (s82.2.2.1, (s82.2.2.2.1, (s82.2.2.2.2.1, (s82.2.2.2.2.2.1, (s82.2.2.2.2.2.2.1, ())))))))))) (
 opt.ask _ (p.cmp .gtr (0 : Int) (0 : Int)) (
 opt.ret _ (Sum.inl (s82.2.2.1, (s82.2.2.2.2.2.2.1, ((0 : Int), ()))))) (
 opt.need _ (p.eqN 0 0) <|
 opt.need _ (p.eqN (p.len s82.1) (p.len s82.1)) <|
 opt.ret _ (Sum.inr (s82.1, (s82.2.1, (s82.2.2.1, (s82.2.2.2.1, (s82.2.2.2.2.1, (s82.2.2.2.2.2.1, (s82.2.2.2.2.2.2.1, ())))))))))))) (fun y83 =>
 opt.ret _ (Sum.inr (Sum.inl (y83.1, (y83.2.1, (y83.2.2.1, ())))))) (fun y84 =>
 opt.bnd ((List (List (D)) × (List ((D × D)) × (Int × (Int × (Int × (Int × (Int × Unit)))))))) _ (some y84) fun y85 =>
 opt.need _ (p.eqN 0 0) <|
 opt.need _ (p.eqN (p.len y85.1) (p.len y85.1)) <|
 opt.ret _ (Sum.inl (y85.1, (y85.2.1, (y85.2.2.1, (y85.2.2.2.1, (y85.2.2.2.2.1, (y85.2.2.2.2.2.1, ((p.ar .add .i64 y85.2.2.2.2.2.2.1 (1 : Int)), ())))))))))) (
 opt.need _ (p.eqN 0 0) <|
 opt.need _ (p.eqN (p.len s82.1) (p.len s82.1)) <|
 opt.ret _ (Sum.inr (Sum.inr (s82.1, (s82.2.1, (s82.2.2.2.1, (s82.2.2.2.2.1, ()))))))))
noncomputable def c27_4 (it : It) (p : Prim) : (List (List (D)) × (List ((D × D)) × (Int × (Int × Unit)))) → Option ((List (List (D)) × (List ((D × D)) × (Int × (Int × Unit)))) ⊕ ((Int × (Int × (Int × Unit))) ⊕ Unit)) :=
 fun s81 => opt.run _ (
 opt.ask _ (p.cmp .lss s81.2.2.2.1 s81.2.2.1) (
 opt.need _ (p.eqN 0 0) <|
 opt.need _ (p.eqN (p.len s81.1) (p.len s81.1)) <|
 opt.alt ((Int × (Int × (Int × Unit)))) ((List (List (D)) × (List ((D × D)) × (Int × (Int × Unit))))) _ (
 it _ _ (b27_5 p) (s81.1, (s81.2.1, (s81.2.2.2.1, (s81.2.2.1, (s81.2.2.2.1, ((p.ofNat (p.len s81.1)), ((0 : Int), ())))))))) (fun y86 =>
 opt.ret _ (Sum.inr (Sum.inl (y86.1, (y86.2.1, (y86.2.2.1, ())))))) (fun y87 =>
 opt.bnd ((List (List (D)) × (List ((D × D)) × (Int × (Int × Unit))))) _ (some y87) fun y88 =>
 opt.need _ (p.eqN 0 0) <|
 opt.need _ (p.eqN (p.len y88.1) (p.len y88.1)) <|
 opt.ret _ (Sum.inl (y88.1, (y88.2.1, (y88.2.2.1, ((p.ar .add .i64 y88.2.2.2.1 (1 : Int)), ()))))))) (
 opt.ret _ (Sum.inr (Sum.inr ()))))
noncomputable def c27_3 (it : It) (p : Prim) : (List (List (D)) × (List ((D × D)) × (Int × (List (List (D)) × (List (List (D)) × (List (List (D)) × (Int × (Int × (Nat × (Nat × (Nat × (Int × (Int × Unit))))))))))))) → Option ((List (List (D)) × (List ((D × D)) × (Int × (List (List (D)) × (List (List (D)) × (List (List (D)) × (Int × (Int × (Nat × (Nat × (Nat × (Int × (Int × Unit))))))))))))) ⊕ (List (List (D)) × (List ((D × D)) × (Int × (Int × Unit))))) :=
 fun s76 => opt.run _ (
 opt.ask _ (p.cmp .lss s76.2.2.2.2.2.2.2.2.2.2.2.2.1 s76.2.2.2.2.2.2.2.2.2.2.2.1) (
 opt.need _ (bif (p.cmp .geq s76.2.2.2.2.2.2.2.2.2.2.2.2.1 (0 : Int)) then (p.cmp .lss s76.2.2.2.2.2.2.2.2.2.2.2.2.1 (p.ofNat s76.2.2.2.2.2.2.2.2.2.1)) else Bool.false) <|
 opt.need _ (p.rowOk s76.1 (p.add s76.2.2.2.2.2.2.2.2.1 (p.nat s76.2.2.2.2.2.2.2.2.2.2.2.2.1)) [(CK.ref [(CR.list 2), (CR.list 1), (CR.list 2)])]) <|
 opt.bnd ((Int × (Int × (Int × (Bool × Unit))))) _ (g63 it p ((p.rdL (p.rdR s76.1 (p.add s76.2.2.2.2.2.2.2.2.1 (p.nat s76.2.2.2.2.2.2.2.2.2.2.2.2.1)) 0) 0 2), (s76.2.2.2.2.2.1, ()))) fun y77 =>
 opt.bnd ((List (List (D)) × (List ((D × D)) × (Int × (List (List (D)) × (List (List (D)) × (List (List (D)) × (Int × (Int × (Nat × (Nat × (Nat × (Int × (Int × Unit)))))))))))))) _ (
 opt.run ((List (List (D)) × (List ((D × D)) × (Int × (List (List (D)) × (List (List (D)) × (List (List (D)) × (Int × (Int × (Nat × (Nat × (Nat × (Int × (Int × Unit)))))))))))))) (
 opt.ask _ (bif y77.2.2.2.1 then Bool.false else Bool.true) (
 opt.need _ (p.mOk s76.2.1 [SK.i, SK.i] Bool.true (D.agg [(D.int .i64 s76.2.2.2.2.2.2.2.2.2.2.2.2.1), (D.int .i64 s76.2.2.1)]) Bool.false [(CK.int .i64)]) <|
 opt.ask _ (p.mhas s76.2.1 [SK.i, SK.i] Bool.true (D.agg [(D.int .i64 s76.2.2.2.2.2.2.2.2.2.2.2.2.1), (D.int .i64 s76.2.2.1)])) (
 opt.need _ (p.eqN 0 0) <|
 opt.need _ (p.eqN (p.len s76.1) (p.len s76.1)) <|
 opt.need _ (p.eqN 0 0) <|
 opt.need _ (p.eqN (p.len s76.1) (p.len s76.1)) <|
 opt.ret _ (s76.1, ((p.mset s76.2.1 (p.nat (p.ofNat (p.mpos s76.2.1 [SK.i, SK.i] Bool.true (D.agg [(D.int .i64 s76.2.2.2.2.2.2.2.2.2.2.2.2.1), (D.int .i64 s76.2.2.1)])))) (D.agg [(D.int .i64 s76.2.2.2.2.2.2.2.2.2.2.2.2.1), (D.int .i64 s76.2.2.1)]) (D.int .i64 (p.ar .add .i64 (p.mI s76.2.1 [SK.i, SK.i] Bool.true (D.agg [(D.int .i64 s76.2.2.2.2.2.2.2.2.2.2.2.2.1), (D.int .i64 s76.2.2.1)]) 0) (1 : Int)))), (s76.2.2.1, (s76.2.2.2.1, (s76.2.2.2.2.1, (s76.2.2.2.2.2.1, (s76.2.2.2.2.2.2.1, (s76.2.2.2.2.2.2.2.1, (s76.2.2.2.2.2.2.2.2.1, (s76.2.2.2.2.2.2.2.2.2.1, (s76.2.2.2.2.2.2.2.2.2.2.1, (s76.2.2.2.2.2.2.2.2.2.2.2.1, (s76.2.2.2.2.2.2.2.2.2.2.2.2.1, ())))))))))))))) (
 opt.need _ (p.eqN 0 0) <|
 opt.need _ (p.eqN (p.len s76.1) (p.len s76.1)) <|
 opt.need _ (p.eqN 0 0) <|
 opt.need _ (p.eqN (p.len s76.1) (p.len s76.1)) <|
 opt.ret _ (s76.1, ((p.madd s76.2.1 (D.agg [(D.int .i64 s76.2.2.2.2.2.2.2.2.2.2.2.2.1), (D.int .i64 s76.2.2.1)]) (D.int .i64 (p.ar .add .i64 (0 : Int) (1 : Int)))), (s76.2.2.1, (s76.2.2.2.1, (s76.2.2.2.2.1, (s76.2.2.2.2.2.1, (s76.2.2.2.2.2.2.1, (s76.2.2.2.2.2.2.2.1, (s76.2.2.2.2.2.2.2.2.1, (s76.2.2.2.2.2.2.2.2.2.1, (s76.2.2.2.2.2.2.2.2.2.2.1, (s76.2.2.2.2.2.2.2.2.2.2.2.1, (s76.2.2.2.2.2.2.2.2.2.2.2.2.1, ()))))))))))))))) (
 opt.need _ (p.eqN 0 0) <|
 opt.need _ (p.eqN (p.len s76.1) (p.len s76.1)) <|
 opt.need _ (p.eqN 0 0) <|
 opt.need _ (p.eqN (p.len s76.1) (p.len s76.1)) <|
 opt.ret _ (s76.1, (s76.2.1, (s76.2.2.1, (s76.2.2.2.1, (s76.2.2.2.2.1, (s76.2.2.2.2.2.1, (s76.2.2.2.2.2.2.1, (s76.2.2.2.2.2.2.2.1, (s76.2.2.2.2.2.2.2.2.1, (s76.2.2.2.2.2.2.2.2.2.1, (s76.2.2.2.2.2.2.2.2.2.2.1, (s76.2.2.2.2.2.2.2.2.2.2.2.1, (s76.2.2.2.2.2.2.2.2.2.2.2.2.1, ())))))))))))))))) fun y78 =>
 opt.need _ (p.eqN 0 0) <|
 opt.need _ (p.eqN (p.len y78.1) (p.len y78.1)) <|
 opt.need _ (p.eqN 0 0) <|
 opt.need _ (p.eqN (p.len y78.1) (p.len y78.1)) <|
 opt.ret _ (Sum.inl (y78.1, (y78.2.1, (y78.2.2.1, (y78.2.2.2.1, (y78.2.2.2.2.1, (y78.2.2.2.2.2.1, (y78.2.2.2.2.2.2.1, (y78.2.2.2.2.2.2.2.1, (y78.2.2.2.2.2.2.2.2.1, (y78.2.2.2.2.2.2.2.2.2.1, (y78.2.2.2.2.2.2.2.2.2.2.1, (y78.2.2.2.2.2.2.2.2.2.2.2.1, ((p.ar .add .i64 y78.2.2.2.2.2.2.2.2.2.2.2.2.1 (1 : Int)), ()))))))))))))))) (
 opt.need _ (p.eqN 0 0) <|
 opt.need _ (p.eqN (p.len s76.1) (p.len s76.1)) <|
 opt.need _ (p.eqN 0 0) <|
 opt.need _ (p.eqN (p.len s76.1) (p.len s76.1)) <|
 opt.ret _ (Sum.inr (s76.1, (s76.2.1, (s76.2.2.2.2.2.2.1, (s76.2.2.2.2.2.2.2.1, ())))))))
noncomputable def c27_2 (it : It) (p : Prim) : (List (List (D)) × (List ((D × D)) × (Int × (Int × Unit)))) → Option ((List (List (D)) × (List ((D × D)) × (Int × (Int × Unit)))) ⊕ (List (List (D)) × (List ((D × D)) × Unit))) :=
 fun s75 => opt.run _ (
 opt.ask _ (p.cmp .lss s75.2.2.2.1 s75.2.2.1) (
 opt.need _ (bif (p.cmp .geq s75.2.2.2.1 (0 : Int)) then (p.cmp .lss s75.2.2.2.1 (p.ofNat (p.len s75.1))) else Bool.false) <|
 opt.need _ (p.rowOk s75.1 (p.add 0 (p.nat s75.2.2.2.1)) [(CK.ref [(CR.list 2), (CR.list 1), (CR.list 2)])]) <|
 opt.need _ (p.and (p.cmp .geq (0 : Int) (0 : Int)) (p.and (p.cmp .leq (0 : Int) s75.2.2.2.1) (p.and (p.cmp .leq s75.2.2.2.1 s75.2.2.2.1) (p.cmp .leq s75.2.2.2.1 (p.ofNat (p.len s75.1)))))) <|
 opt.need _ (p.eqN 0 0) <|
 opt.need _ (p.eqN (p.len s75.1) (p.len s75.1)) <|
 opt.need _ (p.eqN 0 0) <|
 opt.need _ (p.eqN (p.len s75.1) (p.len s75.1)) <|
 opt.bnd ((List (List (D)) × (List ((D × D)) × (Int × (Int × Unit))))) _ (
 it _ _ (c27_3 it p) (s75.1, (s75.2.1, (s75.2.2.2.1, ((p.rdL (p.rdR s75.1 (p.add 0 (p.nat s75.2.2.2.1)) 0) 0 0), ((p.rdL (p.rdR s75.1 (p.add 0 (p.nat s75.2.2.2.1)) 0) 0 1), ((p.rdL (p.rdR s75.1 (p.add 0 (p.nat s75.2.2.2.1)) 0) 0 2), (s75.2.2.1, (s75.2.2.2.1, ((p.add 0 (p.nat (0 : Int))), ((p.sub (p.nat s75.2.2.2.1) (p.nat (0 : Int))), ((p.sub (p.nat s75.2.2.2.1) (p.nat (0 : Int))), ((p.ofNat (p.sub (p.nat s75.2.2.2.1) (p.nat (0 : Int)))), ((0 : Int), ())))))))))))))) fun y79 =>
 opt.need _ (p.eqN 0 0) <|
 opt.need _ (p.eqN (p.len y79.1) (p.len y79.1)) <|
 opt.need _ (p.eqN 0 0) <|
 opt.need _ (p.eqN (p.len y79.1) (p.len y79.1)) <|
 opt.ret _ (Sum.inl (y79.1, (y79.2.1, (y79.2.2.1, ((p.ar .add .i64 y79.2.2.2.1 (1 : Int)), ())))))) (
 opt.need _ (p.eqN 0 0) <|
 opt.need _ (p.eqN (p.len s75.1) (p.len s75.1)) <|
 opt.ret _ (Sum.inr (s75.1, (s75.2.1, ())))))
noncomputable def c27_1 (it : It) (p : Prim) : (List (List (D)) × (List (List (D)) × (Int × (Int × Unit)))) → Option ((List (List (D)) × (List (List (D)) × (Int × (Int × Unit)))) ⊕ ((Int × (Int × (Int × Unit))) ⊕ (List (List (D)) × Unit))) :=
 fun s65 => opt.run _ (
 opt.ask _ (p.cmp .lss s65.2.2.2.1 s65.2.2.1) (
 opt.alt ((Int × (Int × (Int × Unit)))) ((List (List (D)) × (List (List (D)) × (Int × (Int × Unit))))) _ (
 opt.run (((Int × (Int × (Int × Unit))) ⊕ (List (List (D)) × (List (List (D)) × (Int × (Int × Unit)))))) (
 opt.need _ (p.rowOk s65.2.1 (p.nat s65.2.2.2.1) [(CK.list 2), (CK.list 1)]) <|
 opt.need _ (p.cmp .geq s65.2.2.2.1 (0 : Int)) <|
 opt.alt ((Int × Unit)) ((List (List (D)) × (List (List (D)) × (List (List (D)) × (Int × Unit))))) _ (g48 it p ((p.rdL s65.2.1 (p.nat s65.2.2.2.1) 0), ((p.rdL s65.2.1 (p.nat s65.2.2.2.1) 1), ()))) (fun y66 =>
 opt.ask _ (p.cmp .neq y66.1 (0 : Int)) (
 opt.ret _ (Sum.inl ((0 : Int), ((0 : Int), (y66.1, ()))))) (
 opt.no _ 96)) (fun y67 =>
 opt.bnd ((List (List (D)) × (List (List (D)) × (List (List (D)) × (Int × Unit))))) _ (some y67) fun y68 =>
 opt.ask _ (p.cmp .neq y68.2.2.2.1 (0 : Int)) (
 opt.ret _ (Sum.inl ((0 : Int), ((0 : Int), (y68.2.2.2.1, ()))))) (
 opt.need _ (p.eqN 0 0) <|
 opt.need _ (p.eqN (p.len s65.1) (p.len s65.1)) <|
 opt.need _ (p.and (p.leN (p.add 0 1) (p.len [[(D.ref [(D.list Bool.false 2 y68.1), (D.list Bool.false 1 y68.2.1), (D.list Bool.false 2 y68.2.2.1)])]])) (p.and (p.leN (p.add 0 (p.len s65.1)) (p.len s65.1)) (p.and (p.leN 1 1) (p.leN (p.add (p.len s65.1) 1) 1000000)))) <|
 opt.need _ (p.eqN 0 0) <|
 opt.need _ (p.eqN (p.add (p.len s65.1) 1) (p.len (p.app (p.cut s65.1 0 (p.len s65.1)) (p.cut [[(D.ref [(D.list Bool.false 2 y68.1), (D.list Bool.false 1 y68.2.1), (D.list Bool.false 2 y68.2.2.1)])]] 0 1)))) <|
 opt.ret _ (Sum.inr ((p.app (p.cut s65.1 0 (p.len s65.1)) (p.cut [[(D.ref [(D.list Bool.false 2 y68.1), (D.list Bool.false 1 y68.2.1), (D.list Bool.false 2 y68.2.2.1)])]] 0 1)), (s65.2.1, (s65.2.2.1, (s65.2.2.2.1, ()))))))))) (fun y69 =>
 opt.ret _ (Sum.inr (Sum.inl (y69.1, (y69.2.1, (y69.2.2.1, ())))))) (fun y70 =>
 opt.bnd ((List (List (D)) × (List (List (D)) × (Int × (Int × Unit))))) _ (some y70) fun y71 =>
 opt.need _ (p.eqN 0 0) <|
 opt.need _ (p.eqN (p.len y71.1) (p.len y71.1)) <|
 opt.ret _ (Sum.inl (y71.1, (y71.2.1, (y71.2.2.1, ((p.ar .add .i64 y71.2.2.2.1 (1 : Int)), ()))))))) (
 opt.need _ (p.eqN 0 0) <|
 opt.need _ (p.eqN (p.len s65.1) (p.len s65.1)) <|
 opt.ret _ (Sum.inr (Sum.inr (s65.1, ())))))
noncomputable def g27 (it : It) : (p : Prim) → (List (List (D)) × Unit) → Option ((Int × (Int × (Int × Unit)))) :=
 fun p x =>
 opt.ask _ (p.cmp .gtr (p.ofNat (p.len x.1)) (8 : Int)) (
 opt.ret _ ((0 : Int), ((0 : Int), ((6 : Int), ())))) (
 opt.alt ((Int × (Int × (Int × Unit)))) ((List (List (D)) × Unit)) _ (
 it _ _ (c27_1 it p) ([], (x.1, ((p.ofNat (p.len x.1)), ((0 : Int), ()))))) (fun y72 =>
 opt.ret _ (y72.1, (y72.2.1, (y72.2.2.1, ())))) (fun y73 =>
 opt.bnd ((List (List (D)) × Unit)) _ (some y73) fun y74 =>
 opt.need _ (p.eqN 0 0) <|
 opt.need _ (p.eqN (p.len y74.1) (p.len y74.1)) <|
 opt.need _ (p.eqN 0 0) <|
 opt.need _ (p.eqN (p.len y74.1) (p.len y74.1)) <|
 opt.bnd ((List (List (D)) × (List ((D × D)) × Unit))) _ (
 it _ _ (c27_2 it p) (y74.1, ([], ((p.ofNat (p.len y74.1)), ((0 : Int), ()))))) fun y80 =>
 opt.need _ (p.eqN 0 0) <|
 opt.need _ (p.eqN (p.len y80.1) (p.len y80.1)) <|
 opt.alt ((Int × (Int × (Int × Unit)))) (Unit) _ (
 it _ _ (c27_4 it p) (y80.1, (y80.2.1, ((p.ofNat (p.len y80.1)), ((0 : Int), ()))))) (fun y89 =>
 opt.ret _ (y89.1, (y89.2.1, (y89.2.2.1, ())))) (fun y90 =>
 opt.bnd (Unit) _ (some y90) fun y91 =>
 opt.ret _ ((0 : Int), ((0 : Int), ((5 : Int), ()))))))
noncomputable def G27 := g27 it0
noncomputable def F27 : Prim → Tup (ctr27).scs → Option (STup (scss (ctr27).outs)) :=
 fun p x => G27 p x
theorem eq27 (p : Prim) (x : Tup (ctr27).scs) : bodyRun opt p (autoEnv Go.Proofs.Try.prog) (mkOrc opt p (autoEnv Go.Proofs.Try.prog) 400 (an27) la27) 400 ctr27 x = G27 p x := by kernel_rfl
theorem gok27 : GamOk Go.Proofs.Try.prog (gam27) := by
  intro cf h
  simp only [gam27, List.mem_cons, List.not_mem_nil, or_false] at h
  rcases h with rfl | rfl
  · exact ok63
  · exact ok48
theorem enters27 : Enters Go.Proofs.Try.prog 27 := enters_auto (b := _) rfl (by kernel_rfl)
theorem ok27 : CtrOk Go.Proofs.Try.prog ctr27 (F27 std) := ctr_of_body (autoEnv_ok follows_mixed) (mkOrc_ok (autoEnv_ok follows_mixed) gok27 _) enters27 (fun x => eq27 std x)
end Go.Am
end

section
set_option linter.unusedVariables false
set_option maxRecDepth 100000
set_option maxHeartbeats 0
namespace Go.Am
noncomputable def ctr78m : Ctr :=
 ⟨78, [.list 2, .clo 66 [.agg [.int .i64, .int .i64]] []], [], [(.ret, ⟨[(0, .int .i64)], [], 1⟩)]⟩
noncomputable def la78m : List LA :=
 [⟨78, [false, true, false, true, true], 0, ⟨⟨[(1, .clo 66 [.agg [.int .i64, .int .i64]] []), (5, .int .i64), (13, .list 2), (14, .int .i64), (15, .int .i64)], [], 26⟩, [((AX.exit 0), ⟨[(5, .int .i64)], [], 26⟩)]⟩⟩]
noncomputable def ja78m : List JA :=
 []
noncomputable def gam78m : List CF :=
 []
noncomputable def an78m : Anns :=
 ⟨gam78m, ja78m, []⟩
noncomputable def b78m_1 (p : Prim) : (Int × (Int × (Int × (List (List (D)) × (Int × (Int × Unit)))))) → Option ((Int × (Int × (Int × (List (List (D)) × (Int × (Int × Unit)))))) ⊕ (Int × Unit)) :=
 fun s51 => opt.run _ (
 opt.ask _ (p.cmp .lss s51.2.2.2.2.2.1 s51.2.2.2.2.1) (
 opt.need _ (p.rowOk s51.2.2.2.1 (p.nat s51.2.2.2.2.2.1) [(CK.int .i64), (CK.int .i64)]) <|
 opt.need _ (p.cmp .geq s51.2.2.2.2.2.1 (0 : Int)) <|
 opt.ret _ (Sum.inl (s51.1, (s51.2.1, ((p.mm .gtr s51.2.2.1 (p.ar .add .i64 (p.ar .mul .i64 s51.1 (p.rdI s51.2.2.2.1 (p.nat s51.2.2.2.2.2.1) 0)) (p.ar .mul .i64 s51.2.1 (p.rdI s51.2.2.2.1 (p.nat s51.2.2.2.2.2.1) 1)))), (s51.2.2.2.1, (s51.2.2.2.2.1, ((p.ar .add .i64 s51.2.2.2.2.2.1 (1 : Int)), ())))))))) (
 opt.ret _ (Sum.inr (s51.2.2.1, ()))))
noncomputable def g78m (it : It) : (p : Prim) → (List (List (D)) × (Int × (Int × Unit))) → Option ((Int × Unit)) :=
 fun p x =>
 opt.need _ (p.rowOk x.1 (p.nat (0 : Int)) [(CK.int .i64), (CK.int .i64)]) <|
 opt.bnd ((Int × Unit)) _ (
 it _ _ (b78m_1 p) (x.2.1, (x.2.2.1, ((p.ar .add .i64 (p.ar .mul .i64 x.2.1 (p.rdI x.1 (p.nat (0 : Int)) 0)) (p.ar .mul .i64 x.2.2.1 (p.rdI x.1 (p.nat (0 : Int)) 1))), (x.1, ((p.ofNat (p.len x.1)), ((0 : Int), ()))))))) fun y52 =>
 opt.ret _ (y52.1, ())
noncomputable def G78m := g78m it0
noncomputable def F78m : Prim → Tup (ctr78m).scs → Option (STup (scss (ctr78m).outs)) :=
 fun p x => G78m p x
theorem eq78m (p : Prim) (x : Tup (ctr78m).scs) : bodyRun opt p (autoEnv Go.Proofs.Try.prog) (mkOrc opt p (autoEnv Go.Proofs.Try.prog) 400 (an78m) la78m) 400 ctr78m x = G78m p x := by kernel_rfl
theorem gok78m : GamOk Go.Proofs.Try.prog gam78m := fun cf h => by cases h
theorem enters78m : Enters Go.Proofs.Try.prog 78 := enters_auto (b := _) rfl (by kernel_rfl)
theorem ok78m : CtrOk Go.Proofs.Try.prog ctr78m (F78m std) := ctr_of_body (autoEnv_ok follows_mixed) (mkOrc_ok (autoEnv_ok follows_mixed) gok78m _) enters78m (fun x => eq78m std x)
noncomputable def ctr39 : Ctr :=
 ⟨39, [.agg [.list 2, .list 1], .agg [.list 2, .list 1], .agg [.int .i64, .int .i64, .int .i64]], [], [(.ret, ⟨[(0, .int .i64)], [], 1⟩)]⟩
noncomputable def la39 : List LA :=
 []
noncomputable def ja39 : List JA :=
 [⟨39, [true, true, true, false, false, true, true, true], 0, [(AX.ret, ⟨[(6, .int .i64)], [], 90⟩), (AX.normal, ⟨[], [], 90⟩)]⟩,
 ⟨39, [true, false, false, true, true, true], 0, [(AX.ret, ⟨[(6, .int .i64)], [], 90⟩), (AX.normal, ⟨[], [], 90⟩)]⟩]
noncomputable def gam39 : List CF :=
 [⟨ctr78m, F78m⟩, ⟨ctr77, F77⟩, ⟨ctr62, F62⟩]
noncomputable def an39 : Anns :=
 ⟨gam39, ja39, []⟩
noncomputable def g39 (it : It) : (p : Prim) → (List (List (D)) × (List (List (D)) × (List (List (D)) × (List (List (D)) × (Int × (Int × (Int × Unit))))))) → Option ((Int × Unit)) :=
 fun p x =>
 opt.alt ((Int × Unit)) (((List (List (D)) × (List (List (D)) × (List (List (D)) × (Int × Unit)))) ⊕ ((List (List (D)) × (List (List (D)) × (List (List (D)) × (Int × Unit)))) ⊕ (List (List (D)) × (List (List (D)) × (List (List (D)) × (List (List (D)) × (List (List (D)) × (List (List (D)) × (Int × Unit)))))))))) _ (g62 it p (x.1, (x.2.1, (x.2.2.1, (x.2.2.2.1, ()))))) (fun y84 =>
 opt.alt ((Int × Unit)) (Unit) _ (
 opt.run (((Int × Unit) ⊕ Unit)) (
 opt.ask _ (p.cmp .neq y84.1 (0 : Int)) (
 opt.ret _ (Sum.inl (y84.1, ()))) (
 opt.ask _ (bif (p.cmp .eql x.2.2.2.2.1 (0 : Int)) then (bif (p.cmp .eql x.2.2.2.2.2.1 (0 : Int)) then Bool.true else Bool.false) else Bool.false) (
 opt.alt ((Int × Unit)) (Unit) _ (
 opt.run (((Int × Unit) ⊕ Unit)) (
 opt.ret _ (Sum.inl ((2 : Int), ())))) (fun y86 =>
 opt.ret _ (Sum.inl (y86.1, ()))) (fun y87 =>
 opt.bnd (Unit) _ (some y87) fun y88 =>
 opt.ret _ (Sum.inr ()))) (
 opt.bnd ((Int × Unit)) _ (G77 p (x.2.2.2.2.1, ())) fun y89 =>
 opt.bnd ((Int × Unit)) _ (G77 p (x.2.2.2.2.2.1, ())) fun y90 =>
 opt.ask _ (p.cmp .gtr (p.mm .gtr y89.1 y90.1) (1048576 : Int)) (
 opt.alt ((Int × Unit)) (Unit) _ (
 opt.run (((Int × Unit) ⊕ Unit)) (
 opt.ret _ (Sum.inl ((2 : Int), ())))) (fun y91 =>
 opt.ret _ (Sum.inl (y91.1, ()))) (fun y92 =>
 opt.bnd (Unit) _ (some y92) fun y93 =>
 opt.ret _ (Sum.inr ()))) (
 opt.bnd ((Int × Unit)) _ (G77 p (x.2.2.2.2.2.2.1, ())) fun y94 =>
 opt.ask _ (p.cmp .gtr y94.1 (1099511627776 : Int)) (
 opt.alt ((Int × Unit)) (Unit) _ (
 opt.run (((Int × Unit) ⊕ Unit)) (
 opt.ret _ (Sum.inl ((2 : Int), ())))) (fun y95 =>
 opt.ret _ (Sum.inl (y95.1, ()))) (fun y96 =>
 opt.bnd (Unit) _ (some y96) fun y97 =>
 opt.ret _ (Sum.inr ()))) (
 opt.ask _ (p.cmp .lss (p.mm .lss x.2.2.2.2.1 x.2.2.2.2.2.1) (-1048576 : Int)) (
 opt.alt ((Int × Unit)) (Unit) _ (
 opt.run (((Int × Unit) ⊕ Unit)) (
 opt.ret _ (Sum.inl ((2 : Int), ())))) (fun y98 =>
 opt.ret _ (Sum.inl (y98.1, ()))) (fun y99 =>
 opt.bnd (Unit) _ (some y99) fun y100 =>
 opt.ret _ (Sum.inr ()))) (
 opt.alt ((Int × Unit)) (Unit) _ (
 opt.run (((Int × Unit) ⊕ Unit)) (
 opt.ask _ (p.cmp .lss x.2.2.2.2.2.2.1 (-1099511627776 : Int)) (
 opt.ret _ (Sum.inl ((2 : Int), ()))) (
 opt.no _ 41))) (fun y101 =>
 opt.ret _ (Sum.inl (y101.1, ()))) (fun y102 =>
 opt.bnd (Unit) _ (some y102) fun y103 =>
 opt.ret _ (Sum.inr ()))))))))) (fun y104 =>
 opt.ret _ (y104.1, ())) (fun y105 =>
 opt.bnd (Unit) _ (some y105) fun y106 =>
 opt.ret _ ((0 : Int), ()))) (fun y85 =>
 opt.alt ((List (List (D)) × (List (List (D)) × (List (List (D)) × (Int × Unit))))) (((List (List (D)) × (List (List (D)) × (List (List (D)) × (Int × Unit)))) ⊕ (List (List (D)) × (List (List (D)) × (List (List (D)) × (List (List (D)) × (List (List (D)) × (List (List (D)) × (Int × Unit))))))))) _ (some y85) (fun y107 =>
 opt.alt ((Int × Unit)) (Unit) _ (
 opt.run (((Int × Unit) ⊕ Unit)) (
 opt.ask _ (p.cmp .neq y107.2.2.2.1 (0 : Int)) (
 opt.ret _ (Sum.inl (y107.2.2.2.1, ()))) (
 opt.ask _ (bif (p.cmp .eql x.2.2.2.2.1 (0 : Int)) then (bif (p.cmp .eql x.2.2.2.2.2.1 (0 : Int)) then Bool.true else Bool.false) else Bool.false) (
 opt.alt ((Int × Unit)) (Unit) _ (
 opt.run (((Int × Unit) ⊕ Unit)) (
 opt.ret _ (Sum.inl ((2 : Int), ())))) (fun y109 =>
 opt.ret _ (Sum.inl (y109.1, ()))) (fun y110 =>
 opt.bnd (Unit) _ (some y110) fun y111 =>
 opt.ret _ (Sum.inr ()))) (
 opt.bnd ((Int × Unit)) _ (G77 p (x.2.2.2.2.1, ())) fun y112 =>
 opt.bnd ((Int × Unit)) _ (G77 p (x.2.2.2.2.2.1, ())) fun y113 =>
 opt.ask _ (p.cmp .gtr (p.mm .gtr y112.1 y113.1) (1048576 : Int)) (
 opt.alt ((Int × Unit)) (Unit) _ (
 opt.run (((Int × Unit) ⊕ Unit)) (
 opt.ret _ (Sum.inl ((2 : Int), ())))) (fun y114 =>
 opt.ret _ (Sum.inl (y114.1, ()))) (fun y115 =>
 opt.bnd (Unit) _ (some y115) fun y116 =>
 opt.ret _ (Sum.inr ()))) (
 opt.bnd ((Int × Unit)) _ (G77 p (x.2.2.2.2.2.2.1, ())) fun y117 =>
 opt.ask _ (p.cmp .gtr y117.1 (1099511627776 : Int)) (
 opt.alt ((Int × Unit)) (Unit) _ (
 opt.run (((Int × Unit) ⊕ Unit)) (
 opt.ret _ (Sum.inl ((2 : Int), ())))) (fun y118 =>
 opt.ret _ (Sum.inl (y118.1, ()))) (fun y119 =>
 opt.bnd (Unit) _ (some y119) fun y120 =>
 opt.ret _ (Sum.inr ()))) (
 opt.ask _ (p.cmp .lss (p.mm .lss x.2.2.2.2.1 x.2.2.2.2.2.1) (-1048576 : Int)) (
 opt.alt ((Int × Unit)) (Unit) _ (
 opt.run (((Int × Unit) ⊕ Unit)) (
 opt.ret _ (Sum.inl ((2 : Int), ())))) (fun y121 =>
 opt.ret _ (Sum.inl (y121.1, ()))) (fun y122 =>
 opt.bnd (Unit) _ (some y122) fun y123 =>
 opt.ret _ (Sum.inr ()))) (
 opt.alt ((Int × Unit)) (Unit) _ (
 opt.run (((Int × Unit) ⊕ Unit)) (
 opt.ask _ (p.cmp .lss x.2.2.2.2.2.2.1 (-1099511627776 : Int)) (
 opt.ret _ (Sum.inl ((2 : Int), ()))) (
 opt.no _ 41))) (fun y124 =>
 opt.ret _ (Sum.inl (y124.1, ()))) (fun y125 =>
 opt.bnd (Unit) _ (some y125) fun y126 =>
 opt.ret _ (Sum.inr ()))))))))) (fun y127 =>
 opt.ret _ (y127.1, ())) (fun y128 =>
 opt.bnd (Unit) _ (some y128) fun y129 =>
 opt.ret _ ((0 : Int), ()))) (fun y108 =>
 opt.alt ((List (List (D)) × (List (List (D)) × (List (List (D)) × (Int × Unit))))) ((List (List (D)) × (List (List (D)) × (List (List (D)) × (List (List (D)) × (List (List (D)) × (List (List (D)) × (Int × Unit)))))))) _ (some y108) (fun y130 =>
 opt.alt ((Int × Unit)) (Unit) _ (
 opt.run (((Int × Unit) ⊕ Unit)) (
 opt.ask _ (p.cmp .neq y130.2.2.2.1 (0 : Int)) (
 opt.ret _ (Sum.inl (y130.2.2.2.1, ()))) (
 opt.ask _ (bif (p.cmp .eql x.2.2.2.2.1 (0 : Int)) then (bif (p.cmp .eql x.2.2.2.2.2.1 (0 : Int)) then Bool.true else Bool.false) else Bool.false) (
 opt.alt ((Int × Unit)) (Unit) _ (
 opt.run (((Int × Unit) ⊕ Unit)) (
 opt.ret _ (Sum.inl ((2 : Int), ())))) (fun y132 =>
 opt.ret _ (Sum.inl (y132.1, ()))) (fun y133 =>
 opt.bnd (Unit) _ (some y133) fun y134 =>
 opt.ret _ (Sum.inr ()))) (
 opt.bnd ((Int × Unit)) _ (G77 p (x.2.2.2.2.1, ())) fun y135 =>
 opt.bnd ((Int × Unit)) _ (G77 p (x.2.2.2.2.2.1, ())) fun y136 =>
 opt.ask _ (p.cmp .gtr (p.mm .gtr y135.1 y136.1) (1048576 : Int)) (
 opt.alt ((Int × Unit)) (Unit) _ (
 opt.run (((Int × Unit) ⊕ Unit)) (
 opt.ret _ (Sum.inl ((2 : Int), ())))) (fun y137 =>
 opt.ret _ (Sum.inl (y137.1, ()))) (fun y138 =>
 opt.bnd (Unit) _ (some y138) fun y139 =>
 opt.ret _ (Sum.inr ()))) (
 opt.bnd ((Int × Unit)) _ (G77 p (x.2.2.2.2.2.2.1, ())) fun y140 =>
 opt.ask _ (p.cmp .gtr y140.1 (1099511627776 : Int)) (
 opt.alt ((Int × Unit)) (Unit) _ (
 opt.run (((Int × Unit) ⊕ Unit)) (
 opt.ret _ (Sum.inl ((2 : Int), ())))) (fun y141 =>
 opt.ret _ (Sum.inl (y141.1, ()))) (fun y142 =>
 opt.bnd (Unit) _ (some y142) fun y143 =>
 opt.ret _ (Sum.inr ()))) (
 opt.ask _ (p.cmp .lss (p.mm .lss x.2.2.2.2.1 x.2.2.2.2.2.1) (-1048576 : Int)) (
 opt.alt ((Int × Unit)) (Unit) _ (
 opt.run (((Int × Unit) ⊕ Unit)) (
 opt.ret _ (Sum.inl ((2 : Int), ())))) (fun y144 =>
 opt.ret _ (Sum.inl (y144.1, ()))) (fun y145 =>
 opt.bnd (Unit) _ (some y145) fun y146 =>
 opt.ret _ (Sum.inr ()))) (
 opt.alt ((Int × Unit)) (Unit) _ (
 opt.run (((Int × Unit) ⊕ Unit)) (
 opt.ask _ (p.cmp .lss x.2.2.2.2.2.2.1 (-1099511627776 : Int)) (
 opt.ret _ (Sum.inl ((2 : Int), ()))) (
 opt.bnd ((Int × Unit)) _ (g78m it p (y130.2.2.1, (x.2.2.2.2.1, (x.2.2.2.2.2.1, ())))) fun y147 =>
 opt.ask _ (p.cmp .gtr y147.1 x.2.2.2.2.2.2.1) (
 opt.ret _ (Sum.inl ((14 : Int), ()))) (
 opt.no _ 41)))) (fun y148 =>
 opt.ret _ (Sum.inl (y148.1, ()))) (fun y149 =>
 opt.bnd (Unit) _ (some y149) fun y150 =>
 opt.ret _ (Sum.inr ()))))))))) (fun y151 =>
 opt.ret _ (y151.1, ())) (fun y152 =>
 opt.bnd (Unit) _ (some y152) fun y153 =>
 opt.ret _ ((0 : Int), ()))) (fun y131 =>
 opt.bnd ((List (List (D)) × (List (List (D)) × (List (List (D)) × (List (List (D)) × (List (List (D)) × (List (List (D)) × (Int × Unit)))))))) _ (some y131) fun y154 =>
 opt.alt ((Int × Unit)) (Unit) _ (
 opt.run (((Int × Unit) ⊕ Unit)) (
 opt.ask _ (p.cmp .neq y154.2.2.2.2.2.2.1 (0 : Int)) (
 opt.ret _ (Sum.inl (y154.2.2.2.2.2.2.1, ()))) (
 opt.ask _ (bif (p.cmp .eql x.2.2.2.2.1 (0 : Int)) then (bif (p.cmp .eql x.2.2.2.2.2.1 (0 : Int)) then Bool.true else Bool.false) else Bool.false) (
 opt.alt ((Int × Unit)) (Unit) _ (
 opt.run (((Int × Unit) ⊕ Unit)) (
 opt.ret _ (Sum.inl ((2 : Int), ())))) (fun y155 =>
 opt.ret _ (Sum.inl (y155.1, ()))) (fun y156 =>
 opt.bnd (Unit) _ (some y156) fun y157 =>
 opt.ret _ (Sum.inr ()))) (
 opt.bnd ((Int × Unit)) _ (G77 p (x.2.2.2.2.1, ())) fun y158 =>
 opt.bnd ((Int × Unit)) _ (G77 p (x.2.2.2.2.2.1, ())) fun y159 =>
 opt.ask _ (p.cmp .gtr (p.mm .gtr y158.1 y159.1) (1048576 : Int)) (
 opt.alt ((Int × Unit)) (Unit) _ (
 opt.run (((Int × Unit) ⊕ Unit)) (
 opt.ret _ (Sum.inl ((2 : Int), ())))) (fun y160 =>
 opt.ret _ (Sum.inl (y160.1, ()))) (fun y161 =>
 opt.bnd (Unit) _ (some y161) fun y162 =>
 opt.ret _ (Sum.inr ()))) (
 opt.bnd ((Int × Unit)) _ (G77 p (x.2.2.2.2.2.2.1, ())) fun y163 =>
 opt.ask _ (p.cmp .gtr y163.1 (1099511627776 : Int)) (
 opt.alt ((Int × Unit)) (Unit) _ (
 opt.run (((Int × Unit) ⊕ Unit)) (
 opt.ret _ (Sum.inl ((2 : Int), ())))) (fun y164 =>
 opt.ret _ (Sum.inl (y164.1, ()))) (fun y165 =>
 opt.bnd (Unit) _ (some y165) fun y166 =>
 opt.ret _ (Sum.inr ()))) (
 opt.ask _ (p.cmp .lss (p.mm .lss x.2.2.2.2.1 x.2.2.2.2.2.1) (-1048576 : Int)) (
 opt.alt ((Int × Unit)) (Unit) _ (
 opt.run (((Int × Unit) ⊕ Unit)) (
 opt.ret _ (Sum.inl ((2 : Int), ())))) (fun y167 =>
 opt.ret _ (Sum.inl (y167.1, ()))) (fun y168 =>
 opt.bnd (Unit) _ (some y168) fun y169 =>
 opt.ret _ (Sum.inr ()))) (
 opt.alt ((Int × Unit)) (Unit) _ (
 opt.run (((Int × Unit) ⊕ Unit)) (
 opt.ask _ (p.cmp .lss x.2.2.2.2.2.2.1 (-1099511627776 : Int)) (
 opt.ret _ (Sum.inl ((2 : Int), ()))) (
 opt.bnd ((Int × Unit)) _ (g78m it p (y154.2.2.1, (x.2.2.2.2.1, (x.2.2.2.2.2.1, ())))) fun y170 =>
 opt.ask _ (p.cmp .gtr y170.1 x.2.2.2.2.2.2.1) (
 opt.ret _ (Sum.inl ((14 : Int), ()))) (
 opt.bnd ((Int × Unit)) _ (g78m it p (y154.2.2.2.2.2.1, ((p.ar .sub .i64 (0 : Int) x.2.2.2.2.1), ((p.ar .sub .i64 (0 : Int) x.2.2.2.2.2.1), ())))) fun y171 =>
 opt.ask _ (p.cmp .leq (p.ar .sub .i64 (0 : Int) y171.1) x.2.2.2.2.2.2.1) (
 opt.ret _ (Sum.inl ((14 : Int), ()))) (
 opt.ret _ (Sum.inr ())))))) (fun y172 =>
 opt.ret _ (Sum.inl (y172.1, ()))) (fun y173 =>
 opt.bnd (Unit) _ (some y173) fun y174 =>
 opt.ret _ (Sum.inr ()))))))))) (fun y175 =>
 opt.ret _ (y175.1, ())) (fun y176 =>
 opt.bnd (Unit) _ (some y176) fun y177 =>
 opt.ret _ ((0 : Int), ())))))
noncomputable def G39 := g39 it0
noncomputable def F39 : Prim → Tup (ctr39).scs → Option (STup (scss (ctr39).outs)) :=
 fun p x => G39 p x
theorem eq39 (p : Prim) (x : Tup (ctr39).scs) : bodyRun opt p (autoEnv Go.Proofs.Try.prog) (mkOrc opt p (autoEnv Go.Proofs.Try.prog) 400 (an39) la39) 400 ctr39 x = G39 p x := by kernel_rfl
theorem gok39 : GamOk Go.Proofs.Try.prog (gam39) := by
  intro cf h
  simp only [gam39, List.mem_cons, List.not_mem_nil, or_false] at h
  rcases h with rfl | rfl | rfl
  · exact ok78m
  · exact ok77
  · exact ok62
theorem enters39 : Enters Go.Proofs.Try.prog 39 := enters_auto (b := _) rfl (by kernel_rfl)
theorem ok39 : CtrOk Go.Proofs.Try.prog ctr39 (F39 std) := ctr_of_body (autoEnv_ok follows_mixed) (mkOrc_ok (autoEnv_ok follows_mixed) gok39 _) enters39 (fun x => eq39 std x)
end Go.Am
end

section
set_option linter.unusedVariables false
set_option maxRecDepth 100000
set_option maxHeartbeats 0
namespace Go.Am
noncomputable def ctr40 : Ctr :=
 ⟨40, [.agg [.list 2, .list 1], .agg [.list 2, .list 1], .agg [.int .i64, .int .i64, .int .i64]], [], [(.ret, ⟨[(0, .int .i64)], [], 1⟩)]⟩
noncomputable def la40 : List LA :=
 []
noncomputable def ja40 : List JA :=
 [⟨40, [true, true, true, false, false, true, true, true], 0, [(AX.ret, ⟨[(6, .int .i64)], [], 67⟩), (AX.normal, ⟨[], [], 67⟩)]⟩,
 ⟨40, [false, true, true, false, false, true, true, true], 0, [(AX.normal, ⟨[(5, .bptr 0 0), (7, .nilp), (8, .nilp), (10, .bptr 1 0), (27, .bool)], [.box [.int .i64, .int .i64, .int .i64], .box [.int .i64, .int .i64]], 67⟩), (AX.normal, ⟨[(5, .bptr 0 0), (7, .nilp), (8, .bptr 1 0), (10, .bptr 2 0), (27, .bool)], [.box [.int .i64, .int .i64, .int .i64], .box [.list 2, .list 1, .list 2], .box [.int .i64, .int .i64]], 67⟩), (AX.normal, ⟨[(5, .bptr 0 0), (7, .bptr 1 0), (8, .nilp), (10, .bptr 2 0), (27, .bool)], [.box [.int .i64, .int .i64, .int .i64], .box [.list 2, .list 1, .list 2], .box [.int .i64, .int .i64]], 67⟩), (AX.normal, ⟨[(5, .bptr 0 0), (7, .bptr 1 0), (8, .bptr 2 0), (10, .bptr 3 0), (27, .bool)], [.box [.int .i64, .int .i64, .int .i64], .box [.list 2, .list 1, .list 2], .box [.list 2, .list 1, .list 2], .box [.int .i64, .int .i64]], 67⟩)]⟩,
 ⟨40, [true, false, false, true, true, true], 0, [(AX.ret, ⟨[(6, .int .i64)], [], 67⟩), (AX.normal, ⟨[], [], 67⟩)]⟩]
noncomputable def gam40 : List CF :=
 [⟨ctr57, F57⟩, ⟨ctr53, F53⟩, ⟨ctr62, F62⟩]
noncomputable def an40 : Anns :=
 ⟨gam40, ja40, []⟩
noncomputable def g40 (it : It) : (p : Prim) → (List (List (D)) × (List (List (D)) × (List (List (D)) × (List (List (D)) × (Int × (Int × (Int × Unit))))))) → Option ((Int × Unit)) :=
 fun p x =>
 opt.alt ((Int × Unit)) (((List (List (D)) × (List (List (D)) × (List (List (D)) × (Int × Unit)))) ⊕ ((List (List (D)) × (List (List (D)) × (List (List (D)) × (Int × Unit)))) ⊕ (List (List (D)) × (List (List (D)) × (List (List (D)) × (List (List (D)) × (List (List (D)) × (List (List (D)) × (Int × Unit)))))))))) _ (g62 it p (x.1, (x.2.1, (x.2.2.1, (x.2.2.2.1, ()))))) (fun y51 =>
 opt.alt ((Int × Unit)) (Unit) _ (
 opt.run (((Int × Unit) ⊕ Unit)) (
 opt.ask _ (p.cmp .neq y51.1 (0 : Int)) (
 opt.ret _ (Sum.inl (y51.1, ()))) (
 opt.alt ((Int × (Int × (Int × (Int × (Int × (Bool × Unit))))))) (((Int × (Int × (Int × (List (List (D)) × (List (List (D)) × (List (List (D)) × (Int × (Int × (Bool × Unit))))))))) ⊕ ((Int × (Int × (Int × (List (List (D)) × (List (List (D)) × (List (List (D)) × (Int × (Int × (Bool × Unit))))))))) ⊕ (Int × (Int × (Int × (List (List (D)) × (List (List (D)) × (List (List (D)) × (List (List (D)) × (List (List (D)) × (List (List (D)) × (Int × (Int × (Bool × Unit))))))))))))))) _ (
 opt.run (((Int × (Int × (Int × (Int × (Int × (Bool × Unit)))))) ⊕ ((Int × (Int × (Int × (List (List (D)) × (List (List (D)) × (List (List (D)) × (Int × (Int × (Bool × Unit))))))))) ⊕ ((Int × (Int × (Int × (List (List (D)) × (List (List (D)) × (List (List (D)) × (Int × (Int × (Bool × Unit))))))))) ⊕ (Int × (Int × (Int × (List (List (D)) × (List (List (D)) × (List (List (D)) × (List (List (D)) × (List (List (D)) × (List (List (D)) × (Int × (Int × (Bool × Unit)))))))))))))))) (
 opt.ask _ (p.cmp .lss x.2.2.2.2.2.2.1 (1 : Int)) (
 opt.ret _ (Sum.inl (x.2.2.2.2.1, (x.2.2.2.2.2.1, (x.2.2.2.2.2.2.1, (x.2.2.2.2.1, (x.2.2.2.2.2.1, (Bool.true, ())))))))) (
 opt.ask _ (p.cmp .gtr x.2.2.2.2.2.2.1 (268435456 : Int)) (
 opt.ret _ (Sum.inl (x.2.2.2.2.1, (x.2.2.2.2.2.1, (x.2.2.2.2.2.2.1, (x.2.2.2.2.1, (x.2.2.2.2.2.1, (Bool.true, ())))))))) (
 opt.need _ (p.and Bool.true (p.and Bool.true (p.and (p.leN (p.add 0 1) (p.len [[(D.int .i64 x.2.2.2.2.1), (D.int .i64 x.2.2.2.2.2.1)]])) Bool.true))) <|
 opt.bnd ((Bool × Unit)) _ (g53 it p ((-1099511627776 : Int), ((1099511627776 : Int), ((p.cut [[(D.int .i64 x.2.2.2.2.1), (D.int .i64 x.2.2.2.2.2.1)]] 0 1), ())))) fun y53 =>
 opt.ret _ (Sum.inl (x.2.2.2.2.1, (x.2.2.2.2.2.1, (x.2.2.2.2.2.2.1, (x.2.2.2.2.1, (x.2.2.2.2.2.1, ((bif y53.1 then Bool.false else Bool.true), ()))))))))))) (fun y54 =>
 opt.alt ((Int × Unit)) (Unit) _ (
 opt.run (((Int × Unit) ⊕ Unit)) (
 opt.ask _ y54.2.2.2.2.2.1 (
 opt.ret _ (Sum.inl ((2 : Int), ()))) (
 opt.no _ 41))) (fun y56 =>
 opt.ret _ (Sum.inl (y56.1, ()))) (fun y57 =>
 opt.bnd (Unit) _ (some y57) fun y58 =>
 opt.ret _ (Sum.inr ()))) (fun y55 =>
 opt.alt ((Int × (Int × (Int × (List (List (D)) × (List (List (D)) × (List (List (D)) × (Int × (Int × (Bool × Unit)))))))))) (((Int × (Int × (Int × (List (List (D)) × (List (List (D)) × (List (List (D)) × (Int × (Int × (Bool × Unit))))))))) ⊕ (Int × (Int × (Int × (List (List (D)) × (List (List (D)) × (List (List (D)) × (List (List (D)) × (List (List (D)) × (List (List (D)) × (Int × (Int × (Bool × Unit)))))))))))))) _ (some y55) (fun y59 =>
 opt.alt ((Int × Unit)) (Unit) _ (
 opt.run (((Int × Unit) ⊕ Unit)) (
 opt.ask _ y59.2.2.2.2.2.2.2.2.1 (
 opt.ret _ (Sum.inl ((2 : Int), ()))) (
 opt.no _ 41))) (fun y61 =>
 opt.ret _ (Sum.inl (y61.1, ()))) (fun y62 =>
 opt.bnd (Unit) _ (some y62) fun y63 =>
 opt.ret _ (Sum.inr ()))) (fun y60 =>
 opt.alt ((Int × (Int × (Int × (List (List (D)) × (List (List (D)) × (List (List (D)) × (Int × (Int × (Bool × Unit)))))))))) ((Int × (Int × (Int × (List (List (D)) × (List (List (D)) × (List (List (D)) × (List (List (D)) × (List (List (D)) × (List (List (D)) × (Int × (Int × (Bool × Unit))))))))))))) _ (some y60) (fun y64 =>
 opt.alt ((Int × Unit)) (Unit) _ (
 opt.run (((Int × Unit) ⊕ Unit)) (
 opt.ask _ y64.2.2.2.2.2.2.2.2.1 (
 opt.ret _ (Sum.inl ((2 : Int), ()))) (
 opt.bnd ((Bool × Unit)) _ (g57 it p (y64.2.2.2.2.2.1, (y64.2.2.2.2.2.2.1, (y64.2.2.2.2.2.2.2.1, (y64.2.2.1, ()))))) fun y66 =>
 opt.ask _ (bif y66.1 then Bool.false else Bool.true) (
 opt.ret _ (Sum.inl ((14 : Int), ()))) (
 opt.no _ 41)))) (fun y67 =>
 opt.ret _ (Sum.inl (y67.1, ()))) (fun y68 =>
 opt.bnd (Unit) _ (some y68) fun y69 =>
 opt.ret _ (Sum.inr ()))) (fun y65 =>
 opt.bnd ((Int × (Int × (Int × (List (List (D)) × (List (List (D)) × (List (List (D)) × (List (List (D)) × (List (List (D)) × (List (List (D)) × (Int × (Int × (Bool × Unit))))))))))))) _ (some y65) fun y70 =>
 opt.alt ((Int × Unit)) (Unit) _ (
 opt.run (((Int × Unit) ⊕ Unit)) (
 opt.ask _ y70.2.2.2.2.2.2.2.2.2.2.2.1 (
 opt.ret _ (Sum.inl ((2 : Int), ()))) (
 opt.bnd ((Bool × Unit)) _ (g57 it p (y70.2.2.2.2.2.1, (y70.2.2.2.2.2.2.2.2.2.1, (y70.2.2.2.2.2.2.2.2.2.2.1, (y70.2.2.1, ()))))) fun y71 =>
 opt.ask _ (bif y71.1 then Bool.false else Bool.true) (
 opt.ret _ (Sum.inl ((14 : Int), ()))) (
 opt.bnd ((Bool × Unit)) _ (g57 it p (y70.2.2.2.2.2.2.2.2.1, (y70.2.2.2.2.2.2.2.2.2.1, (y70.2.2.2.2.2.2.2.2.2.2.1, (y70.2.2.1, ()))))) fun y72 =>
 opt.ask _ (bif y72.1 then Bool.false else Bool.true) (
 opt.ret _ (Sum.inl ((14 : Int), ()))) (
 opt.ret _ (Sum.inr ())))))) (fun y73 =>
 opt.ret _ (Sum.inl (y73.1, ()))) (fun y74 =>
 opt.bnd (Unit) _ (some y74) fun y75 =>
 opt.ret _ (Sum.inr ())))))))) (fun y76 =>
 opt.ret _ (y76.1, ())) (fun y77 =>
 opt.bnd (Unit) _ (some y77) fun y78 =>
 opt.ret _ ((0 : Int), ()))) (fun y52 =>
 opt.alt ((List (List (D)) × (List (List (D)) × (List (List (D)) × (Int × Unit))))) (((List (List (D)) × (List (List (D)) × (List (List (D)) × (Int × Unit)))) ⊕ (List (List (D)) × (List (List (D)) × (List (List (D)) × (List (List (D)) × (List (List (D)) × (List (List (D)) × (Int × Unit))))))))) _ (some y52) (fun y79 =>
 opt.alt ((Int × Unit)) (Unit) _ (
 opt.run (((Int × Unit) ⊕ Unit)) (
 opt.ask _ (p.cmp .neq y79.2.2.2.1 (0 : Int)) (
 opt.ret _ (Sum.inl (y79.2.2.2.1, ()))) (
 opt.alt ((Int × (Int × (Int × (Int × (Int × (Bool × Unit))))))) (((Int × (Int × (Int × (List (List (D)) × (List (List (D)) × (List (List (D)) × (Int × (Int × (Bool × Unit))))))))) ⊕ ((Int × (Int × (Int × (List (List (D)) × (List (List (D)) × (List (List (D)) × (Int × (Int × (Bool × Unit))))))))) ⊕ (Int × (Int × (Int × (List (List (D)) × (List (List (D)) × (List (List (D)) × (List (List (D)) × (List (List (D)) × (List (List (D)) × (Int × (Int × (Bool × Unit))))))))))))))) _ (
 opt.run (((Int × (Int × (Int × (Int × (Int × (Bool × Unit)))))) ⊕ ((Int × (Int × (Int × (List (List (D)) × (List (List (D)) × (List (List (D)) × (Int × (Int × (Bool × Unit))))))))) ⊕ ((Int × (Int × (Int × (List (List (D)) × (List (List (D)) × (List (List (D)) × (Int × (Int × (Bool × Unit))))))))) ⊕ (Int × (Int × (Int × (List (List (D)) × (List (List (D)) × (List (List (D)) × (List (List (D)) × (List (List (D)) × (List (List (D)) × (Int × (Int × (Bool × Unit)))))))))))))))) (
 opt.ask _ (p.cmp .lss x.2.2.2.2.2.2.1 (1 : Int)) (
 opt.ret _ (Sum.inr (Sum.inl (x.2.2.2.2.1, (x.2.2.2.2.2.1, (x.2.2.2.2.2.2.1, (y79.1, (y79.2.1, (y79.2.2.1, (x.2.2.2.2.1, (x.2.2.2.2.2.1, (Bool.true, ())))))))))))) (
 opt.ask _ (p.cmp .gtr x.2.2.2.2.2.2.1 (268435456 : Int)) (
 opt.ret _ (Sum.inr (Sum.inl (x.2.2.2.2.1, (x.2.2.2.2.2.1, (x.2.2.2.2.2.2.1, (y79.1, (y79.2.1, (y79.2.2.1, (x.2.2.2.2.1, (x.2.2.2.2.2.1, (Bool.true, ())))))))))))) (
 opt.need _ (p.and Bool.true (p.and Bool.true (p.and (p.leN (p.add 0 1) (p.len [[(D.int .i64 x.2.2.2.2.1), (D.int .i64 x.2.2.2.2.2.1)]])) Bool.true))) <|
 opt.bnd ((Bool × Unit)) _ (g53 it p ((-1099511627776 : Int), ((1099511627776 : Int), ((p.cut [[(D.int .i64 x.2.2.2.2.1), (D.int .i64 x.2.2.2.2.2.1)]] 0 1), ())))) fun y81 =>
 opt.ret _ (Sum.inr (Sum.inl (x.2.2.2.2.1, (x.2.2.2.2.2.1, (x.2.2.2.2.2.2.1, (y79.1, (y79.2.1, (y79.2.2.1, (x.2.2.2.2.1, (x.2.2.2.2.2.1, ((bif y81.1 then Bool.false else Bool.true), ()))))))))))))))) (fun y82 =>
 opt.alt ((Int × Unit)) (Unit) _ (
 opt.run (((Int × Unit) ⊕ Unit)) (
 opt.ask _ y82.2.2.2.2.2.1 (
 opt.ret _ (Sum.inl ((2 : Int), ()))) (
 opt.no _ 41))) (fun y84 =>
 opt.ret _ (Sum.inl (y84.1, ()))) (fun y85 =>
 opt.bnd (Unit) _ (some y85) fun y86 =>
 opt.ret _ (Sum.inr ()))) (fun y83 =>
 opt.alt ((Int × (Int × (Int × (List (List (D)) × (List (List (D)) × (List (List (D)) × (Int × (Int × (Bool × Unit)))))))))) (((Int × (Int × (Int × (List (List (D)) × (List (List (D)) × (List (List (D)) × (Int × (Int × (Bool × Unit))))))))) ⊕ (Int × (Int × (Int × (List (List (D)) × (List (List (D)) × (List (List (D)) × (List (List (D)) × (List (List (D)) × (List (List (D)) × (Int × (Int × (Bool × Unit)))))))))))))) _ (some y83) (fun y87 =>
 opt.alt ((Int × Unit)) (Unit) _ (
 opt.run (((Int × Unit) ⊕ Unit)) (
 opt.ask _ y87.2.2.2.2.2.2.2.2.1 (
 opt.ret _ (Sum.inl ((2 : Int), ()))) (
 opt.no _ 41))) (fun y89 =>
 opt.ret _ (Sum.inl (y89.1, ()))) (fun y90 =>
 opt.bnd (Unit) _ (some y90) fun y91 =>
 opt.ret _ (Sum.inr ()))) (fun y88 =>
 opt.alt ((Int × (Int × (Int × (List (List (D)) × (List (List (D)) × (List (List (D)) × (Int × (Int × (Bool × Unit)))))))))) ((Int × (Int × (Int × (List (List (D)) × (List (List (D)) × (List (List (D)) × (List (List (D)) × (List (List (D)) × (List (List (D)) × (Int × (Int × (Bool × Unit))))))))))))) _ (some y88) (fun y92 =>
 opt.alt ((Int × Unit)) (Unit) _ (
 opt.run (((Int × Unit) ⊕ Unit)) (
 opt.ask _ y92.2.2.2.2.2.2.2.2.1 (
 opt.ret _ (Sum.inl ((2 : Int), ()))) (
 opt.bnd ((Bool × Unit)) _ (g57 it p (y92.2.2.2.2.2.1, (y92.2.2.2.2.2.2.1, (y92.2.2.2.2.2.2.2.1, (y92.2.2.1, ()))))) fun y94 =>
 opt.ask _ (bif y94.1 then Bool.false else Bool.true) (
 opt.ret _ (Sum.inl ((14 : Int), ()))) (
 opt.no _ 41)))) (fun y95 =>
 opt.ret _ (Sum.inl (y95.1, ()))) (fun y96 =>
 opt.bnd (Unit) _ (some y96) fun y97 =>
 opt.ret _ (Sum.inr ()))) (fun y93 =>
 opt.bnd ((Int × (Int × (Int × (List (List (D)) × (List (List (D)) × (List (List (D)) × (List (List (D)) × (List (List (D)) × (List (List (D)) × (Int × (Int × (Bool × Unit))))))))))))) _ (some y93) fun y98 =>
 opt.alt ((Int × Unit)) (Unit) _ (
 opt.run (((Int × Unit) ⊕ Unit)) (
 opt.ask _ y98.2.2.2.2.2.2.2.2.2.2.2.1 (
 opt.ret _ (Sum.inl ((2 : Int), ()))) (
 opt.bnd ((Bool × Unit)) _ (g57 it p (y98.2.2.2.2.2.1, (y98.2.2.2.2.2.2.2.2.2.1, (y98.2.2.2.2.2.2.2.2.2.2.1, (y98.2.2.1, ()))))) fun y99 =>
 opt.ask _ (bif y99.1 then Bool.false else Bool.true) (
 opt.ret _ (Sum.inl ((14 : Int), ()))) (
 opt.bnd ((Bool × Unit)) _ (g57 it p (y98.2.2.2.2.2.2.2.2.1, (y98.2.2.2.2.2.2.2.2.2.1, (y98.2.2.2.2.2.2.2.2.2.2.1, (y98.2.2.1, ()))))) fun y100 =>
 opt.ask _ (bif y100.1 then Bool.false else Bool.true) (
 opt.ret _ (Sum.inl ((14 : Int), ()))) (
 opt.ret _ (Sum.inr ())))))) (fun y101 =>
 opt.ret _ (Sum.inl (y101.1, ()))) (fun y102 =>
 opt.bnd (Unit) _ (some y102) fun y103 =>
 opt.ret _ (Sum.inr ())))))))) (fun y104 =>
 opt.ret _ (y104.1, ())) (fun y105 =>
 opt.bnd (Unit) _ (some y105) fun y106 =>
 opt.ret _ ((0 : Int), ()))) (fun y80 =>
 opt.alt ((List (List (D)) × (List (List (D)) × (List (List (D)) × (Int × Unit))))) ((List (List (D)) × (List (List (D)) × (List (List (D)) × (List (List (D)) × (List (List (D)) × (List (List (D)) × (Int × Unit)))))))) _ (some y80) (fun y107 =>
 opt.alt ((Int × Unit)) (Unit) _ (
 opt.run (((Int × Unit) ⊕ Unit)) (
 opt.ask _ (p.cmp .neq y107.2.2.2.1 (0 : Int)) (
 opt.ret _ (Sum.inl (y107.2.2.2.1, ()))) (
 opt.alt ((Int × (Int × (Int × (Int × (Int × (Bool × Unit))))))) (((Int × (Int × (Int × (List (List (D)) × (List (List (D)) × (List (List (D)) × (Int × (Int × (Bool × Unit))))))))) ⊕ ((Int × (Int × (Int × (List (List (D)) × (List (List (D)) × (List (List (D)) × (Int × (Int × (Bool × Unit))))))))) ⊕ (Int × (Int × (Int × (List (List (D)) × (List (List (D)) × (List (List (D)) × (List (List (D)) × (List (List (D)) × (List (List (D)) × (Int × (Int × (Bool × Unit))))))))))))))) _ (
 opt.run (((Int × (Int × (Int × (Int × (Int × (Bool × Unit)))))) ⊕ ((Int × (Int × (Int × (List (List (D)) × (List (List (D)) × (List (List (D)) × (Int × (Int × (Bool × Unit))))))))) ⊕ ((Int × (Int × (Int × (List (List (D)) × (List (List (D)) × (List (List (D)) × (Int × (Int × (Bool × Unit))))))))) ⊕ (Int × (Int × (Int × (List (List (D)) × (List (List (D)) × (List (List (D)) × (List (List (D)) × (List (List (D)) × (List (List (D)) × (Int × (Int × (Bool × Unit)))))))))))))))) (
 opt.ask _ (p.cmp .lss x.2.2.2.2.2.2.1 (1 : Int)) (
 opt.ret _ (Sum.inr (Sum.inr (Sum.inl (x.2.2.2.2.1, (x.2.2.2.2.2.1, (x.2.2.2.2.2.2.1, (y107.1, (y107.2.1, (y107.2.2.1, (x.2.2.2.2.1, (x.2.2.2.2.2.1, (Bool.true, ()))))))))))))) (
 opt.ask _ (p.cmp .gtr x.2.2.2.2.2.2.1 (268435456 : Int)) (
 opt.ret _ (Sum.inr (Sum.inr (Sum.inl (x.2.2.2.2.1, (x.2.2.2.2.2.1, (x.2.2.2.2.2.2.1, (y107.1, (y107.2.1, (y107.2.2.1, (x.2.2.2.2.1, (x.2.2.2.2.2.1, (Bool.true, ()))))))))))))) (
 opt.need _ (p.and Bool.true (p.and Bool.true (p.and (p.leN (p.add 0 1) (p.len [[(D.int .i64 x.2.2.2.2.1), (D.int .i64 x.2.2.2.2.2.1)]])) Bool.true))) <|
 opt.bnd ((Bool × Unit)) _ (g53 it p ((-1099511627776 : Int), ((1099511627776 : Int), ((p.cut [[(D.int .i64 x.2.2.2.2.1), (D.int .i64 x.2.2.2.2.2.1)]] 0 1), ())))) fun y109 =>
 opt.ret _ (Sum.inr (Sum.inr (Sum.inl (x.2.2.2.2.1, (x.2.2.2.2.2.1, (x.2.2.2.2.2.2.1, (y107.1, (y107.2.1, (y107.2.2.1, (x.2.2.2.2.1, (x.2.2.2.2.2.1, ((bif y109.1 then Bool.false else Bool.true), ())))))))))))))))) (fun y110 =>
 opt.alt ((Int × Unit)) (Unit) _ (
 opt.run (((Int × Unit) ⊕ Unit)) (
 opt.ask _ y110.2.2.2.2.2.1 (
 opt.ret _ (Sum.inl ((2 : Int), ()))) (
 opt.no _ 41))) (fun y112 =>
 opt.ret _ (Sum.inl (y112.1, ()))) (fun y113 =>
 opt.bnd (Unit) _ (some y113) fun y114 =>
 opt.ret _ (Sum.inr ()))) (fun y111 =>
 opt.alt ((Int × (Int × (Int × (List (List (D)) × (List (List (D)) × (List (List (D)) × (Int × (Int × (Bool × Unit)))))))))) (((Int × (Int × (Int × (List (List (D)) × (List (List (D)) × (List (List (D)) × (Int × (Int × (Bool × Unit))))))))) ⊕ (Int × (Int × (Int × (List (List (D)) × (List (List (D)) × (List (List (D)) × (List (List (D)) × (List (List (D)) × (List (List (D)) × (Int × (Int × (Bool × Unit)))))))))))))) _ (some y111) (fun y115 =>
 opt.alt ((Int × Unit)) (Unit) _ (
 opt.run (((Int × Unit) ⊕ Unit)) (
 opt.ask _ y115.2.2.2.2.2.2.2.2.1 (
 opt.ret _ (Sum.inl ((2 : Int), ()))) (
 opt.no _ 41))) (fun y117 =>
 opt.ret _ (Sum.inl (y117.1, ()))) (fun y118 =>
 opt.bnd (Unit) _ (some y118) fun y119 =>
 opt.ret _ (Sum.inr ()))) (fun y116 =>
 opt.alt ((Int × (Int × (Int × (List (List (D)) × (List (List (D)) × (List (List (D)) × (Int × (Int × (Bool × Unit)))))))))) ((Int × (Int × (Int × (List (List (D)) × (List (List (D)) × (List (List (D)) × (List (List (D)) × (List (List (D)) × (List (List (D)) × (Int × (Int × (Bool × Unit))))))))))))) _ (some y116) (fun y120 =>
 opt.alt ((Int × Unit)) (Unit) _ (
 opt.run (((Int × Unit) ⊕ Unit)) (
 opt.ask _ y120.2.2.2.2.2.2.2.2.1 (
 opt.ret _ (Sum.inl ((2 : Int), ()))) (
 opt.bnd ((Bool × Unit)) _ (g57 it p (y120.2.2.2.2.2.1, (y120.2.2.2.2.2.2.1, (y120.2.2.2.2.2.2.2.1, (y120.2.2.1, ()))))) fun y122 =>
 opt.ask _ (bif y122.1 then Bool.false else Bool.true) (
 opt.ret _ (Sum.inl ((14 : Int), ()))) (
 opt.no _ 41)))) (fun y123 =>
 opt.ret _ (Sum.inl (y123.1, ()))) (fun y124 =>
 opt.bnd (Unit) _ (some y124) fun y125 =>
 opt.ret _ (Sum.inr ()))) (fun y121 =>
 opt.bnd ((Int × (Int × (Int × (List (List (D)) × (List (List (D)) × (List (List (D)) × (List (List (D)) × (List (List (D)) × (List (List (D)) × (Int × (Int × (Bool × Unit))))))))))))) _ (some y121) fun y126 =>
 opt.alt ((Int × Unit)) (Unit) _ (
 opt.run (((Int × Unit) ⊕ Unit)) (
 opt.ask _ y126.2.2.2.2.2.2.2.2.2.2.2.1 (
 opt.ret _ (Sum.inl ((2 : Int), ()))) (
 opt.bnd ((Bool × Unit)) _ (g57 it p (y126.2.2.2.2.2.1, (y126.2.2.2.2.2.2.2.2.2.1, (y126.2.2.2.2.2.2.2.2.2.2.1, (y126.2.2.1, ()))))) fun y127 =>
 opt.ask _ (bif y127.1 then Bool.false else Bool.true) (
 opt.ret _ (Sum.inl ((14 : Int), ()))) (
 opt.bnd ((Bool × Unit)) _ (g57 it p (y126.2.2.2.2.2.2.2.2.1, (y126.2.2.2.2.2.2.2.2.2.1, (y126.2.2.2.2.2.2.2.2.2.2.1, (y126.2.2.1, ()))))) fun y128 =>
 opt.ask _ (bif y128.1 then Bool.false else Bool.true) (
 opt.ret _ (Sum.inl ((14 : Int), ()))) (
 opt.ret _ (Sum.inr ())))))) (fun y129 =>
 opt.ret _ (Sum.inl (y129.1, ()))) (fun y130 =>
 opt.bnd (Unit) _ (some y130) fun y131 =>
 opt.ret _ (Sum.inr ())))))))) (fun y132 =>
 opt.ret _ (y132.1, ())) (fun y133 =>
 opt.bnd (Unit) _ (some y133) fun y134 =>
 opt.ret _ ((0 : Int), ()))) (fun y108 =>
 opt.bnd ((List (List (D)) × (List (List (D)) × (List (List (D)) × (List (List (D)) × (List (List (D)) × (List (List (D)) × (Int × Unit)))))))) _ (some y108) fun y135 =>
 opt.alt ((Int × Unit)) (Unit) _ (
 opt.run (((Int × Unit) ⊕ Unit)) (
 opt.ask _ (p.cmp .neq y135.2.2.2.2.2.2.1 (0 : Int)) (
 opt.ret _ (Sum.inl (y135.2.2.2.2.2.2.1, ()))) (
 opt.alt ((Int × (Int × (Int × (Int × (Int × (Bool × Unit))))))) (((Int × (Int × (Int × (List (List (D)) × (List (List (D)) × (List (List (D)) × (Int × (Int × (Bool × Unit))))))))) ⊕ ((Int × (Int × (Int × (List (List (D)) × (List (List (D)) × (List (List (D)) × (Int × (Int × (Bool × Unit))))))))) ⊕ (Int × (Int × (Int × (List (List (D)) × (List (List (D)) × (List (List (D)) × (List (List (D)) × (List (List (D)) × (List (List (D)) × (Int × (Int × (Bool × Unit))))))))))))))) _ (
 opt.run (((Int × (Int × (Int × (Int × (Int × (Bool × Unit)))))) ⊕ ((Int × (Int × (Int × (List (List (D)) × (List (List (D)) × (List (List (D)) × (Int × (Int × (Bool × Unit))))))))) ⊕ ((Int × (Int × (Int × (List (List (D)) × (List (List (D)) × (List (List (D)) × (Int × (Int × (Bool × Unit))))))))) ⊕ (Int × (Int × (Int × (List (List (D)) × (List (List (D)) × (List (List (D)) × (List (List (D)) × (List (List (D)) × (List (List (D)) × (Int × (Int × (Bool × Unit)))))))))))))))) (
 opt.ask _ (p.cmp .lss x.2.2.2.2.2.2.1 (1 : Int)) (
 opt.ret _ (Sum.inr (Sum.inr (Sum.inr (x.2.2.2.2.1, (x.2.2.2.2.2.1, (x.2.2.2.2.2.2.1, (y135.1, (y135.2.1, (y135.2.2.1, (y135.2.2.2.1, (y135.2.2.2.2.1, (y135.2.2.2.2.2.1, (x.2.2.2.2.1, (x.2.2.2.2.2.1, (Bool.true, ())))))))))))))))) (
 opt.ask _ (p.cmp .gtr x.2.2.2.2.2.2.1 (268435456 : Int)) (
 opt.ret _ (Sum.inr (Sum.inr (Sum.inr (x.2.2.2.2.1, (x.2.2.2.2.2.1, (x.2.2.2.2.2.2.1, (y135.1, (y135.2.1, (y135.2.2.1, (y135.2.2.2.1, (y135.2.2.2.2.1, (y135.2.2.2.2.2.1, (x.2.2.2.2.1, (x.2.2.2.2.2.1, (Bool.true, ())))))))))))))))) (
 opt.need _ (p.and Bool.true (p.and Bool.true (p.and (p.leN (p.add 0 1) (p.len [[(D.int .i64 x.2.2.2.2.1), (D.int .i64 x.2.2.2.2.2.1)]])) Bool.true))) <|
 opt.bnd ((Bool × Unit)) _ (g53 it p ((-1099511627776 : Int), ((1099511627776 : Int), ((p.cut [[(D.int .i64 x.2.2.2.2.1), (D.int .i64 x.2.2.2.2.2.1)]] 0 1), ())))) fun y136 =>
 opt.ret _ (Sum.inr (Sum.inr (Sum.inr (x.2.2.2.2.1, (x.2.2.2.2.2.1, (x.2.2.2.2.2.2.1, (y135.1, (y135.2.1, (y135.2.2.1, (y135.2.2.2.1, (y135.2.2.2.2.1, (y135.2.2.2.2.2.1, (x.2.2.2.2.1, (x.2.2.2.2.2.1, ((bif y136.1 then Bool.false else Bool.true), ()))))))))))))))))))) (fun y137 =>
 opt.alt ((Int × Unit)) (Unit) _ (
 opt.run (((Int × Unit) ⊕ Unit)) (
 opt.ask _ y137.2.2.2.2.2.1 (
 opt.ret _ (Sum.inl ((2 : Int), ()))) (
 opt.no _ 41))) (fun y139 =>
 opt.ret _ (Sum.inl (y139.1, ()))) (fun y140 =>
 opt.bnd (Unit) _ (some y140) fun y141 =>
 opt.ret _ (Sum.inr ()))) (fun y138 =>
 opt.alt ((Int × (Int × (Int × (List (List (D)) × (List (List (D)) × (List (List (D)) × (Int × (Int × (Bool × Unit)))))))))) (((Int × (Int × (Int × (List (List (D)) × (List (List (D)) × (List (List (D)) × (Int × (Int × (Bool × Unit))))))))) ⊕ (Int × (Int × (Int × (List (List (D)) × (List (List (D)) × (List (List (D)) × (List (List (D)) × (List (List (D)) × (List (List (D)) × (Int × (Int × (Bool × Unit)))))))))))))) _ (some y138) (fun y142 =>
 opt.alt ((Int × Unit)) (Unit) _ (
 opt.run (((Int × Unit) ⊕ Unit)) (
 opt.ask _ y142.2.2.2.2.2.2.2.2.1 (
 opt.ret _ (Sum.inl ((2 : Int), ()))) (
 opt.no _ 41))) (fun y144 =>
 opt.ret _ (Sum.inl (y144.1, ()))) (fun y145 =>
 opt.bnd (Unit) _ (some y145) fun y146 =>
 opt.ret _ (Sum.inr ()))) (fun y143 =>
 opt.alt ((Int × (Int × (Int × (List (List (D)) × (List (List (D)) × (List (List (D)) × (Int × (Int × (Bool × Unit)))))))))) ((Int × (Int × (Int × (List (List (D)) × (List (List (D)) × (List (List (D)) × (List (List (D)) × (List (List (D)) × (List (List (D)) × (Int × (Int × (Bool × Unit))))))))))))) _ (some y143) (fun y147 =>
 opt.alt ((Int × Unit)) (Unit) _ (
 opt.run (((Int × Unit) ⊕ Unit)) (
 opt.ask _ y147.2.2.2.2.2.2.2.2.1 (
 opt.ret _ (Sum.inl ((2 : Int), ()))) (
 opt.bnd ((Bool × Unit)) _ (g57 it p (y147.2.2.2.2.2.1, (y147.2.2.2.2.2.2.1, (y147.2.2.2.2.2.2.2.1, (y147.2.2.1, ()))))) fun y149 =>
 opt.ask _ (bif y149.1 then Bool.false else Bool.true) (
 opt.ret _ (Sum.inl ((14 : Int), ()))) (
 opt.no _ 41)))) (fun y150 =>
 opt.ret _ (Sum.inl (y150.1, ()))) (fun y151 =>
 opt.bnd (Unit) _ (some y151) fun y152 =>
 opt.ret _ (Sum.inr ()))) (fun y148 =>
 opt.bnd ((Int × (Int × (Int × (List (List (D)) × (List (List (D)) × (List (List (D)) × (List (List (D)) × (List (List (D)) × (List (List (D)) × (Int × (Int × (Bool × Unit))))))))))))) _ (some y148) fun y153 =>
 opt.alt ((Int × Unit)) (Unit) _ (
 opt.run (((Int × Unit) ⊕ Unit)) (
 opt.ask _ y153.2.2.2.2.2.2.2.2.2.2.2.1 (
 opt.ret _ (Sum.inl ((2 : Int), ()))) (
 opt.bnd ((Bool × Unit)) _ (g57 it p (y153.2.2.2.2.2.1, (y153.2.2.2.2.2.2.2.2.2.1, (y153.2.2.2.2.2.2.2.2.2.2.1, (y153.2.2.1, ()))))) fun y154 =>
 opt.ask _ (bif y154.1 then Bool.false else Bool.true) (
 opt.ret _ (Sum.inl ((14 : Int), ()))) (
 opt.bnd ((Bool × Unit)) _ (g57 it p (y153.2.2.2.2.2.2.2.2.1, (y153.2.2.2.2.2.2.2.2.2.1, (y153.2.2.2.2.2.2.2.2.2.2.1, (y153.2.2.1, ()))))) fun y155 =>
 opt.ask _ (bif y155.1 then Bool.false else Bool.true) (
 opt.ret _ (Sum.inl ((14 : Int), ()))) (
 opt.ret _ (Sum.inr ())))))) (fun y156 =>
 opt.ret _ (Sum.inl (y156.1, ()))) (fun y157 =>
 opt.bnd (Unit) _ (some y157) fun y158 =>
 opt.ret _ (Sum.inr ())))))))) (fun y159 =>
 opt.ret _ (y159.1, ())) (fun y160 =>
 opt.bnd (Unit) _ (some y160) fun y161 =>
 opt.ret _ ((0 : Int), ())))))
noncomputable def G40 := g40 it0
noncomputable def F40 : Prim → Tup (ctr40).scs → Option (STup (scss (ctr40).outs)) :=
 fun p x => G40 p x
theorem eq40 (p : Prim) (x : Tup (ctr40).scs) : bodyRun opt p (autoEnv Go.Proofs.Try.prog) (mkOrc opt p (autoEnv Go.Proofs.Try.prog) 400 (an40) la40) 400 ctr40 x = G40 p x := by kernel_rfl
theorem gok40 : GamOk Go.Proofs.Try.prog (gam40) := by
  intro cf h
  simp only [gam40, List.mem_cons, List.not_mem_nil, or_false] at h
  rcases h with rfl | rfl | rfl
  · exact ok57
  · exact ok53
  · exact ok62
theorem enters40 : Enters Go.Proofs.Try.prog 40 := enters_auto (b := _) rfl (by kernel_rfl)
theorem ok40 : CtrOk Go.Proofs.Try.prog ctr40 (F40 std) := ctr_of_body (autoEnv_ok follows_mixed) (mkOrc_ok (autoEnv_ok follows_mixed) gok40 _) enters40 (fun x => eq40 std x)
end Go.Am
end

section
set_option linter.unusedVariables false
set_option maxRecDepth 100000
set_option maxHeartbeats 0
namespace Go.Am
noncomputable def ctr37 : Ctr :=
 ⟨37, [.agg [.list 2, .list 1], .agg [.list 2, .list 1]], [], [(.ret, ⟨[(0, .tuple [.agg [.int .i64, .int .i64, .int .i64], .int .i64])], [], 1⟩)]⟩
noncomputable def la37 : List LA :=
 [⟨37, [false, true, false, true, true, true], 0, ⟨⟨[(4, .bptr 0 0), (5, .bptr 1 0), (6, .bptr 2 0), (7, .bptr 3 0), (46, .agg [.list 2, .list 2, .list 2, .list 2]), (47, .int .i64)], [.box [.int .i64, .int .i64, .int .i64], .box [.int .i64], .box [.list 2, .list 1, .list 2], .box [.bptr 4 0], .box [.list 2, .list 1, .list 2]], 89⟩, [(AX.ret, ⟨[(4, .bptr 0 0), (5, .bptr 1 0)], [.box [.int .i64, .int .i64, .int .i64], .box [.int .i64]], 89⟩), ((AX.exit 0), ⟨[(4, .bptr 0 0), (5, .bptr 1 0), (6, .bptr 2 0), (7, .bptr 3 0)], [.box [.int .i64, .int .i64, .int .i64], .box [.int .i64], .box [.list 2, .list 1, .list 2], .box [.bptr 4 0], .box [.list 2, .list 1, .list 2]], 89⟩)]⟩⟩,
 ⟨37, [false, true, true, false, false, true, true, false, false, true, false, true, true, true], 0, ⟨⟨[(4, .bptr 0 0), (5, .bptr 1 0), (6, .bptr 2 0), (7, .bptr 3 0), (10, .bptr 4 0), (46, .agg [.list 2, .list 2, .list 2, .list 2]), (47, .int .i64), (51, .list 2), (52, .int .i64), (53, .int .i64)], [.box [.int .i64, .int .i64, .int .i64], .box [.int .i64], .box [.list 2, .list 1, .list 2], .box [.bptr 5 0], .box [.list 2, .list 2], .box [.list 2, .list 1, .list 2]], 89⟩, [(AX.ret, ⟨[(4, .bptr 0 0), (5, .bptr 1 0)], [.box [.int .i64, .int .i64, .int .i64], .box [.int .i64]], 89⟩), ((AX.exit 2), ⟨[(4, .bptr 0 0), (5, .bptr 1 0), (6, .bptr 2 0), (7, .bptr 3 0), (46, .agg [.list 2, .list 2, .list 2, .list 2]), (47, .int .i64)], [.box [.int .i64, .int .i64, .int .i64], .box [.int .i64], .box [.list 2, .list 1, .list 2], .box [.bptr 4 0], .box [.list 2, .list 1, .list 2]], 89⟩)]⟩⟩,
 ⟨94, [false, true], 7, ⟨⟨[(0, .yld 6), (1, .bptr 5 0), (6, .list 2), (7, .int .i64), (8, .int .i64)], [.box [.int .i64, .int .i64, .int .i64], .box [.int .i64], .box [.list 2, .list 1, .list 2], .box [.bptr 4 0], .box [.list 2, .list 1, .list 2], .box [.list 2], .loop Go.LoopState.ready Option.none 37 [Bool.false, Bool.true, Bool.false, Bool.true, Bool.true, Bool.true, Bool.true] 89 [(72, .clo 94 [] [.bptr 5 0]), (7, .bptr 3 0), (4, .bptr 0 0), (5, .bptr 1 0)]], 33⟩, [(AX.ret, ⟨[], [.box [.int .i64, .int .i64, .int .i64], .box [.int .i64], .box [.list 2, .list 1, .list 2], .box [.bptr 4 0], .box [.list 2, .list 1, .list 2], .box [.list 2], .loop Go.LoopState.ready Option.none 37 [Bool.false, Bool.true, Bool.false, Bool.true, Bool.true, Bool.true, Bool.true] 89 [(72, .clo 94 [] [.bptr 5 0]), (7, .bptr 3 0), (4, .bptr 0 0), (5, .bptr 1 0)]], 33⟩), (AX.ret, ⟨[], [.box [.int .i64, .int .i64, .int .i64], .box [.int .i64], .box [.list 2, .list 1, .list 2], .box [.bptr 4 0], .box [.list 2, .list 1, .list 2], .box [.list 2], .loop Go.LoopState.done (Option.some Go.Code.ret) 37 [Bool.false, Bool.true, Bool.false, Bool.true, Bool.true, Bool.true, Bool.true] 89 [(72, .clo 94 [] [.bptr 5 0]), (7, .bptr 3 0), (4, .bptr 0 0), (5, .bptr 1 0)]], 33⟩), ((AX.exit 0), ⟨[], [.box [.int .i64, .int .i64, .int .i64], .box [.int .i64], .box [.list 2, .list 1, .list 2], .box [.bptr 4 0], .box [.list 2, .list 1, .list 2], .box [.list 2], .loop Go.LoopState.ready Option.none 37 [Bool.false, Bool.true, Bool.false, Bool.true, Bool.true, Bool.true, Bool.true] 89 [(72, .clo 94 [] [.bptr 5 0]), (7, .bptr 3 0), (4, .bptr 0 0), (5, .bptr 1 0)]], 33⟩)]⟩⟩,
 ⟨94, [false, true], 22, ⟨⟨[(0, .yld 21), (1, .bptr 20 0), (6, .list 2), (7, .int .i64), (8, .int .i64)], [.box [.int .i64, .int .i64, .int .i64], .box [.int .i64], .box [.list 2, .list 1, .list 2], .box [.bptr 4 0], .box [.list 2, .list 1, .list 2], .box [.list 2], .dead, .box [.int .i64, .int .i64], .dead, .dead, .dead, .dead, .dead, .dead, .dead, .dead, .dead, .dead, .box [.int .i64, .int .i64], .box [.int .i64, .int .i64, .int .i64, .int .i64], .box [.list 2], .loop Go.LoopState.ready Option.none 37 [Bool.false, Bool.true, Bool.false, Bool.true, Bool.false, Bool.true, Bool.false, Bool.true, Bool.true, Bool.true, Bool.true] 89 [(78, .clo 94 [] [.bptr 20 0]), (13, .bptr 19 0), (7, .bptr 3 0), (4, .bptr 0 0), (5, .bptr 1 0)]], 33⟩, [(AX.ret, ⟨[], [.box [.int .i64, .int .i64, .int .i64], .box [.int .i64], .box [.list 2, .list 1, .list 2], .box [.bptr 4 0], .box [.list 2, .list 1, .list 2], .box [.list 2], .dead, .box [.int .i64, .int .i64], .dead, .dead, .dead, .dead, .dead, .dead, .dead, .dead, .dead, .dead, .box [.int .i64, .int .i64], .box [.int .i64, .int .i64, .int .i64, .int .i64], .box [.list 2], .loop Go.LoopState.ready Option.none 37 [Bool.false, Bool.true, Bool.false, Bool.true, Bool.false, Bool.true, Bool.false, Bool.true, Bool.true, Bool.true, Bool.true] 89 [(78, .clo 94 [] [.bptr 20 0]), (13, .bptr 19 0), (7, .bptr 3 0), (4, .bptr 0 0), (5, .bptr 1 0)]], 33⟩), (AX.ret, ⟨[], [.box [.int .i64, .int .i64, .int .i64], .box [.int .i64], .box [.list 2, .list 1, .list 2], .box [.bptr 4 0], .box [.list 2, .list 1, .list 2], .box [.list 2], .dead, .box [.int .i64, .int .i64], .dead, .dead, .dead, .dead, .dead, .dead, .dead, .dead, .dead, .dead, .box [.int .i64, .int .i64], .box [.int .i64, .int .i64, .int .i64, .int .i64], .box [.list 2], .loop Go.LoopState.done (Option.some Go.Code.ret) 37 [Bool.false, Bool.true, Bool.false, Bool.true, Bool.false, Bool.true, Bool.false, Bool.true, Bool.true, Bool.true, Bool.true] 89 [(78, .clo 94 [] [.bptr 20 0]), (13, .bptr 19 0), (7, .bptr 3 0), (4, .bptr 0 0), (5, .bptr 1 0)]], 33⟩), ((AX.exit 0), ⟨[], [.box [.int .i64, .int .i64, .int .i64], .box [.int .i64], .box [.list 2, .list 1, .list 2], .box [.bptr 4 0], .box [.list 2, .list 1, .list 2], .box [.list 2], .dead, .box [.int .i64, .int .i64], .dead, .dead, .dead, .dead, .dead, .dead, .dead, .dead, .dead, .dead, .box [.int .i64, .int .i64], .box [.int .i64, .int .i64, .int .i64, .int .i64], .box [.list 2], .loop Go.LoopState.ready Option.none 37 [Bool.false, Bool.true, Bool.false, Bool.true, Bool.false, Bool.true, Bool.false, Bool.true, Bool.true, Bool.true, Bool.true] 89 [(78, .clo 94 [] [.bptr 20 0]), (13, .bptr 19 0), (7, .bptr 3 0), (4, .bptr 0 0), (5, .bptr 1 0)]], 33⟩)]⟩⟩]
noncomputable def ja37 : List JA :=
 [⟨37, [true, false, true, false, true, false, true, true, true, true], 19, [(AX.normal, ⟨[(4, .bptr 0 0), (5, .bptr 1 0), (7, .bptr 3 0)], [.box [.int .i64, .int .i64, .int .i64], .box [.int .i64], .box [.list 2, .list 1, .list 2], .box [.bptr 4 0], .box [.list 2, .list 1, .list 2], .box [.list 2], .dead, .box [.int .i64, .int .i64], .dead, .dead, .dead, .dead, .dead, .dead, .dead, .dead, .dead, .dead, .box [.int .i64, .int .i64]], 89⟩), (AX.ret, ⟨[(4, .bptr 0 0), (5, .bptr 1 0)], [.box [.int .i64, .int .i64, .int .i64], .box [.int .i64], .box [.list 2, .list 1, .list 2], .box [.bptr 4 0], .box [.list 2, .list 1, .list 2], .box [.list 2], .dead, .box [.int .i64, .int .i64], .dead, .dead, .dead, .dead, .dead, .dead, .dead, .dead, .dead, .dead, .box [.int .i64, .int .i64]], 89⟩)]⟩,
 ⟨37, [false, false, false, true, true, false, false, true, false, true, true, true], 0, [(AX.normal, ⟨[(4, .bptr 0 0), (5, .bptr 1 0), (6, .bptr 2 0), (7, .bptr 3 0), (10, .bptr 4 0), (46, .agg [.list 2, .list 2, .list 2, .list 2]), (47, .int .i64)], [.box [.int .i64, .int .i64, .int .i64], .box [.int .i64], .box [.list 2, .list 1, .list 2], .box [.bptr 5 0], .box [.list 2, .list 2], .box [.list 2, .list 1, .list 2]], 89⟩)]⟩,
 ⟨37, [true, false, true, true, true, true], 0, [(AX.normal, ⟨[(4, .bptr 0 0), (5, .bptr 1 0)], [.box [.int .i64, .int .i64, .int .i64], .box [.int .i64]], 89⟩), (AX.ret, ⟨[(4, .bptr 0 0), (5, .bptr 1 0)], [.box [.int .i64, .int .i64, .int .i64], .box [.int .i64]], 89⟩)]⟩]
noncomputable def gam37 : List CF :=
 [⟨ctr76, F76⟩, ⟨ctr57, F57⟩, ⟨ctr62, F62⟩]
noncomputable def an37 : Anns :=
 ⟨gam37, ja37, []⟩
noncomputable def c37_4 (it : It) (p : Prim) : (Int × (Int × (Int × (Int × (List (List (D)) × (List (List (D)) × (List (List (D)) × (List (List (D)) × (List (List (D)) × (List (List (D)) × (List (List (D)) × (Int × (Int × (Int × (Int × (Int × (Int × (Int × (Int × (List (List (D)) × (List (List (D)) × (Int × (Int × Unit))))))))))))))))))))))) → Option ((Int × (Int × (Int × (Int × (List (List (D)) × (List (List (D)) × (List (List (D)) × (List (List (D)) × (List (List (D)) × (List (List (D)) × (List (List (D)) × (Int × (Int × (Int × (Int × (Int × (Int × (Int × (Int × (List (List (D)) × (List (List (D)) × (Int × (Int × Unit))))))))))))))))))))))) ⊕ ((Int × (Int × (Int × (Int × (List (List (D)) × (List (List (D)) × (List (List (D)) × (List (List (D)) × (List (List (D)) × (List (List (D)) × (List (List (D)) × (Int × (Int × (Int × (Int × (Int × (Int × (Int × (Int × (List (List (D)) × Unit)))))))))))))))))))) ⊕ ((Int × (Int × (Int × (Int × (List (List (D)) × (List (List (D)) × (List (List (D)) × (List (List (D)) × (List (List (D)) × (List (List (D)) × (List (List (D)) × (Int × (Int × (Int × (Int × (Int × (Int × (Int × (Int × (List (List (D)) × Unit)))))))))))))))))))) ⊕ (Int × (Int × (Int × (Int × (List (List (D)) × (List (List (D)) × (List (List (D)) × (List (List (D)) × (List (List (D)) × (List (List (D)) × (List (List (D)) × (Int × (Int × (Int × (Int × (Int × (Int × (Int × (Int × (List (List (D)) × Unit))))))))))))))))))))))) :=
 fun s85 => opt.run _ (
 opt.ask _ (p.cmp .lss s85.2.2.2.2.2.2.2.2.2.2.2.2.2.2.2.2.2.2.2.2.2.2.1 s85.2.2.2.2.2.2.2.2.2.2.2.2.2.2.2.2.2.2.2.2.2.1) (
 opt.need _ (p.rowOk s85.2.2.2.2.2.2.2.2.2.2.2.2.2.2.2.2.2.2.2.2.1 (p.nat s85.2.2.2.2.2.2.2.2.2.2.2.2.2.2.2.2.2.2.2.2.2.2.1) [(CK.int .i64), (CK.int .i64)]) <|
 opt.need _ (p.cmp .geq s85.2.2.2.2.2.2.2.2.2.2.2.2.2.2.2.2.2.2.2.2.2.2.1 (0 : Int)) <|
 opt.need _ (p.cmp .neq (p.ofNat (p.len s85.2.2.2.2.2.2.2.2.2.2.2.2.2.2.2.2.2.2.2.1)) (0 : Int)) <|
 opt.need _ (p.rowOk s85.2.2.2.2.2.2.2.2.2.2.2.2.2.2.2.2.2.2.2.1 (p.nat (p.ar .rem .i64 (p.ar .add .i64 s85.2.2.2.2.2.2.2.2.2.2.2.2.2.2.2.2.2.2.2.2.2.2.1 (1 : Int)) (p.ofNat (p.len s85.2.2.2.2.2.2.2.2.2.2.2.2.2.2.2.2.2.2.2.1)))) [(CK.int .i64), (CK.int .i64)]) <|
 opt.need _ (p.cmp .geq (p.ar .rem .i64 (p.ar .add .i64 s85.2.2.2.2.2.2.2.2.2.2.2.2.2.2.2.2.2.2.2.2.2.2.1 (1 : Int)) (p.ofNat (p.len s85.2.2.2.2.2.2.2.2.2.2.2.2.2.2.2.2.2.2.2.1))) (0 : Int)) <|
 opt.ask _ (bif (p.cmp .eql (p.ar .sub .i64 (p.rdI s85.2.2.2.2.2.2.2.2.2.2.2.2.2.2.2.2.2.2.2.1 (p.nat (p.ar .rem .i64 (p.ar .add .i64 s85.2.2.2.2.2.2.2.2.2.2.2.2.2.2.2.2.2.2.2.2.2.2.1 (1 : Int)) (p.ofNat (p.len s85.2.2.2.2.2.2.2.2.2.2.2.2.2.2.2.2.2.2.2.1)))) 0) (p.rdI s85.2.2.2.2.2.2.2.2.2.2.2.2.2.2.2.2.2.2.2.2.1 (p.nat s85.2.2.2.2.2.2.2.2.2.2.2.2.2.2.2.2.2.2.2.2.2.2.1) 0)) (0 : Int)) then (bif (p.cmp .eql (p.ar .sub .i64 (p.rdI s85.2.2.2.2.2.2.2.2.2.2.2.2.2.2.2.2.2.2.2.1 (p.nat (p.ar .rem .i64 (p.ar .add .i64 s85.2.2.2.2.2.2.2.2.2.2.2.2.2.2.2.2.2.2.2.2.2.2.1 (1 : Int)) (p.ofNat (p.len s85.2.2.2.2.2.2.2.2.2.2.2.2.2.2.2.2.2.2.2.1)))) 1) (p.rdI s85.2.2.2.2.2.2.2.2.2.2.2.2.2.2.2.2.2.2.2.2.1 (p.nat s85.2.2.2.2.2.2.2.2.2.2.2.2.2.2.2.2.2.2.2.2.2.2.1) 1)) (0 : Int)) then Bool.true else Bool.false) else Bool.false) (
 opt.ret _ (Sum.inr (Sum.inl (s85.1, (s85.2.1, (s85.2.2.1, (s85.2.2.2.1, (s85.2.2.2.2.1, (s85.2.2.2.2.2.1, (s85.2.2.2.2.2.2.1, (s85.2.2.2.2.2.2.2.1, (s85.2.2.2.2.2.2.2.2.1, (s85.2.2.2.2.2.2.2.2.2.1, (s85.2.2.2.2.2.2.2.2.2.2.1, (s85.2.2.2.2.2.2.2.2.2.2.2.1, (s85.2.2.2.2.2.2.2.2.2.2.2.2.1, (s85.2.2.2.2.2.2.2.2.2.2.2.2.2.1, (s85.2.2.2.2.2.2.2.2.2.2.2.2.2.2.1, (s85.2.2.2.2.2.2.2.2.2.2.2.2.2.2.2.1, (s85.2.2.2.2.2.2.2.2.2.2.2.2.2.2.2.2.1, (s85.2.2.2.2.2.2.2.2.2.2.2.2.2.2.2.2.2.1, (s85.2.2.2.2.2.2.2.2.2.2.2.2.2.2.2.2.2.2.1, (s85.2.2.2.2.2.2.2.2.2.2.2.2.2.2.2.2.2.2.2.1, ()))))))))))))))))))))))) (
 opt.bnd ((Int × (Int × (Int × (Bool × Unit))))) _ (g76 it p (s85.2.2.2.2.2.2.2.2.2.2.2.2.2.2.2.1, (s85.2.2.2.2.2.2.2.2.2.2.2.2.2.2.2.2.1, (s85.2.2.2.2.2.2.2.2.2.2.2.2.2.2.2.2.2.1, (s85.2.2.2.2.2.2.2.2.2.2.2.2.2.2.2.2.2.2.1, ((p.rdI s85.2.2.2.2.2.2.2.2.2.2.2.2.2.2.2.2.2.2.2.2.1 (p.nat s85.2.2.2.2.2.2.2.2.2.2.2.2.2.2.2.2.2.2.2.2.2.2.1) 0), ((p.rdI s85.2.2.2.2.2.2.2.2.2.2.2.2.2.2.2.2.2.2.2.2.1 (p.nat s85.2.2.2.2.2.2.2.2.2.2.2.2.2.2.2.2.2.2.2.2.2.2.1) 1), ((p.ar .sub .i64 (p.rdI s85.2.2.2.2.2.2.2.2.2.2.2.2.2.2.2.2.2.2.2.1 (p.nat (p.ar .rem .i64 (p.ar .add .i64 s85.2.2.2.2.2.2.2.2.2.2.2.2.2.2.2.2.2.2.2.2.2.2.1 (1 : Int)) (p.ofNat (p.len s85.2.2.2.2.2.2.2.2.2.2.2.2.2.2.2.2.2.2.2.1)))) 0) (p.rdI s85.2.2.2.2.2.2.2.2.2.2.2.2.2.2.2.2.2.2.2.2.1 (p.nat s85.2.2.2.2.2.2.2.2.2.2.2.2.2.2.2.2.2.2.2.2.2.2.1) 0)), ((p.ar .sub .i64 (p.rdI s85.2.2.2.2.2.2.2.2.2.2.2.2.2.2.2.2.2.2.2.1 (p.nat (p.ar .rem .i64 (p.ar .add .i64 s85.2.2.2.2.2.2.2.2.2.2.2.2.2.2.2.2.2.2.2.2.2.2.1 (1 : Int)) (p.ofNat (p.len s85.2.2.2.2.2.2.2.2.2.2.2.2.2.2.2.2.2.2.2.1)))) 1) (p.rdI s85.2.2.2.2.2.2.2.2.2.2.2.2.2.2.2.2.2.2.2.2.1 (p.nat s85.2.2.2.2.2.2.2.2.2.2.2.2.2.2.2.2.2.2.2.2.2.2.1) 1)), ()))))))))) fun y86 =>
 opt.ask _ y86.2.2.2.1 (
 opt.ret _ (Sum.inr (Sum.inr (Sum.inl (y86.1, (y86.2.1, (y86.2.2.1, ((0 : Int), (s85.2.2.2.2.1, (s85.2.2.2.2.2.1, (s85.2.2.2.2.2.2.1, (s85.2.2.2.2.2.2.2.1, (s85.2.2.2.2.2.2.2.2.1, (s85.2.2.2.2.2.2.2.2.2.1, (s85.2.2.2.2.2.2.2.2.2.2.1, (s85.2.2.2.2.2.2.2.2.2.2.2.1, (s85.2.2.2.2.2.2.2.2.2.2.2.2.1, (s85.2.2.2.2.2.2.2.2.2.2.2.2.2.1, (s85.2.2.2.2.2.2.2.2.2.2.2.2.2.2.1, (s85.2.2.2.2.2.2.2.2.2.2.2.2.2.2.2.1, (s85.2.2.2.2.2.2.2.2.2.2.2.2.2.2.2.2.1, (s85.2.2.2.2.2.2.2.2.2.2.2.2.2.2.2.2.2.1, (s85.2.2.2.2.2.2.2.2.2.2.2.2.2.2.2.2.2.2.1, (s85.2.2.2.2.2.2.2.2.2.2.2.2.2.2.2.2.2.2.2.1, ())))))))))))))))))))))))) (
 opt.ret _ (Sum.inl (s85.1, (s85.2.1, (s85.2.2.1, (s85.2.2.2.1, (s85.2.2.2.2.1, (s85.2.2.2.2.2.1, (s85.2.2.2.2.2.2.1, (s85.2.2.2.2.2.2.2.1, (s85.2.2.2.2.2.2.2.2.1, (s85.2.2.2.2.2.2.2.2.2.1, (s85.2.2.2.2.2.2.2.2.2.2.1, (s85.2.2.2.2.2.2.2.2.2.2.2.1, (s85.2.2.2.2.2.2.2.2.2.2.2.2.1, (s85.2.2.2.2.2.2.2.2.2.2.2.2.2.1, (s85.2.2.2.2.2.2.2.2.2.2.2.2.2.2.1, (s85.2.2.2.2.2.2.2.2.2.2.2.2.2.2.2.1, (s85.2.2.2.2.2.2.2.2.2.2.2.2.2.2.2.2.1, (s85.2.2.2.2.2.2.2.2.2.2.2.2.2.2.2.2.2.1, (s85.2.2.2.2.2.2.2.2.2.2.2.2.2.2.2.2.2.2.1, (s85.2.2.2.2.2.2.2.2.2.2.2.2.2.2.2.2.2.2.2.1, (s85.2.2.2.2.2.2.2.2.2.2.2.2.2.2.2.2.2.2.2.2.1, (s85.2.2.2.2.2.2.2.2.2.2.2.2.2.2.2.2.2.2.2.2.2.1, ((p.ar .add .i64 s85.2.2.2.2.2.2.2.2.2.2.2.2.2.2.2.2.2.2.2.2.2.2.1 (1 : Int)), ()))))))))))))))))))))))))))) (
 opt.ret _ (Sum.inr (Sum.inr (Sum.inr (s85.1, (s85.2.1, (s85.2.2.1, (s85.2.2.2.1, (s85.2.2.2.2.1, (s85.2.2.2.2.2.1, (s85.2.2.2.2.2.2.1, (s85.2.2.2.2.2.2.2.1, (s85.2.2.2.2.2.2.2.2.1, (s85.2.2.2.2.2.2.2.2.2.1, (s85.2.2.2.2.2.2.2.2.2.2.1, (s85.2.2.2.2.2.2.2.2.2.2.2.1, (s85.2.2.2.2.2.2.2.2.2.2.2.2.1, (s85.2.2.2.2.2.2.2.2.2.2.2.2.2.1, (s85.2.2.2.2.2.2.2.2.2.2.2.2.2.2.1, (s85.2.2.2.2.2.2.2.2.2.2.2.2.2.2.2.1, (s85.2.2.2.2.2.2.2.2.2.2.2.2.2.2.2.2.1, (s85.2.2.2.2.2.2.2.2.2.2.2.2.2.2.2.2.2.1, (s85.2.2.2.2.2.2.2.2.2.2.2.2.2.2.2.2.2.2.1, (s85.2.2.2.2.2.2.2.2.2.2.2.2.2.2.2.2.2.2.2.1, ())))))))))))))))))))))))))
noncomputable def c37_3 (it : It) (p : Prim) : (Int × (Int × (Int × (Int × (List (List (D)) × (List (List (D)) × (List (List (D)) × (List (List (D)) × (List (List (D)) × (List (List (D)) × (List (List (D)) × (List (List (D)) × (Int × (Int × Unit)))))))))))))) → Option ((Int × (Int × (Int × (Int × (List (List (D)) × (List (List (D)) × (List (List (D)) × (List (List (D)) × (List (List (D)) × (List (List (D)) × (List (List (D)) × (List (List (D)) × (Int × (Int × Unit)))))))))))))) ⊕ ((Int × (Int × (Int × (Int × (List (List (D)) × (List (List (D)) × (List (List (D)) × (List (List (D)) × (List (List (D)) × (List (List (D)) × (List (List (D)) × Unit))))))))))) ⊕ ((Int × (Int × (Int × (Int × (List (List (D)) × (List (List (D)) × (List (List (D)) × (List (List (D)) × (List (List (D)) × (List (List (D)) × (List (List (D)) × Unit))))))))))) ⊕ (Int × (Int × (Int × (Int × (List (List (D)) × (List (List (D)) × (List (List (D)) × (List (List (D)) × (List (List (D)) × (List (List (D)) × (List (List (D)) × Unit)))))))))))))) :=
 fun s84 => opt.run _ (
 opt.ask _ (p.cmp .lss s84.2.2.2.2.2.2.2.2.2.2.2.2.2.1 s84.2.2.2.2.2.2.2.2.2.2.2.2.1) (
 opt.need _ (p.rowOk s84.2.2.2.2.2.2.2.2.2.2.2.1 (p.nat s84.2.2.2.2.2.2.2.2.2.2.2.2.2.1) [(CK.int .i64), (CK.int .i64)]) <|
 opt.need _ (p.cmp .geq s84.2.2.2.2.2.2.2.2.2.2.2.2.2.1 (0 : Int)) <|
 opt.need _ (p.cmp .neq (p.ofNat (p.len s84.2.2.2.2.2.2.2.2.2.2.1)) (0 : Int)) <|
 opt.need _ (p.rowOk s84.2.2.2.2.2.2.2.2.2.2.1 (p.nat (p.ar .rem .i64 (p.ar .add .i64 s84.2.2.2.2.2.2.2.2.2.2.2.2.2.1 (1 : Int)) (p.ofNat (p.len s84.2.2.2.2.2.2.2.2.2.2.1)))) [(CK.int .i64), (CK.int .i64)]) <|
 opt.need _ (p.cmp .geq (p.ar .rem .i64 (p.ar .add .i64 s84.2.2.2.2.2.2.2.2.2.2.2.2.2.1 (1 : Int)) (p.ofNat (p.len s84.2.2.2.2.2.2.2.2.2.2.1))) (0 : Int)) <|
 opt.ask _ (bif (p.cmp .eql (p.ar .sub .i64 (p.rdI s84.2.2.2.2.2.2.2.2.2.2.1 (p.nat (p.ar .rem .i64 (p.ar .add .i64 s84.2.2.2.2.2.2.2.2.2.2.2.2.2.1 (1 : Int)) (p.ofNat (p.len s84.2.2.2.2.2.2.2.2.2.2.1)))) 0) (p.rdI s84.2.2.2.2.2.2.2.2.2.2.2.1 (p.nat s84.2.2.2.2.2.2.2.2.2.2.2.2.2.1) 0)) (0 : Int)) then (bif (p.cmp .eql (p.ar .sub .i64 (p.rdI s84.2.2.2.2.2.2.2.2.2.2.1 (p.nat (p.ar .rem .i64 (p.ar .add .i64 s84.2.2.2.2.2.2.2.2.2.2.2.2.2.1 (1 : Int)) (p.ofNat (p.len s84.2.2.2.2.2.2.2.2.2.2.1)))) 1) (p.rdI s84.2.2.2.2.2.2.2.2.2.2.2.1 (p.nat s84.2.2.2.2.2.2.2.2.2.2.2.2.2.1) 1)) (0 : Int)) then Bool.true else Bool.false) else Bool.false) (
 opt.ret _ (Sum.inr (Sum.inl (s84.1, (s84.2.1, (s84.2.2.1, (s84.2.2.2.1, (s84.2.2.2.2.1, (s84.2.2.2.2.2.1, (s84.2.2.2.2.2.2.1, (s84.2.2.2.2.2.2.2.1, (s84.2.2.2.2.2.2.2.2.1, (s84.2.2.2.2.2.2.2.2.2.1, (s84.2.2.2.2.2.2.2.2.2.2.1, ())))))))))))))) (
 opt.alt ((Int × (Int × (Int × (Int × (List (List (D)) × (List (List (D)) × (List (List (D)) × (List (List (D)) × (List (List (D)) × (List (List (D)) × (List (List (D)) × (Int × (Int × (Int × (Int × Unit)))))))))))))))) ((Int × (Int × (Int × (Int × (List (List (D)) × (List (List (D)) × (List (List (D)) × (List (List (D)) × (List (List (D)) × (List (List (D)) × (List (List (D)) × (Int × (Int × (Int × (Int × Unit)))))))))))))))) _ (
 opt.run (((Int × (Int × (Int × (Int × (List (List (D)) × (List (List (D)) × (List (List (D)) × (List (List (D)) × (List (List (D)) × (List (List (D)) × (List (List (D)) × (Int × (Int × (Int × (Int × Unit))))))))))))))) ⊕ (Int × (Int × (Int × (Int × (List (List (D)) × (List (List (D)) × (List (List (D)) × (List (List (D)) × (List (List (D)) × (List (List (D)) × (List (List (D)) × (Int × (Int × (Int × (Int × Unit))))))))))))))))) (
 opt.alt ((Int × (Int × (Int × (Int × (List (List (D)) × (List (List (D)) × (List (List (D)) × (List (List (D)) × (List (List (D)) × (List (List (D)) × (List (List (D)) × (Int × (Int × (Int × (Int × (Int × (Int × (Int × (Int × (List (List (D)) × Unit))))))))))))))))))))) (((Int × (Int × (Int × (Int × (List (List (D)) × (List (List (D)) × (List (List (D)) × (List (List (D)) × (List (List (D)) × (List (List (D)) × (List (List (D)) × (Int × (Int × (Int × (Int × (Int × (Int × (Int × (Int × (List (List (D)) × Unit)))))))))))))))))))) ⊕ (Int × (Int × (Int × (Int × (List (List (D)) × (List (List (D)) × (List (List (D)) × (List (List (D)) × (List (List (D)) × (List (List (D)) × (List (List (D)) × (Int × (Int × (Int × (Int × (Int × (Int × (Int × (Int × (List (List (D)) × Unit)))))))))))))))))))))) _ (
 it _ _ (c37_4 it p) (s84.1, (s84.2.1, (s84.2.2.1, (s84.2.2.2.1, (s84.2.2.2.2.1, (s84.2.2.2.2.2.1, (s84.2.2.2.2.2.2.1, (s84.2.2.2.2.2.2.2.1, (s84.2.2.2.2.2.2.2.2.1, (s84.2.2.2.2.2.2.2.2.2.1, (s84.2.2.2.2.2.2.2.2.2.2.1, ((p.rdI s84.2.2.2.2.2.2.2.2.2.2.2.1 (p.nat s84.2.2.2.2.2.2.2.2.2.2.2.2.2.1) 0), ((p.rdI s84.2.2.2.2.2.2.2.2.2.2.2.1 (p.nat s84.2.2.2.2.2.2.2.2.2.2.2.2.2.1) 1), ((p.ar .sub .i64 (p.rdI s84.2.2.2.2.2.2.2.2.2.2.1 (p.nat (p.ar .rem .i64 (p.ar .add .i64 s84.2.2.2.2.2.2.2.2.2.2.2.2.2.1 (1 : Int)) (p.ofNat (p.len s84.2.2.2.2.2.2.2.2.2.2.1)))) 0) (p.rdI s84.2.2.2.2.2.2.2.2.2.2.2.1 (p.nat s84.2.2.2.2.2.2.2.2.2.2.2.2.2.1) 0)), ((p.ar .sub .i64 (p.rdI s84.2.2.2.2.2.2.2.2.2.2.1 (p.nat (p.ar .rem .i64 (p.ar .add .i64 s84.2.2.2.2.2.2.2.2.2.2.2.2.2.1 (1 : Int)) (p.ofNat (p.len s84.2.2.2.2.2.2.2.2.2.2.1)))) 1) (p.rdI s84.2.2.2.2.2.2.2.2.2.2.2.1 (p.nat s84.2.2.2.2.2.2.2.2.2.2.2.2.2.1) 1)), ((p.rdI s84.2.2.2.2.2.2.2.2.2.2.2.1 (p.nat s84.2.2.2.2.2.2.2.2.2.2.2.2.2.1) 0), ((p.rdI s84.2.2.2.2.2.2.2.2.2.2.2.1 (p.nat s84.2.2.2.2.2.2.2.2.2.2.2.2.2.1) 1), ((p.ar .sub .i64 (p.rdI s84.2.2.2.2.2.2.2.2.2.2.1 (p.nat (p.ar .rem .i64 (p.ar .add .i64 s84.2.2.2.2.2.2.2.2.2.2.2.2.2.1 (1 : Int)) (p.ofNat (p.len s84.2.2.2.2.2.2.2.2.2.2.1)))) 0) (p.rdI s84.2.2.2.2.2.2.2.2.2.2.2.1 (p.nat s84.2.2.2.2.2.2.2.2.2.2.2.2.2.1) 0)), ((p.ar .sub .i64 (p.rdI s84.2.2.2.2.2.2.2.2.2.2.1 (p.nat (p.ar .rem .i64 (p.ar .add .i64 s84.2.2.2.2.2.2.2.2.2.2.2.2.2.1 (1 : Int)) (p.ofNat (p.len s84.2.2.2.2.2.2.2.2.2.2.1)))) 1) (p.rdI s84.2.2.2.2.2.2.2.2.2.2.2.1 (p.nat s84.2.2.2.2.2.2.2.2.2.2.2.2.2.1) 1)), (s84.2.2.2.2.2.2.2.2.2.1, (s84.2.2.2.2.2.2.2.2.2.1, ((p.ofNat (p.len s84.2.2.2.2.2.2.2.2.2.1)), ((0 : Int), ())))))))))))))))))))))))) (fun y87 =>
 opt.ret _ (Sum.inl (y87.1, (y87.2.1, (y87.2.2.1, (y87.2.2.2.1, (y87.2.2.2.2.1, (y87.2.2.2.2.2.1, (y87.2.2.2.2.2.2.1, (y87.2.2.2.2.2.2.2.1, (y87.2.2.2.2.2.2.2.2.1, (y87.2.2.2.2.2.2.2.2.2.1, (y87.2.2.2.2.2.2.2.2.2.2.1, (y87.2.2.2.2.2.2.2.2.2.2.2.1, (y87.2.2.2.2.2.2.2.2.2.2.2.2.1, (y87.2.2.2.2.2.2.2.2.2.2.2.2.2.1, (y87.2.2.2.2.2.2.2.2.2.2.2.2.2.2.1, ()))))))))))))))))) (fun y88 =>
 opt.alt ((Int × (Int × (Int × (Int × (List (List (D)) × (List (List (D)) × (List (List (D)) × (List (List (D)) × (List (List (D)) × (List (List (D)) × (List (List (D)) × (Int × (Int × (Int × (Int × (Int × (Int × (Int × (Int × (List (List (D)) × Unit))))))))))))))))))))) ((Int × (Int × (Int × (Int × (List (List (D)) × (List (List (D)) × (List (List (D)) × (List (List (D)) × (List (List (D)) × (List (List (D)) × (List (List (D)) × (Int × (Int × (Int × (Int × (Int × (Int × (Int × (Int × (List (List (D)) × Unit))))))))))))))))))))) _ (some y88) (fun y89 =>
 opt.ret _ (Sum.inr (y89.1, (y89.2.1, (y89.2.2.1, (y89.2.2.2.1, (y89.2.2.2.2.1, (y89.2.2.2.2.2.1, (y89.2.2.2.2.2.2.1, (y89.2.2.2.2.2.2.2.1, (y89.2.2.2.2.2.2.2.2.1, (y89.2.2.2.2.2.2.2.2.2.1, (y89.2.2.2.2.2.2.2.2.2.2.1, (y89.2.2.2.2.2.2.2.2.2.2.2.1, (y89.2.2.2.2.2.2.2.2.2.2.2.2.1, (y89.2.2.2.2.2.2.2.2.2.2.2.2.2.1, (y89.2.2.2.2.2.2.2.2.2.2.2.2.2.2.1, ()))))))))))))))))) (fun y90 =>
 opt.bnd ((Int × (Int × (Int × (Int × (List (List (D)) × (List (List (D)) × (List (List (D)) × (List (List (D)) × (List (List (D)) × (List (List (D)) × (List (List (D)) × (Int × (Int × (Int × (Int × (Int × (Int × (Int × (Int × (List (List (D)) × Unit))))))))))))))))))))) _ (some y90) fun y91 =>
 opt.ret _ (Sum.inl (y91.1, (y91.2.1, (y91.2.2.1, (y91.2.2.2.1, (y91.2.2.2.2.1, (y91.2.2.2.2.2.1, (y91.2.2.2.2.2.2.1, (y91.2.2.2.2.2.2.2.1, (y91.2.2.2.2.2.2.2.2.1, (y91.2.2.2.2.2.2.2.2.2.1, (y91.2.2.2.2.2.2.2.2.2.2.1, (y91.2.2.2.2.2.2.2.2.2.2.2.1, (y91.2.2.2.2.2.2.2.2.2.2.2.2.1, (y91.2.2.2.2.2.2.2.2.2.2.2.2.2.1, (y91.2.2.2.2.2.2.2.2.2.2.2.2.2.2.1, ())))))))))))))))))))) (fun y92 =>
 opt.ret _ (Sum.inl (y92.1, (y92.2.1, (y92.2.2.1, (y92.2.2.2.1, (y92.2.2.2.2.1, (y92.2.2.2.2.2.1, (y92.2.2.2.2.2.2.1, (y92.2.2.2.2.2.2.2.1, (y92.2.2.2.2.2.2.2.2.1, (y92.2.2.2.2.2.2.2.2.2.1, (y92.2.2.2.2.2.2.2.2.2.2.1, (s84.2.2.2.2.2.2.2.2.2.2.2.1, (s84.2.2.2.2.2.2.2.2.2.2.2.2.1, ((p.ar .add .i64 s84.2.2.2.2.2.2.2.2.2.2.2.2.2.1 (1 : Int)), ())))))))))))))))) (fun y93 =>
 opt.bnd ((Int × (Int × (Int × (Int × (List (List (D)) × (List (List (D)) × (List (List (D)) × (List (List (D)) × (List (List (D)) × (List (List (D)) × (List (List (D)) × (Int × (Int × (Int × (Int × Unit)))))))))))))))) _ (some y93) fun y94 =>
 opt.ret _ (Sum.inr (Sum.inr (Sum.inl (y94.1, (y94.2.1, (y94.2.2.1, (y94.2.2.2.1, (y94.2.2.2.2.1, (y94.2.2.2.2.2.1, (y94.2.2.2.2.2.2.1, (y94.2.2.2.2.2.2.2.1, (y94.2.2.2.2.2.2.2.2.1, (y94.2.2.2.2.2.2.2.2.2.1, (y94.2.2.2.2.2.2.2.2.2.2.1, ()))))))))))))))))) (
 opt.ret _ (Sum.inr (Sum.inr (Sum.inr (s84.1, (s84.2.1, (s84.2.2.1, (s84.2.2.2.1, (s84.2.2.2.2.1, (s84.2.2.2.2.2.1, (s84.2.2.2.2.2.2.1, (s84.2.2.2.2.2.2.2.1, (s84.2.2.2.2.2.2.2.2.1, (s84.2.2.2.2.2.2.2.2.2.1, (s84.2.2.2.2.2.2.2.2.2.2.1, ()))))))))))))))))
noncomputable def c37_2 (it : It) (p : Prim) : (Int × (Int × (Int × (Int × (List (List (D)) × (List (List (D)) × (List (List (D)) × (List (List (D)) × (List (List (D)) × (List (List (D)) × (List (List (D)) × (List (List (D)) × (List (List (D)) × (List (List (D)) × (List (List (D)) × (List (List (D)) × (Int × (List (List (D)) × (Int × (Int × Unit)))))))))))))))))))) → Option ((Int × (Int × (Int × (Int × (List (List (D)) × (List (List (D)) × (List (List (D)) × (List (List (D)) × (List (List (D)) × (List (List (D)) × (List (List (D)) × (List (List (D)) × (List (List (D)) × (List (List (D)) × (List (List (D)) × (List (List (D)) × (Int × (List (List (D)) × (Int × (Int × Unit)))))))))))))))))))) ⊕ ((Int × (Int × (Int × (Int × Unit)))) ⊕ (Int × (Int × (Int × (Int × (List (List (D)) × (List (List (D)) × (List (List (D)) × (List (List (D)) × (List (List (D)) × (List (List (D)) × (List (List (D)) × (List (List (D)) × (List (List (D)) × (List (List (D)) × (Int × Unit))))))))))))))))) :=
 fun s76 => opt.run _ (
 opt.ask _ (p.cmp .lss s76.2.2.2.2.2.2.2.2.2.2.2.2.2.2.2.2.2.2.2.1 s76.2.2.2.2.2.2.2.2.2.2.2.2.2.2.2.2.2.2.1) (
 opt.need _ (p.rowOk s76.2.2.2.2.2.2.2.2.2.2.2.2.2.2.2.2.2.1 (p.nat s76.2.2.2.2.2.2.2.2.2.2.2.2.2.2.2.2.2.2.2.1) [(CK.int .i64), (CK.int .i64)]) <|
 opt.need _ (p.cmp .geq s76.2.2.2.2.2.2.2.2.2.2.2.2.2.2.2.2.2.2.2.1 (0 : Int)) <|
 opt.bnd ((Bool × Unit)) _ (g57 it p (s76.2.2.2.2.2.2.2.2.1, ((p.rdI s76.2.2.2.2.2.2.2.2.2.2.2.2.2.2.2.2.2.1 (p.nat s76.2.2.2.2.2.2.2.2.2.2.2.2.2.2.2.2.2.2.2.1) 0), ((p.rdI s76.2.2.2.2.2.2.2.2.2.2.2.2.2.2.2.2.2.1 (p.nat s76.2.2.2.2.2.2.2.2.2.2.2.2.2.2.2.2.2.2.2.1) 1), ((1 : Int), ()))))) fun y77 =>
 opt.ask _ y77.1 (
 opt.ret _ (Sum.inr (Sum.inl ((p.rdI s76.2.2.2.2.2.2.2.2.2.2.2.2.2.2.2.2.2.1 (p.nat s76.2.2.2.2.2.2.2.2.2.2.2.2.2.2.2.2.2.2.2.1) 0), ((p.rdI s76.2.2.2.2.2.2.2.2.2.2.2.2.2.2.2.2.2.1 (p.nat s76.2.2.2.2.2.2.2.2.2.2.2.2.2.2.2.2.2.2.2.1) 1), ((1 : Int), ((0 : Int), ()))))))) (
 opt.ret _ (Sum.inl (s76.1, (s76.2.1, (s76.2.2.1, (s76.2.2.2.1, (s76.2.2.2.2.1, (s76.2.2.2.2.2.1, (s76.2.2.2.2.2.2.1, (s76.2.2.2.2.2.2.2.1, (s76.2.2.2.2.2.2.2.2.1, (s76.2.2.2.2.2.2.2.2.2.1, (s76.2.2.2.2.2.2.2.2.2.2.1, (s76.2.2.2.2.2.2.2.2.2.2.2.1, (s76.2.2.2.2.2.2.2.2.2.2.2.2.1, (s76.2.2.2.2.2.2.2.2.2.2.2.2.2.1, (s76.2.2.2.2.2.2.2.2.2.2.2.2.2.2.1, (s76.2.2.2.2.2.2.2.2.2.2.2.2.2.2.2.1, (s76.2.2.2.2.2.2.2.2.2.2.2.2.2.2.2.2.1, (s76.2.2.2.2.2.2.2.2.2.2.2.2.2.2.2.2.2.1, (s76.2.2.2.2.2.2.2.2.2.2.2.2.2.2.2.2.2.2.1, ((p.ar .add .i64 s76.2.2.2.2.2.2.2.2.2.2.2.2.2.2.2.2.2.2.2.1 (1 : Int)), ()))))))))))))))))))))))) (
 opt.ret _ (Sum.inr (Sum.inr (s76.1, (s76.2.1, (s76.2.2.1, (s76.2.2.2.1, (s76.2.2.2.2.1, (s76.2.2.2.2.2.1, (s76.2.2.2.2.2.2.1, (s76.2.2.2.2.2.2.2.2.2.1, (s76.2.2.2.2.2.2.2.2.2.2.1, (s76.2.2.2.2.2.2.2.2.2.2.2.1, (s76.2.2.2.2.2.2.2.2.2.2.2.2.1, (s76.2.2.2.2.2.2.2.2.2.2.2.2.2.1, (s76.2.2.2.2.2.2.2.2.2.2.2.2.2.2.1, (s76.2.2.2.2.2.2.2.2.2.2.2.2.2.2.2.1, (s76.2.2.2.2.2.2.2.2.2.2.2.2.2.2.2.2.1, ())))))))))))))))))))
noncomputable def c37_1 (it : It) (p : Prim) : (Int × (Int × (Int × (Int × (List (List (D)) × (List (List (D)) × (List (List (D)) × (List (List (D)) × (List (List (D)) × (List (List (D)) × (List (List (D)) × (List (List (D)) × (List (List (D)) × (List (List (D)) × (Int × Unit))))))))))))))) → Option ((Int × (Int × (Int × (Int × (List (List (D)) × (List (List (D)) × (List (List (D)) × (List (List (D)) × (List (List (D)) × (List (List (D)) × (List (List (D)) × (List (List (D)) × (List (List (D)) × (List (List (D)) × (Int × Unit))))))))))))))) ⊕ ((Int × (Int × (Int × (Int × Unit)))) ⊕ (Int × (Int × (Int × (Int × (List (List (D)) × (List (List (D)) × (List (List (D)) × (List (List (D)) × (List (List (D)) × (List (List (D)) × Unit)))))))))))) :=
 fun s74 => opt.run _ (
 opt.ask _ (p.cmp .lss s74.2.2.2.2.2.2.2.2.2.2.2.2.2.2.1 (2 : Int)) (
 opt.bnd ((Int × (Int × (Int × (Int × (List (List (D)) × (List (List (D)) × (List (List (D)) × (List (List (D)) × (List (List (D)) × (List (List (D)) × (List (List (D)) × (List (List (D)) × (List (List (D)) × (List (List (D)) × (List (List (D)) × (List (List (D)) × (Int × Unit)))))))))))))))))) _ (
 opt.run ((Int × (Int × (Int × (Int × (List (List (D)) × (List (List (D)) × (List (List (D)) × (List (List (D)) × (List (List (D)) × (List (List (D)) × (List (List (D)) × (List (List (D)) × (List (List (D)) × (List (List (D)) × (List (List (D)) × (List (List (D)) × (Int × Unit)))))))))))))))))) (
 opt.ask _ (p.cmp .eql s74.2.2.2.2.2.2.2.2.2.2.2.2.2.2.1 (0 : Int)) (
 opt.need _ (bif (p.cmp .geq (0 : Int) (0 : Int)) then (p.cmp .lss (0 : Int) (p.ofNat 2)) else Bool.false) <|
 opt.ret _ (s74.1, (s74.2.1, (s74.2.2.1, (s74.2.2.2.1, (s74.2.2.2.2.1, (s74.2.2.2.2.2.1, (s74.2.2.2.2.2.2.1, (s74.2.2.2.2.2.2.2.2.2.2.1, (s74.2.2.2.2.2.2.2.2.2.2.2.1, (s74.2.2.2.2.2.2.2.1, (s74.2.2.2.2.2.2.2.2.1, (s74.2.2.2.2.2.2.2.2.2.1, (s74.2.2.2.2.2.2.2.2.2.2.1, (s74.2.2.2.2.2.2.2.2.2.2.2.1, (s74.2.2.2.2.2.2.2.2.2.2.2.2.1, (s74.2.2.2.2.2.2.2.2.2.2.2.2.2.1, ((0 : Int), ())))))))))))))))))) (
 opt.need _ (p.cmp .eql s74.2.2.2.2.2.2.2.2.2.2.2.2.2.2.1 (1 : Int)) <|
 opt.need _ (bif (p.cmp .geq (1 : Int) (0 : Int)) then (p.cmp .lss (1 : Int) (p.ofNat 2)) else Bool.false) <|
 opt.ret _ (s74.1, (s74.2.1, (s74.2.2.1, (s74.2.2.2.1, (s74.2.2.2.2.1, (s74.2.2.2.2.2.1, (s74.2.2.2.2.2.2.1, (s74.2.2.2.2.2.2.2.2.2.2.2.2.1, (s74.2.2.2.2.2.2.2.2.2.2.2.2.2.1, (s74.2.2.2.2.2.2.2.1, (s74.2.2.2.2.2.2.2.2.1, (s74.2.2.2.2.2.2.2.2.2.1, (s74.2.2.2.2.2.2.2.2.2.2.1, (s74.2.2.2.2.2.2.2.2.2.2.2.1, (s74.2.2.2.2.2.2.2.2.2.2.2.2.1, (s74.2.2.2.2.2.2.2.2.2.2.2.2.2.1, ((1 : Int), ())))))))))))))))))))) fun y75 =>
 opt.alt ((Int × (Int × (Int × (Int × Unit))))) ((Int × (Int × (Int × (Int × (List (List (D)) × (List (List (D)) × (List (List (D)) × (List (List (D)) × (List (List (D)) × (List (List (D)) × (List (List (D)) × (List (List (D)) × (List (List (D)) × (List (List (D)) × (Int × Unit)))))))))))))))) _ (
 it _ _ (c37_2 it p) (y75.1, (y75.2.1, (y75.2.2.1, (y75.2.2.2.1, (y75.2.2.2.2.1, (y75.2.2.2.2.2.1, (y75.2.2.2.2.2.2.1, (y75.2.2.2.2.2.2.2.1, (y75.2.2.2.2.2.2.2.2.1, (y75.2.2.2.2.2.2.2.2.2.1, (y75.2.2.2.2.2.2.2.2.2.2.1, (y75.2.2.2.2.2.2.2.2.2.2.2.1, (y75.2.2.2.2.2.2.2.2.2.2.2.2.1, (y75.2.2.2.2.2.2.2.2.2.2.2.2.2.1, (y75.2.2.2.2.2.2.2.2.2.2.2.2.2.2.1, (y75.2.2.2.2.2.2.2.2.2.2.2.2.2.2.2.1, (y75.2.2.2.2.2.2.2.2.2.2.2.2.2.2.2.2.1, (y75.2.2.2.2.2.2.2.1, ((p.ofNat (p.len y75.2.2.2.2.2.2.2.1)), ((0 : Int), ()))))))))))))))))))))) (fun y78 =>
 opt.ret _ (Sum.inr (Sum.inl (y78.1, (y78.2.1, (y78.2.2.1, (y78.2.2.2.1, ()))))))) (fun y79 =>
 opt.bnd ((Int × (Int × (Int × (Int × (List (List (D)) × (List (List (D)) × (List (List (D)) × (List (List (D)) × (List (List (D)) × (List (List (D)) × (List (List (D)) × (List (List (D)) × (List (List (D)) × (List (List (D)) × (Int × Unit)))))))))))))))) _ (some y79) fun y80 =>
 opt.ret _ (Sum.inl (y80.1, (y80.2.1, (y80.2.2.1, (y80.2.2.2.1, (y80.2.2.2.2.1, (y80.2.2.2.2.2.1, (y80.2.2.2.2.2.2.1, (y80.2.2.2.2.2.2.2.1, (y80.2.2.2.2.2.2.2.2.1, (y80.2.2.2.2.2.2.2.2.2.1, (y80.2.2.2.2.2.2.2.2.2.2.1, (y80.2.2.2.2.2.2.2.2.2.2.2.1, (y80.2.2.2.2.2.2.2.2.2.2.2.2.1, (y80.2.2.2.2.2.2.2.2.2.2.2.2.2.1, ((p.ar .add .i64 y80.2.2.2.2.2.2.2.2.2.2.2.2.2.2.1 (1 : Int)), ())))))))))))))))))) (
 opt.ret _ (Sum.inr (Sum.inr (s74.1, (s74.2.1, (s74.2.2.1, (s74.2.2.2.1, (s74.2.2.2.2.1, (s74.2.2.2.2.2.1, (s74.2.2.2.2.2.2.1, (s74.2.2.2.2.2.2.2.1, (s74.2.2.2.2.2.2.2.2.1, (s74.2.2.2.2.2.2.2.2.2.1, ()))))))))))))))
noncomputable def g37 (it : It) : (p : Prim) → (List (List (D)) × (List (List (D)) × (List (List (D)) × (List (List (D)) × Unit)))) → Option ((Int × (Int × (Int × (Int × Unit))))) :=
 fun p x =>
 opt.alt ((Int × Unit)) (((List (List (D)) × (List (List (D)) × (List (List (D)) × (Int × Unit)))) ⊕ ((List (List (D)) × (List (List (D)) × (List (List (D)) × (Int × Unit)))) ⊕ (List (List (D)) × (List (List (D)) × (List (List (D)) × (List (List (D)) × (List (List (D)) × (List (List (D)) × (Int × Unit)))))))))) _ (g62 it p (x.1, (x.2.1, (x.2.2.1, (x.2.2.2.1, ()))))) (fun y67 =>
 opt.ask _ (p.cmp .neq y67.1 (0 : Int)) (
 opt.ret _ ((0 : Int), ((0 : Int), ((0 : Int), (y67.1, ()))))) (
 opt.no _ 41)) (fun y68 =>
 opt.alt ((List (List (D)) × (List (List (D)) × (List (List (D)) × (Int × Unit))))) (((List (List (D)) × (List (List (D)) × (List (List (D)) × (Int × Unit)))) ⊕ (List (List (D)) × (List (List (D)) × (List (List (D)) × (List (List (D)) × (List (List (D)) × (List (List (D)) × (Int × Unit))))))))) _ (some y68) (fun y69 =>
 opt.ask _ (p.cmp .neq y69.2.2.2.1 (0 : Int)) (
 opt.ret _ ((0 : Int), ((0 : Int), ((0 : Int), (y69.2.2.2.1, ()))))) (
 opt.no _ 41)) (fun y70 =>
 opt.alt ((List (List (D)) × (List (List (D)) × (List (List (D)) × (Int × Unit))))) ((List (List (D)) × (List (List (D)) × (List (List (D)) × (List (List (D)) × (List (List (D)) × (List (List (D)) × (Int × Unit)))))))) _ (some y70) (fun y71 =>
 opt.ask _ (p.cmp .neq y71.2.2.2.1 (0 : Int)) (
 opt.ret _ ((0 : Int), ((0 : Int), ((0 : Int), (y71.2.2.2.1, ()))))) (
 opt.no _ 41)) (fun y72 =>
 opt.bnd ((List (List (D)) × (List (List (D)) × (List (List (D)) × (List (List (D)) × (List (List (D)) × (List (List (D)) × (Int × Unit)))))))) _ (some y72) fun y73 =>
 opt.ask _ (p.cmp .neq y73.2.2.2.2.2.2.1 (0 : Int)) (
 opt.ret _ ((0 : Int), ((0 : Int), ((0 : Int), (y73.2.2.2.2.2.2.1, ()))))) (
 opt.alt ((Int × (Int × (Int × (Int × Unit))))) ((Int × (Int × (Int × (Int × (List (List (D)) × (List (List (D)) × (List (List (D)) × (List (List (D)) × (List (List (D)) × (List (List (D)) × Unit))))))))))) _ (
 it _ _ (c37_1 it p) ((0 : Int), ((0 : Int), ((0 : Int), ((0 : Int), (y73.1, (y73.2.1, (y73.2.2.1, (y73.2.2.2.1, (y73.2.2.2.2.1, (y73.2.2.2.2.2.1, (y73.2.2.1, (y73.2.2.2.2.2.1, (y73.2.2.2.2.2.1, (y73.2.2.1, ((0 : Int), ())))))))))))))))) (fun y81 =>
 opt.ret _ (y81.1, (y81.2.1, (y81.2.2.1, (y81.2.2.2.1, ()))))) (fun y82 =>
 opt.bnd ((Int × (Int × (Int × (Int × (List (List (D)) × (List (List (D)) × (List (List (D)) × (List (List (D)) × (List (List (D)) × (List (List (D)) × Unit))))))))))) _ (some y82) fun y83 =>
 opt.alt ((Int × (Int × (Int × (Int × Unit))))) ((Int × (Int × (Int × (Int × Unit))))) _ (
 opt.run (((Int × (Int × (Int × (Int × Unit)))) ⊕ (Int × (Int × (Int × (Int × Unit)))))) (
 opt.alt ((Int × (Int × (Int × (Int × (List (List (D)) × (List (List (D)) × (List (List (D)) × (List (List (D)) × (List (List (D)) × (List (List (D)) × (List (List (D)) × Unit)))))))))))) (((Int × (Int × (Int × (Int × (List (List (D)) × (List (List (D)) × (List (List (D)) × (List (List (D)) × (List (List (D)) × (List (List (D)) × (List (List (D)) × Unit))))))))))) ⊕ (Int × (Int × (Int × (Int × (List (List (D)) × (List (List (D)) × (List (List (D)) × (List (List (D)) × (List (List (D)) × (List (List (D)) × (List (List (D)) × Unit))))))))))))) _ (
 it _ _ (c37_3 it p) (y83.1, (y83.2.1, (y83.2.2.1, (y83.2.2.2.1, (y83.2.2.2.2.1, (y83.2.2.2.2.2.1, (y83.2.2.2.2.2.2.1, (y83.2.2.2.2.2.2.2.1, (y83.2.2.2.2.2.2.2.2.1, (y83.2.2.2.2.2.2.2.2.2.1, (y83.2.2.2.2.2.2.1, (y83.2.2.2.2.2.2.1, ((p.ofNat (p.len y83.2.2.2.2.2.2.1)), ((0 : Int), ()))))))))))))))) (fun y95 =>
 opt.ret _ (Sum.inl (y95.1, (y95.2.1, (y95.2.2.1, (y95.2.2.2.1, ())))))) (fun y96 =>
 opt.alt ((Int × (Int × (Int × (Int × (List (List (D)) × (List (List (D)) × (List (List (D)) × (List (List (D)) × (List (List (D)) × (List (List (D)) × (List (List (D)) × Unit)))))))))))) ((Int × (Int × (Int × (Int × (List (List (D)) × (List (List (D)) × (List (List (D)) × (List (List (D)) × (List (List (D)) × (List (List (D)) × (List (List (D)) × Unit)))))))))))) _ (some y96) (fun y97 =>
 opt.ret _ (Sum.inr (y97.1, (y97.2.1, (y97.2.2.1, (y97.2.2.2.1, ())))))) (fun y98 =>
 opt.bnd ((Int × (Int × (Int × (Int × (List (List (D)) × (List (List (D)) × (List (List (D)) × (List (List (D)) × (List (List (D)) × (List (List (D)) × (List (List (D)) × Unit)))))))))))) _ (some y98) fun y99 =>
 opt.ret _ (Sum.inl (y99.1, (y99.2.1, (y99.2.2.1, (y99.2.2.2.1, ()))))))))) (fun y100 =>
 opt.ret _ ((0 : Int), ((0 : Int), ((0 : Int), ((5 : Int), ()))))) (fun y101 =>
 opt.bnd ((Int × (Int × (Int × (Int × Unit))))) _ (some y101) fun y102 =>
 opt.ret _ (y102.1, (y102.2.1, (y102.2.2.1, (y102.2.2.2.1, ()))))))))))
noncomputable def G37 := g37 it0
noncomputable def F37 : Prim → Tup (ctr37).scs → Option (STup (scss (ctr37).outs)) :=
 fun p x => G37 p x
theorem eq37 (p : Prim) (x : Tup (ctr37).scs) : bodyRun opt p (autoEnv Go.Proofs.Try.prog) (mkOrc opt p (autoEnv Go.Proofs.Try.prog) 400 (an37) la37) 400 ctr37 x = G37 p x := by kernel_rfl
theorem gok37 : GamOk Go.Proofs.Try.prog (gam37) := by
  intro cf h
  simp only [gam37, List.mem_cons, List.not_mem_nil, or_false] at h
  rcases h with rfl | rfl | rfl
  · exact ok76
  · exact ok57
  · exact ok62
theorem enters37 : Enters Go.Proofs.Try.prog 37 := enters_auto (b := _) rfl (by kernel_rfl)
theorem ok37 : CtrOk Go.Proofs.Try.prog ctr37 (F37 std) := ctr_of_body (autoEnv_ok follows_mixed) (mkOrc_ok (autoEnv_ok follows_mixed) gok37 _) enters37 (fun x => eq37 std x)
end Go.Am
end

section
set_option linter.unusedVariables false
set_option maxRecDepth 100000
set_option maxHeartbeats 0
namespace Go.Am
noncomputable def ctr70 : Ctr :=
 ⟨70, [.agg [.int .i64, .int .i64], .agg [.int .i64, .int .i64]], [], [(.ret, ⟨[(0, .int .i64)], [], 1⟩)]⟩
noncomputable def la70 : List LA :=
 []
noncomputable def ja70 : List JA :=
 []
noncomputable def gam70 : List CF :=
 [⟨ctr71, F71⟩]
noncomputable def an70 : Anns :=
 ⟨gam70, ja70, []⟩
noncomputable def G70 : (p : Prim) → (Int × (Int × (Int × (Int × Unit)))) → Option ((Int × Unit)) :=
 fun p x =>
 opt.bnd ((Bool × Unit)) _ (F71 p (x.1, (x.2.1, (x.2.2.1, (x.2.2.2.1, ()))))) fun y143 =>
 opt.ask _ y143.1 (
 opt.ret _ ((-1 : Int), ())) (
 opt.ret _ ((1 : Int), ()))
noncomputable def F70 : Prim → Tup (ctr70).scs → Option (STup (scss (ctr70).outs)) :=
 fun p x => G70 p x
theorem eq70 (p : Prim) (x : Tup (ctr70).scs) : bodyRun opt p (autoEnv Go.Proofs.Try.prog) (mkOrc opt p (autoEnv Go.Proofs.Try.prog) 400 (an70) la70) 400 ctr70 x = G70 p x := by kernel_rfl
theorem gok70 : GamOk Go.Proofs.Try.prog (gam70) := by
  intro cf h
  simp only [gam70, List.mem_cons, List.not_mem_nil, or_false] at h
  rcases h with rfl
  · exact ok71
theorem enters70 : Enters Go.Proofs.Try.prog 70 := enters_auto (b := _) rfl (by kernel_rfl)
theorem ok70 : CtrOk Go.Proofs.Try.prog ctr70 (F70 std) := ctr_of_body (autoEnv_ok follows_mixed) (mkOrc_ok (autoEnv_ok follows_mixed) gok70 _) enters70 (fun x => eq70 std x)
noncomputable def ctr69 : Ctr :=
 ⟨69, [.sl 0 2, .clo 70 [] []], [.row [(CK.int .i64), (CK.int .i64)]], [(.ret, ⟨[(0, .agg [.int .i64, .int .i64])], [.row [(CK.int .i64), (CK.int .i64)]], 1⟩)]⟩
noncomputable def la69 : List LA :=
 [⟨69, [false, true, false, true, true, true], 1, ⟨⟨[(0, .sl 0 2), (1, .clo 70 [] []), (4, .bptr 1 0), (5, .bptr 2 0), (6, .int .i64)], [.row [(CK.int .i64), (CK.int .i64)], .box [.int .i64, .int .i64], .box [.int .i64, .int .i64]], 33⟩, [((AX.exit 0), ⟨[(4, .bptr 1 0), (5, .bptr 2 0)], [.row [(CK.int .i64), (CK.int .i64)], .box [.int .i64, .int .i64], .box [.int .i64, .int .i64]], 33⟩)]⟩⟩]
noncomputable def ja69 : List JA :=
 [⟨69, [true, false, false, true, false, false, true, false, true, true, true], 1, [(AX.normal, ⟨[(0, .sl 0 2), (1, .clo 70 [] []), (4, .bptr 1 0), (5, .bptr 2 0), (6, .int .i64)], [.row [(CK.int .i64), (CK.int .i64)], .box [.int .i64, .int .i64], .box [.int .i64, .int .i64]], 33⟩)]⟩]
noncomputable def gam69 : List CF :=
 [⟨ctr70, F70⟩]
noncomputable def an69 : Anns :=
 ⟨gam69, ja69, []⟩
noncomputable def b69_1 (p : Prim) : (List (List (D)) × (Int × (Int × (Int × (Int × (Nat × (Nat × (Int × Unit)))))))) → Option ((List (List (D)) × (Int × (Int × (Int × (Int × (Nat × (Nat × (Int × Unit)))))))) ⊕ (List (List (D)) × (Int × (Int × (Int × (Int × Unit)))))) :=
 fun s151 => opt.run _ (
 opt.ask _ (p.cmp .lss s151.2.2.2.2.2.2.2.1 (p.ofNat s151.2.2.2.2.2.2.1)) (
 opt.need _ (bif (p.cmp .geq s151.2.2.2.2.2.2.2.1 (0 : Int)) then (p.cmp .lss s151.2.2.2.2.2.2.2.1 (p.ofNat s151.2.2.2.2.2.2.1)) else Bool.false) <|
 opt.need _ (p.rowOk s151.1 (p.add s151.2.2.2.2.2.1 (p.nat s151.2.2.2.2.2.2.2.1)) [(CK.int .i64), (CK.int .i64)]) <|
 opt.bnd ((Int × Unit)) _ (G70 p ((p.rdI s151.1 (p.add s151.2.2.2.2.2.1 (p.nat s151.2.2.2.2.2.2.2.1)) 0), ((p.rdI s151.1 (p.add s151.2.2.2.2.2.1 (p.nat s151.2.2.2.2.2.2.2.1)) 1), (s151.2.2.2.1, (s151.2.2.2.2.1, ()))))) fun y152 =>
 opt.bnd ((List (List (D)) × (Int × (Int × (Int × (Int × (Nat × (Nat × (Int × Unit))))))))) _ (
 opt.run ((List (List (D)) × (Int × (Int × (Int × (Int × (Nat × (Nat × (Int × Unit))))))))) (
 opt.ask _ (p.cmp .lss y152.1 (0 : Int)) (
 opt.need _ (bif (p.cmp .geq s151.2.2.2.2.2.2.2.1 (0 : Int)) then (p.cmp .lss s151.2.2.2.2.2.2.2.1 (p.ofNat s151.2.2.2.2.2.2.1)) else Bool.false) <|
 opt.need _ (p.rowOk s151.1 (p.add s151.2.2.2.2.2.1 (p.nat s151.2.2.2.2.2.2.2.1)) [(CK.int .i64), (CK.int .i64)]) <|
 opt.ret _ (s151.1, (s151.2.1, (s151.2.2.1, ((p.rdI s151.1 (p.add s151.2.2.2.2.2.1 (p.nat s151.2.2.2.2.2.2.2.1)) 0), ((p.rdI s151.1 (p.add s151.2.2.2.2.2.1 (p.nat s151.2.2.2.2.2.2.2.1)) 1), (s151.2.2.2.2.2.1, (s151.2.2.2.2.2.2.1, (s151.2.2.2.2.2.2.2.1, ()))))))))) (
 opt.ret _ (s151.1, (s151.2.1, (s151.2.2.1, (s151.2.2.2.1, (s151.2.2.2.2.1, (s151.2.2.2.2.2.1, (s151.2.2.2.2.2.2.1, (s151.2.2.2.2.2.2.2.1, ()))))))))))) fun y153 =>
 opt.ret _ (Sum.inl (y153.1, (y153.2.1, (y153.2.2.1, (y153.2.2.2.1, (y153.2.2.2.2.1, (y153.2.2.2.2.2.1, (y153.2.2.2.2.2.2.1, ((p.ar .add .i64 y153.2.2.2.2.2.2.2.1 (1 : Int)), ())))))))))) (
 opt.ret _ (Sum.inr (s151.1, (s151.2.1, (s151.2.2.1, (s151.2.2.2.1, (s151.2.2.2.2.1, ()))))))))
noncomputable def g69 (it : It) : (p : Prim) → (List (List (D)) × (Nat × (Nat × Unit))) → Option ((List (List (D)) × (Int × (Int × Unit)))) :=
 fun p x =>
 opt.ask _ (p.cmp .lss (p.ofNat x.2.2.1) (1 : Int)) (
 opt.no _ 41) (
 opt.need _ (bif (p.cmp .geq (0 : Int) (0 : Int)) then (p.cmp .lss (0 : Int) (p.ofNat x.2.2.1)) else Bool.false) <|
 opt.need _ (p.rowOk x.1 (p.add x.2.1 (p.nat (0 : Int))) [(CK.int .i64), (CK.int .i64)]) <|
 opt.bnd ((List (List (D)) × (Int × (Int × (Int × (Int × Unit)))))) _ (
 it _ _ (b69_1 p) (x.1, ((0 : Int), ((0 : Int), ((p.rdI x.1 (p.add x.2.1 (p.nat (0 : Int))) 0), ((p.rdI x.1 (p.add x.2.1 (p.nat (0 : Int))) 1), (x.2.1, (x.2.2.1, ((1 : Int), ()))))))))) fun y154 =>
 opt.ret _ (y154.1, (y154.2.2.2.1, (y154.2.2.2.2.1, ()))))
noncomputable def G69 := g69 it0
noncomputable def F69 : Prim → Tup (ctr69).scs → Option (STup (scss (ctr69).outs)) :=
 fun p x => G69 p x
theorem eq69 (p : Prim) (x : Tup (ctr69).scs) : bodyRun opt p (autoEnv Go.Proofs.Try.prog) (mkOrc opt p (autoEnv Go.Proofs.Try.prog) 400 (an69) la69) 400 ctr69 x = G69 p x := by kernel_rfl
theorem gok69 : GamOk Go.Proofs.Try.prog (gam69) := by
  intro cf h
  simp only [gam69, List.mem_cons, List.not_mem_nil, or_false] at h
  rcases h with rfl
  · exact ok70
theorem enters69 : Enters Go.Proofs.Try.prog 69 := enters_auto (b := _) rfl (by kernel_rfl)
theorem ok69 : CtrOk Go.Proofs.Try.prog ctr69 (F69 std) := ctr_of_body (autoEnv_ok follows_mixed) (mkOrc_ok (autoEnv_ok follows_mixed) gok69 _) enters69 (fun x => eq69 std x)
noncomputable def ctr25 : Ctr :=
 ⟨25, [.agg [.list 2, .list 1], .agg [.list 2, .list 1]], [], [(.ret, ⟨[(0, .tuple [.agg [.int .i64, .int .i64], .int .i64])], [], 1⟩)]⟩
noncomputable def la25 : List LA :=
 [⟨25, [false, true, false, true, true, true, true, true], 0, ⟨⟨[(4, .bptr 0 0), (11, .bptr 1 0), (67, .agg [.list 2, .list 2, .list 2, .list 2]), (68, .int .i64)], [.box [.int .i64, .int .i64], .box [.sl 2 2], .row [(CK.int .i64), (CK.int .i64)]], 115⟩, [((AX.exit 0), ⟨[(4, .bptr 0 0), (11, .bptr 1 0)], [.box [.int .i64, .int .i64], .box [.sl 2 2], .row [(CK.int .i64), (CK.int .i64)]], 115⟩)]⟩⟩,
 ⟨25, [false, true, true, false, false, true, true, false, false, true, false, true, true, true, true, true], 0, ⟨⟨[(4, .bptr 0 0), (11, .bptr 1 0), (13, .bptr 2 0), (67, .agg [.list 2, .list 2, .list 2, .list 2]), (68, .int .i64), (72, .list 2), (73, .int .i64), (74, .int .i64)], [.box [.int .i64, .int .i64], .box [.sl 3 2], .box [.list 2, .list 2], .row [(CK.int .i64), (CK.int .i64)]], 115⟩, [((AX.exit 2), ⟨[(4, .bptr 0 0), (11, .bptr 1 0), (67, .agg [.list 2, .list 2, .list 2, .list 2]), (68, .int .i64)], [.box [.int .i64, .int .i64], .box [.sl 2 2], .row [(CK.int .i64), (CK.int .i64)]], 115⟩)]⟩⟩,
 ⟨25, [false, true, false, true, false, false, true, true, false, false, true, true, false, false, true, true, false, false, true, false, true, true, true, true, true], 0, ⟨⟨[(4, .bptr 0 0), (11, .bptr 1 0), (13, .bptr 2 0), (15, .bptr 3 0), (67, .agg [.list 2, .list 2, .list 2, .list 2]), (68, .int .i64), (72, .list 2), (73, .int .i64), (74, .int .i64), (79, .list 2), (80, .int .i64), (81, .int .i64)], [.box [.int .i64, .int .i64], .box [.sl 4 2], .box [.list 2, .list 2], .box [.int .i64, .int .i64], .row [(CK.int .i64), (CK.int .i64)]], 115⟩, [((AX.exit 4), ⟨[(4, .bptr 0 0), (11, .bptr 1 0), (13, .bptr 2 0), (15, .bptr 3 0), (67, .agg [.list 2, .list 2, .list 2, .list 2]), (68, .int .i64), (72, .list 2), (73, .int .i64), (74, .int .i64)], [.box [.int .i64, .int .i64], .box [.sl 4 2], .box [.list 2, .list 2], .box [.int .i64, .int .i64], .row [(CK.int .i64), (CK.int .i64)]], 115⟩)]⟩⟩,
 ⟨94, [false, true], 7, ⟨⟨[(0, .yld 6), (1, .bptr 5 0), (6, .list 2), (7, .int .i64), (8, .int .i64)], [.box [.int .i64, .int .i64], .box [.sl 7 2], .box [.list 2, .list 2], .box [.int .i64, .int .i64], .dead, .box [.list 2], .loop Go.LoopState.ready Option.none 25 [Bool.false, Bool.true, Bool.true, Bool.true, Bool.false, Bool.false, Bool.true, Bool.true, Bool.false, Bool.false, Bool.true, Bool.true, Bool.false, Bool.false, Bool.true, Bool.true, Bool.false, Bool.false, Bool.true, Bool.false, Bool.true, Bool.true, Bool.true, Bool.true, Bool.true] 115 [(98, .clo 94 [] [.bptr 5 0]), (15, .bptr 3 0), (73, .int .i64), (72, .list 2), (13, .bptr 2 0), (11, .bptr 1 0), (67, .agg [.list 2, .list 2, .list 2, .list 2]), (4, .bptr 0 0), (68, .int .i64), (74, .int .i64)], .row [(CK.int .i64), (CK.int .i64)]], 33⟩, [(AX.ret, ⟨[], [.box [.int .i64, .int .i64], .box [.sl 7 2], .box [.list 2, .list 2], .box [.int .i64, .int .i64], .dead, .box [.list 2], .loop Go.LoopState.ready Option.none 25 [Bool.false, Bool.true, Bool.true, Bool.true, Bool.false, Bool.false, Bool.true, Bool.true, Bool.false, Bool.false, Bool.true, Bool.true, Bool.false, Bool.false, Bool.true, Bool.true, Bool.false, Bool.false, Bool.true, Bool.false, Bool.true, Bool.true, Bool.true, Bool.true, Bool.true] 115 [(98, .clo 94 [] [.bptr 5 0]), (15, .bptr 3 0), (73, .int .i64), (72, .list 2), (13, .bptr 2 0), (11, .bptr 1 0), (67, .agg [.list 2, .list 2, .list 2, .list 2]), (4, .bptr 0 0), (68, .int .i64), (74, .int .i64)], .row [(CK.int .i64), (CK.int .i64)]], 33⟩), ((AX.exit 0), ⟨[], [.box [.int .i64, .int .i64], .box [.sl 7 2], .box [.list 2, .list 2], .box [.int .i64, .int .i64], .dead, .box [.list 2], .loop Go.LoopState.ready Option.none 25 [Bool.false, Bool.true, Bool.true, Bool.true, Bool.false, Bool.false, Bool.true, Bool.true, Bool.false, Bool.false, Bool.true, Bool.true, Bool.false, Bool.false, Bool.true, Bool.true, Bool.false, Bool.false, Bool.true, Bool.false, Bool.true, Bool.true, Bool.true, Bool.true, Bool.true] 115 [(98, .clo 94 [] [.bptr 5 0]), (15, .bptr 3 0), (73, .int .i64), (72, .list 2), (13, .bptr 2 0), (11, .bptr 1 0), (67, .agg [.list 2, .list 2, .list 2, .list 2]), (4, .bptr 0 0), (68, .int .i64), (74, .int .i64)], .row [(CK.int .i64), (CK.int .i64)]], 33⟩)]⟩⟩]
noncomputable def ja25 : List JA :=
 [⟨25, [true, true, false, true, false, true, true, true, false, false, true, true, false, false, true, true, false, false, true, true, false, false, true, false, true, true, true, true, true], 20, [(AX.normal, ⟨[(4, .bptr 0 0), (11, .bptr 1 0), (13, .bptr 2 0), (15, .bptr 3 0), (67, .agg [.list 2, .list 2, .list 2, .list 2]), (68, .int .i64), (72, .list 2), (73, .int .i64), (74, .int .i64)], [.box [.int .i64, .int .i64], .box [.sl 20 2], .box [.list 2, .list 2], .box [.int .i64, .int .i64], .dead, .box [.list 2], .dead, .dead, .box [.int .i64, .int .i64], .dead, .dead, .dead, .dead, .dead, .dead, .dead, .dead, .dead, .dead, .box [.int .i64, .int .i64], .row [(CK.int .i64), (CK.int .i64)]], 115⟩)]⟩,
 ⟨25, [true, true, true, false, false, true, true, false, false, true, true, false, false, true, true, false, false, true, false, true, true, true, true, true], 0, [(AX.normal, ⟨[(4, .bptr 0 0), (11, .bptr 1 0), (13, .bptr 2 0), (67, .agg [.list 2, .list 2, .list 2, .list 2]), (68, .int .i64), (72, .list 2), (73, .int .i64), (74, .int .i64)], [.box [.int .i64, .int .i64], .box [.sl 3 2], .box [.list 2, .list 2], .row [(CK.int .i64), (CK.int .i64)]], 115⟩)]⟩,
 ⟨25, [false, false, false, true, true, false, false, true, false, true, true, true, true, true], 0, [(AX.normal, ⟨[(4, .bptr 0 0), (11, .bptr 1 0), (13, .bptr 2 0), (67, .agg [.list 2, .list 2, .list 2, .list 2]), (68, .int .i64)], [.box [.int .i64, .int .i64], .box [.sl 3 2], .box [.list 2, .list 2], .row [(CK.int .i64), (CK.int .i64)]], 115⟩)]⟩]
noncomputable def gam25 : List CF :=
 [⟨ctr69, F69⟩, ⟨ctr68, F68⟩, ⟨ctr65, F65⟩, ⟨ctr63, F63⟩, ⟨ctr62, F62⟩]
noncomputable def an25 : Anns :=
 ⟨gam25, ja25, []⟩
noncomputable def c25_4 (it : It) (p : Prim) : (List (List (D)) × (Int × (Int × (Nat × (Nat × (List (List (D)) × (List (List (D)) × (Int × (Int × (List (List (D)) × (Int × (List (List (D)) × (List (List (D)) × (List (List (D)) × (List (List (D)) × (List (List (D)) × (Int × (Int × (List (List (D)) × (Int × (Int × Unit))))))))))))))))))))) → Option ((List (List (D)) × (Int × (Int × (Nat × (Nat × (List (List (D)) × (List (List (D)) × (Int × (Int × (List (List (D)) × (Int × (List (List (D)) × (List (List (D)) × (List (List (D)) × (List (List (D)) × (List (List (D)) × (Int × (Int × (List (List (D)) × (Int × (Int × Unit))))))))))))))))))))) ⊕ ((List (List (D)) × (Int × (Int × (Nat × (Nat × (List (List (D)) × (List (List (D)) × (Int × (Int × (List (List (D)) × (Int × (List (List (D)) × (List (List (D)) × (List (List (D)) × (List (List (D)) × (List (List (D)) × (Int × (Int × Unit)))))))))))))))))) ⊕ (List (List (D)) × (Int × (Int × (Nat × (Nat × (List (List (D)) × (List (List (D)) × (Int × (Int × (List (List (D)) × (Int × (List (List (D)) × (List (List (D)) × (List (List (D)) × (List (List (D)) × (List (List (D)) × (Int × (Int × Unit)))))))))))))))))))) :=
 fun s173 => opt.run _ (
 opt.ask _ (p.cmp .lss s173.2.2.2.2.2.2.2.2.2.2.2.2.2.2.2.2.2.2.2.2.1 s173.2.2.2.2.2.2.2.2.2.2.2.2.2.2.2.2.2.2.2.1) (
 opt.need _ (p.rowOk s173.2.2.2.2.2.2.2.2.2.2.2.2.2.2.2.2.2.2.1 (p.nat s173.2.2.2.2.2.2.2.2.2.2.2.2.2.2.2.2.2.2.2.2.1) [(CK.int .i64), (CK.int .i64)]) <|
 opt.need _ (p.cmp .geq s173.2.2.2.2.2.2.2.2.2.2.2.2.2.2.2.2.2.2.2.2.1 (0 : Int)) <|
 opt.need _ (p.cmp .neq (p.ofNat (p.len s173.2.2.2.2.2.2.2.2.2.1)) (0 : Int)) <|
 opt.need _ (p.rowOk s173.2.2.2.2.2.2.2.2.2.1 (p.nat (p.ar .rem .i64 (p.ar .add .i64 s173.2.2.2.2.2.2.2.2.2.2.2.2.2.2.2.2.2.2.2.2.1 (1 : Int)) (p.ofNat (p.len s173.2.2.2.2.2.2.2.2.2.1)))) [(CK.int .i64), (CK.int .i64)]) <|
 opt.need _ (p.cmp .geq (p.ar .rem .i64 (p.ar .add .i64 s173.2.2.2.2.2.2.2.2.2.2.2.2.2.2.2.2.2.2.2.2.1 (1 : Int)) (p.ofNat (p.len s173.2.2.2.2.2.2.2.2.2.1))) (0 : Int)) <|
 opt.ask _ (bif (p.cmp .eql (p.ar .sub .i64 (p.rdI s173.2.2.2.2.2.2.2.2.2.1 (p.nat (p.ar .rem .i64 (p.ar .add .i64 s173.2.2.2.2.2.2.2.2.2.2.2.2.2.2.2.2.2.2.2.2.1 (1 : Int)) (p.ofNat (p.len s173.2.2.2.2.2.2.2.2.2.1)))) 0) (p.rdI s173.2.2.2.2.2.2.2.2.2.2.2.2.2.2.2.2.2.2.1 (p.nat s173.2.2.2.2.2.2.2.2.2.2.2.2.2.2.2.2.2.2.2.2.1) 0)) (0 : Int)) then (bif (p.cmp .eql (p.ar .sub .i64 (p.rdI s173.2.2.2.2.2.2.2.2.2.1 (p.nat (p.ar .rem .i64 (p.ar .add .i64 s173.2.2.2.2.2.2.2.2.2.2.2.2.2.2.2.2.2.2.2.2.1 (1 : Int)) (p.ofNat (p.len s173.2.2.2.2.2.2.2.2.2.1)))) 1) (p.rdI s173.2.2.2.2.2.2.2.2.2.2.2.2.2.2.2.2.2.2.1 (p.nat s173.2.2.2.2.2.2.2.2.2.2.2.2.2.2.2.2.2.2.2.2.1) 1)) (0 : Int)) then Bool.true else Bool.false) else Bool.false) (
 opt.ret _ (Sum.inr (Sum.inl (s173.1, (s173.2.1, (s173.2.2.1, (s173.2.2.2.1, (s173.2.2.2.2.1, (s173.2.2.2.2.2.1, (s173.2.2.2.2.2.2.1, (s173.2.2.2.2.2.2.2.1, (s173.2.2.2.2.2.2.2.2.1, (s173.2.2.2.2.2.2.2.2.2.1, (s173.2.2.2.2.2.2.2.2.2.2.1, (s173.2.2.2.2.2.2.2.2.2.2.2.1, (s173.2.2.2.2.2.2.2.2.2.2.2.2.1, (s173.2.2.2.2.2.2.2.2.2.2.2.2.2.1, (s173.2.2.2.2.2.2.2.2.2.2.2.2.2.2.1, (s173.2.2.2.2.2.2.2.2.2.2.2.2.2.2.2.1, (s173.2.2.2.2.2.2.2.2.2.2.2.2.2.2.2.2.1, (s173.2.2.2.2.2.2.2.2.2.2.2.2.2.2.2.2.2.1, ()))))))))))))))))))))) (
 opt.bnd ((Int × (Int × (Bool × Unit)))) _ (g68 it p (s173.2.2.2.2.2.2.2.1, (s173.2.2.2.2.2.2.2.2.1, ((p.rdI s173.2.2.2.2.2.2.2.2.2.2.2.2.2.2.2.2.2.2.1 (p.nat s173.2.2.2.2.2.2.2.2.2.2.2.2.2.2.2.2.2.2.2.2.1) 0), ((p.rdI s173.2.2.2.2.2.2.2.2.2.2.2.2.2.2.2.2.2.2.1 (p.nat s173.2.2.2.2.2.2.2.2.2.2.2.2.2.2.2.2.2.2.2.2.1) 1), ((p.ar .sub .i64 (p.rdI s173.2.2.2.2.2.2.2.2.2.1 (p.nat (p.ar .rem .i64 (p.ar .add .i64 s173.2.2.2.2.2.2.2.2.2.2.2.2.2.2.2.2.2.2.2.2.1 (1 : Int)) (p.ofNat (p.len s173.2.2.2.2.2.2.2.2.2.1)))) 0) (p.rdI s173.2.2.2.2.2.2.2.2.2.2.2.2.2.2.2.2.2.2.1 (p.nat s173.2.2.2.2.2.2.2.2.2.2.2.2.2.2.2.2.2.2.2.2.1) 0)), ((p.ar .sub .i64 (p.rdI s173.2.2.2.2.2.2.2.2.2.1 (p.nat (p.ar .rem .i64 (p.ar .add .i64 s173.2.2.2.2.2.2.2.2.2.2.2.2.2.2.2.2.2.2.2.2.1 (1 : Int)) (p.ofNat (p.len s173.2.2.2.2.2.2.2.2.2.1)))) 1) (p.rdI s173.2.2.2.2.2.2.2.2.2.2.2.2.2.2.2.2.2.2.1 (p.nat s173.2.2.2.2.2.2.2.2.2.2.2.2.2.2.2.2.2.2.2.2.1) 1)), ()))))))) fun y174 =>
 opt.bnd ((List (List (D)) × (Int × (Int × (Nat × (Nat × (List (List (D)) × (List (List (D)) × (Int × (Int × (List (List (D)) × (Int × (Int × (Int × (Int × (List (List (D)) × (List (List (D)) × (List (List (D)) × (List (List (D)) × (Int × (List (List (D)) × (Int × (Int × Unit))))))))))))))))))))))) _ (
 opt.run ((List (List (D)) × (Int × (Int × (Nat × (Nat × (List (List (D)) × (List (List (D)) × (Int × (Int × (List (List (D)) × (Int × (Int × (Int × (Int × (List (List (D)) × (List (List (D)) × (List (List (D)) × (List (List (D)) × (Int × (List (List (D)) × (Int × (Int × Unit))))))))))))))))))))))) (
 opt.ask _ y174.2.2.1 (
 opt.need _ (p.and (p.leN (p.add 0 1) (p.len [[(D.int .i64 y174.1), (D.int .i64 y174.2.1)]])) (p.and (p.leN (p.add s173.2.2.2.1 s173.2.2.2.2.1) (p.len s173.1)) (p.and (p.leN 1 1) (p.leN (p.add s173.2.2.2.2.1 1) 1000000)))) <|
 opt.ret _ ((p.app (p.cut s173.1 s173.2.2.2.1 s173.2.2.2.2.1) (p.cut [[(D.int .i64 y174.1), (D.int .i64 y174.2.1)]] 0 1)), (s173.2.1, (s173.2.2.1, (0, ((p.add s173.2.2.2.2.1 1), (s173.2.2.2.2.2.1, (s173.2.2.2.2.2.2.1, (s173.2.2.2.2.2.2.2.1, (s173.2.2.2.2.2.2.2.2.1, (s173.2.2.2.2.2.2.2.2.2.1, ((p.rdI s173.2.2.2.2.2.2.2.2.2.2.2.2.2.2.2.2.2.2.1 (p.nat s173.2.2.2.2.2.2.2.2.2.2.2.2.2.2.2.2.2.2.2.2.1) 0), ((p.rdI s173.2.2.2.2.2.2.2.2.2.2.2.2.2.2.2.2.2.2.1 (p.nat s173.2.2.2.2.2.2.2.2.2.2.2.2.2.2.2.2.2.2.2.2.1) 1), ((p.ar .sub .i64 (p.rdI s173.2.2.2.2.2.2.2.2.2.1 (p.nat (p.ar .rem .i64 (p.ar .add .i64 s173.2.2.2.2.2.2.2.2.2.2.2.2.2.2.2.2.2.2.2.2.1 (1 : Int)) (p.ofNat (p.len s173.2.2.2.2.2.2.2.2.2.1)))) 0) (p.rdI s173.2.2.2.2.2.2.2.2.2.2.2.2.2.2.2.2.2.2.1 (p.nat s173.2.2.2.2.2.2.2.2.2.2.2.2.2.2.2.2.2.2.2.2.1) 0)), ((p.ar .sub .i64 (p.rdI s173.2.2.2.2.2.2.2.2.2.1 (p.nat (p.ar .rem .i64 (p.ar .add .i64 s173.2.2.2.2.2.2.2.2.2.2.2.2.2.2.2.2.2.2.2.2.1 (1 : Int)) (p.ofNat (p.len s173.2.2.2.2.2.2.2.2.2.1)))) 1) (p.rdI s173.2.2.2.2.2.2.2.2.2.2.2.2.2.2.2.2.2.2.1 (p.nat s173.2.2.2.2.2.2.2.2.2.2.2.2.2.2.2.2.2.2.2.2.1) 1)), (s173.2.2.2.2.2.2.2.2.2.2.2.2.1, (s173.2.2.2.2.2.2.2.2.2.2.2.2.2.1, (s173.2.2.2.2.2.2.2.2.2.2.2.2.2.2.1, (s173.2.2.2.2.2.2.2.2.2.2.2.2.2.2.2.1, (s173.2.2.2.2.2.2.2.2.2.2.2.2.2.2.2.2.1, (s173.2.2.2.2.2.2.2.2.2.2.2.1, (s173.2.2.2.2.2.2.2.2.2.2.1, (s173.2.2.2.2.2.2.2.2.2.2.2.2.2.2.2.2.2.1, ()))))))))))))))))))))))) (
 opt.ret _ (s173.1, (s173.2.1, (s173.2.2.1, (s173.2.2.2.1, (s173.2.2.2.2.1, (s173.2.2.2.2.2.1, (s173.2.2.2.2.2.2.1, (s173.2.2.2.2.2.2.2.1, (s173.2.2.2.2.2.2.2.2.1, (s173.2.2.2.2.2.2.2.2.2.1, ((p.rdI s173.2.2.2.2.2.2.2.2.2.2.2.2.2.2.2.2.2.2.1 (p.nat s173.2.2.2.2.2.2.2.2.2.2.2.2.2.2.2.2.2.2.2.2.1) 0), ((p.rdI s173.2.2.2.2.2.2.2.2.2.2.2.2.2.2.2.2.2.2.1 (p.nat s173.2.2.2.2.2.2.2.2.2.2.2.2.2.2.2.2.2.2.2.2.1) 1), ((p.ar .sub .i64 (p.rdI s173.2.2.2.2.2.2.2.2.2.1 (p.nat (p.ar .rem .i64 (p.ar .add .i64 s173.2.2.2.2.2.2.2.2.2.2.2.2.2.2.2.2.2.2.2.2.1 (1 : Int)) (p.ofNat (p.len s173.2.2.2.2.2.2.2.2.2.1)))) 0) (p.rdI s173.2.2.2.2.2.2.2.2.2.2.2.2.2.2.2.2.2.2.1 (p.nat s173.2.2.2.2.2.2.2.2.2.2.2.2.2.2.2.2.2.2.2.2.1) 0)), ((p.ar .sub .i64 (p.rdI s173.2.2.2.2.2.2.2.2.2.1 (p.nat (p.ar .rem .i64 (p.ar .add .i64 s173.2.2.2.2.2.2.2.2.2.2.2.2.2.2.2.2.2.2.2.2.1 (1 : Int)) (p.ofNat (p.len s173.2.2.2.2.2.2.2.2.2.1)))) 1) (p.rdI s173.2.2.2.2.2.2.2.2.2.2.2.2.2.2.2.2.2.2.1 (p.nat s173.2.2.2.2.2.2.2.2.2.2.2.2.2.2.2.2.2.2.2.2.1) 1)), (s173.2.2.2.2.2.2.2.2.2.2.2.2.1, (s173.2.2.2.2.2.2.2.2.2.2.2.2.2.1, (s173.2.2.2.2.2.2.2.2.2.2.2.2.2.2.1, (s173.2.2.2.2.2.2.2.2.2.2.2.2.2.2.2.1, (s173.2.2.2.2.2.2.2.2.2.2.2.2.2.2.2.2.1, (s173.2.2.2.2.2.2.2.2.2.2.2.1, (s173.2.2.2.2.2.2.2.2.2.2.1, (s173.2.2.2.2.2.2.2.2.2.2.2.2.2.2.2.2.2.1, ()))))))))))))))))))))))))) fun y175 =>
 opt.ret _ (Sum.inl (y175.1, (y175.2.1, (y175.2.2.1, (y175.2.2.2.1, (y175.2.2.2.2.1, (y175.2.2.2.2.2.1, (y175.2.2.2.2.2.2.1, (y175.2.2.2.2.2.2.2.1, (y175.2.2.2.2.2.2.2.2.1, (y175.2.2.2.2.2.2.2.2.2.1, (s173.2.2.2.2.2.2.2.2.2.2.1, (s173.2.2.2.2.2.2.2.2.2.2.2.1, (s173.2.2.2.2.2.2.2.2.2.2.2.2.1, (s173.2.2.2.2.2.2.2.2.2.2.2.2.2.1, (s173.2.2.2.2.2.2.2.2.2.2.2.2.2.2.1, (s173.2.2.2.2.2.2.2.2.2.2.2.2.2.2.2.1, (s173.2.2.2.2.2.2.2.2.2.2.2.2.2.2.2.2.1, (s173.2.2.2.2.2.2.2.2.2.2.2.2.2.2.2.2.2.1, (s173.2.2.2.2.2.2.2.2.2.2.2.2.2.2.2.2.2.2.1, (s173.2.2.2.2.2.2.2.2.2.2.2.2.2.2.2.2.2.2.2.1, ((p.ar .add .i64 s173.2.2.2.2.2.2.2.2.2.2.2.2.2.2.2.2.2.2.2.2.1 (1 : Int)), ())))))))))))))))))))))))) (
 opt.ret _ (Sum.inr (Sum.inr (s173.1, (s173.2.1, (s173.2.2.1, (s173.2.2.2.1, (s173.2.2.2.2.1, (s173.2.2.2.2.2.1, (s173.2.2.2.2.2.2.1, (s173.2.2.2.2.2.2.2.1, (s173.2.2.2.2.2.2.2.2.1, (s173.2.2.2.2.2.2.2.2.2.1, (s173.2.2.2.2.2.2.2.2.2.2.1, (s173.2.2.2.2.2.2.2.2.2.2.2.1, (s173.2.2.2.2.2.2.2.2.2.2.2.2.1, (s173.2.2.2.2.2.2.2.2.2.2.2.2.2.1, (s173.2.2.2.2.2.2.2.2.2.2.2.2.2.2.1, (s173.2.2.2.2.2.2.2.2.2.2.2.2.2.2.2.1, (s173.2.2.2.2.2.2.2.2.2.2.2.2.2.2.2.2.1, (s173.2.2.2.2.2.2.2.2.2.2.2.2.2.2.2.2.2.1, ()))))))))))))))))))))))
noncomputable def c25_3 (it : It) (p : Prim) : (List (List (D)) × (Int × (Int × (Nat × (Nat × (List (List (D)) × (List (List (D)) × (Int × (Int × (List (List (D)) × (List (List (D)) × (List (List (D)) × (List (List (D)) × (Int × (List (List (D)) × (Int × (Int × (List (List (D)) × (Int × (Int × Unit)))))))))))))))))))) → Option ((List (List (D)) × (Int × (Int × (Nat × (Nat × (List (List (D)) × (List (List (D)) × (Int × (Int × (List (List (D)) × (List (List (D)) × (List (List (D)) × (List (List (D)) × (Int × (List (List (D)) × (Int × (Int × (List (List (D)) × (Int × (Int × Unit)))))))))))))))))))) ⊕ (List (List (D)) × (Int × (Int × (Nat × (Nat × (List (List (D)) × (List (List (D)) × (Int × (Int × (List (List (D)) × (List (List (D)) × (List (List (D)) × (List (List (D)) × (Int × (List (List (D)) × (Int × (Int × Unit)))))))))))))))))) :=
 fun s170 => opt.run _ (
 opt.ask _ (p.cmp .lss s170.2.2.2.2.2.2.2.2.2.2.2.2.2.2.2.2.2.2.2.1 s170.2.2.2.2.2.2.2.2.2.2.2.2.2.2.2.2.2.2.1) (
 opt.need _ (p.rowOk s170.2.2.2.2.2.2.2.2.2.2.2.2.2.2.2.2.2.1 (p.nat s170.2.2.2.2.2.2.2.2.2.2.2.2.2.2.2.2.2.2.2.1) [(CK.int .i64), (CK.int .i64)]) <|
 opt.need _ (p.cmp .geq s170.2.2.2.2.2.2.2.2.2.2.2.2.2.2.2.2.2.2.2.1 (0 : Int)) <|
 opt.bnd ((Int × (Int × Unit))) _ (g65 it p ((p.ar .add .i64 (p.ar .mul .i64 (p.ar .sub .i64 (p.rdI s170.2.2.2.2.2.2.2.2.2.2.2.2.2.2.2.2.2.1 (p.nat s170.2.2.2.2.2.2.2.2.2.2.2.2.2.2.2.2.2.2.2.1) 0) s170.2.2.2.2.2.2.2.1) (p.ar .sub .i64 (p.rdI s170.2.2.2.2.2.2.2.2.2.2.2.2.2.2.2.2.2.1 (p.nat s170.2.2.2.2.2.2.2.2.2.2.2.2.2.2.2.2.2.2.2.1) 0) s170.2.2.2.2.2.2.2.1)) (p.ar .mul .i64 (p.ar .sub .i64 (p.rdI s170.2.2.2.2.2.2.2.2.2.2.2.2.2.2.2.2.2.1 (p.nat s170.2.2.2.2.2.2.2.2.2.2.2.2.2.2.2.2.2.2.2.1) 1) s170.2.2.2.2.2.2.2.2.1) (p.ar .sub .i64 (p.rdI s170.2.2.2.2.2.2.2.2.2.2.2.2.2.2.2.2.2.1 (p.nat s170.2.2.2.2.2.2.2.2.2.2.2.2.2.2.2.2.2.2.2.1) 1) s170.2.2.2.2.2.2.2.2.1))), ((1 : Int), ()))) fun y171 =>
 opt.need _ (p.and (p.leN (p.add 0 1) (p.len [[(D.int .i64 y171.1), (D.int .i64 y171.2.1)]])) (p.and (p.leN (p.add s170.2.2.2.1 s170.2.2.2.2.1) (p.len s170.1)) (p.and (p.leN 1 1) (p.leN (p.add s170.2.2.2.2.1 1) 1000000)))) <|
 opt.ret _ (Sum.inl ((p.app (p.cut s170.1 s170.2.2.2.1 s170.2.2.2.2.1) (p.cut [[(D.int .i64 y171.1), (D.int .i64 y171.2.1)]] 0 1)), (s170.2.1, (s170.2.2.1, (0, ((p.add s170.2.2.2.2.1 1), (s170.2.2.2.2.2.1, (s170.2.2.2.2.2.2.1, (s170.2.2.2.2.2.2.2.1, (s170.2.2.2.2.2.2.2.2.1, (s170.2.2.2.2.2.2.2.2.2.1, (s170.2.2.2.2.2.2.2.2.2.2.1, (s170.2.2.2.2.2.2.2.2.2.2.2.1, (s170.2.2.2.2.2.2.2.2.2.2.2.2.1, (s170.2.2.2.2.2.2.2.2.2.2.2.2.2.1, (s170.2.2.2.2.2.2.2.2.2.2.2.2.2.2.1, (s170.2.2.2.2.2.2.2.2.2.2.2.2.2.2.2.1, (s170.2.2.2.2.2.2.2.2.2.2.2.2.2.2.2.2.1, (s170.2.2.2.2.2.2.2.2.2.2.2.2.2.2.2.2.2.1, (s170.2.2.2.2.2.2.2.2.2.2.2.2.2.2.2.2.2.2.1, ((p.ar .add .i64 s170.2.2.2.2.2.2.2.2.2.2.2.2.2.2.2.2.2.2.2.1 (1 : Int)), ())))))))))))))))))))))) (
 opt.ret _ (Sum.inr (s170.1, (s170.2.1, (s170.2.2.1, (s170.2.2.2.1, (s170.2.2.2.2.1, (s170.2.2.2.2.2.1, (s170.2.2.2.2.2.2.1, (s170.2.2.2.2.2.2.2.1, (s170.2.2.2.2.2.2.2.2.1, (s170.2.2.2.2.2.2.2.2.2.1, (s170.2.2.2.2.2.2.2.2.2.2.1, (s170.2.2.2.2.2.2.2.2.2.2.2.1, (s170.2.2.2.2.2.2.2.2.2.2.2.2.1, (s170.2.2.2.2.2.2.2.2.2.2.2.2.2.1, (s170.2.2.2.2.2.2.2.2.2.2.2.2.2.2.1, (s170.2.2.2.2.2.2.2.2.2.2.2.2.2.2.2.1, (s170.2.2.2.2.2.2.2.2.2.2.2.2.2.2.2.2.1, ()))))))))))))))))))))
noncomputable def c25_2 (it : It) (p : Prim) : (List (List (D)) × (Int × (Int × (Nat × (Nat × (List (List (D)) × (List (List (D)) × (List (List (D)) × (List (List (D)) × (List (List (D)) × (List (List (D)) × (Int × (List (List (D)) × (Int × (Int × Unit))))))))))))))) → Option ((List (List (D)) × (Int × (Int × (Nat × (Nat × (List (List (D)) × (List (List (D)) × (List (List (D)) × (List (List (D)) × (List (List (D)) × (List (List (D)) × (Int × (List (List (D)) × (Int × (Int × Unit))))))))))))))) ⊕ (List (List (D)) × (Int × (Int × (Nat × (Nat × (List (List (D)) × (List (List (D)) × (List (List (D)) × (List (List (D)) × (Int × Unit))))))))))) :=
 fun s169 => opt.run _ (
 opt.ask _ (p.cmp .lss s169.2.2.2.2.2.2.2.2.2.2.2.2.2.2.1 s169.2.2.2.2.2.2.2.2.2.2.2.2.2.1) (
 opt.need _ (p.rowOk s169.2.2.2.2.2.2.2.2.2.2.2.2.1 (p.nat s169.2.2.2.2.2.2.2.2.2.2.2.2.2.2.1) [(CK.int .i64), (CK.int .i64)]) <|
 opt.need _ (p.cmp .geq s169.2.2.2.2.2.2.2.2.2.2.2.2.2.2.1 (0 : Int)) <|
 opt.bnd ((List (List (D)) × (Int × (Int × (Nat × (Nat × (List (List (D)) × (List (List (D)) × (Int × (Int × (List (List (D)) × (List (List (D)) × (List (List (D)) × (List (List (D)) × (Int × (List (List (D)) × (Int × (Int × Unit)))))))))))))))))) _ (
 it _ _ (c25_3 it p) (s169.1, (s169.2.1, (s169.2.2.1, (s169.2.2.2.1, (s169.2.2.2.2.1, (s169.2.2.2.2.2.1, (s169.2.2.2.2.2.2.1, ((p.rdI s169.2.2.2.2.2.2.2.2.2.2.2.2.1 (p.nat s169.2.2.2.2.2.2.2.2.2.2.2.2.2.2.1) 0), ((p.rdI s169.2.2.2.2.2.2.2.2.2.2.2.2.1 (p.nat s169.2.2.2.2.2.2.2.2.2.2.2.2.2.2.1) 1), (s169.2.2.2.2.2.2.2.1, (s169.2.2.2.2.2.2.2.2.1, (s169.2.2.2.2.2.2.2.2.2.1, (s169.2.2.2.2.2.2.2.2.2.2.1, (s169.2.2.2.2.2.2.2.2.2.2.2.1, (s169.2.2.2.2.2.2.2.2.2.2.2.2.1, (s169.2.2.2.2.2.2.2.2.2.2.2.2.2.1, (s169.2.2.2.2.2.2.2.2.2.2.2.2.2.2.1, (s169.2.2.2.2.2.2.1, ((p.ofNat (p.len s169.2.2.2.2.2.2.1)), ((0 : Int), ()))))))))))))))))))))) fun y172 =>
 opt.bnd ((List (List (D)) × (Int × (Int × (Nat × (Nat × (List (List (D)) × (List (List (D)) × (List (List (D)) × (List (List (D)) × (List (List (D)) × (List (List (D)) × (Int × (List (List (D)) × (Int × (Int × Unit)))))))))))))))) _ (
 opt.run ((List (List (D)) × (Int × (Int × (Nat × (Nat × (List (List (D)) × (List (List (D)) × (List (List (D)) × (List (List (D)) × (List (List (D)) × (List (List (D)) × (Int × (List (List (D)) × (Int × (Int × Unit)))))))))))))))) (
 opt.alt ((List (List (D)) × (Int × (Int × (Nat × (Nat × (List (List (D)) × (List (List (D)) × (Int × (Int × (List (List (D)) × (Int × (List (List (D)) × (List (List (D)) × (List (List (D)) × (List (List (D)) × (List (List (D)) × (Int × (Int × Unit))))))))))))))))))) ((List (List (D)) × (Int × (Int × (Nat × (Nat × (List (List (D)) × (List (List (D)) × (Int × (Int × (List (List (D)) × (Int × (List (List (D)) × (List (List (D)) × (List (List (D)) × (List (List (D)) × (List (List (D)) × (Int × (Int × Unit))))))))))))))))))) _ (
 it _ _ (c25_4 it p) (y172.1, (y172.2.1, (y172.2.2.1, (y172.2.2.2.1, (y172.2.2.2.2.1, (y172.2.2.2.2.2.1, (y172.2.2.2.2.2.2.1, (y172.2.2.2.2.2.2.2.1, (y172.2.2.2.2.2.2.2.2.1, (y172.2.2.2.2.2.2.1, (y172.2.2.2.2.2.2.2.2.2.2.2.2.2.2.2.1, (y172.2.2.2.2.2.2.2.2.2.2.2.2.2.2.1, (y172.2.2.2.2.2.2.2.2.2.1, (y172.2.2.2.2.2.2.2.2.2.2.1, (y172.2.2.2.2.2.2.2.2.2.2.2.1, (y172.2.2.2.2.2.2.2.2.2.2.2.2.1, (y172.2.2.2.2.2.2.2.2.2.2.2.2.2.1, (y172.2.2.2.2.2.2.2.2.2.2.2.2.2.2.2.2.1, (y172.2.2.2.2.2.2.1, ((p.ofNat (p.len y172.2.2.2.2.2.2.1)), ((0 : Int), ())))))))))))))))))))))) (fun y176 =>
 opt.ret _ (y176.1, (y176.2.1, (y176.2.2.1, (y176.2.2.2.1, (y176.2.2.2.2.1, (y176.2.2.2.2.2.1, (y176.2.2.2.2.2.2.1, (y172.2.2.2.2.2.2.2.2.2.1, (y172.2.2.2.2.2.2.2.2.2.2.1, (y172.2.2.2.2.2.2.2.2.2.2.2.1, (y172.2.2.2.2.2.2.2.2.2.2.2.2.1, (y172.2.2.2.2.2.2.2.2.2.2.2.2.2.1, (y172.2.2.2.2.2.2.2.2.2.2.2.2.2.2.1, (y172.2.2.2.2.2.2.2.2.2.2.2.2.2.2.2.1, (y172.2.2.2.2.2.2.2.2.2.2.2.2.2.2.2.2.1, ())))))))))))))))) (fun y177 =>
 opt.bnd ((List (List (D)) × (Int × (Int × (Nat × (Nat × (List (List (D)) × (List (List (D)) × (Int × (Int × (List (List (D)) × (Int × (List (List (D)) × (List (List (D)) × (List (List (D)) × (List (List (D)) × (List (List (D)) × (Int × (Int × Unit))))))))))))))))))) _ (some y177) fun y178 =>
 opt.ret _ (y178.1, (y178.2.1, (y178.2.2.1, (y178.2.2.2.1, (y178.2.2.2.2.1, (y178.2.2.2.2.2.1, (y178.2.2.2.2.2.2.1, (y172.2.2.2.2.2.2.2.2.2.1, (y172.2.2.2.2.2.2.2.2.2.2.1, (y172.2.2.2.2.2.2.2.2.2.2.2.1, (y172.2.2.2.2.2.2.2.2.2.2.2.2.1, (y172.2.2.2.2.2.2.2.2.2.2.2.2.2.1, (y172.2.2.2.2.2.2.2.2.2.2.2.2.2.2.1, (y172.2.2.2.2.2.2.2.2.2.2.2.2.2.2.2.1, (y172.2.2.2.2.2.2.2.2.2.2.2.2.2.2.2.2.1, ())))))))))))))))))) fun y179 =>
 opt.ret _ (Sum.inl (y179.1, (y179.2.1, (y179.2.2.1, (y179.2.2.2.1, (y179.2.2.2.2.1, (y179.2.2.2.2.2.1, (y179.2.2.2.2.2.2.1, (y179.2.2.2.2.2.2.2.1, (y179.2.2.2.2.2.2.2.2.1, (y179.2.2.2.2.2.2.2.2.2.1, (y179.2.2.2.2.2.2.2.2.2.2.1, (y179.2.2.2.2.2.2.2.2.2.2.2.1, (y179.2.2.2.2.2.2.2.2.2.2.2.2.1, (y179.2.2.2.2.2.2.2.2.2.2.2.2.2.1, ((p.ar .add .i64 y179.2.2.2.2.2.2.2.2.2.2.2.2.2.2.1 (1 : Int)), ()))))))))))))))))) (
 opt.ret _ (Sum.inr (s169.1, (s169.2.1, (s169.2.2.1, (s169.2.2.2.1, (s169.2.2.2.2.1, (s169.2.2.2.2.2.2.2.1, (s169.2.2.2.2.2.2.2.2.1, (s169.2.2.2.2.2.2.2.2.2.1, (s169.2.2.2.2.2.2.2.2.2.2.1, (s169.2.2.2.2.2.2.2.2.2.2.2.1, ())))))))))))))
noncomputable def c25_1 (it : It) (p : Prim) : (List (List (D)) × (Int × (Int × (Nat × (Nat × (List (List (D)) × (List (List (D)) × (List (List (D)) × (List (List (D)) × (Int × Unit)))))))))) → Option ((List (List (D)) × (Int × (Int × (Nat × (Nat × (List (List (D)) × (List (List (D)) × (List (List (D)) × (List (List (D)) × (Int × Unit)))))))))) ⊕ (List (List (D)) × (Int × (Int × (Nat × (Nat × Unit)))))) :=
 fun s167 => opt.run _ (
 opt.ask _ (p.cmp .lss s167.2.2.2.2.2.2.2.2.2.1 (2 : Int)) (
 opt.bnd ((List (List (D)) × (Int × (Int × (Nat × (Nat × (List (List (D)) × (List (List (D)) × (List (List (D)) × (List (List (D)) × (List (List (D)) × (List (List (D)) × (Int × Unit))))))))))))) _ (
 opt.run ((List (List (D)) × (Int × (Int × (Nat × (Nat × (List (List (D)) × (List (List (D)) × (List (List (D)) × (List (List (D)) × (List (List (D)) × (List (List (D)) × (Int × Unit))))))))))))) (
 opt.ask _ (p.cmp .eql s167.2.2.2.2.2.2.2.2.2.1 (0 : Int)) (
 opt.need _ (bif (p.cmp .geq (0 : Int) (0 : Int)) then (p.cmp .lss (0 : Int) (p.ofNat 2)) else Bool.false) <|
 opt.ret _ (s167.1, (s167.2.1, (s167.2.2.1, (s167.2.2.2.1, (s167.2.2.2.2.1, (s167.2.2.2.2.2.1, (s167.2.2.2.2.2.2.1, (s167.2.2.2.2.2.1, (s167.2.2.2.2.2.2.1, (s167.2.2.2.2.2.2.2.1, (s167.2.2.2.2.2.2.2.2.1, ((0 : Int), ()))))))))))))) (
 opt.need _ (p.cmp .eql s167.2.2.2.2.2.2.2.2.2.1 (1 : Int)) <|
 opt.need _ (bif (p.cmp .geq (1 : Int) (0 : Int)) then (p.cmp .lss (1 : Int) (p.ofNat 2)) else Bool.false) <|
 opt.ret _ (s167.1, (s167.2.1, (s167.2.2.1, (s167.2.2.2.1, (s167.2.2.2.2.1, (s167.2.2.2.2.2.2.2.1, (s167.2.2.2.2.2.2.2.2.1, (s167.2.2.2.2.2.1, (s167.2.2.2.2.2.2.1, (s167.2.2.2.2.2.2.2.1, (s167.2.2.2.2.2.2.2.2.1, ((1 : Int), ()))))))))))))))) fun y168 =>
 opt.bnd ((List (List (D)) × (Int × (Int × (Nat × (Nat × (List (List (D)) × (List (List (D)) × (List (List (D)) × (List (List (D)) × (Int × Unit))))))))))) _ (
 it _ _ (c25_2 it p) (y168.1, (y168.2.1, (y168.2.2.1, (y168.2.2.2.1, (y168.2.2.2.2.1, (y168.2.2.2.2.2.1, (y168.2.2.2.2.2.2.1, (y168.2.2.2.2.2.2.2.1, (y168.2.2.2.2.2.2.2.2.1, (y168.2.2.2.2.2.2.2.2.2.1, (y168.2.2.2.2.2.2.2.2.2.2.1, (y168.2.2.2.2.2.2.2.2.2.2.2.1, (y168.2.2.2.2.2.1, ((p.ofNat (p.len y168.2.2.2.2.2.1)), ((0 : Int), ())))))))))))))))) fun y180 =>
 opt.ret _ (Sum.inl (y180.1, (y180.2.1, (y180.2.2.1, (y180.2.2.2.1, (y180.2.2.2.2.1, (y180.2.2.2.2.2.1, (y180.2.2.2.2.2.2.1, (y180.2.2.2.2.2.2.2.1, (y180.2.2.2.2.2.2.2.2.1, ((p.ar .add .i64 y180.2.2.2.2.2.2.2.2.2.1 (1 : Int)), ())))))))))))) (
 opt.ret _ (Sum.inr (s167.1, (s167.2.1, (s167.2.2.1, (s167.2.2.2.1, (s167.2.2.2.2.1, ()))))))))
noncomputable def g25 (it : It) : (p : Prim) → (List (List (D)) × (List (List (D)) × (List (List (D)) × (List (List (D)) × Unit)))) → Option ((Int × (Int × (Int × Unit)))) :=
 fun p x =>
 opt.alt ((Int × Unit)) (((List (List (D)) × (List (List (D)) × (List (List (D)) × (Int × Unit)))) ⊕ ((List (List (D)) × (List (List (D)) × (List (List (D)) × (Int × Unit)))) ⊕ (List (List (D)) × (List (List (D)) × (List (List (D)) × (List (List (D)) × (List (List (D)) × (List (List (D)) × (Int × Unit)))))))))) _ (g62 it p (x.1, (x.2.1, (x.2.2.1, (x.2.2.2.1, ()))))) (fun y159 =>
 opt.ask _ (p.cmp .neq y159.1 (0 : Int)) (
 opt.ret _ ((0 : Int), ((0 : Int), (y159.1, ())))) (
 opt.no _ 41)) (fun y160 =>
 opt.alt ((List (List (D)) × (List (List (D)) × (List (List (D)) × (Int × Unit))))) (((List (List (D)) × (List (List (D)) × (List (List (D)) × (Int × Unit)))) ⊕ (List (List (D)) × (List (List (D)) × (List (List (D)) × (List (List (D)) × (List (List (D)) × (List (List (D)) × (Int × Unit))))))))) _ (some y160) (fun y161 =>
 opt.ask _ (p.cmp .neq y161.2.2.2.1 (0 : Int)) (
 opt.ret _ ((0 : Int), ((0 : Int), (y161.2.2.2.1, ())))) (
 opt.no _ 41)) (fun y162 =>
 opt.alt ((List (List (D)) × (List (List (D)) × (List (List (D)) × (Int × Unit))))) ((List (List (D)) × (List (List (D)) × (List (List (D)) × (List (List (D)) × (List (List (D)) × (List (List (D)) × (Int × Unit)))))))) _ (some y162) (fun y163 =>
 opt.ask _ (p.cmp .neq y163.2.2.2.1 (0 : Int)) (
 opt.ret _ ((0 : Int), ((0 : Int), (y163.2.2.2.1, ())))) (
 opt.no _ 41)) (fun y164 =>
 opt.bnd ((List (List (D)) × (List (List (D)) × (List (List (D)) × (List (List (D)) × (List (List (D)) × (List (List (D)) × (Int × Unit)))))))) _ (some y164) fun y165 =>
 opt.ask _ (p.cmp .neq y165.2.2.2.2.2.2.1 (0 : Int)) (
 opt.ret _ ((0 : Int), ((0 : Int), (y165.2.2.2.2.2.2.1, ())))) (
 opt.bnd ((Int × (Int × (Int × (Bool × Unit))))) _ (g63 it p (y165.2.2.1, (y165.2.2.2.2.2.1, ()))) fun y166 =>
 opt.ask _ (bif y166.2.2.2.1 then Bool.false else Bool.true) (
 opt.ret _ ((0 : Int), ((1 : Int), ((0 : Int), ())))) (
 opt.need _ (p.leN (p.add 0 0) (p.len [])) <|
 opt.bnd ((List (List (D)) × (Int × (Int × (Nat × (Nat × Unit)))))) _ (
 it _ _ (c25_1 it p) ([], ((0 : Int), ((0 : Int), (0, (0, (y165.2.2.1, (y165.2.2.2.2.2.1, (y165.2.2.2.2.2.1, (y165.2.2.1, ((0 : Int), ()))))))))))) fun y181 =>
 opt.bnd ((List (List (D)) × (Int × (Int × Unit)))) _ (g69 it p (y181.1, (y181.2.2.2.1, (y181.2.2.2.2.1, ())))) fun y182 =>
 opt.ret _ (y182.2.1, (y182.2.2.1, ((0 : Int), ()))))))))
noncomputable def G25 := g25 it0
noncomputable def F25 : Prim → Tup (ctr25).scs → Option (STup (scss (ctr25).outs)) :=
 fun p x => G25 p x
theorem eq25 (p : Prim) (x : Tup (ctr25).scs) : bodyRun opt p (autoEnv Go.Proofs.Try.prog) (mkOrc opt p (autoEnv Go.Proofs.Try.prog) 400 (an25) la25) 400 ctr25 x = G25 p x := by kernel_rfl
theorem gok25 : GamOk Go.Proofs.Try.prog (gam25) := by
  intro cf h
  simp only [gam25, List.mem_cons, List.not_mem_nil, or_false] at h
  rcases h with rfl | rfl | rfl | rfl | rfl
  · exact ok69
  · exact ok68
  · exact ok65
  · exact ok63
  · exact ok62
theorem enters25 : Enters Go.Proofs.Try.prog 25 := enters_auto (b := _) rfl (by kernel_rfl)
theorem ok25 : CtrOk Go.Proofs.Try.prog ctr25 (F25 std) := ctr_of_body (autoEnv_ok follows_mixed) (mkOrc_ok (autoEnv_ok follows_mixed) gok25 _) enters25 (fun x => eq25 std x)
end Go.Am
end
