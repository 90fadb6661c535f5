/- Texts of this claim. -/
import Derived.Test.YtnmgimjamahalaaGl
import Derived.Test.YtnmgimjamahalaaProg
import Derived.KernelRfl
section
set_option linter.unusedVariables false
set_option maxRecDepth 100000
set_option maxHeartbeats 0
namespace Go.Am
noncomputable def ctr12 : Ctr :=
  ⟨12, [], [], [(.ret, ⟨[(0, .bool)], [], 1⟩)]⟩
noncomputable def la12 : List LA :=
  []
noncomputable def ja12 : List JA :=
  [⟨12, [false, true, true, true, true], [(Go.Am.AX.normal, ⟨[(0, .bool)], [], 49⟩)]⟩]
noncomputable def gam12 : List CF :=
  [⟨ctr13, F13⟩, ⟨ctr19, F19⟩, ⟨ctr23, F23⟩, ⟨ctr21, F21⟩]
noncomputable def an12 : Anns :=
  ⟨gam12, ja12, []⟩
noncomputable def G12 : (p : Prim) → Unit → Option ((Bool × Unit)) :=
  fun p x =>
  opt.need _ (p.and (p.leN (p.add 0 5) (p.len [[(Go.Am.D.int Go.IntKind.i64 (10 : Int)), (Go.Am.D.int Go.IntKind.i64 (1 : Int)), (Go.Am.D.int Go.IntKind.i64 (1 : Int))], [(Go.Am.D.int Go.IntKind.i64 (20 : Int)), (Go.Am.D.int Go.IntKind.i64 (4 : Int)), (Go.Am.D.int Go.IntKind.i64 (1 : Int))], [(Go.Am.D.int Go.IntKind.i64 (30 : Int)), (Go.Am.D.int Go.IntKind.i64 (2 : Int)), (Go.Am.D.int Go.IntKind.i64 (1 : Int))], [(Go.Am.D.int Go.IntKind.i64 (40 : Int)), (Go.Am.D.int Go.IntKind.i64 (3 : Int)), (Go.Am.D.int Go.IntKind.i64 (2 : Int))], [(Go.Am.D.int Go.IntKind.i64 (50 : Int)), (Go.Am.D.int Go.IntKind.i64 (9 : Int)), (Go.Am.D.int Go.IntKind.i64 (1 : Int))]])) (p.and Bool.true Bool.true)) <|
  opt.bnd ((Int × (Int × (Int × Unit)))) _ (G21 p ((p.cut [[(Go.Am.D.int Go.IntKind.i64 (10 : Int)), (Go.Am.D.int Go.IntKind.i64 (1 : Int)), (Go.Am.D.int Go.IntKind.i64 (1 : Int))], [(Go.Am.D.int Go.IntKind.i64 (20 : Int)), (Go.Am.D.int Go.IntKind.i64 (4 : Int)), (Go.Am.D.int Go.IntKind.i64 (1 : Int))], [(Go.Am.D.int Go.IntKind.i64 (30 : Int)), (Go.Am.D.int Go.IntKind.i64 (2 : Int)), (Go.Am.D.int Go.IntKind.i64 (1 : Int))], [(Go.Am.D.int Go.IntKind.i64 (40 : Int)), (Go.Am.D.int Go.IntKind.i64 (3 : Int)), (Go.Am.D.int Go.IntKind.i64 (2 : Int))], [(Go.Am.D.int Go.IntKind.i64 (50 : Int)), (Go.Am.D.int Go.IntKind.i64 (9 : Int)), (Go.Am.D.int Go.IntKind.i64 (1 : Int))]] 0 5), ((60 : Int), ()))) fun y13 =>
  opt.need _ (p.and (p.leN (p.add 0 5) (p.len [[(Go.Am.D.int Go.IntKind.i64 (10 : Int)), (Go.Am.D.int Go.IntKind.i64 (1 : Int)), (Go.Am.D.int Go.IntKind.i64 (1 : Int))], [(Go.Am.D.int Go.IntKind.i64 (20 : Int)), (Go.Am.D.int Go.IntKind.i64 (4 : Int)), (Go.Am.D.int Go.IntKind.i64 (1 : Int))], [(Go.Am.D.int Go.IntKind.i64 (30 : Int)), (Go.Am.D.int Go.IntKind.i64 (2 : Int)), (Go.Am.D.int Go.IntKind.i64 (1 : Int))], [(Go.Am.D.int Go.IntKind.i64 (40 : Int)), (Go.Am.D.int Go.IntKind.i64 (3 : Int)), (Go.Am.D.int Go.IntKind.i64 (2 : Int))], [(Go.Am.D.int Go.IntKind.i64 (50 : Int)), (Go.Am.D.int Go.IntKind.i64 (9 : Int)), (Go.Am.D.int Go.IntKind.i64 (1 : Int))]])) (p.and Bool.true Bool.true)) <|
  opt.bnd ((Int × (Int × (Int × Unit)))) _ (G23 p ((p.cut [[(Go.Am.D.int Go.IntKind.i64 (10 : Int)), (Go.Am.D.int Go.IntKind.i64 (1 : Int)), (Go.Am.D.int Go.IntKind.i64 (1 : Int))], [(Go.Am.D.int Go.IntKind.i64 (20 : Int)), (Go.Am.D.int Go.IntKind.i64 (4 : Int)), (Go.Am.D.int Go.IntKind.i64 (1 : Int))], [(Go.Am.D.int Go.IntKind.i64 (30 : Int)), (Go.Am.D.int Go.IntKind.i64 (2 : Int)), (Go.Am.D.int Go.IntKind.i64 (1 : Int))], [(Go.Am.D.int Go.IntKind.i64 (40 : Int)), (Go.Am.D.int Go.IntKind.i64 (3 : Int)), (Go.Am.D.int Go.IntKind.i64 (2 : Int))], [(Go.Am.D.int Go.IntKind.i64 (50 : Int)), (Go.Am.D.int Go.IntKind.i64 (9 : Int)), (Go.Am.D.int Go.IntKind.i64 (1 : Int))]] 0 5), ((5 : Int), ()))) fun y14 =>
  opt.bnd ((Bool × Unit)) _ (
    opt.run ((Bool × Unit)) (
     opt.ask _ (p.cmp Go.BinOp.eql y13.2.2.1 (0 : Int)) (
      opt.ask _ (p.cmp Go.BinOp.eql y14.2.2.1 (0 : Int)) (
       opt.ask _ (bif (p.cmp Go.BinOp.eql y13.1 (9 : Int)) then (bif (p.cmp Go.BinOp.eql y13.2.1 (1 : Int)) then Bool.true else Bool.false) else Bool.false) (
        opt.ask _ (bif (p.cmp Go.BinOp.eql y14.1 (40 : Int)) then (bif (p.cmp Go.BinOp.eql y14.2.1 (50 : Int)) then Bool.true else Bool.false) else Bool.false) (
         opt.need _ (p.and (p.leN (p.add 0 5) (p.len [[(Go.Am.D.int Go.IntKind.i64 (10 : Int)), (Go.Am.D.int Go.IntKind.i64 (1 : Int)), (Go.Am.D.int Go.IntKind.i64 (1 : Int))], [(Go.Am.D.int Go.IntKind.i64 (20 : Int)), (Go.Am.D.int Go.IntKind.i64 (4 : Int)), (Go.Am.D.int Go.IntKind.i64 (1 : Int))], [(Go.Am.D.int Go.IntKind.i64 (30 : Int)), (Go.Am.D.int Go.IntKind.i64 (2 : Int)), (Go.Am.D.int Go.IntKind.i64 (1 : Int))], [(Go.Am.D.int Go.IntKind.i64 (40 : Int)), (Go.Am.D.int Go.IntKind.i64 (3 : Int)), (Go.Am.D.int Go.IntKind.i64 (2 : Int))], [(Go.Am.D.int Go.IntKind.i64 (50 : Int)), (Go.Am.D.int Go.IntKind.i64 (9 : Int)), (Go.Am.D.int Go.IntKind.i64 (1 : Int))]])) (p.and (p.leN (p.add 0 3) (p.len [[(Go.Am.D.int Go.IntKind.i64 (10 : Int)), (Go.Am.D.int Go.IntKind.i64 (10 : Int)), (Go.Am.D.int Go.IntKind.i64 (1 : Int)), (Go.Am.D.int Go.IntKind.i64 (1 : Int))], [(Go.Am.D.int Go.IntKind.i64 (20 : Int)), (Go.Am.D.int Go.IntKind.i64 (40 : Int)), (Go.Am.D.int Go.IntKind.i64 (4 : Int)), (Go.Am.D.int Go.IntKind.i64 (12 : Int))], [(Go.Am.D.int Go.IntKind.i64 (50 : Int)), (Go.Am.D.int Go.IntKind.i64 (50 : Int)), (Go.Am.D.int Go.IntKind.i64 (1 : Int)), (Go.Am.D.int Go.IntKind.i64 (9 : Int))]])) Bool.true)) <|
         opt.bnd ((Int × Unit)) _ (G19 p ((p.cut [[(Go.Am.D.int Go.IntKind.i64 (10 : Int)), (Go.Am.D.int Go.IntKind.i64 (1 : Int)), (Go.Am.D.int Go.IntKind.i64 (1 : Int))], [(Go.Am.D.int Go.IntKind.i64 (20 : Int)), (Go.Am.D.int Go.IntKind.i64 (4 : Int)), (Go.Am.D.int Go.IntKind.i64 (1 : Int))], [(Go.Am.D.int Go.IntKind.i64 (30 : Int)), (Go.Am.D.int Go.IntKind.i64 (2 : Int)), (Go.Am.D.int Go.IntKind.i64 (1 : Int))], [(Go.Am.D.int Go.IntKind.i64 (40 : Int)), (Go.Am.D.int Go.IntKind.i64 (3 : Int)), (Go.Am.D.int Go.IntKind.i64 (2 : Int))], [(Go.Am.D.int Go.IntKind.i64 (50 : Int)), (Go.Am.D.int Go.IntKind.i64 (9 : Int)), (Go.Am.D.int Go.IntKind.i64 (1 : Int))]] 0 5), ((p.cut [[(Go.Am.D.int Go.IntKind.i64 (10 : Int)), (Go.Am.D.int Go.IntKind.i64 (10 : Int)), (Go.Am.D.int Go.IntKind.i64 (1 : Int)), (Go.Am.D.int Go.IntKind.i64 (1 : Int))], [(Go.Am.D.int Go.IntKind.i64 (20 : Int)), (Go.Am.D.int Go.IntKind.i64 (40 : Int)), (Go.Am.D.int Go.IntKind.i64 (4 : Int)), (Go.Am.D.int Go.IntKind.i64 (12 : Int))], [(Go.Am.D.int Go.IntKind.i64 (50 : Int)), (Go.Am.D.int Go.IntKind.i64 (50 : Int)), (Go.Am.D.int Go.IntKind.i64 (1 : Int)), (Go.Am.D.int Go.IntKind.i64 (9 : Int))]] 0 3), ()))) fun y15 =>
         opt.ask _ (p.cmp Go.BinOp.eql y15.1 (0 : Int)) (
          opt.need _ (p.and (p.leN (p.add 0 5) (p.len [[(Go.Am.D.int Go.IntKind.i64 (10 : Int)), (Go.Am.D.int Go.IntKind.i64 (1 : Int)), (Go.Am.D.int Go.IntKind.i64 (1 : Int))], [(Go.Am.D.int Go.IntKind.i64 (20 : Int)), (Go.Am.D.int Go.IntKind.i64 (4 : Int)), (Go.Am.D.int Go.IntKind.i64 (1 : Int))], [(Go.Am.D.int Go.IntKind.i64 (30 : Int)), (Go.Am.D.int Go.IntKind.i64 (2 : Int)), (Go.Am.D.int Go.IntKind.i64 (1 : Int))], [(Go.Am.D.int Go.IntKind.i64 (40 : Int)), (Go.Am.D.int Go.IntKind.i64 (3 : Int)), (Go.Am.D.int Go.IntKind.i64 (2 : Int))], [(Go.Am.D.int Go.IntKind.i64 (50 : Int)), (Go.Am.D.int Go.IntKind.i64 (9 : Int)), (Go.Am.D.int Go.IntKind.i64 (1 : Int))]])) (p.and (p.leN (p.add 0 1) (p.len [[(Go.Am.D.int Go.IntKind.i64 (10 : Int)), (Go.Am.D.int Go.IntKind.i64 (50 : Int)), (Go.Am.D.int Go.IntKind.i64 (6 : Int)), (Go.Am.D.int Go.IntKind.i64 (22 : Int))]])) Bool.true)) <|
          opt.bnd ((Int × Unit)) _ (G19 p ((p.cut [[(Go.Am.D.int Go.IntKind.i64 (10 : Int)), (Go.Am.D.int Go.IntKind.i64 (1 : Int)), (Go.Am.D.int Go.IntKind.i64 (1 : Int))], [(Go.Am.D.int Go.IntKind.i64 (20 : Int)), (Go.Am.D.int Go.IntKind.i64 (4 : Int)), (Go.Am.D.int Go.IntKind.i64 (1 : Int))], [(Go.Am.D.int Go.IntKind.i64 (30 : Int)), (Go.Am.D.int Go.IntKind.i64 (2 : Int)), (Go.Am.D.int Go.IntKind.i64 (1 : Int))], [(Go.Am.D.int Go.IntKind.i64 (40 : Int)), (Go.Am.D.int Go.IntKind.i64 (3 : Int)), (Go.Am.D.int Go.IntKind.i64 (2 : Int))], [(Go.Am.D.int Go.IntKind.i64 (50 : Int)), (Go.Am.D.int Go.IntKind.i64 (9 : Int)), (Go.Am.D.int Go.IntKind.i64 (1 : Int))]] 0 5), ((p.cut [[(Go.Am.D.int Go.IntKind.i64 (10 : Int)), (Go.Am.D.int Go.IntKind.i64 (50 : Int)), (Go.Am.D.int Go.IntKind.i64 (6 : Int)), (Go.Am.D.int Go.IntKind.i64 (22 : Int))]] 0 1), ()))) fun y16 =>
          opt.ask _ (p.cmp Go.BinOp.eql y16.1 (14 : Int)) (
           opt.bnd ((Bool × Unit)) _ (G13 p ()) fun y17 =>
           opt.ret _ (y17.1, ())) (
           opt.ret _ (Bool.false, ()))) (
          opt.ret _ (Bool.false, ()))) (
         opt.ret _ (Bool.false, ()))) (
        opt.ret _ (Bool.false, ()))) (
       opt.ret _ (Bool.false, ()))) (
      opt.ret _ (Bool.false, ())))) fun y18 =>
  opt.ret _ (y18.1, ())
noncomputable def F12 : Prim → Tup (ctr12).scs → Option (STup (scss (ctr12).outs)) :=
  fun p x => G12 p x
theorem eq12 (p : Prim) (x : Tup (ctr12).scs) : bodyRun opt p (autoEnv Go.Proofs.Try.prog) (mkOrc opt p (autoEnv Go.Proofs.Try.prog) 400 (an12) la12) 400 ctr12 x = G12 p x := by kernel_rfl
theorem gok12 : GamOk Go.Proofs.Try.prog (gam12) := by
  intro cf h
  simp only [gam12, List.mem_cons, List.not_mem_nil, or_false] at h
  rcases h with rfl | rfl | rfl | rfl
  · exact ok13
  · exact ok19
  · exact ok23
  · exact ok21
theorem enters12 : Enters Go.Proofs.Try.prog 12 := enters_auto (b := _) rfl (by kernel_rfl)
theorem ok12 : CtrOk Go.Proofs.Try.prog ctr12 (F12 std) := ctr_of_body (autoEnv_ok follows_mixed) (mkOrc_ok (autoEnv_ok follows_mixed) gok12 _) enters12 (fun x => eq12 std x)
end Go.Am
end
