/- Texts of this claim. -/
import Derived.Test.YtnmgimjamahalaaGl
import Derived.Test.YtnmgimjamahalaaProg
import Derived.KernelRfl
section
set_option linter.unusedVariables false
set_option maxRecDepth 100000
set_option maxHeartbeats 0
namespace Go.Am
noncomputable def ctr11 : Ctr :=
  ⟨11, [.list 1, .list 3, .int Go.IntKind.u8, .list 1], [], [(.ret, ⟨[(0, .bool)], [], 1⟩)]⟩
noncomputable def la11 : List LA :=
  [⟨11, [false, true, false, true, true], ⟨⟨[(0, .list 1), (1, .list 3), (2, .int Go.IntKind.u8), (3, .list 1), (9, .int Go.IntKind.i64)], [], 127⟩, [(Go.Am.AX.ret, ⟨[(8, .bool)], [], 127⟩), ((Go.Am.AX.exit 0), ⟨[(0, .list 1), (1, .list 3), (2, .int Go.IntKind.u8), (3, .list 1)], [], 127⟩)]⟩⟩,
   ⟨11, [false, true, false, true, true, true, true, true, true, true, true], ⟨⟨[(0, .list 1), (3, .list 1), (10, .int Go.IntKind.i64), (11, .bptr 0 0), (13, .int Go.IntKind.i64), (15, .int Go.IntKind.i64), (16, .int Go.IntKind.i64)], [.box [.int Go.IntKind.i64, .int Go.IntKind.i64]], 127⟩, [(Go.Am.AX.ret, ⟨[(8, .bool)], [], 127⟩), ((Go.Am.AX.exit 2), ⟨[(11, .bptr 0 0), (15, .int Go.IntKind.i64)], [.box [.int Go.IntKind.i64, .int Go.IntKind.i64]], 127⟩)]⟩⟩]
noncomputable def ja11 : List JA :=
  [⟨11, [false, false, true, true, true, true, true, true], [(Go.Am.AX.normal, ⟨[(0, .list 1), (3, .list 1), (10, .int Go.IntKind.i64), (11, .bptr 0 0), (13, .int Go.IntKind.i64), (88, .bool)], [.box [.int Go.IntKind.i64, .int Go.IntKind.i64]], 127⟩)]⟩,
   ⟨11, [false, false, true], [(Go.Am.AX.normal, ⟨[(0, .list 1), (1, .list 3), (2, .int Go.IntKind.u8), (3, .list 1), (31, .bool)], [], 127⟩)]⟩,
   ⟨11, [false, true, true, true, true, true, true, true, true, true], [(Go.Am.AX.normal, ⟨[(8, .bool)], [], 127⟩)]⟩,
   ⟨11, [true, true, true, false, false, true, false, false, true, false, true, true, true, true, true, true, true, true], [(Go.Am.AX.normal, ⟨[(0, .list 1), (3, .list 1), (10, .int Go.IntKind.i64), (11, .bptr 0 0), (13, .int Go.IntKind.i64), (15, .int Go.IntKind.i64), (16, .int Go.IntKind.i64)], [.box [.int Go.IntKind.i64, .int Go.IntKind.i64]], 127⟩)]⟩]
noncomputable def gam11 : List CF :=
  [⟨ctr35, F35⟩, ⟨ctr25, F25⟩, ⟨ctr13, F13⟩, ⟨ctr27, F27⟩]
noncomputable def an11 : Anns :=
  ⟨gam11, ja11, []⟩
noncomputable def b11_2 (p : Prim) : (Int × (Int × (List (List (Go.Am.D)) × (List (List (Go.Am.D)) × (Int × (Int × (Int × (Int × Unit)))))))) → Option ((Int × (Int × (List (List (Go.Am.D)) × (List (List (Go.Am.D)) × (Int × (Int × (Int × (Int × Unit)))))))) ⊕ ((Bool × Unit) ⊕ (Int × (Int × (Int × Unit))))) :=
  fun s189 => opt.run _ (
        opt.ask _ (p.cmp Go.BinOp.lss s189.2.2.2.2.2.2.2.1 (p.ofNat (p.len s189.2.2.1))) (
         opt.need _ (p.rowOk s189.2.2.1 (p.nat s189.2.2.2.2.2.2.2.1) [(Go.Am.CK.list 3)]) <|
         opt.need _ (p.cmp Go.BinOp.geq s189.2.2.2.2.2.2.2.1 (0 : Int)) <|
         opt.bnd ((Int × (Bool × Unit))) _ (G35 p ((p.rdL s189.2.2.1 (p.nat s189.2.2.2.2.2.2.2.1) 0), (s189.2.2.2.2.1, (s189.2.2.2.1, ((p.ar Go.BinOp.add Go.IntKind.i64 s189.2.2.2.2.2.2.2.1 (1 : Int)), ()))))) fun y190 =>
         opt.ask _ (bif y190.2.1 then Bool.false else Bool.true) (
          opt.ret _ (Sum.inr (Sum.inl (Bool.false, ())))) (
          opt.bnd ((Int × (Int × (List (List (Go.Am.D)) × (List (List (Go.Am.D)) × (Int × (Int × (Int × (Int × Unit))))))))) _ (
            opt.run ((Int × (Int × (List (List (Go.Am.D)) × (List (List (Go.Am.D)) × (Int × (Int × (Int × (Int × Unit))))))))) (
             opt.ask _ (p.cmp Go.BinOp.leq y190.1 s189.2.2.2.2.2.1) (
              opt.ret _ (s189.1, (s189.2.1, (s189.2.2.1, (s189.2.2.2.1, (s189.2.2.2.2.1, (s189.2.2.2.2.2.1, ((p.ar Go.BinOp.add Go.IntKind.i64 s189.2.2.2.2.2.2.1 (1 : Int)), (s189.2.2.2.2.2.2.2.1, ()))))))))) (
              opt.ret _ (s189.1, (s189.2.1, (s189.2.2.1, (s189.2.2.2.1, (s189.2.2.2.2.1, (s189.2.2.2.2.2.1, (s189.2.2.2.2.2.2.1, (s189.2.2.2.2.2.2.2.1, ()))))))))))) fun y191 =>
          opt.ret _ (Sum.inl (y191.1, (y191.2.1, (y191.2.2.1, (y191.2.2.2.1, (y191.2.2.2.2.1, (y191.2.2.2.2.2.1, (y191.2.2.2.2.2.2.1, ((p.ar Go.BinOp.add Go.IntKind.i64 y191.2.2.2.2.2.2.2.1 (1 : Int)), ()))))))))))) (
         opt.ret _ (Sum.inr (Sum.inr (s189.1, (s189.2.1, (s189.2.2.2.2.2.2.1, ())))))))
noncomputable def b11_1 (p : Prim) : (List (List (Go.Am.D)) × (List (List (Go.Am.D)) × (Int × (List (List (Go.Am.D)) × (Int × Unit))))) → Option ((List (List (Go.Am.D)) × (List (List (Go.Am.D)) × (Int × (List (List (Go.Am.D)) × (Int × Unit))))) ⊕ ((Bool × Unit) ⊕ (List (List (Go.Am.D)) × (List (List (Go.Am.D)) × (Int × (List (List (Go.Am.D)) × Unit)))))) :=
  fun s180 => opt.run _ (
      opt.ask _ (p.cmp Go.BinOp.lss s180.2.2.2.2.1 (p.ofNat (p.len s180.1))) (
       opt.need _ (p.rowOk s180.1 (p.nat s180.2.2.2.2.1) [(Go.Am.CK.list 3)]) <|
       opt.need _ (p.cmp Go.BinOp.geq s180.2.2.2.2.1 (0 : Int)) <|
       opt.bnd ((Bool × Unit)) _ (G27 p ((p.rdL s180.1 (p.nat s180.2.2.2.2.1) 0), ())) fun y181 =>
       opt.ask _ (bif y181.1 then Bool.false else Bool.true) (
        opt.bnd ((Bool × Unit)) _ (G13 p ()) fun y182 =>
        opt.ret _ (Sum.inr (Sum.inl (y182.1, ())))) (
        opt.ret _ (Sum.inl (s180.1, (s180.2.1, (s180.2.2.1, (s180.2.2.2.1, ((p.ar Go.BinOp.add Go.IntKind.i64 s180.2.2.2.2.1 (1 : Int)), ())))))))) (
       opt.ret _ (Sum.inr (Sum.inr (s180.1, (s180.2.1, (s180.2.2.1, (s180.2.2.2.1, ()))))))))
noncomputable def G11 : (p : Prim) → (List (List (Go.Am.D)) × (List (List (Go.Am.D)) × (Int × (List (List (Go.Am.D)) × Unit)))) → Option ((Bool × Unit)) :=
  fun p x =>
  opt.bnd ((List (List (Go.Am.D)) × (List (List (Go.Am.D)) × (Int × (List (List (Go.Am.D)) × (Bool × Unit)))))) _ (
    opt.run ((List (List (Go.Am.D)) × (List (List (Go.Am.D)) × (Int × (List (List (Go.Am.D)) × (Bool × Unit)))))) (
     opt.ask _ (p.cmp Go.BinOp.gtr (p.ofNat (p.len x.1)) (8 : Int)) (
      opt.ret _ (x.1, (x.2.1, (x.2.2.1, (x.2.2.2.1, (Bool.true, ())))))) (
      opt.bnd ((Bool × Unit)) _ (G27 p (x.2.1, ())) fun y177 =>
      opt.ask _ (bif y177.1 then Bool.false else Bool.true) (
       opt.ret _ (x.1, (x.2.1, (x.2.2.1, (x.2.2.2.1, (Bool.true, ())))))) (
       opt.ret _ (x.1, (x.2.1, (x.2.2.1, (x.2.2.2.1, ((p.cmp Go.BinOp.gtr (p.ofNat (p.len x.2.2.2.1)) (20 : Int)), ()))))))))) fun y178 =>
  opt.ask _ y178.2.2.2.2.1 (
   opt.bnd ((Bool × Unit)) _ (G13 p ()) fun y179 =>
   opt.ret _ (y179.1, ())) (
   opt.alt ((Bool × Unit)) ((List (List (Go.Am.D)) × (List (List (Go.Am.D)) × (Int × (List (List (Go.Am.D)) × Unit))))) _ (
     iter (b11_1 p) (y178.1, (y178.2.1, (y178.2.2.1, (y178.2.2.2.1, ((0 : Int), ())))))) (fun y183 =>
    opt.ret _ (y183.1, ())) (fun y184 =>
    opt.bnd ((List (List (Go.Am.D)) × (List (List (Go.Am.D)) × (Int × (List (List (Go.Am.D)) × Unit))))) _ (some y184) fun y185 =>
    opt.need _ (p.cmp Go.BinOp.neq (100 : Int) (0 : Int)) <|
    opt.bnd ((Int × (Int × (Int × Unit)))) _ (G25 p (y185.1, (y185.2.1, ((p.ar Go.BinOp.add Go.IntKind.i64 (1 : Int) (p.ar Go.BinOp.rem Go.IntKind.i64 (p.cvt Go.IntKind.i64 y185.2.2.1) (100 : Int))), ())))) fun y186 =>
    opt.bnd ((Int × (Bool × Unit))) _ (G35 p (y185.2.1, ((p.ar Go.BinOp.add Go.IntKind.i64 (1 : Int) (p.ar Go.BinOp.rem Go.IntKind.i64 (p.cvt Go.IntKind.i64 y185.2.2.1) (100 : Int))), (y185.2.2.2.1, ((0 : Int), ()))))) fun y187 =>
    opt.bnd ((Int × (Int × (List (List (Go.Am.D)) × (List (List (Go.Am.D)) × (Int × (Int × (Bool × Unit)))))))) _ (
      opt.run ((Int × (Int × (List (List (Go.Am.D)) × (List (List (Go.Am.D)) × (Int × (Int × (Bool × Unit)))))))) (
       opt.ask _ (p.cmp Go.BinOp.neq y186.2.2.1 (0 : Int)) (
        opt.ret _ (y186.1, (y186.2.1, (y185.1, (y185.2.2.2.1, ((p.ar Go.BinOp.add Go.IntKind.i64 (1 : Int) (p.ar Go.BinOp.rem Go.IntKind.i64 (p.cvt Go.IntKind.i64 y185.2.2.1) (100 : Int))), (y187.1, (Bool.true, ())))))))) (
        opt.ask _ (bif y187.2.1 then Bool.false else Bool.true) (
         opt.ret _ (y186.1, (y186.2.1, (y185.1, (y185.2.2.2.1, ((p.ar Go.BinOp.add Go.IntKind.i64 (1 : Int) (p.ar Go.BinOp.rem Go.IntKind.i64 (p.cvt Go.IntKind.i64 y185.2.2.1) (100 : Int))), (y187.1, (Bool.true, ())))))))) (
         opt.ask _ (p.cmp Go.BinOp.lss y186.1 (0 : Int)) (
          opt.ret _ (y186.1, (y186.2.1, (y185.1, (y185.2.2.2.1, ((p.ar Go.BinOp.add Go.IntKind.i64 (1 : Int) (p.ar Go.BinOp.rem Go.IntKind.i64 (p.cvt Go.IntKind.i64 y185.2.2.1) (100 : Int))), (y187.1, (Bool.true, ())))))))) (
          opt.ask _ (p.cmp Go.BinOp.gtr y186.1 y186.2.1) (
           opt.ret _ (y186.1, (y186.2.1, (y185.1, (y185.2.2.2.1, ((p.ar Go.BinOp.add Go.IntKind.i64 (1 : Int) (p.ar Go.BinOp.rem Go.IntKind.i64 (p.cvt Go.IntKind.i64 y185.2.2.1) (100 : Int))), (y187.1, (Bool.true, ())))))))) (
           opt.ret _ (y186.1, (y186.2.1, (y185.1, (y185.2.2.2.1, ((p.ar Go.BinOp.add Go.IntKind.i64 (1 : Int) (p.ar Go.BinOp.rem Go.IntKind.i64 (p.cvt Go.IntKind.i64 y185.2.2.1) (100 : Int))), (y187.1, ((p.cmp Go.BinOp.gtr y186.2.1 (p.ofNat (p.len y185.1))), ()))))))))))))) fun y188 =>
    opt.ask _ y188.2.2.2.2.2.2.1 (
     opt.ret _ (Bool.false, ())) (
     opt.alt ((Bool × Unit)) ((Int × (Int × (Int × Unit)))) _ (
       iter (b11_2 p) (y188.1, (y188.2.1, (y188.2.2.1, (y188.2.2.2.1, (y188.2.2.2.2.1, (y188.2.2.2.2.2.1, ((0 : Int), ((0 : Int), ()))))))))) (fun y192 =>
      opt.ret _ (y192.1, ())) (fun y193 =>
      opt.bnd ((Int × (Int × (Int × Unit)))) _ (some y193) fun y194 =>
      opt.bnd ((Bool × Unit)) _ (
        opt.run ((Bool × Unit)) (
         opt.ask _ (p.cmp Go.BinOp.geq y194.2.2.1 y194.1) (
          opt.ask _ (p.cmp Go.BinOp.leq y194.2.2.1 y194.2.1) (
           opt.bnd ((Bool × Unit)) _ (G13 p ()) fun y195 =>
           opt.ret _ (y195.1, ())) (
           opt.ret _ (Bool.false, ()))) (
          opt.ret _ (Bool.false, ())))) fun y196 =>
      opt.ret _ (y196.1, ())))))
noncomputable def F11 : Prim → Tup (ctr11).scs → Option (STup (scss (ctr11).outs)) :=
  fun p x => G11 p x
theorem eq11 (p : Prim) (x : Tup (ctr11).scs) : bodyRun opt p (autoEnv Go.Proofs.Try.prog) (mkOrc opt p (autoEnv Go.Proofs.Try.prog) 400 (an11) la11) 400 ctr11 x = G11 p x := by kernel_rfl
theorem gok11 : GamOk Go.Proofs.Try.prog (gam11) := by
  intro cf h
  simp only [gam11, List.mem_cons, List.not_mem_nil, or_false] at h
  rcases h with rfl | rfl | rfl | rfl
  · exact ok35
  · exact ok25
  · exact ok13
  · exact ok27
theorem enters11 : Enters Go.Proofs.Try.prog 11 := enters_auto (b := _) rfl (by kernel_rfl)
theorem ok11 : CtrOk Go.Proofs.Try.prog ctr11 (F11 std) := ctr_of_body (autoEnv_ok follows_mixed) (mkOrc_ok (autoEnv_ok follows_mixed) gok11 _) enters11 (fun x => eq11 std x)
end Go.Am
end
