/-
  Proved: PanelDuels: for every input the call returns true, and each argument reads afterwards as it read before; there is no condition.
-/
import Derived.Test.YtjlhhpjkmgediaaT4
import Derived.Test.YtjlhhpjkmgediaaProg
import Derived.KernelRfl
set_option linter.unusedVariables false
set_option linter.unusedSimpArgs false
set_option linter.unusedSectionVars false
set_option maxRecDepth 100000
set_option maxHeartbeats 0
noncomputable section
namespace Go.Am
def y53:Ctr:=
 ⟨105,[.sl 0 1, .int .i64, .int .i64, .int .i64, .clo 67 [] [.bptr 1 0]],[.row [ci], .box [.sl 2 1], .row [ci]],[]⟩
def w7i:Prim→Tup (y53).scs→Option (STup (scss (y53).outs)):=
 fun _ _=>none
theorem x2o:z2i Go.Proofs.Try.prog 105:=enters_auto (b:=_) rfl (by kernel_rfl)
theorem w4e:CtrOk Go.Proofs.Try.prog y53 (w7i std):=⟨x2o,fun x y h=>by cases h⟩
def x5q:Ctr:=
 ⟨104,[.sl 0 1, .int .i64, .int .i64, .clo 67 [] [.bptr 1 0]],[.row [ci], .box [.sl 2 1], .row [ci]],[(.ret,⟨[(0, .tuple [])],[.row [ci], .box [.sl 2 1], .row [ci]],1⟩)]⟩
def w40:List LA:=
 [⟨104,[false,true],3,⟨⟨[(0, .sl 0 1),(1, .int .i64),(2, .int .i64),(3, .clo 67 [] [.bptr 1 0]),(8, .int .i64)],[.row [ci], .box [.sl 2 1], .row [ci]],53⟩,[((AX.exit 0),⟨[],[.row [ci], .box [.sl 2 1], .row [ci]],53⟩)]⟩⟩,
 ⟨104,[false,true,false,false,true,false,false,true],3,⟨⟨[(0, .sl 0 1),(1, .int .i64),(2, .int .i64),(3, .clo 67 [] [.bptr 1 0]),(8, .int .i64),(9, .int .i64)],[.row [ci], .box [.sl 2 1], .row [ci]],53⟩,[((AX.exit 2),⟨[(0, .sl 0 1),(1, .int .i64),(2, .int .i64),(3, .clo 67 [] [.bptr 1 0]),(8, .int .i64)],[.row [ci], .box [.sl 2 1], .row [ci]],53⟩)]⟩⟩]
def w41:List JA:=
 [⟨68,[true,false,true,true,true],3,[(AX.ret,⟨[(4, .int .i64)],[.row [ci], .box [.sl 2 1], .row [ci]],20⟩),(AX.normal,⟨[(0, .int .i64),(1, .int .i64),(6, .bool)],[.row [ci], .box [.sl 2 1], .row [ci]],20⟩)]⟩]
def w2i:List CF:=
 []
def w6w:Anns:=
 ⟨w2i,w41,[]⟩
def w3n (p:Prim):(LD×(LD×T13))→Option ((LD×(LD×T13))⊕(LD×(LD×T10))):=
 fun a=>opt.run _ (
 opt.ask _ (p.cmp .gtr a.2.2.2.2.2.2.2.2.2.1 a.2.2.2.2.2.2.1) (
 opt.need _ (bif (p.cmp .geq a.2.2.2.2.2.2.2.2.2.1 (0:Int)) then (p.cmp .lss a.2.2.2.2.2.2.2.2.2.1 (p.ofNat a.2.2.2.2.2.1)) else Bool.false)<|
 opt.need _ (p.rowOk a.1 (p.add a.2.2.2.2.1 (p.nat a.2.2.2.2.2.2.2.2.2.1)) [ci])<|
 opt.need _ (bif (p.cmp .geq (p.ar .sub .i64 a.2.2.2.2.2.2.2.2.2.1 (1:Int)) (0:Int)) then (p.cmp .lss (p.ar .sub .i64 a.2.2.2.2.2.2.2.2.2.1 (1:Int)) (p.ofNat a.2.2.2.2.2.1)) else Bool.false)<|
 opt.need _ (p.rowOk a.1 (p.add a.2.2.2.2.1 (p.nat (p.ar .sub .i64 a.2.2.2.2.2.2.2.2.2.1 (1:Int)))) [ci])<|
 opt.need _ (bif (p.cmp .geq (p.rdI a.1 (p.add a.2.2.2.2.1 (p.nat a.2.2.2.2.2.2.2.2.2.1)) 0) (0:Int)) then (p.cmp .lss (p.rdI a.1 (p.add a.2.2.2.2.1 (p.nat a.2.2.2.2.2.2.2.2.2.1)) 0) (p.ofNat a.2.2.2.1)) else Bool.false)<|
 opt.need _ (p.rowOk a.2.1 (p.add a.2.2.1 (p.nat (p.rdI a.1 (p.add a.2.2.2.2.1 (p.nat a.2.2.2.2.2.2.2.2.2.1)) 0))) [ci])<|
 opt.need _ (bif (p.cmp .geq (p.rdI a.1 (p.add a.2.2.2.2.1 (p.nat (p.ar .sub .i64 a.2.2.2.2.2.2.2.2.2.1 (1:Int)))) 0) (0:Int)) then (p.cmp .lss (p.rdI a.1 (p.add a.2.2.2.2.1 (p.nat (p.ar .sub .i64 a.2.2.2.2.2.2.2.2.2.1 (1:Int)))) 0) (p.ofNat a.2.2.2.1)) else Bool.false)<|
 opt.need _ (p.rowOk a.2.1 (p.add a.2.2.1 (p.nat (p.rdI a.1 (p.add a.2.2.2.2.1 (p.nat (p.ar .sub .i64 a.2.2.2.2.2.2.2.2.2.1 (1:Int)))) 0))) [ci])<|
 opt.alt ((LD×(LD×(Nat×(Nat×(Int×Unit)))))) ((LD×(LD×T24))) _ (
 opt.run (((LD×(LD×(Nat×(Nat×(Int×Unit)))))⊕(LD×(LD×T24)))) (
 opt.ask _ (p.cmp .neq (p.rdI a.2.1 (p.add a.2.2.1 (p.nat (p.rdI a.1 (p.add a.2.2.2.2.1 (p.nat a.2.2.2.2.2.2.2.2.2.1)) 0))) 0) (p.rdI a.2.1 (p.add a.2.2.1 (p.nat (p.rdI a.1 (p.add a.2.2.2.2.1 (p.nat a.2.2.2.2.2.2.2.2.2.1)) 0))) 0)) (
 opt.ask _ (p.cmp .neq (p.rdI a.2.1 (p.add a.2.2.1 (p.nat (p.rdI a.1 (p.add a.2.2.2.2.1 (p.nat (p.ar .sub .i64 a.2.2.2.2.2.2.2.2.2.1 (1:Int)))) 0))) 0) (p.rdI a.2.1 (p.add a.2.2.1 (p.nat (p.rdI a.1 (p.add a.2.2.2.2.1 (p.nat (p.ar .sub .i64 a.2.2.2.2.2.2.2.2.2.1 (1:Int)))) 0))) 0)) (
 opt.ret _ (Sum.inl (a.1,(a.2.1,(a.2.2.1,(a.2.2.2.1,((0:Int),()))))))) (
 opt.ret _ (Sum.inl (a.1,(a.2.1,(a.2.2.1,(a.2.2.2.1,((-1:Int),())))))))) (
 opt.ret _ (Sum.inr (a.1,(a.2.1,(a.2.2.1,(a.2.2.2.1,((p.rdI a.2.1 (p.add a.2.2.1 (p.nat (p.rdI a.1 (p.add a.2.2.2.2.1 (p.nat a.2.2.2.2.2.2.2.2.2.1)) 0))) 0),((p.rdI a.2.1 (p.add a.2.2.1 (p.nat (p.rdI a.1 (p.add a.2.2.2.2.1 (p.nat (p.ar .sub .i64 a.2.2.2.2.2.2.2.2.2.1 (1:Int)))) 0))) 0),((p.cmp .neq (p.rdI a.2.1 (p.add a.2.2.1 (p.nat (p.rdI a.1 (p.add a.2.2.2.2.1 (p.nat (p.ar .sub .i64 a.2.2.2.2.2.2.2.2.2.1 (1:Int)))) 0))) 0) (p.rdI a.2.1 (p.add a.2.2.1 (p.nat (p.rdI a.1 (p.add a.2.2.2.2.1 (p.nat (p.ar .sub .i64 a.2.2.2.2.2.2.2.2.2.1 (1:Int)))) 0))) 0)),()))))))))))) (fun b=>
 opt.ask _ (p.cmp .lss b.2.2.2.2.1 (0:Int)) (
 opt.need _ (bif (p.cmp .geq (p.ar .sub .i64 a.2.2.2.2.2.2.2.2.2.1 (1:Int)) (0:Int)) then (p.cmp .lss (p.ar .sub .i64 a.2.2.2.2.2.2.2.2.2.1 (1:Int)) (p.ofNat a.2.2.2.2.2.1)) else Bool.false)<|
 opt.need _ (p.rowOk b.1 (p.add a.2.2.2.2.1 (p.nat (p.ar .sub .i64 a.2.2.2.2.2.2.2.2.2.1 (1:Int)))) [ci])<|
 opt.need _ (bif (p.cmp .geq a.2.2.2.2.2.2.2.2.2.1 (0:Int)) then (p.cmp .lss a.2.2.2.2.2.2.2.2.2.1 (p.ofNat a.2.2.2.2.2.1)) else Bool.false)<|
 opt.need _ (p.rowOk b.1 (p.add a.2.2.2.2.1 (p.nat a.2.2.2.2.2.2.2.2.2.1)) [ci])<|
 opt.need _ (bif (p.cmp .geq a.2.2.2.2.2.2.2.2.2.1 (0:Int)) then (p.cmp .lss a.2.2.2.2.2.2.2.2.2.1 (p.ofNat a.2.2.2.2.2.1)) else Bool.false)<|
 opt.need _ (p.rowOk b.1 (p.add a.2.2.2.2.1 (p.nat a.2.2.2.2.2.2.2.2.2.1)) [ci])<|
 opt.need _ (bif (p.cmp .geq (p.ar .sub .i64 a.2.2.2.2.2.2.2.2.2.1 (1:Int)) (0:Int)) then (p.cmp .lss (p.ar .sub .i64 a.2.2.2.2.2.2.2.2.2.1 (1:Int)) (p.ofNat a.2.2.2.2.2.1)) else Bool.false)<|
 opt.need _ (p.rowOk (p.set b.1 (p.add a.2.2.2.2.1 (p.nat a.2.2.2.2.2.2.2.2.2.1)) [(D.int .i64 (p.rdI b.1 (p.add a.2.2.2.2.1 (p.nat (p.ar .sub .i64 a.2.2.2.2.2.2.2.2.2.1 (1:Int)))) 0))]) (p.add a.2.2.2.2.1 (p.nat (p.ar .sub .i64 a.2.2.2.2.2.2.2.2.2.1 (1:Int)))) [ci])<|
 opt.ret _ (Sum.inl ((p.set (p.set b.1 (p.add a.2.2.2.2.1 (p.nat a.2.2.2.2.2.2.2.2.2.1)) [(D.int .i64 (p.rdI b.1 (p.add a.2.2.2.2.1 (p.nat (p.ar .sub .i64 a.2.2.2.2.2.2.2.2.2.1 (1:Int)))) 0))]) (p.add a.2.2.2.2.1 (p.nat (p.ar .sub .i64 a.2.2.2.2.2.2.2.2.2.1 (1:Int)))) [(D.int .i64 (p.rdI b.1 (p.add a.2.2.2.2.1 (p.nat a.2.2.2.2.2.2.2.2.2.1)) 0))]),(b.2.1,(b.2.2.1,(b.2.2.2.1,(a.2.2.2.2.1,(a.2.2.2.2.2.1,(a.2.2.2.2.2.2.1,(a.2.2.2.2.2.2.2.1,(a.2.2.2.2.2.2.2.2.1,((p.ar .sub .i64 a.2.2.2.2.2.2.2.2.2.1 (1:Int)),())))))))))))) (
 opt.ret _ (Sum.inr (b.1,(b.2.1,(b.2.2.1,(b.2.2.2.1,(a.2.2.2.2.1,(a.2.2.2.2.2.1,(a.2.2.2.2.2.2.1,(a.2.2.2.2.2.2.2.1,(a.2.2.2.2.2.2.2.2.1,())))))))))))) (fun c=>
 opt.bnd ((LD×(LD×T24))) _ (some c) fun d=>
 opt.ask _ d.2.2.2.2.2.2.1 (
 opt.ask _ (p.cmp .lss (1:Int) (0:Int)) (
 opt.need _ (bif (p.cmp .geq (p.ar .sub .i64 a.2.2.2.2.2.2.2.2.2.1 (1:Int)) (0:Int)) then (p.cmp .lss (p.ar .sub .i64 a.2.2.2.2.2.2.2.2.2.1 (1:Int)) (p.ofNat a.2.2.2.2.2.1)) else Bool.false)<|
 opt.need _ (p.rowOk d.1 (p.add a.2.2.2.2.1 (p.nat (p.ar .sub .i64 a.2.2.2.2.2.2.2.2.2.1 (1:Int)))) [ci])<|
 opt.need _ (bif (p.cmp .geq a.2.2.2.2.2.2.2.2.2.1 (0:Int)) then (p.cmp .lss a.2.2.2.2.2.2.2.2.2.1 (p.ofNat a.2.2.2.2.2.1)) else Bool.false)<|
 opt.need _ (p.rowOk d.1 (p.add a.2.2.2.2.1 (p.nat a.2.2.2.2.2.2.2.2.2.1)) [ci])<|
 opt.need _ (bif (p.cmp .geq a.2.2.2.2.2.2.2.2.2.1 (0:Int)) then (p.cmp .lss a.2.2.2.2.2.2.2.2.2.1 (p.ofNat a.2.2.2.2.2.1)) else Bool.false)<|
 opt.need _ (p.rowOk d.1 (p.add a.2.2.2.2.1 (p.nat a.2.2.2.2.2.2.2.2.2.1)) [ci])<|
 opt.need _ (bif (p.cmp .geq (p.ar .sub .i64 a.2.2.2.2.2.2.2.2.2.1 (1:Int)) (0:Int)) then (p.cmp .lss (p.ar .sub .i64 a.2.2.2.2.2.2.2.2.2.1 (1:Int)) (p.ofNat a.2.2.2.2.2.1)) else Bool.false)<|
 opt.need _ (p.rowOk (p.set d.1 (p.add a.2.2.2.2.1 (p.nat a.2.2.2.2.2.2.2.2.2.1)) [(D.int .i64 (p.rdI d.1 (p.add a.2.2.2.2.1 (p.nat (p.ar .sub .i64 a.2.2.2.2.2.2.2.2.2.1 (1:Int)))) 0))]) (p.add a.2.2.2.2.1 (p.nat (p.ar .sub .i64 a.2.2.2.2.2.2.2.2.2.1 (1:Int)))) [ci])<|
 opt.ret _ (Sum.inl ((p.set (p.set d.1 (p.add a.2.2.2.2.1 (p.nat a.2.2.2.2.2.2.2.2.2.1)) [(D.int .i64 (p.rdI d.1 (p.add a.2.2.2.2.1 (p.nat (p.ar .sub .i64 a.2.2.2.2.2.2.2.2.2.1 (1:Int)))) 0))]) (p.add a.2.2.2.2.1 (p.nat (p.ar .sub .i64 a.2.2.2.2.2.2.2.2.2.1 (1:Int)))) [(D.int .i64 (p.rdI d.1 (p.add a.2.2.2.2.1 (p.nat a.2.2.2.2.2.2.2.2.2.1)) 0))]),(d.2.1,(d.2.2.1,(d.2.2.2.1,(a.2.2.2.2.1,(a.2.2.2.2.2.1,(a.2.2.2.2.2.2.1,(a.2.2.2.2.2.2.2.1,(a.2.2.2.2.2.2.2.2.1,((p.ar .sub .i64 a.2.2.2.2.2.2.2.2.2.1 (1:Int)),())))))))))))) (
 opt.ret _ (Sum.inr (d.1,(d.2.1,(d.2.2.1,(d.2.2.2.1,(a.2.2.2.2.1,(a.2.2.2.2.2.1,(a.2.2.2.2.2.2.1,(a.2.2.2.2.2.2.2.1,(a.2.2.2.2.2.2.2.2.1,())))))))))))) (
 opt.ask _ (p.cmp .lss d.2.2.2.2.1 d.2.2.2.2.2.1) (
 opt.ask _ (p.cmp .lss (-1:Int) (0:Int)) (
 opt.need _ (bif (p.cmp .geq (p.ar .sub .i64 a.2.2.2.2.2.2.2.2.2.1 (1:Int)) (0:Int)) then (p.cmp .lss (p.ar .sub .i64 a.2.2.2.2.2.2.2.2.2.1 (1:Int)) (p.ofNat a.2.2.2.2.2.1)) else Bool.false)<|
 opt.need _ (p.rowOk d.1 (p.add a.2.2.2.2.1 (p.nat (p.ar .sub .i64 a.2.2.2.2.2.2.2.2.2.1 (1:Int)))) [ci])<|
 opt.need _ (bif (p.cmp .geq a.2.2.2.2.2.2.2.2.2.1 (0:Int)) then (p.cmp .lss a.2.2.2.2.2.2.2.2.2.1 (p.ofNat a.2.2.2.2.2.1)) else Bool.false)<|
 opt.need _ (p.rowOk d.1 (p.add a.2.2.2.2.1 (p.nat a.2.2.2.2.2.2.2.2.2.1)) [ci])<|
 opt.need _ (bif (p.cmp .geq a.2.2.2.2.2.2.2.2.2.1 (0:Int)) then (p.cmp .lss a.2.2.2.2.2.2.2.2.2.1 (p.ofNat a.2.2.2.2.2.1)) else Bool.false)<|
 opt.need _ (p.rowOk d.1 (p.add a.2.2.2.2.1 (p.nat a.2.2.2.2.2.2.2.2.2.1)) [ci])<|
 opt.need _ (bif (p.cmp .geq (p.ar .sub .i64 a.2.2.2.2.2.2.2.2.2.1 (1:Int)) (0:Int)) then (p.cmp .lss (p.ar .sub .i64 a.2.2.2.2.2.2.2.2.2.1 (1:Int)) (p.ofNat a.2.2.2.2.2.1)) else Bool.false)<|
 opt.need _ (p.rowOk (p.set d.1 (p.add a.2.2.2.2.1 (p.nat a.2.2.2.2.2.2.2.2.2.1)) [(D.int .i64 (p.rdI d.1 (p.add a.2.2.2.2.1 (p.nat (p.ar .sub .i64 a.2.2.2.2.2.2.2.2.2.1 (1:Int)))) 0))]) (p.add a.2.2.2.2.1 (p.nat (p.ar .sub .i64 a.2.2.2.2.2.2.2.2.2.1 (1:Int)))) [ci])<|
 opt.ret _ (Sum.inl ((p.set (p.set d.1 (p.add a.2.2.2.2.1 (p.nat a.2.2.2.2.2.2.2.2.2.1)) [(D.int .i64 (p.rdI d.1 (p.add a.2.2.2.2.1 (p.nat (p.ar .sub .i64 a.2.2.2.2.2.2.2.2.2.1 (1:Int)))) 0))]) (p.add a.2.2.2.2.1 (p.nat (p.ar .sub .i64 a.2.2.2.2.2.2.2.2.2.1 (1:Int)))) [(D.int .i64 (p.rdI d.1 (p.add a.2.2.2.2.1 (p.nat a.2.2.2.2.2.2.2.2.2.1)) 0))]),(d.2.1,(d.2.2.1,(d.2.2.2.1,(a.2.2.2.2.1,(a.2.2.2.2.2.1,(a.2.2.2.2.2.2.1,(a.2.2.2.2.2.2.2.1,(a.2.2.2.2.2.2.2.2.1,((p.ar .sub .i64 a.2.2.2.2.2.2.2.2.2.1 (1:Int)),())))))))))))) (
 opt.ret _ (Sum.inr (d.1,(d.2.1,(d.2.2.1,(d.2.2.2.1,(a.2.2.2.2.1,(a.2.2.2.2.2.1,(a.2.2.2.2.2.2.1,(a.2.2.2.2.2.2.2.1,(a.2.2.2.2.2.2.2.2.1,())))))))))))) (
 opt.ask _ (p.cmp .gtr d.2.2.2.2.1 d.2.2.2.2.2.1) (
 opt.ask _ (p.cmp .lss (1:Int) (0:Int)) (
 opt.need _ (bif (p.cmp .geq (p.ar .sub .i64 a.2.2.2.2.2.2.2.2.2.1 (1:Int)) (0:Int)) then (p.cmp .lss (p.ar .sub .i64 a.2.2.2.2.2.2.2.2.2.1 (1:Int)) (p.ofNat a.2.2.2.2.2.1)) else Bool.false)<|
 opt.need _ (p.rowOk d.1 (p.add a.2.2.2.2.1 (p.nat (p.ar .sub .i64 a.2.2.2.2.2.2.2.2.2.1 (1:Int)))) [ci])<|
 opt.need _ (bif (p.cmp .geq a.2.2.2.2.2.2.2.2.2.1 (0:Int)) then (p.cmp .lss a.2.2.2.2.2.2.2.2.2.1 (p.ofNat a.2.2.2.2.2.1)) else Bool.false)<|
 opt.need _ (p.rowOk d.1 (p.add a.2.2.2.2.1 (p.nat a.2.2.2.2.2.2.2.2.2.1)) [ci])<|
 opt.need _ (bif (p.cmp .geq a.2.2.2.2.2.2.2.2.2.1 (0:Int)) then (p.cmp .lss a.2.2.2.2.2.2.2.2.2.1 (p.ofNat a.2.2.2.2.2.1)) else Bool.false)<|
 opt.need _ (p.rowOk d.1 (p.add a.2.2.2.2.1 (p.nat a.2.2.2.2.2.2.2.2.2.1)) [ci])<|
 opt.need _ (bif (p.cmp .geq (p.ar .sub .i64 a.2.2.2.2.2.2.2.2.2.1 (1:Int)) (0:Int)) then (p.cmp .lss (p.ar .sub .i64 a.2.2.2.2.2.2.2.2.2.1 (1:Int)) (p.ofNat a.2.2.2.2.2.1)) else Bool.false)<|
 opt.need _ (p.rowOk (p.set d.1 (p.add a.2.2.2.2.1 (p.nat a.2.2.2.2.2.2.2.2.2.1)) [(D.int .i64 (p.rdI d.1 (p.add a.2.2.2.2.1 (p.nat (p.ar .sub .i64 a.2.2.2.2.2.2.2.2.2.1 (1:Int)))) 0))]) (p.add a.2.2.2.2.1 (p.nat (p.ar .sub .i64 a.2.2.2.2.2.2.2.2.2.1 (1:Int)))) [ci])<|
 opt.ret _ (Sum.inl ((p.set (p.set d.1 (p.add a.2.2.2.2.1 (p.nat a.2.2.2.2.2.2.2.2.2.1)) [(D.int .i64 (p.rdI d.1 (p.add a.2.2.2.2.1 (p.nat (p.ar .sub .i64 a.2.2.2.2.2.2.2.2.2.1 (1:Int)))) 0))]) (p.add a.2.2.2.2.1 (p.nat (p.ar .sub .i64 a.2.2.2.2.2.2.2.2.2.1 (1:Int)))) [(D.int .i64 (p.rdI d.1 (p.add a.2.2.2.2.1 (p.nat a.2.2.2.2.2.2.2.2.2.1)) 0))]),(d.2.1,(d.2.2.1,(d.2.2.2.1,(a.2.2.2.2.1,(a.2.2.2.2.2.1,(a.2.2.2.2.2.2.1,(a.2.2.2.2.2.2.2.1,(a.2.2.2.2.2.2.2.2.1,((p.ar .sub .i64 a.2.2.2.2.2.2.2.2.2.1 (1:Int)),())))))))))))) (
 opt.ret _ (Sum.inr (d.1,(d.2.1,(d.2.2.1,(d.2.2.2.1,(a.2.2.2.2.1,(a.2.2.2.2.2.1,(a.2.2.2.2.2.2.1,(a.2.2.2.2.2.2.2.1,(a.2.2.2.2.2.2.2.2.1,())))))))))))) (
 opt.ask _ (p.cmp .lss (0:Int) (0:Int)) (
 opt.need _ (bif (p.cmp .geq (p.ar .sub .i64 a.2.2.2.2.2.2.2.2.2.1 (1:Int)) (0:Int)) then (p.cmp .lss (p.ar .sub .i64 a.2.2.2.2.2.2.2.2.2.1 (1:Int)) (p.ofNat a.2.2.2.2.2.1)) else Bool.false)<|
 opt.need _ (p.rowOk d.1 (p.add a.2.2.2.2.1 (p.nat (p.ar .sub .i64 a.2.2.2.2.2.2.2.2.2.1 (1:Int)))) [ci])<|
 opt.need _ (bif (p.cmp .geq a.2.2.2.2.2.2.2.2.2.1 (0:Int)) then (p.cmp .lss a.2.2.2.2.2.2.2.2.2.1 (p.ofNat a.2.2.2.2.2.1)) else Bool.false)<|
 opt.need _ (p.rowOk d.1 (p.add a.2.2.2.2.1 (p.nat a.2.2.2.2.2.2.2.2.2.1)) [ci])<|
 opt.need _ (bif (p.cmp .geq a.2.2.2.2.2.2.2.2.2.1 (0:Int)) then (p.cmp .lss a.2.2.2.2.2.2.2.2.2.1 (p.ofNat a.2.2.2.2.2.1)) else Bool.false)<|
 opt.need _ (p.rowOk d.1 (p.add a.2.2.2.2.1 (p.nat a.2.2.2.2.2.2.2.2.2.1)) [ci])<|
 opt.need _ (bif (p.cmp .geq (p.ar .sub .i64 a.2.2.2.2.2.2.2.2.2.1 (1:Int)) (0:Int)) then (p.cmp .lss (p.ar .sub .i64 a.2.2.2.2.2.2.2.2.2.1 (1:Int)) (p.ofNat a.2.2.2.2.2.1)) else Bool.false)<|
 opt.need _ (p.rowOk (p.set d.1 (p.add a.2.2.2.2.1 (p.nat a.2.2.2.2.2.2.2.2.2.1)) [(D.int .i64 (p.rdI d.1 (p.add a.2.2.2.2.1 (p.nat (p.ar .sub .i64 a.2.2.2.2.2.2.2.2.2.1 (1:Int)))) 0))]) (p.add a.2.2.2.2.1 (p.nat (p.ar .sub .i64 a.2.2.2.2.2.2.2.2.2.1 (1:Int)))) [ci])<|
 opt.ret _ (Sum.inl ((p.set (p.set d.1 (p.add a.2.2.2.2.1 (p.nat a.2.2.2.2.2.2.2.2.2.1)) [(D.int .i64 (p.rdI d.1 (p.add a.2.2.2.2.1 (p.nat (p.ar .sub .i64 a.2.2.2.2.2.2.2.2.2.1 (1:Int)))) 0))]) (p.add a.2.2.2.2.1 (p.nat (p.ar .sub .i64 a.2.2.2.2.2.2.2.2.2.1 (1:Int)))) [(D.int .i64 (p.rdI d.1 (p.add a.2.2.2.2.1 (p.nat a.2.2.2.2.2.2.2.2.2.1)) 0))]),(d.2.1,(d.2.2.1,(d.2.2.2.1,(a.2.2.2.2.1,(a.2.2.2.2.2.1,(a.2.2.2.2.2.2.1,(a.2.2.2.2.2.2.2.1,(a.2.2.2.2.2.2.2.2.1,((p.ar .sub .i64 a.2.2.2.2.2.2.2.2.2.1 (1:Int)),())))))))))))) (
 opt.ret _ (Sum.inr (d.1,(d.2.1,(d.2.2.1,(d.2.2.2.1,(a.2.2.2.2.1,(a.2.2.2.2.2.1,(a.2.2.2.2.2.2.1,(a.2.2.2.2.2.2.2.1,(a.2.2.2.2.2.2.2.2.1,())))))))))))))))) (
 opt.ret _ (Sum.inr (a.1,(a.2.1,(a.2.2.1,(a.2.2.2.1,(a.2.2.2.2.1,(a.2.2.2.2.2.1,(a.2.2.2.2.2.2.1,(a.2.2.2.2.2.2.2.1,(a.2.2.2.2.2.2.2.2.1,()))))))))))))
def y9y (it:It) (p:Prim):(LD×(LD×T10))→Option ((LD×(LD×T10))⊕(LD×(LD×T5))):=
 fun a=>opt.run _ (
 opt.ask _ (p.cmp .lss a.2.2.2.2.2.2.2.2.1 a.2.2.2.2.2.2.2.1) (
 opt.bnd ((LD×(LD×T10))) _ (
 it _ _ (w3n p) (a.1,(a.2.1,(a.2.2.1,(a.2.2.2.1,(a.2.2.2.2.1,(a.2.2.2.2.2.1,(a.2.2.2.2.2.2.1,(a.2.2.2.2.2.2.2.1,(a.2.2.2.2.2.2.2.2.1,(a.2.2.2.2.2.2.2.2.1,()))))))))))) fun b=>
 opt.ret _ (Sum.inl (b.1,(b.2.1,(b.2.2.1,(b.2.2.2.1,(b.2.2.2.2.1,(b.2.2.2.2.2.1,(b.2.2.2.2.2.2.1,(b.2.2.2.2.2.2.2.1,((p.ar .add .i64 b.2.2.2.2.2.2.2.2.1 (1:Int)),()))))))))))) (
 opt.ret _ (Sum.inr (a.1,(a.2.1,(a.2.2.1,(a.2.2.2.1,())))))))
def x4x (it:It):(p:Prim)→(LD×(LD×T17))→Option ((LD×(LD×T5))):=
 fun p x=>
 opt.bnd ((LD×(LD×T5))) _ (
 it _ _ (y9y it p) (x.1,(x.2.1,(x.2.2.1,(x.2.2.2.1,(x.2.2.2.2.1,(x.2.2.2.2.2.1,(x.2.2.2.2.2.2.1,(x.2.2.2.2.2.2.2.1,((p.ar .add .i64 x.2.2.2.2.2.2.1 (1:Int)),())))))))))) fun a=>
 opt.ret _ (a.1,(a.2.1,(a.2.2.1,(a.2.2.2.1,()))))
def w7g:=x4x it0
theorem w4f:CtrOk PG x5q (w7g std):=okF (a:=w6w) (l:=w40) (gN) (by kernel_rfl) fun _ _=>by kernel_rfl
def w0g:Ctr:=
 ⟨86,[.sl 0 1, .int .i64, .clo 67 [] [.bptr 1 0]],[.row [ci], .box [.sl 2 1], .row [ci]],[(.ret,⟨[(0, .tuple [])],[.row [ci], .box [.sl 2 1], .row [ci]],1⟩)]⟩
def w9j:List LA:=
 [⟨86,[false,false,true,true],3,⟨⟨[(0, .sl 0 1),(1, .int .i64),(2, .clo 67 [] [.bptr 1 0]),(6, .int .i64),(7, .int .i64),(8, .int .i64)],[.row [ci], .box [.sl 2 1], .row [ci]],63⟩,[((AX.exit 0),⟨[(0, .sl 0 1),(1, .int .i64),(2, .clo 67 [] [.bptr 1 0]),(6, .int .i64),(7, .int .i64)],[.row [ci], .box [.sl 2 1], .row [ci]],63⟩)]⟩⟩,
 ⟨86,[false,true,true,true,true],3,⟨⟨[(0, .sl 0 1),(1, .int .i64),(2, .clo 67 [] [.bptr 1 0]),(6, .int .i64)],[.row [ci], .box [.sl 2 1], .row [ci]],63⟩,[((AX.exit 2),⟨[],[.row [ci], .box [.sl 2 1], .row [ci]],63⟩)]⟩⟩,
 ⟨86,[false,false,true,false,true,false,false,true,true,true,true],3,⟨⟨[(0, .sl 0 1),(1, .int .i64),(2, .clo 67 [] [.bptr 1 0]),(6, .int .i64),(7, .int .i64),(8, .int .i64)],[.row [ci], .box [.sl 2 1], .row [ci]],63⟩,[((AX.exit 4),⟨[(0, .sl 0 1),(1, .int .i64),(2, .clo 67 [] [.bptr 1 0]),(6, .int .i64),(7, .int .i64)],[.row [ci], .box [.sl 2 1], .row [ci]],63⟩)]⟩⟩]
def w9v:List JA:=
 []
def w47:List CF:=
 [⟨y53,w7i⟩,⟨x5q,w7g⟩]
def v2b:Anns:=
 ⟨w47,w9v,[]⟩
def w6t (p:Prim):(LD×(LD×T13))→Option ((LD×(LD×T13))⊕(LD×(LD×T10))):=
 fun a=>opt.run _ (
 opt.ask _ (p.cmp .leq a.2.2.2.2.2.2.2.2.2.1 a.2.2.2.2.2.2.1) (
 opt.no _ 81) (
 opt.ret _ (Sum.inr (a.1,(a.2.1,(a.2.2.1,(a.2.2.2.1,(a.2.2.2.2.1,(a.2.2.2.2.2.1,(a.2.2.2.2.2.2.1,(a.2.2.2.2.2.2.2.1,(a.2.2.2.2.2.2.2.2.1,()))))))))))))
def x51 (it:It) (p:Prim):(LD×(LD×T17))→Option ((LD×(LD×T17))⊕(LD×(LD×T5))):=
 fun a=>opt.run _ (
 opt.ask _ (p.cmp .lss a.2.2.2.2.2.2.2.1 a.2.2.2.2.2.2.1) (
 opt.bnd ((LD×(LD×T10))) _ (
 it _ _ (w6t p) (a.1,(a.2.1,(a.2.2.1,(a.2.2.2.1,(a.2.2.2.2.1,(a.2.2.2.2.2.1,(a.2.2.2.2.2.2.1,(a.2.2.2.2.2.2.2.1,((0:Int),((p.ar .mul .i64 (2:Int) a.2.2.2.2.2.2.2.1),()))))))))))) fun b=>
 opt.ask _ (p.cmp .lss (p.ar .add .i64 b.2.2.2.2.2.2.2.2.1 b.2.2.2.2.2.2.2.1) b.2.2.2.2.2.2.1) (
 opt.no _ 81) (
 opt.ret _ (Sum.inl (b.1,(b.2.1,(b.2.2.1,(b.2.2.2.1,(b.2.2.2.2.1,(b.2.2.2.2.2.1,(b.2.2.2.2.2.2.1,((p.ar .mul .i64 b.2.2.2.2.2.2.2.1 (2:Int)),()))))))))))) (
 opt.ret _ (Sum.inr (a.1,(a.2.1,(a.2.2.1,(a.2.2.2.1,())))))))
def x52 (it:It) (p:Prim):(LD×(LD×T13))→Option ((LD×(LD×T13))⊕(LD×(LD×T10))):=
 fun a=>opt.run _ (
 opt.ask _ (p.cmp .leq a.2.2.2.2.2.2.2.2.2.1 a.2.2.2.2.2.2.1) (
 opt.bnd ((LD×(LD×T5))) _ (x4x it p (a.1,(a.2.1,(a.2.2.1,(a.2.2.2.1,(a.2.2.2.2.1,(a.2.2.2.2.2.1,(a.2.2.2.2.2.2.2.2.1,(a.2.2.2.2.2.2.2.2.2.1,()))))))))) fun b=>
 opt.ret _ (Sum.inl (b.1,(b.2.1,(b.2.2.1,(b.2.2.2.1,(a.2.2.2.2.1,(a.2.2.2.2.2.1,(a.2.2.2.2.2.2.1,(a.2.2.2.2.2.2.2.1,(a.2.2.2.2.2.2.2.2.2.1,((p.ar .add .i64 a.2.2.2.2.2.2.2.2.2.1 a.2.2.2.2.2.2.2.1),())))))))))))) (
 opt.ret _ (Sum.inr (a.1,(a.2.1,(a.2.2.1,(a.2.2.2.1,(a.2.2.2.2.1,(a.2.2.2.2.2.1,(a.2.2.2.2.2.2.1,(a.2.2.2.2.2.2.2.1,(a.2.2.2.2.2.2.2.2.1,()))))))))))))
def w71 (it:It):(p:Prim)→(LD×(LD×(Nat×(Nat×(Nat×(Nat×(Int×Unit)))))))→Option ((LD×(LD×T5))):=
 fun p x=>
 opt.bnd ((LD×(LD×T10))) _ (
 it _ _ (x52 it p) (x.1,(x.2.1,(x.2.2.1,(x.2.2.2.1,(x.2.2.2.2.1,(x.2.2.2.2.2.1,(x.2.2.2.2.2.2.1,((20:Int),((0:Int),((20:Int),()))))))))))) fun a=>
 opt.bnd ((LD×(LD×T5))) _ (x4x it p (a.1,(a.2.1,(a.2.2.1,(a.2.2.2.1,(a.2.2.2.2.1,(a.2.2.2.2.2.1,(a.2.2.2.2.2.2.2.2.1,(a.2.2.2.2.2.2.1,()))))))))) fun b=>
 opt.bnd ((LD×(LD×T5))) _ (
 it _ _ (x51 it p) (b.1,(b.2.1,(b.2.2.1,(b.2.2.2.1,(a.2.2.2.2.1,(a.2.2.2.2.2.1,(a.2.2.2.2.2.2.1,(a.2.2.2.2.2.2.2.1,()))))))))) fun c=>
 opt.ret _ (c.1,(c.2.1,(c.2.2.1,(c.2.2.2.1,()))))
def v3e:=w71 it0
theorem w8n:CtrOk PG w0g (v3e std):=okF (a:=v2b) (l:=w9j) (gC w4e (gC w4f (gN))) (by kernel_rfl) fun _ _=>by kernel_rfl
def w0j:Ctr:=
 ⟨66,[.sl 0 1, .clo 67 [] [.bptr 1 0]],[.row [ci], .box [.sl 2 1], .row [ci]],[(.ret,⟨[(0, .tuple [])],[.row [ci], .box [.sl 2 1], .row [ci]],1⟩)]⟩
def w9m:List LA:=
 []
def w9y:List JA:=
 []
def w5a:List CF:=
 [⟨w0g,v3e⟩]
def v2e:Anns:=
 ⟨w5a,w9y,[]⟩
def w73 (it:It):(p:Prim)→(LD×(LD×T18))→Option ((LD×(LD×T5))):=
 fun p x=>
 opt.bnd ((LD×(LD×T5))) _ (w71 it p (x.1,(x.2.1,(x.2.2.1,(x.2.2.2.1,(x.2.2.2.2.1,(x.2.2.2.2.2.1,((p.ofNat x.2.2.2.2.2.1),())))))))) fun a=>
 opt.ret _ (a.1,(a.2.1,(a.2.2.1,(a.2.2.2.1,()))))
def v3h:=w73 it0
theorem w8q:CtrOk PG w0j (v3h std):=okF (a:=v2e) (l:=w9m) (gC w8n (gN)) (by kernel_rfl) fun _ _=>by kernel_rfl
end Go.Am
end
noncomputable section
namespace Go.Am
def w54:Ctr:=
 ⟨49,[.bptr 0 0],[.row [ci]],[(.ret,⟨[(0, .list 1)],[.row [ci]],1⟩)]⟩
def la49:List LA:=
 [⟨49,[false,true,false,true,true,true],1,⟨⟨[(0, .bptr 0 0),(3, .full 1 1),(4, .bptr 2 0),(14, .int .i64),(15, .int .i64)],[.row [ci], .row [(CK.list 1)], .box [.int .i64, .int .i64, .int .i64, .int .i64, .int .i64, .int .i64, .int .i64, .int .i64, .int .i64, .int .i64]],65⟩,[((AX.exit 0),⟨[(3, .full 1 1)],[.row [ci], .row [(CK.list 1)]],65⟩)]⟩⟩,
 ⟨49,[false,true,true,true,false,false,true,true,false,false,true,false,true,true,true],1,⟨⟨[(0, .bptr 0 0),(3, .full 1 1),(4, .bptr 2 0),(5, .int .i64),(14, .int .i64),(15, .int .i64),(33, .int .i64),(34, .int .i64)],[.row [ci], .row [(CK.list 1)], .box [.int .i64, .int .i64, .int .i64, .int .i64, .int .i64, .int .i64, .int .i64, .int .i64, .int .i64, .int .i64]],65⟩,[((AX.exit 2),⟨[(0, .bptr 0 0),(3, .full 1 1),(4, .bptr 2 0),(14, .int .i64),(15, .int .i64)],[.row [ci], .row [(CK.list 1)], .box [.int .i64, .int .i64, .int .i64, .int .i64, .int .i64, .int .i64, .int .i64, .int .i64, .int .i64, .int .i64]],65⟩)]⟩⟩]
def ja49:List JA:=
 [⟨49,[true,true,false,false,true,true,false,false,true,true,true,false,false,true,true,false,false,true,false,true,true,true],1,[(AX.normal,⟨[(0, .bptr 0 0),(3, .full 1 1),(4, .bptr 2 0),(5, .int .i64),(14, .int .i64),(15, .int .i64),(33, .int .i64),(34, .int .i64)],[.row [ci], .row [(CK.list 1)], .box [.int .i64, .int .i64, .int .i64, .int .i64, .int .i64, .int .i64, .int .i64, .int .i64, .int .i64, .int .i64]],65⟩)]⟩,
 ⟨49,[false,true,true,false,false,true,false,true,true,true],1,[(AX.normal,⟨[(0, .bptr 0 0),(3, .full 1 1),(4, .bptr 2 0),(14, .int .i64),(15, .int .i64)],[.row [ci], .row [(CK.list 1)], .box [.int .i64, .int .i64, .int .i64, .int .i64, .int .i64, .int .i64, .int .i64, .int .i64, .int .i64, .int .i64]],65⟩)]⟩]
def v0s:List CF:=
 []
def an49:Anns:=
 ⟨v0s,ja49,[]⟩
def v11 (p:Prim):(LD×(LD×T21))→Option ((LD×(LD×T21))⊕(LD×(LD×T14))):=
 fun a=>opt.run _ (
 opt.ask _ (p.cmp .lss a.2.2.2.2.2.2.2.2.2.2.2.2.2.2.2.2.1 a.2.2.2.2.2.2.2.2.2.2.2.2.2.2.2.1) (
 opt.need _ (bif (p.cmp .geq a.2.2.2.2.2.2.2.2.2.2.2.2.1 (0:Int)) then (p.cmp .lss a.2.2.2.2.2.2.2.2.2.2.2.2.1 (p.ofNat 10)) else Bool.false)<|
 opt.need _ (bif (p.cmp .geq a.2.2.2.2.2.2.2.2.2.2.2.2.2.2.2.2.1 (0:Int)) then (p.cmp .lss a.2.2.2.2.2.2.2.2.2.2.2.2.2.2.2.2.1 (p.ofNat 10)) else Bool.false)<|
 opt.need _ (p.rowOk a.1 (p.add (p.add 1 (p.mul (p.nat a.2.2.2.2.2.2.2.2.2.2.2.2.1) 10)) (p.nat a.2.2.2.2.2.2.2.2.2.2.2.2.2.2.2.2.1)) [ci])<|
 opt.bnd ((LD×(LD×T21))) _ (
 opt.run ((LD×(LD×T21))) (
 opt.ask _ (p.cmp .eql (p.rdI a.1 (p.add (p.add 1 (p.mul (p.nat a.2.2.2.2.2.2.2.2.2.2.2.2.1) 10)) (p.nat a.2.2.2.2.2.2.2.2.2.2.2.2.2.2.2.2.1)) 0) (1:Int)) (
 opt.need _ (bif (p.cmp .geq a.2.2.2.2.2.2.2.2.2.2.2.2.1 (0:Int)) then (p.cmp .lss a.2.2.2.2.2.2.2.2.2.2.2.2.1 (p.ofNat (p.len a.2.1))) else Bool.false)<|
 opt.need _ (p.rowOk a.2.1 (p.add 0 (p.nat a.2.2.2.2.2.2.2.2.2.2.2.2.1)) [(CK.list 1)])<|
 opt.need _ (bif (p.cmp .geq a.2.2.2.2.2.2.2.2.2.2.2.2.1 (0:Int)) then (p.cmp .lss a.2.2.2.2.2.2.2.2.2.2.2.2.1 (p.ofNat (p.len a.2.1))) else Bool.false)<|
 opt.need _ (p.rowOk a.2.1 (p.add 0 (p.nat a.2.2.2.2.2.2.2.2.2.2.2.2.1)) [(CK.list 1)])<|
 opt.need _ (bif (p.cmp .geq a.2.2.2.2.2.2.2.2.2.2.2.2.1 (0:Int)) then (p.cmp .lss a.2.2.2.2.2.2.2.2.2.2.2.2.1 (p.ofNat (p.len a.2.1))) else Bool.false)<|
 opt.need _ (p.rowOk a.2.1 (p.add 0 (p.nat a.2.2.2.2.2.2.2.2.2.2.2.2.1)) [(CK.list 1)])<|
 opt.need _ (p.and (p.cmp .geq (0:Int) (0:Int)) (p.and (p.cmp .leq (0:Int) (p.ofNat (p.len (p.rdL a.2.1 (p.add 0 (p.nat a.2.2.2.2.2.2.2.2.2.2.2.2.1)) 0)))) (p.and (p.cmp .leq (p.ofNat (p.len (p.rdL a.2.1 (p.add 0 (p.nat a.2.2.2.2.2.2.2.2.2.2.2.2.1)) 0))) (p.ofNat (p.len (p.rdL a.2.1 (p.add 0 (p.nat a.2.2.2.2.2.2.2.2.2.2.2.2.1)) 0)))) (p.cmp .leq (p.ofNat (p.len (p.rdL a.2.1 (p.add 0 (p.nat a.2.2.2.2.2.2.2.2.2.2.2.2.1)) 0))) (p.ofNat (p.len (p.rdL a.2.1 (p.add 0 (p.nat a.2.2.2.2.2.2.2.2.2.2.2.2.1)) 0)))))))<|
 opt.ask _ (p.cmp .eql (p.ofNat (p.len (p.rdL a.2.1 (p.add 0 (p.nat a.2.2.2.2.2.2.2.2.2.2.2.2.1)) 0))) (p.ofNat (p.len (p.rdL a.2.1 (p.add 0 (p.nat a.2.2.2.2.2.2.2.2.2.2.2.2.1)) 0)))) (
 opt.need _ (p.and (p.leN (p.add 0 1) (p.len [[(D.int .i64 a.2.2.2.2.2.2.2.2.2.2.2.2.2.2.2.2.1)]])) (p.and (p.leN 1 1) (p.leN (p.add (p.len (p.cut (p.rdL a.2.1 (p.add 0 (p.nat a.2.2.2.2.2.2.2.2.2.2.2.2.1)) 0) (p.nat (0:Int)) (p.sub (p.nat (p.ofNat (p.len (p.rdL a.2.1 (p.add 0 (p.nat a.2.2.2.2.2.2.2.2.2.2.2.2.1)) 0)))) (p.nat (0:Int))))) 1) 1000000)))<|
 opt.need _ (bif (p.cmp .geq a.2.2.2.2.2.2.2.2.2.2.2.2.1 (0:Int)) then (p.cmp .lss a.2.2.2.2.2.2.2.2.2.2.2.2.1 (p.ofNat (p.len a.2.1))) else Bool.false)<|
 opt.need _ (p.rowOk a.2.1 (p.add 0 (p.nat a.2.2.2.2.2.2.2.2.2.2.2.2.1)) [(CK.list 1)])<|
 opt.need _ (p.eqN 0 0)<|
 opt.need _ (p.eqN (p.len a.2.1) (p.len (p.set a.2.1 (p.add 0 (p.nat a.2.2.2.2.2.2.2.2.2.2.2.2.1)) [(D.list Bool.false 1 (p.app (p.cut (p.rdL a.2.1 (p.add 0 (p.nat a.2.2.2.2.2.2.2.2.2.2.2.2.1)) 0) (p.nat (0:Int)) (p.sub (p.nat (p.ofNat (p.len (p.rdL a.2.1 (p.add 0 (p.nat a.2.2.2.2.2.2.2.2.2.2.2.2.1)) 0)))) (p.nat (0:Int)))) (p.cut [[(D.int .i64 a.2.2.2.2.2.2.2.2.2.2.2.2.2.2.2.2.1)]] 0 1)))])))<|
 opt.need _ (p.eqN (p.len a.2.1) (p.len (p.set a.2.1 (p.add 0 (p.nat a.2.2.2.2.2.2.2.2.2.2.2.2.1)) [(D.list Bool.false 1 (p.app (p.cut (p.rdL a.2.1 (p.add 0 (p.nat a.2.2.2.2.2.2.2.2.2.2.2.2.1)) 0) (p.nat (0:Int)) (p.sub (p.nat (p.ofNat (p.len (p.rdL a.2.1 (p.add 0 (p.nat a.2.2.2.2.2.2.2.2.2.2.2.2.1)) 0)))) (p.nat (0:Int)))) (p.cut [[(D.int .i64 a.2.2.2.2.2.2.2.2.2.2.2.2.2.2.2.2.1)]] 0 1)))])))<|
 opt.ret _ (a.1,((p.set a.2.1 (p.add 0 (p.nat a.2.2.2.2.2.2.2.2.2.2.2.2.1)) [(D.list Bool.false 1 (p.app (p.cut (p.rdL a.2.1 (p.add 0 (p.nat a.2.2.2.2.2.2.2.2.2.2.2.2.1)) 0) (p.nat (0:Int)) (p.sub (p.nat (p.ofNat (p.len (p.rdL a.2.1 (p.add 0 (p.nat a.2.2.2.2.2.2.2.2.2.2.2.2.1)) 0)))) (p.nat (0:Int)))) (p.cut [[(D.int .i64 a.2.2.2.2.2.2.2.2.2.2.2.2.2.2.2.2.1)]] 0 1)))]),(a.2.2.1,(a.2.2.2.1,(a.2.2.2.2.1,(a.2.2.2.2.2.1,(a.2.2.2.2.2.2.1,(a.2.2.2.2.2.2.2.1,(a.2.2.2.2.2.2.2.2.1,(a.2.2.2.2.2.2.2.2.2.1,(a.2.2.2.2.2.2.2.2.2.2.1,(a.2.2.2.2.2.2.2.2.2.2.2.1,(a.2.2.2.2.2.2.2.2.2.2.2.2.1,(a.2.2.2.2.2.2.2.2.2.2.2.2.2.1,(a.2.2.2.2.2.2.2.2.2.2.2.2.2.2.1,(a.2.2.2.2.2.2.2.2.2.2.2.2.2.2.2.1,(a.2.2.2.2.2.2.2.2.2.2.2.2.2.2.2.2.1,())))))))))))))))))) (
 opt.no _ 41)) (
 opt.need _ (p.eqN 0 0)<|
 opt.need _ (p.eqN (p.len a.2.1) (p.len a.2.1))<|
 opt.need _ (p.eqN (p.len a.2.1) (p.len a.2.1))<|
 opt.ret _ (a.1,(a.2.1,(a.2.2.1,(a.2.2.2.1,(a.2.2.2.2.1,(a.2.2.2.2.2.1,(a.2.2.2.2.2.2.1,(a.2.2.2.2.2.2.2.1,(a.2.2.2.2.2.2.2.2.1,(a.2.2.2.2.2.2.2.2.2.1,(a.2.2.2.2.2.2.2.2.2.2.1,(a.2.2.2.2.2.2.2.2.2.2.2.1,(a.2.2.2.2.2.2.2.2.2.2.2.2.1,(a.2.2.2.2.2.2.2.2.2.2.2.2.2.1,(a.2.2.2.2.2.2.2.2.2.2.2.2.2.2.1,(a.2.2.2.2.2.2.2.2.2.2.2.2.2.2.2.1,(a.2.2.2.2.2.2.2.2.2.2.2.2.2.2.2.2.1,())))))))))))))))))))) fun b=>
 opt.need _ (p.eqN 0 0)<|
 opt.need _ (p.eqN (p.len b.2.1) (p.len b.2.1))<|
 opt.need _ (p.eqN (p.len b.2.1) (p.len b.2.1))<|
 opt.ret _ (Sum.inl (b.1,(b.2.1,(b.2.2.1,(b.2.2.2.1,(b.2.2.2.2.1,(b.2.2.2.2.2.1,(b.2.2.2.2.2.2.1,(b.2.2.2.2.2.2.2.1,(b.2.2.2.2.2.2.2.2.1,(b.2.2.2.2.2.2.2.2.2.1,(b.2.2.2.2.2.2.2.2.2.2.1,(b.2.2.2.2.2.2.2.2.2.2.2.1,(b.2.2.2.2.2.2.2.2.2.2.2.2.1,(b.2.2.2.2.2.2.2.2.2.2.2.2.2.1,(b.2.2.2.2.2.2.2.2.2.2.2.2.2.2.1,(b.2.2.2.2.2.2.2.2.2.2.2.2.2.2.2.1,((p.ar .add .i64 b.2.2.2.2.2.2.2.2.2.2.2.2.2.2.2.2.1 (1:Int)),()))))))))))))))))))) (
 opt.need _ (p.eqN 0 0)<|
 opt.need _ (p.eqN (p.len a.2.1) (p.len a.2.1))<|
 opt.need _ (p.eqN (p.len a.2.1) (p.len a.2.1))<|
 opt.ret _ (Sum.inr (a.1,(a.2.1,(a.2.2.1,(a.2.2.2.1,(a.2.2.2.2.1,(a.2.2.2.2.2.1,(a.2.2.2.2.2.2.1,(a.2.2.2.2.2.2.2.1,(a.2.2.2.2.2.2.2.2.1,(a.2.2.2.2.2.2.2.2.2.1,(a.2.2.2.2.2.2.2.2.2.2.1,(a.2.2.2.2.2.2.2.2.2.2.2.1,(a.2.2.2.2.2.2.2.2.2.2.2.2.2.1,(a.2.2.2.2.2.2.2.2.2.2.2.2.2.2.1,())))))))))))))))))
def w3e (it:It) (p:Prim):(LD×(LD×T14))→Option ((LD×(LD×T14))⊕(LD×(LD×Unit))):=
 fun a=>opt.run _ (
 opt.ask _ (p.cmp .lss a.2.2.2.2.2.2.2.2.2.2.2.2.2.1 a.2.2.2.2.2.2.2.2.2.2.2.2.1) (
 opt.bnd ((LD×(LD×T14))) _ (
 opt.run ((LD×(LD×T14))) (
 opt.need _ (bif (p.cmp .geq a.2.2.2.2.2.2.2.2.2.2.2.2.2.1 (0:Int)) then (p.cmp .lss a.2.2.2.2.2.2.2.2.2.2.2.2.2.1 (p.ofNat 10)) else Bool.false)<|
 opt.need _ (p.rowOk a.1 (p.add 1 (p.mul (p.nat a.2.2.2.2.2.2.2.2.2.2.2.2.2.1) 10)) [ci])<|
 opt.need _ (p.rowOk a.1 (p.add (p.add 1 (p.mul (p.nat a.2.2.2.2.2.2.2.2.2.2.2.2.2.1) 10)) 1) [ci])<|
 opt.need _ (p.rowOk a.1 (p.add (p.add 1 (p.mul (p.nat a.2.2.2.2.2.2.2.2.2.2.2.2.2.1) 10)) 2) [ci])<|
 opt.need _ (p.rowOk a.1 (p.add (p.add 1 (p.mul (p.nat a.2.2.2.2.2.2.2.2.2.2.2.2.2.1) 10)) 3) [ci])<|
 opt.need _ (p.rowOk a.1 (p.add (p.add 1 (p.mul (p.nat a.2.2.2.2.2.2.2.2.2.2.2.2.2.1) 10)) 4) [ci])<|
 opt.need _ (p.rowOk a.1 (p.add (p.add 1 (p.mul (p.nat a.2.2.2.2.2.2.2.2.2.2.2.2.2.1) 10)) 5) [ci])<|
 opt.need _ (p.rowOk a.1 (p.add (p.add 1 (p.mul (p.nat a.2.2.2.2.2.2.2.2.2.2.2.2.2.1) 10)) 6) [ci])<|
 opt.need _ (p.rowOk a.1 (p.add (p.add 1 (p.mul (p.nat a.2.2.2.2.2.2.2.2.2.2.2.2.2.1) 10)) 7) [ci])<|
 opt.need _ (p.rowOk a.1 (p.add (p.add 1 (p.mul (p.nat a.2.2.2.2.2.2.2.2.2.2.2.2.2.1) 10)) 8) [ci])<|
 opt.need _ (p.rowOk a.1 (p.add (p.add 1 (p.mul (p.nat a.2.2.2.2.2.2.2.2.2.2.2.2.2.1) 10)) 9) [ci])<|
 opt.ask _ (bif (p.cmp .eql (p.rdI a.1 (p.add 1 (p.mul (p.nat a.2.2.2.2.2.2.2.2.2.2.2.2.2.1) 10)) 0) a.2.2.1) then (bif (p.cmp .eql (p.rdI a.1 (p.add (p.add 1 (p.mul (p.nat a.2.2.2.2.2.2.2.2.2.2.2.2.2.1) 10)) 1) 0) a.2.2.2.1) then (bif (p.cmp .eql (p.rdI a.1 (p.add (p.add 1 (p.mul (p.nat a.2.2.2.2.2.2.2.2.2.2.2.2.2.1) 10)) 2) 0) a.2.2.2.2.1) then (bif (p.cmp .eql (p.rdI a.1 (p.add (p.add 1 (p.mul (p.nat a.2.2.2.2.2.2.2.2.2.2.2.2.2.1) 10)) 3) 0) a.2.2.2.2.2.1) then (bif (p.cmp .eql (p.rdI a.1 (p.add (p.add 1 (p.mul (p.nat a.2.2.2.2.2.2.2.2.2.2.2.2.2.1) 10)) 4) 0) a.2.2.2.2.2.2.1) then (bif (p.cmp .eql (p.rdI a.1 (p.add (p.add 1 (p.mul (p.nat a.2.2.2.2.2.2.2.2.2.2.2.2.2.1) 10)) 5) 0) a.2.2.2.2.2.2.2.1) then (bif (p.cmp .eql (p.rdI a.1 (p.add (p.add 1 (p.mul (p.nat a.2.2.2.2.2.2.2.2.2.2.2.2.2.1) 10)) 6) 0) a.2.2.2.2.2.2.2.2.1) then (bif (p.cmp .eql (p.rdI a.1 (p.add (p.add 1 (p.mul (p.nat a.2.2.2.2.2.2.2.2.2.2.2.2.2.1) 10)) 7) 0) a.2.2.2.2.2.2.2.2.2.1) then (bif (p.cmp .eql (p.rdI a.1 (p.add (p.add 1 (p.mul (p.nat a.2.2.2.2.2.2.2.2.2.2.2.2.2.1) 10)) 8) 0) a.2.2.2.2.2.2.2.2.2.2.1) then (bif (p.cmp .eql (p.rdI a.1 (p.add (p.add 1 (p.mul (p.nat a.2.2.2.2.2.2.2.2.2.2.2.2.2.1) 10)) 9) 0) a.2.2.2.2.2.2.2.2.2.2.2.1) then Bool.true else Bool.false) else Bool.false) else Bool.false) else Bool.false) else Bool.false) else Bool.false) else Bool.false) else Bool.false) else Bool.false) else Bool.false) (
 opt.need _ (bif (p.cmp .geq a.2.2.2.2.2.2.2.2.2.2.2.2.2.1 (0:Int)) then (p.cmp .lss a.2.2.2.2.2.2.2.2.2.2.2.2.2.1 (p.ofNat (p.len a.2.1))) else Bool.false)<|
 opt.need _ (p.rowOk a.2.1 (p.add 0 (p.nat a.2.2.2.2.2.2.2.2.2.2.2.2.2.1)) [(CK.list 1)])<|
 opt.need _ (p.eqN 0 0)<|
 opt.need _ (p.eqN (p.len a.2.1) (p.len (p.set a.2.1 (p.add 0 (p.nat a.2.2.2.2.2.2.2.2.2.2.2.2.2.1)) [(D.list Bool.true 1 [])])))<|
 opt.need _ (p.eqN (p.len a.2.1) (p.len (p.set a.2.1 (p.add 0 (p.nat a.2.2.2.2.2.2.2.2.2.2.2.2.2.1)) [(D.list Bool.true 1 [])])))<|
 opt.ret _ (a.1,((p.set a.2.1 (p.add 0 (p.nat a.2.2.2.2.2.2.2.2.2.2.2.2.2.1)) [(D.list Bool.true 1 [])]),(a.2.2.1,(a.2.2.2.1,(a.2.2.2.2.1,(a.2.2.2.2.2.1,(a.2.2.2.2.2.2.1,(a.2.2.2.2.2.2.2.1,(a.2.2.2.2.2.2.2.2.1,(a.2.2.2.2.2.2.2.2.2.1,(a.2.2.2.2.2.2.2.2.2.2.1,(a.2.2.2.2.2.2.2.2.2.2.2.1,(a.2.2.2.2.2.2.2.2.2.2.2.2.1,(a.2.2.2.2.2.2.2.2.2.2.2.2.2.1,()))))))))))))))) (
 opt.need _ (p.rowOk a.1 0 [ci])<|
 opt.need _ (p.eqN 0 0)<|
 opt.need _ (p.eqN (p.len a.2.1) (p.len a.2.1))<|
 opt.need _ (p.eqN (p.len a.2.1) (p.len a.2.1))<|
 opt.bnd ((LD×(LD×T14))) _ (
 it _ _ (v11 p) (a.1,(a.2.1,(a.2.2.1,(a.2.2.2.1,(a.2.2.2.2.1,(a.2.2.2.2.2.1,(a.2.2.2.2.2.2.1,(a.2.2.2.2.2.2.2.1,(a.2.2.2.2.2.2.2.2.1,(a.2.2.2.2.2.2.2.2.2.1,(a.2.2.2.2.2.2.2.2.2.2.1,(a.2.2.2.2.2.2.2.2.2.2.2.1,(a.2.2.2.2.2.2.2.2.2.2.2.2.2.1,(a.2.2.2.2.2.2.2.2.2.2.2.2.1,(a.2.2.2.2.2.2.2.2.2.2.2.2.2.1,((p.rdI a.1 0 0),((0:Int),())))))))))))))))))) fun b=>
 opt.need _ (p.eqN 0 0)<|
 opt.need _ (p.eqN (p.len b.2.1) (p.len b.2.1))<|
 opt.need _ (p.eqN (p.len b.2.1) (p.len b.2.1))<|
 opt.ret _ (b.1,(b.2.1,(b.2.2.1,(b.2.2.2.1,(b.2.2.2.2.1,(b.2.2.2.2.2.1,(b.2.2.2.2.2.2.1,(b.2.2.2.2.2.2.2.1,(b.2.2.2.2.2.2.2.2.1,(b.2.2.2.2.2.2.2.2.2.1,(b.2.2.2.2.2.2.2.2.2.2.1,(b.2.2.2.2.2.2.2.2.2.2.2.1,(b.2.2.2.2.2.2.2.2.2.2.2.2.1,(b.2.2.2.2.2.2.2.2.2.2.2.2.2.1,()))))))))))))))))) fun c=>
 opt.need _ (p.eqN 0 0)<|
 opt.need _ (p.eqN (p.len c.2.1) (p.len c.2.1))<|
 opt.need _ (p.eqN (p.len c.2.1) (p.len c.2.1))<|
 opt.ret _ (Sum.inl (c.1,(c.2.1,(c.2.2.1,(c.2.2.2.1,(c.2.2.2.2.1,(c.2.2.2.2.2.1,(c.2.2.2.2.2.2.1,(c.2.2.2.2.2.2.2.1,(c.2.2.2.2.2.2.2.2.1,(c.2.2.2.2.2.2.2.2.2.1,(c.2.2.2.2.2.2.2.2.2.2.1,(c.2.2.2.2.2.2.2.2.2.2.2.1,(c.2.2.2.2.2.2.2.2.2.2.2.2.1,((p.ar .add .i64 c.2.2.2.2.2.2.2.2.2.2.2.2.2.1 (1:Int)),())))))))))))))))) (
 opt.need _ (p.eqN 0 0)<|
 opt.need _ (p.eqN (p.len a.2.1) (p.len a.2.1))<|
 opt.need _ (p.eqN (p.len a.2.1) (p.len a.2.1))<|
 opt.ret _ (Sum.inr (a.1,(a.2.1,())))))
def g49 (it:It):(p:Prim)→(LD×Unit)→Option ((LD×(LD×Unit))):=
 fun p x=>
 opt.need _ (p.rowOk x.1 0 [ci])<|
 opt.need _ (p.and (p.cmp .geq (p.rdI x.1 0 0) (0:Int)) (p.and (p.cmp .leq (p.rdI x.1 0 0) (p.rdI x.1 0 0)) (p.cmp .leq (p.rdI x.1 0 0) (1000000:Int))))<|
 opt.need _ (p.eqN 0 0)<|
 opt.need _ (p.eqN (p.nat (p.rdI x.1 0 0)) (p.len (p.rep (p.nat (p.rdI x.1 0 0)) [(D.list Bool.true 0 [])])))<|
 opt.need _ (p.eqN (p.nat (p.rdI x.1 0 0)) (p.len (p.rep (p.nat (p.rdI x.1 0 0)) [(D.list Bool.true 0 [])])))<|
 opt.bnd ((LD×(LD×Unit))) _ (
 it _ _ (w3e it p) (x.1,((p.rep (p.nat (p.rdI x.1 0 0)) [(D.list Bool.true 0 [])]),((0:Int),((0:Int),((0:Int),((0:Int),((0:Int),((0:Int),((0:Int),((0:Int),((0:Int),((0:Int),((p.ofNat (p.nat (p.rdI x.1 0 0))),((0:Int),()))))))))))))))) fun a=>
 opt.need _ (p.leN (p.add 0 (p.len a.2.1)) (p.len a.2.1))<|
 opt.ret _ (a.1,((p.cut a.2.1 0 (p.len a.2.1)),()))
def G49:=g49 it0
theorem ok49:CtrOk PG w54 (G49 std):=okF (a:=an49) (l:=la49) (gN) (by kernel_rfl) fun _ _=>by kernel_rfl
def w6c:Ctr:=
 ⟨30,[.list 1],[],[(.ret,⟨[(0, .tuple [.list 1, .int .i64])],[],1⟩)]⟩
def la30:List LA:=
 [⟨30,[false,true,false,true,true,true,true,true,true],0,⟨⟨[(7, .bptr 0 0),(8, .bptr 1 0),(9, .vec 3 1),(31, .int .i64),(32, .int .i64)],[.row [ci], .box [.sl 2 1], .row [ci], .row [ci]],82⟩,[((AX.exit 0),⟨[(7, .bptr 0 0),(8, .bptr 1 0),(9, .vec 2 1)],[.row [ci], .box [.sl 3 1], .row [ci], .row [ci]],82⟩)]⟩⟩,
 ⟨30,[false,false,true,true,true,true,true,true,true],0,⟨⟨[(7, .bptr 0 0),(8, .bptr 1 0),(9, .sl 2 1)],[.row [ci], .box [.sl 3 1], .row [ci], .row [ci]],82⟩,[((AX.exit 2),⟨[(7, .bptr 0 0)],[.row [ci]],82⟩)]⟩⟩,
 ⟨30,[false,true,true,true,true,false,true,false,false,false,true,true,true,true,true,true,true],0,⟨⟨[(7, .bptr 0 0),(8, .bptr 1 0),(9, .sl 2 1),(11, .int .i64),(51, .sl 2 1),(52, .int .i64),(53, .int .i64)],[.row [ci], .box [.sl 3 1], .row [ci], .row [ci]],82⟩,[((AX.exit 4),⟨[(7, .bptr 0 0),(8, .bptr 1 0),(9, .sl 2 1)],[.row [ci], .box [.sl 3 1], .row [ci], .row [ci]],82⟩)]⟩⟩]
def ja30:List JA:=
 [⟨30,[true,true,false,false,true,true,false,false,true,true,true,true,false,true,false,false,false,true,true,true,true,true,true,true],0,[(AX.normal,⟨[(7, .bptr 0 0),(8, .bptr 1 0),(9, .sl 2 1),(11, .int .i64),(51, .sl 2 1),(52, .int .i64),(53, .int .i64)],[.row [ci], .box [.sl 3 1], .row [ci], .row [ci]],82⟩)]⟩]
def v06:List CF:=
 [⟨w54,G49⟩,⟨w0j,v3h⟩,⟨w50,G65⟩,⟨w25,G64⟩,⟨x8s,G61⟩]
def an30:Anns:=
 ⟨v06,ja30,[]⟩
def v12 (p:Prim):(LD×(LD×(LD×T22)))→Option ((LD×(LD×(LD×T22)))⊕(LD×(LD×(LD×T18)))):=
 fun a=>opt.run _ (
 opt.ask _ (p.cmp .lss a.2.2.2.2.2.2.2.2.2.2.2.1 a.2.2.2.2.2.2.2.2.2.2.1) (
 opt.need _ (bif (p.cmp .geq a.2.2.2.2.2.2.2.2.2.2.2.1 (0:Int)) then (p.cmp .lss a.2.2.2.2.2.2.2.2.2.2.2.1 (p.ofNat a.2.2.2.2.2.2.2.2.2.1)) else Bool.false)<|
 opt.need _ (p.rowOk a.2.1 (p.add a.2.2.2.2.2.2.2.2.1 (p.nat a.2.2.2.2.2.2.2.2.2.2.2.1)) [ci])<|
 opt.need _ (bif (p.cmp .geq a.2.2.2.2.2.2.2.1 (0:Int)) then (p.cmp .lss a.2.2.2.2.2.2.2.1 (p.ofNat a.2.2.2.2.1)) else Bool.false)<|
 opt.need _ (p.rowOk a.2.2.1 (p.add a.2.2.2.1 (p.nat a.2.2.2.2.2.2.2.1)) [ci])<|
 opt.bnd ((LD×(LD×(LD×T22)))) _ (
 opt.run ((LD×(LD×(LD×T22)))) (
 opt.ask _ (p.cmp .lss a.2.2.2.2.2.2.2.2.2.2.2.1 (p.rdI a.2.2.1 (p.add a.2.2.2.1 (p.nat a.2.2.2.2.2.2.2.1)) 0)) (
 opt.need _ (bif (p.cmp .geq a.2.2.2.2.2.2.2.1 (0:Int)) then (p.cmp .lss a.2.2.2.2.2.2.2.1 (p.ofNat 10)) else Bool.false)<|
 opt.need _ (bif (p.cmp .geq (p.rdI a.2.1 (p.add a.2.2.2.2.2.2.2.2.1 (p.nat a.2.2.2.2.2.2.2.2.2.2.2.1)) 0) (0:Int)) then (p.cmp .lss (p.rdI a.2.1 (p.add a.2.2.2.2.2.2.2.2.1 (p.nat a.2.2.2.2.2.2.2.2.2.2.2.1)) 0) (p.ofNat 10)) else Bool.false)<|
 opt.need _ (p.rowOk a.1 (p.add (p.add 1 (p.mul (p.nat a.2.2.2.2.2.2.2.1) 10)) (p.nat (p.rdI a.2.1 (p.add a.2.2.2.2.2.2.2.2.1 (p.nat a.2.2.2.2.2.2.2.2.2.2.2.1)) 0))) [ci])<|
 opt.ret _ ((p.set a.1 (p.add (p.add 1 (p.mul (p.nat a.2.2.2.2.2.2.2.1) 10)) (p.nat (p.rdI a.2.1 (p.add a.2.2.2.2.2.2.2.2.1 (p.nat a.2.2.2.2.2.2.2.2.2.2.2.1)) 0))) [k1k]),(a.2.1,(a.2.2.1,(a.2.2.2.1,(a.2.2.2.2.1,(a.2.2.2.2.2.1,(a.2.2.2.2.2.2.1,(a.2.2.2.2.2.2.2.1,(a.2.2.2.2.2.2.2.2.1,(a.2.2.2.2.2.2.2.2.2.1,(a.2.2.2.2.2.2.2.2.2.2.1,(a.2.2.2.2.2.2.2.2.2.2.2.1,()))))))))))))) (
 opt.need _ (bif (p.cmp .geq (p.rdI a.2.1 (p.add a.2.2.2.2.2.2.2.2.1 (p.nat a.2.2.2.2.2.2.2.2.2.2.2.1)) 0) (0:Int)) then (p.cmp .lss (p.rdI a.2.1 (p.add a.2.2.2.2.2.2.2.2.1 (p.nat a.2.2.2.2.2.2.2.2.2.2.2.1)) 0) (p.ofNat 10)) else Bool.false)<|
 opt.need _ (bif (p.cmp .geq a.2.2.2.2.2.2.2.1 (0:Int)) then (p.cmp .lss a.2.2.2.2.2.2.2.1 (p.ofNat 10)) else Bool.false)<|
 opt.need _ (p.rowOk a.1 (p.add (p.add 1 (p.mul (p.nat (p.rdI a.2.1 (p.add a.2.2.2.2.2.2.2.2.1 (p.nat a.2.2.2.2.2.2.2.2.2.2.2.1)) 0)) 10)) (p.nat a.2.2.2.2.2.2.2.1)) [ci])<|
 opt.need _ (bif (p.cmp .geq (p.rdI a.2.1 (p.add a.2.2.2.2.2.2.2.2.1 (p.nat a.2.2.2.2.2.2.2.2.2.2.2.1)) 0) (0:Int)) then (p.cmp .lss (p.rdI a.2.1 (p.add a.2.2.2.2.2.2.2.2.1 (p.nat a.2.2.2.2.2.2.2.2.2.2.2.1)) 0) (p.ofNat a.2.2.2.2.1)) else Bool.false)<|
 opt.need _ (p.rowOk a.2.2.1 (p.add a.2.2.2.1 (p.nat (p.rdI a.2.1 (p.add a.2.2.2.2.2.2.2.2.1 (p.nat a.2.2.2.2.2.2.2.2.2.2.2.1)) 0))) [ci])<|
 opt.need _ (bif (p.cmp .geq (p.rdI a.2.1 (p.add a.2.2.2.2.2.2.2.2.1 (p.nat a.2.2.2.2.2.2.2.2.2.2.2.1)) 0) (0:Int)) then (p.cmp .lss (p.rdI a.2.1 (p.add a.2.2.2.2.2.2.2.2.1 (p.nat a.2.2.2.2.2.2.2.2.2.2.2.1)) 0) (p.ofNat a.2.2.2.2.1)) else Bool.false)<|
 opt.need _ (p.rowOk a.2.2.1 (p.add a.2.2.2.1 (p.nat (p.rdI a.2.1 (p.add a.2.2.2.2.2.2.2.2.1 (p.nat a.2.2.2.2.2.2.2.2.2.2.2.1)) 0))) [ci])<|
 opt.ret _ ((p.set a.1 (p.add (p.add 1 (p.mul (p.nat (p.rdI a.2.1 (p.add a.2.2.2.2.2.2.2.2.1 (p.nat a.2.2.2.2.2.2.2.2.2.2.2.1)) 0)) 10)) (p.nat a.2.2.2.2.2.2.2.1)) [k1k]),(a.2.1,((p.set a.2.2.1 (p.add a.2.2.2.1 (p.nat (p.rdI a.2.1 (p.add a.2.2.2.2.2.2.2.2.1 (p.nat a.2.2.2.2.2.2.2.2.2.2.2.1)) 0))) [(D.int .i64 (p.ar .sub .i64 (p.rdI a.2.2.1 (p.add a.2.2.2.1 (p.nat (p.rdI a.2.1 (p.add a.2.2.2.2.2.2.2.2.1 (p.nat a.2.2.2.2.2.2.2.2.2.2.2.1)) 0))) 0) (1:Int)))]),(a.2.2.2.1,(a.2.2.2.2.1,(a.2.2.2.2.2.1,(a.2.2.2.2.2.2.1,(a.2.2.2.2.2.2.2.1,(a.2.2.2.2.2.2.2.2.1,(a.2.2.2.2.2.2.2.2.2.1,(a.2.2.2.2.2.2.2.2.2.2.1,(a.2.2.2.2.2.2.2.2.2.2.2.1,()))))))))))))))) fun b=>
 opt.ret _ (Sum.inl (b.1,(b.2.1,(b.2.2.1,(b.2.2.2.1,(b.2.2.2.2.1,(b.2.2.2.2.2.1,(b.2.2.2.2.2.2.1,(b.2.2.2.2.2.2.2.1,(b.2.2.2.2.2.2.2.2.1,(b.2.2.2.2.2.2.2.2.2.1,(b.2.2.2.2.2.2.2.2.2.2.1,((p.ar .add .i64 b.2.2.2.2.2.2.2.2.2.2.2.1 (1:Int)),())))))))))))))) (
 opt.ret _ (Sum.inr (a.1,(a.2.1,(a.2.2.1,(a.2.2.2.1,(a.2.2.2.2.1,(a.2.2.2.2.2.1,(a.2.2.2.2.2.2.1,()))))))))))
def w3f (it:It) (p:Prim):(LD×(LD×(LD×T18)))→Option ((LD×(LD×(LD×T18)))⊕(LD×Unit)):=
 fun a=>opt.run _ (
 opt.ask _ (p.cmp .gtr (p.ofNat a.2.2.2.2.2.2.1) (0:Int)) (
 opt.need _ (bif (p.cmp .geq (0:Int) (0:Int)) then (p.cmp .lss (0:Int) (p.ofNat a.2.2.2.2.2.2.1)) else Bool.false)<|
 opt.need _ (p.rowOk a.2.1 (p.add a.2.2.2.2.2.1 (p.nat (0:Int))) [ci])<|
 opt.need _ (p.and (p.cmp .geq (1:Int) (0:Int)) (p.and (p.cmp .leq (1:Int) (p.ofNat a.2.2.2.2.2.2.1)) (p.cmp .leq (p.ofNat a.2.2.2.2.2.2.1) (p.ofNat a.2.2.2.2.2.2.1))))<|
 opt.bnd ((LD×(LD×T5))) _ (w73 it p (a.2.1,(a.2.2.1,(a.2.2.2.1,(a.2.2.2.2.1,((p.add a.2.2.2.2.2.1 (p.nat (1:Int))),((p.sub (p.nat (p.ofNat a.2.2.2.2.2.2.1)) (p.nat (1:Int))),()))))))) fun b=>
 opt.bnd ((LD×(LD×(LD×T18)))) _ (
 it _ _ (v12 p) (a.1,(b.1,(b.2.1,(b.2.2.1,(b.2.2.2.1,((p.add a.2.2.2.2.2.1 (p.nat (1:Int))),((p.sub (p.nat (p.ofNat a.2.2.2.2.2.2.1)) (p.nat (1:Int))),((p.rdI a.2.1 (p.add a.2.2.2.2.2.1 (p.nat (0:Int))) 0),((p.add a.2.2.2.2.2.1 (p.nat (1:Int))),((p.sub (p.nat (p.ofNat a.2.2.2.2.2.2.1)) (p.nat (1:Int))),((p.ofNat (p.sub (p.nat (p.ofNat a.2.2.2.2.2.2.1)) (p.nat (1:Int)))),((0:Int),()))))))))))))) fun c=>
 opt.ret _ (Sum.inl (c.1,(c.2.1,(c.2.2.1,(c.2.2.2.1,(c.2.2.2.2.1,(c.2.2.2.2.2.1,(c.2.2.2.2.2.2.1,()))))))))) (
 opt.ret _ (Sum.inr (a.1,()))))
def v13 (p:Prim):(LD×(LD×(LD×T36)))→Option ((LD×(LD×(LD×T36)))⊕(LD×(LD×(LD×T5)))):=
 fun a=>opt.run _ (
 opt.ask _ (p.cmp .lss a.2.2.2.2.2.2.1 a.2.2.2.2.2.1) (
 opt.need _ (p.and (p.leN (p.add 0 1) (p.len [[(D.int .i64 a.2.2.2.2.2.2.1)]])) (p.and (p.leN (p.add 0 (p.len a.2.2.1)) (p.len a.2.2.1)) (p.and (p.leN 1 1) (p.leN (p.add (p.len a.2.2.1) 1) 1000000))))<|
 opt.need _ (p.eqN 0 0)<|
 opt.need _ (p.eqN (p.add (p.len a.2.2.1) 1) (p.len (p.app (p.cut a.2.2.1 0 (p.len a.2.2.1)) (p.cut [[(D.int .i64 a.2.2.2.2.2.2.1)]] 0 1))))<|
 opt.ret _ (Sum.inl (a.1,(a.2.1,((p.app (p.cut a.2.2.1 0 (p.len a.2.2.1)) (p.cut [[(D.int .i64 a.2.2.2.2.2.2.1)]] 0 1)),(a.2.2.2.1,(a.2.2.2.2.1,(a.2.2.2.2.2.1,((p.ar .add .i64 a.2.2.2.2.2.2.1 (1:Int)),()))))))))) (
 opt.need _ (p.eqN 0 0)<|
 opt.need _ (p.eqN (p.len a.2.2.1) (p.len a.2.2.1))<|
 opt.ret _ (Sum.inr (a.1,(a.2.2.1,(a.2.1,(a.2.2.2.1,(a.2.2.2.2.1,()))))))))
def g30 (it:It):(p:Prim)→(LD×Unit)→Option ((LD×T1)):=
 fun p x=>
 opt.bnd T2 _ (g61 it p (x.1,())) fun a=>
 opt.ask _ (p.cmp .neq a.1 (0:Int)) (
 opt.ret _ ([],(a.1,()))) (
 opt.bnd ((LD×T8)) _ (g64 it p (x.1,())) fun b=>
 opt.ask _ b.2.1 (
 opt.ret _ ([],((13:Int),()))) (
 opt.need _ (p.rowOk (p.rep 101 k0k) 0 [ci])<|
 opt.need _ (p.leN (p.add 0 101) (p.len (p.rep 101 k0k)))<|
 opt.bnd ((LD×T5)) _ (G65 p (x.1,())) fun c=>
 opt.bnd ((LD×(LD×(LD×T5)))) _ (
 it _ _ (v13 p) ((p.splice (p.rep 101 k0k) 0 [[(D.int .i64 (p.ofNat (p.len x.1)))],k0k,k0k,k0k,k0k,k0k,k0k,k0k,k0k,k0k,k0k,k0k,k0k,k0k,k0k,k0k,k0k,k0k,k0k,k0k,k0k,k0k,k0k,k0k,k0k,k0k,k0k,k0k,k0k,k0k,k0k,k0k,k0k,k0k,k0k,k0k,k0k,k0k,k0k,k0k,k0k,k0k,k0k,k0k,k0k,k0k,k0k,k0k,k0k,k0k,k0k,k0k,k0k,k0k,k0k,k0k,k0k,k0k,k0k,k0k,k0k,k0k,k0k,k0k,k0k,k0k,k0k,k0k,k0k,k0k,k0k,k0k,k0k,k0k,k0k,k0k,k0k,k0k,k0k,k0k,k0k,k0k,k0k,k0k,k0k,k0k,k0k,k0k,k0k,k0k,k0k,k0k,k0k,k0k,k0k,k0k,k0k,k0k,k0k,k0k,k0k]),(c.1,([],(c.2.1,(c.2.2.1,((p.ofNat (p.len x.1)),((0:Int),())))))))) fun d=>
 opt.bnd ((LD×Unit)) _ (
 it _ _ (w3f it p) (d.1,(d.2.1,(d.2.2.1,(d.2.2.2.1,(d.2.2.2.2.1,(0,((p.len d.2.1),())))))))) fun e=>
 opt.bnd ((LD×(LD×Unit))) _ (g49 it p (e.1,())) fun f=>
 opt.ret _ (f.2.1,((0:Int),()))))
def G30:=g30 it0
theorem ok30:CtrOk PG w6c (G30 std):=okF (a:=an30) (l:=la30) (gC ok49 (gC w8q (gC ok65 (gC v2t (gC w8r (gN)))))) (by kernel_rfl) fun _ _=>by kernel_rfl
end Go.Am
end
noncomputable section
namespace Go.Am
def w6j:Ctr:=
 ⟨14,[],[],[(.ret,⟨[(0, .bool)],[],1⟩)]⟩
def la14:List LA:=
 []
def ja14:List JA:=
 [⟨14,[false,false,true,true,true,true,true,true,true,true,true,true,true,true],0,[(AX.normal,⟨[(1, .list 1),(3, .list 1),(5, .vec 0 1),(7, .int .i64),(10, .vec 1 1),(12, .list 1),(14, .list 1),(18, .list 1),(115, .bool)],[.row [ci], .row [ci]],168⟩)]⟩,
 ⟨14,[false,true,true,true,true,true,true,true,true,true,true,true,true,true,true],0,[(AX.normal,⟨[(0, .bool)],[],168⟩)]⟩]
def v1g:List CF:=
 [⟨w6d,G29⟩,⟨w6g,G25⟩,⟨w3a,G22⟩,⟨x8v,G21⟩,⟨w29,G33⟩,⟨w6e,G28⟩,⟨w6b,G31⟩,⟨w6c,G30⟩,⟨w27,G37⟩,⟨w6f,G26⟩,⟨w6h,G24⟩,⟨w28,G36⟩,⟨x5n,G35⟩,⟨w59,G41⟩,⟨x5o,F17⟩,⟨x5p,F15⟩,⟨w55,G45⟩]
def an14:Anns:=
 ⟨v1g,ja14,[]⟩
def g14 (it:It):(p:Prim)→Unit→Option T0:=
 fun p x=>
 opt.bnd T23 _ (G45 p ()) fun a=>
 opt.bnd ((LD×T1)) _ (G15 p (a.1,(a.2.1,(a.2.2.1,(a.2.2.2.1,()))))) fun b=>
 opt.bnd T23 _ (G45 p ()) fun c=>
 opt.bnd ((LD×T1)) _ (G17 p (c.1,(c.2.1,(c.2.2.1,(c.2.2.2.1,()))))) fun d=>
 opt.bnd ((LD×Unit)) _ (G41 p ()) fun e=>
 opt.bnd ((LD×T1)) _ (g35 it p (e.1,())) fun f=>
 opt.bnd ((LD×Unit)) _ (G41 p ()) fun g=>
 opt.bnd T7 _ (g36 it p (g.1,())) fun h=>
 opt.bnd ((LD×Unit)) _ (G41 p ()) fun i=>
 opt.bnd T2 _ (g24 it p (i.1,([k0k,[k1k],[k3k],k4k],()))) fun j=>
 opt.bnd ((LD×Unit)) _ (G41 p ()) fun k=>
 opt.bnd ((LD×T1)) _ (g26 it p (k.1,())) fun l=>
 opt.bnd ((LD×Unit)) _ (G41 p ()) fun m=>
 opt.bnd ((LD×T1)) _ (g37 it p (m.1,())) fun n=>
 opt.bnd ((LD×T1)) _ (g30 it p ([[k1k],[k1k],[k1k]],())) fun o=>
 opt.bnd ((LD×T1)) _ (g30 it p ([k0k,k0k,k4k],())) fun q=>
 opt.bnd ((LD×T1)) _ (g31 it p ([k0k,k0k,k4k],())) fun r=>
 opt.bnd T2 _ (g28 it p ([k0k,k0k,k4k],([k0k,[k1k]],()))) fun t=>
 opt.bnd ((LD×(LD×(LD×(LD×T37))))) _ (
 opt.run ((LD×(LD×(LD×(LD×T37))))) (
 opt.ask _ (p.cmp .neq b.2.1 (0:Int)) (
 opt.need _ (p.eqN 0 0)<|
 opt.need _ (p.eqN (p.len f.1) (p.len f.1))<|
 opt.need _ (p.eqN 0 0)<|
 opt.need _ (p.eqN (p.len l.1) (p.len l.1))<|
 opt.ret _ (f.1,(l.1,(b.1,(d.1,(h.1,(n.1,(o.1,(r.1,(Bool.true,())))))))))) (
 opt.ask _ (p.cmp .neq d.2.1 (0:Int)) (
 opt.need _ (p.eqN 0 0)<|
 opt.need _ (p.eqN (p.len f.1) (p.len f.1))<|
 opt.need _ (p.eqN 0 0)<|
 opt.need _ (p.eqN (p.len l.1) (p.len l.1))<|
 opt.ret _ (f.1,(l.1,(b.1,(d.1,(h.1,(n.1,(o.1,(r.1,(Bool.true,())))))))))) (
 opt.ask _ (p.cmp .neq f.2.1 (0:Int)) (
 opt.need _ (p.eqN 0 0)<|
 opt.need _ (p.eqN (p.len f.1) (p.len f.1))<|
 opt.need _ (p.eqN 0 0)<|
 opt.need _ (p.eqN (p.len l.1) (p.len l.1))<|
 opt.ret _ (f.1,(l.1,(b.1,(d.1,(h.1,(n.1,(o.1,(r.1,(Bool.true,())))))))))) (
 opt.ask _ (p.cmp .neq h.2.1 (0:Int)) (
 opt.need _ (p.eqN 0 0)<|
 opt.need _ (p.eqN (p.len f.1) (p.len f.1))<|
 opt.need _ (p.eqN 0 0)<|
 opt.need _ (p.eqN (p.len l.1) (p.len l.1))<|
 opt.ret _ (f.1,(l.1,(b.1,(d.1,(h.1,(n.1,(o.1,(r.1,(Bool.true,())))))))))) (
 opt.ask _ (p.cmp .neq j.1 (0:Int)) (
 opt.need _ (p.eqN 0 0)<|
 opt.need _ (p.eqN (p.len f.1) (p.len f.1))<|
 opt.need _ (p.eqN 0 0)<|
 opt.need _ (p.eqN (p.len l.1) (p.len l.1))<|
 opt.ret _ (f.1,(l.1,(b.1,(d.1,(h.1,(n.1,(o.1,(r.1,(Bool.true,())))))))))) (
 opt.ask _ (p.cmp .neq l.2.1 (0:Int)) (
 opt.need _ (p.eqN 0 0)<|
 opt.need _ (p.eqN (p.len f.1) (p.len f.1))<|
 opt.need _ (p.eqN 0 0)<|
 opt.need _ (p.eqN (p.len l.1) (p.len l.1))<|
 opt.ret _ (f.1,(l.1,(b.1,(d.1,(h.1,(n.1,(o.1,(r.1,(Bool.true,())))))))))) (
 opt.ask _ (p.cmp .neq n.2.1 (0:Int)) (
 opt.need _ (p.eqN 0 0)<|
 opt.need _ (p.eqN (p.len f.1) (p.len f.1))<|
 opt.need _ (p.eqN 0 0)<|
 opt.need _ (p.eqN (p.len l.1) (p.len l.1))<|
 opt.ret _ (f.1,(l.1,(b.1,(d.1,(h.1,(n.1,(o.1,(r.1,(Bool.true,())))))))))) (
 opt.ask _ (p.cmp .neq o.2.1 (0:Int)) (
 opt.need _ (p.eqN 0 0)<|
 opt.need _ (p.eqN (p.len f.1) (p.len f.1))<|
 opt.need _ (p.eqN 0 0)<|
 opt.need _ (p.eqN (p.len l.1) (p.len l.1))<|
 opt.ret _ (f.1,(l.1,(b.1,(d.1,(h.1,(n.1,(o.1,(r.1,(Bool.true,())))))))))) (
 opt.ask _ (p.cmp .neq q.2.1 (13:Int)) (
 opt.need _ (p.eqN 0 0)<|
 opt.need _ (p.eqN (p.len f.1) (p.len f.1))<|
 opt.need _ (p.eqN 0 0)<|
 opt.need _ (p.eqN (p.len l.1) (p.len l.1))<|
 opt.ret _ (f.1,(l.1,(b.1,(d.1,(h.1,(n.1,(o.1,(r.1,(Bool.true,())))))))))) (
 opt.ask _ (p.cmp .neq r.2.1 (0:Int)) (
 opt.need _ (p.eqN 0 0)<|
 opt.need _ (p.eqN (p.len f.1) (p.len f.1))<|
 opt.need _ (p.eqN 0 0)<|
 opt.need _ (p.eqN (p.len l.1) (p.len l.1))<|
 opt.ret _ (f.1,(l.1,(b.1,(d.1,(h.1,(n.1,(o.1,(r.1,(Bool.true,())))))))))) (
 opt.need _ (p.eqN 0 0)<|
 opt.need _ (p.eqN (p.len f.1) (p.len f.1))<|
 opt.need _ (p.eqN 0 0)<|
 opt.need _ (p.eqN (p.len l.1) (p.len l.1))<|
 opt.ret _ (f.1,(l.1,(b.1,(d.1,(h.1,(n.1,(o.1,(r.1,((p.cmp .neq t.1 (0:Int)),()))))))))))))))))))))) fun u=>
 opt.ask _ u.2.2.2.2.2.2.2.2.1 (
 opt.ret _ (Bool.false,())) (
 opt.bnd ((LD×T1)) _ (g33 it p (u.2.2.2.2.2.2.1,())) fun v=>
 opt.bnd T0 _ (
 opt.run T0 (
 opt.ask _ (p.cmp .eql v.2.1 (0:Int)) (
 opt.need _ (p.and (p.leN (p.add 0 (p.len v.1)) (p.len v.1)) (p.and Bool.true Bool.true))<|
 opt.bnd T0 _ (g21 it p ((p.cut v.1 0 (p.len v.1)),([[k1k],[k1k],[k1k]],()))) fun w=>
 opt.ask _ w.1 (
 opt.bnd T0 _ (g21 it p (u.2.2.1,([k0k,[k1k]],()))) fun z=>
 opt.ask _ z.1 (
 opt.bnd T0 _ (g22 it p (u.2.2.2.1,([[(D.list Bool.true 1 [[k1k]])],[(D.list Bool.true 1 [[k3k]])],[(D.list Bool.true 1 [k0k])]],()))) fun a1=>
 opt.ask _ a1.1 (
 opt.need _ (p.and (p.leN (p.add 0 (p.len u.1)) (p.len u.1)) (p.and Bool.true Bool.true))<|
 opt.bnd T0 _ (g21 it p ((p.cut u.1 0 (p.len u.1)),([[k1k],[k3k],[k3k],[k1k]],()))) fun b1=>
 opt.ask _ b1.1 (
 opt.ask _ (p.cmp .eql u.2.2.2.2.1 (2:Int)) (
 opt.bnd ((LD×Unit)) _ (G41 p ()) fun c1=>
 opt.need _ (p.and Bool.true (p.and (p.leN (p.add 0 (p.len u.2.1)) (p.len u.2.1)) Bool.true))<|
 opt.bnd T2 _ (g25 it p (c1.1,((p.cut u.2.1 0 (p.len u.2.1)),()))) fun d1=>
 opt.ask _ (p.cmp .eql d1.1 (0:Int)) (
 opt.bnd T0 _ (g22 it p (u.2.2.2.2.2.1,([[(D.list Bool.true 1 [k0k,[k1k],[k3k],k4k])]],()))) fun e1=>
 opt.ask _ e1.1 (
 opt.bnd T2 _ (g29 it p ([k0k,k0k,k4k],(u.2.2.2.2.2.2.2.1,()))) fun f1=>
 opt.ret _ ((p.cmp .eql f1.1 (0:Int)),())) (
 opt.ret _ (Bool.false,()))) (
 opt.ret _ (Bool.false,()))) (
 opt.ret _ (Bool.false,()))) (
 opt.ret _ (Bool.false,()))) (
 opt.ret _ (Bool.false,()))) (
 opt.ret _ (Bool.false,()))) (
 opt.ret _ (Bool.false,()))) (
 opt.ret _ (Bool.false,())))) fun g1=>
 opt.ret _ (g1.1,()))
def G14:=g14 it0
theorem ok14:CtrOk PG w6j (G14 std):=okF (a:=an14) (l:=la14) (gC ok29 (gC ok25 (gC v2y (gC w8w (gC v2x (gC ok28 (gC ok31 (gC ok30 (gC v2v (gC ok26 (gC ok24 (gC v2w (gC w7t (gC ok41 (gC ok17 (gC ok15 (gC ok45 (gN)))))))))))))))))) (by kernel_rfl) fun _ _=>by kernel_rfl
end Go.Am
end
section
namespace Go.Am
theorem w7y {i j:It} (h:i.Le j):∀ s,le (g21 i std s) (g21 j std s):=fun _=>z0v (le_refl _) (z2a (h _ _ _ _ _ (fun _=>le_refl _)) (fun _=>le_refl _) (fun _=>le_refl _))
theorem w4y {i j:It} (h:i.Le j):∀ s,le (y8b i std s) (y8b j std s):=fun _=>z11 (z0v (z0a (z0a (z0a (z0a (z0c (w7y h _) (fun _=>le_refl _)))))) (le_refl _))
theorem v26 {i j:It} (h:i.Le j):∀ s,le (g22 i std s) (g22 j std s):=fun _=>z0v (le_refl _) (z2a (h _ _ _ _ _ (w4y h)) (fun _=>le_refl _) (fun _=>le_refl _))
theorem v24 {i j:It} (h:i.Le j):∀ s,le (g38 i std s) (g38 j std s):=fun _=>z2a (h _ _ _ _ _ (fun _=>le_refl _)) (fun _=>le_refl _) (fun _=>le_refl _)
theorem w7w {i j:It} (h:i.Le j):∀ s,le (g40 i std s) (g40 j std s):=fun _=>z2a (h _ _ _ _ _ (fun _=>le_refl _)) (fun _=>le_refl _) (fun _=>le_refl _)
theorem w4s {i j:It} (h:i.Le j):∀ s,le (y8a i std s) (y8a j std s):=fun _=>z11 (z0v (z0c (w7w h _) (fun _=>z0c (w7w h _) (fun _=>le_refl _))) (le_refl _))
theorem w4t {i j:It} (h:i.Le j):∀ s,le (y3p i std s) (y3p j std s):=fun _=>z11 (z0v (z2a (z11 (z0c (w7w h _) (fun _=>z0v (le_refl _) (z2a (h _ _ _ _ _ (w4s h)) (fun _=>le_refl _) (fun _=>le_refl _))))) (fun _=>le_refl _) (fun _=>le_refl _)) (le_refl _))
theorem w4u {i j:It} (h:i.Le j):∀ s,le (y6d i std s) (y6d j std s):=fun _=>z11 (z0v (z0a (z0a (z0c (v24 h _) (fun _=>le_refl _)))) (le_refl _))
theorem w7x {i j:It} (h:i.Le j):∀ s,le (g27 i std s) (g27 j std s):=fun _=>z0c (le_refl _) (fun _=>z0v (le_refl _) (z2a (h _ _ _ _ _ (w4u h)) (fun _=>le_refl _) (fun _=>z0c (le_refl _) (fun _=>z2a (h _ _ _ _ _ (w4t h)) (fun _=>le_refl _) (fun _=>le_refl _)))))
theorem mg33 {i j:It} (h:i.Le j):∀ s,le (g33 i std s) (g33 j std s):=fun _=>z0c (w7x h _) (fun _=>z0v (z0c (w7x h _) (fun _=>le_refl _)) (z0c (h _ _ _ _ _ (fun _=>le_refl _)) (fun _=>le_refl _)))
theorem w4w {i j:It} (h:i.Le j):∀ s,le (w3i i std s) (w3i j std s):=fun _=>z11 (z0v (z0a (z0a (z0a (z0a (z0c (w7w h _) (fun _=>le_refl _)))))) (le_refl _))
theorem w4x {i j:It} (h:i.Le j):∀ s,le (w3j i std s) (w3j j std s):=fun _=>z11 (z0v (z2a (z11 (z0c (le_refl _) (fun _=>z0v (le_refl _) (z2a (h _ _ _ _ _ (fun _=>le_refl _)) (fun _=>le_refl _) (fun _=>le_refl _))))) (fun _=>le_refl _) (fun _=>le_refl _)) (le_refl _))
theorem mg25 {i j:It} (h:i.Le j):∀ s,le (g25 i std s) (g25 j std s):=fun _=>z0c (w7x h _) (fun _=>z0v (z0c (w7x h _) (fun _=>le_refl _)) (z0v (le_refl _) (z2a (h _ _ _ _ _ (w4x h)) (fun _=>le_refl _) (fun _=>z0c (le_refl _) (fun _=>z2a (h _ _ _ _ _ (w4w h)) (fun _=>le_refl _) (fun _=>le_refl _))))))
theorem v23 {i j:It} (h:i.Le j):∀ s,le (g62 i std s) (g62 j std s):=fun _=>z0c (le_refl _) (fun _=>z0v (le_refl _) (z2a (h _ _ _ _ _ (fun _=>le_refl _)) (fun _=>le_refl _) (fun _=>le_refl _)))
theorem mg63 {i j:It} (h:i.Le j):∀ s,le (g63 i std s) (g63 j std s):=fun _=>z0c (h _ _ _ _ _ (fun _=>le_refl _)) (fun _=>le_refl _)
theorem mg29 {i j:It} (h:i.Le j):∀ s,le (g29 i std s) (g29 j std s):=fun _=>z0c (v23 h _) (fun _=>z0v (z0c (v23 h _) (fun _=>le_refl _)) (z0c (v24 h _) (fun _=>z0v (le_refl _) (z0c (mg63 h _) (fun _=>le_refl _)))))
theorem mg52 {i j:It} (h:i.Le j):∀ s,le (g52 i std s) (g52 j std s):=fun _=>z2a (h _ _ _ _ _ (fun _=>le_refl _)) (fun _=>le_refl _) (fun _=>le_refl _)
theorem w7v {i j:It} (h:i.Le j):∀ s,le (g56 i std s) (g56 j std s):=fun _=>z2a (h _ _ _ _ _ (fun _=>le_refl _)) (fun _=>le_refl _) (fun _=>le_refl _)
theorem mg70 {i j:It} (h:i.Le j):∀ s,le (g70 i std s) (g70 j std s):=fun _=>z0c (h _ _ _ _ _ (fun _=>le_refl _)) (fun _=>le_refl _)
theorem w9a {i j:It} (h:i.Le j):∀ s,le (g61 i std s) (g61 j std s):=fun _=>z0c (le_refl _) (fun _=>z2a (z11 (z0v (le_refl _) (z0c (mg52 h _) (fun _=>le_refl _)))) (fun _=>le_refl _) (fun _=>le_refl _))
theorem w4m {i j:It} (h:i.Le j):∀ s,le (y6a i std s) (y6a j std s):=fun _=>z11 (z0v (z2a (h _ _ _ _ _ (fun _=>le_refl _)) (fun _=>le_refl _) (fun _=>le_refl _)) (le_refl _))
theorem w4n {i j:It} (h:i.Le j):∀ s,le (y6b i std s) (y6b j std s):=fun _=>z11 (z0v (z0a (z0a (z0c (w7v h _) (fun _=>z0v (le_refl _) (z0c (h _ _ _ _ _ (fun _=>le_refl _)) (fun _=>le_refl _)))))) (le_refl _))
theorem w9c {i j:It} (h:i.Le j):∀ s,le (g54 i std s) (g54 j std s):=fun _=>z0c (le_refl _) (fun _=>z0v (le_refl _) (z2a (h _ _ _ _ _ (w4n h)) (fun _=>le_refl _) (fun _=>z0c (le_refl _) (fun _=>z2a (h _ _ _ _ _ (fun _=>le_refl _)) (fun _=>le_refl _) (fun _=>z0c (le_refl _) (fun _=>z0a (z2a (h _ _ _ _ _ (w4m h)) (fun _=>le_refl _) (fun _=>le_refl _))))))))
theorem w4q {i j:It} (h:i.Le j):∀ s,le (y9w i std s) (y9w j std s):=fun _=>z11 (z0v (z0a (z0a (z0a (z0c (mg70 h _) (fun _=>le_refl _))))) (le_refl _))
theorem w9d {i j:It} (h:i.Le j):∀ s,le (g35 i std s) (g35 j std s):=fun _=>z2a (w9c h _) (fun _=>le_refl _) (fun _=>z0c (le_refl _) (fun _=>z0v (le_refl _) (z0a (z0a (z0a (z0a (z0a (z0c (h _ _ _ _ _ (w4q h)) (fun _=>le_refl _)))))))))
theorem mg36 {i j:It} (h:i.Le j):∀ s,le (g36 i std s) (g36 j std s):=fun _=>z0c (w9d h _) (fun _=>z0v (le_refl _) (z0a (z0a (z0a (z0c (h _ _ _ _ _ (fun _=>le_refl _)) (fun _=>le_refl _))))))
theorem w1v {i j:It} (h:i.Le j):∀ s,le (x50 i std s) (x50 j std s):=fun _=>z11 (z0v (z0a (z0a (z0a (z0c (h _ _ _ _ _ (fun _=>le_refl _)) (fun _=>le_refl _))))) (le_refl _))
theorem w85 {i j:It} (h:i.Le j):∀ s,le (w70 i std s) (w70 j std s):=fun _=>z0a (z0a (z0a (z0c (h _ _ _ _ _ (w1v h)) (fun _=>le_refl _))))
theorem w1z {i j:It} (h:i.Le j):∀ s,le (x55 i std s) (x55 j std s):=fun _=>z11 (z0v (z0a (z0a (z0a (z0c (w85 h _) (fun _=>le_refl _))))) (le_refl _))
theorem w88 {i j:It} (h:i.Le j):∀ s,le (w72 i std s) (w72 j std s):=fun _=>z0a (z0a (z0a (z0c (h _ _ _ _ _ (w1z h)) (fun _=>le_refl _))))
theorem w4i {i j:It} (h:i.Le j):∀ s,le (w5h i std s) (w5h j std s):=fun _=>z0c (le_refl _) (fun _=>z0a (z0a (z0a (z0c (w88 h _) (fun _=>le_refl _)))))
theorem w1u {i j:It} (h:i.Le j):∀ s,le (z64 i std s) (z64 j std s):=fun _=>z11 (z0v (z0a (z0a (z0c (h _ _ _ _ _ (fun _=>le_refl _)) (fun _=>le_refl _)))) (le_refl _))
theorem w84 {i j:It} (h:i.Le j):∀ s,le (w2k i std s) (w2k j std s):=fun _=>z0a (z0a (z0c (h _ _ _ _ _ (w1u h)) (fun _=>le_refl _)))
theorem w1y {i j:It} (h:i.Le j):∀ s,le (y79 i std s) (y79 j std s):=fun _=>z11 (z0v (z0a (z0a (z0c (w84 h _) (fun _=>le_refl _)))) (le_refl _))
theorem w87 {i j:It} (h:i.Le j):∀ s,le (w5f i std s) (w5f j std s):=fun _=>z0a (z0a (z0c (h _ _ _ _ _ (w1y h)) (fun _=>le_refl _)))
theorem w9b {i j:It} (h:i.Le j):∀ s,le (w3w i std s) (w3w j std s):=fun _=>z0c (le_refl _) (fun _=>z0a (z0a (z0c (w87 h _) (fun _=>le_refl _))))
theorem w10 {i j:It} (h:i.Le j):∀ s,le (z65 i std s) (z65 j std s):=fun _=>z11 (z0v (z0a (z0a (z0c (h _ _ _ _ _ (fun _=>le_refl _)) (fun _=>le_refl _)))) (le_refl _))
theorem w4j {i j:It} (h:i.Le j):∀ s,le (w0b i std s) (w0b j std s):=fun _=>z0a (z0a (z0c (h _ _ _ _ _ (w10 h)) (fun _=>le_refl _)))
theorem w4k {i j:It} (h:i.Le j):∀ s,le (x53 i std s) (x53 j std s):=fun _=>z11 (z0v (z0a (z0a (z0c (h _ _ _ _ _ (fun _=>le_refl _)) (fun _=>le_refl _)))) (le_refl _))
theorem w4l {i j:It} (h:i.Le j):∀ s,le (x54 i std s) (x54 j std s):=fun _=>z11 (z0v (z0a (z0a (z0c (w4j h _) (fun _=>le_refl _)))) (le_refl _))
theorem mg86 {i j:It} (h:i.Le j):∀ s,le (g86 i std s) (g86 j std s):=fun _=>z0a (z0a (z0c (h _ _ _ _ _ (w4l h)) (fun _=>z0a (z0a (z0c (w4j h _) (fun _=>z0a (z0a (z0c (h _ _ _ _ _ (w4k h)) (fun _=>le_refl _)))))))))
theorem mg66 {i j:It} (h:i.Le j):∀ s,le (g66 i std s) (g66 j std s):=fun _=>z0a (z0a (z0c (mg86 h _) (fun _=>le_refl _)))
theorem v20 {i j:It} (h:i.Le j):∀ s,le (g71 i std s) (g71 j std s):=fun _=>z0c (h _ _ _ _ _ (fun _=>le_refl _)) (fun _=>z0a (z0a (z0c (mg66 h _) (fun _=>le_refl _))))
theorem x7n {i j:It} (h:i.Le j):∀ s,le (y9y i std s) (y9y j std s):=fun _=>z11 (z0v (z0c (h _ _ _ _ _ (fun _=>le_refl _)) (fun _=>le_refl _)) (le_refl _))
theorem x93 {i j:It} (h:i.Le j):∀ s,le (x4x i std s) (x4x j std s):=fun _=>z0c (h _ _ _ _ _ (x7n h)) (fun _=>le_refl _)
theorem w1w {i j:It} (h:i.Le j):∀ s,le (x51 i std s) (x51 j std s):=fun _=>z11 (z0v (z0c (h _ _ _ _ _ (fun _=>le_refl _)) (fun _=>le_refl _)) (le_refl _))
theorem w1x {i j:It} (h:i.Le j):∀ s,le (x52 i std s) (x52 j std s):=fun _=>z11 (z0v (z0c (x93 h _) (fun _=>le_refl _)) (le_refl _))
theorem w86 {i j:It} (h:i.Le j):∀ s,le (w71 i std s) (w71 j std s):=fun _=>z0c (h _ _ _ _ _ (w1x h)) (fun _=>z0c (x93 h _) (fun _=>z0c (h _ _ _ _ _ (w1w h)) (fun _=>le_refl _)))
theorem w89 {i j:It} (h:i.Le j):∀ s,le (w73 i std s) (w73 j std s):=fun _=>z0c (w86 h _) (fun _=>le_refl _)
theorem mg24 {i j:It} (h:i.Le j):∀ s,le (g24 i std s) (g24 j std s):=fun _=>z2a (w9c h _) (fun _=>z2a (le_refl _) (fun _=>le_refl _) (fun _=>z0c (le_refl _) (fun _=>z0a (z0a (z0a (z0a (z0a (z0c (w4i h _) (fun _=>z0a (z0a (z0c (w7v h _) (fun _=>z0v (le_refl _) (z2a (h _ _ _ _ _ (fun _=>le_refl _)) (fun _=>le_refl _) (fun _=>le_refl _)))))))))))))) (fun _=>z0c (le_refl _) (fun _=>z2a (le_refl _) (fun _=>le_refl _) (fun _=>z0c (le_refl _) (fun _=>z0a (z0a (z0a (z0a (z0a (z0c (w4i h _) (fun _=>z0a (z0a (z0c (w7v h _) (fun _=>z0v (le_refl _) (z2a (h _ _ _ _ _ (fun _=>le_refl _)) (fun _=>le_refl _) (fun _=>le_refl _)))))))))))))))
theorem v2z {i j:It} (h:i.Le j):∀ s,le (g73 i std s) (g73 j std s):=fun _=>z0c (h _ _ _ _ _ (fun _=>le_refl _)) (fun _=>z0a (z0a (z0c (w9b h _) (fun _=>le_refl _))))
theorem w4v {i j:It} (h:i.Le j):∀ s,le (w3h i std s) (w3h j std s):=fun _=>z11 (z0v (z0c (z11 (z0a (z0a (z0a (z0a (z2a (h _ _ _ _ _ (fun _=>le_refl _)) (fun _=>le_refl _) (fun _=>le_refl _))))))) (fun _=>le_refl _)) (le_refl _))
theorem mg26 {i j:It} (h:i.Le j):∀ s,le (g26 i std s) (g26 j std s):=fun _=>z2a (w9c h _) (fun _=>le_refl _) (fun _=>z0c (le_refl _) (fun _=>z0v (le_refl _) (z0a (z0c (h _ _ _ _ _ (w4v h)) (fun _=>le_refl _)))))
theorem mg72 {i j:It} (h:i.Le j):∀ s,le (g72 i std s) (g72 j std s):=fun _=>z0a (z0a (z0c (h _ _ _ _ _ (fun _=>le_refl _)) (fun _=>le_refl _)))
theorem w4p {i j:It} (h:i.Le j):∀ s,le (y6c i std s) (y6c j std s):=fun _=>z11 (z0v (z0a (z0a (z0a (z0a (z0a (z0c (z11 (z0v (z0a (z0c (v2z h _) (fun _=>le_refl _))) (le_refl _))) (fun _=>le_refl _))))))) (le_refl _))
theorem mg37 {i j:It} (h:i.Le j):∀ s,le (g37 i std s) (g37 j std s):=fun _=>z0c (w9d h _) (fun _=>z0v (le_refl _) (z0a (z0c (v20 h _) (fun _=>z0a (z0a (z0a (z0c (mg72 h _) (fun _=>z0a (z0a (z0a (z0a (z0a (z0a (z0c (h _ _ _ _ _ (w4p h)) (fun _=>le_refl _)))))))))))))))
theorem v21 {i j:It} (h:i.Le j):∀ s,le (g64 i std s) (g64 j std s):=fun _=>z0c (v20 h _) (fun _=>z0a (z0a (z0a (z0a (z0c (h _ _ _ _ _ (fun _=>le_refl _)) (fun _=>z0v (le_refl _) (z0a (z0c (v2z h _) (fun _=>le_refl _)))))))))
theorem mg31 {i j:It} (h:i.Le j):∀ s,le (g31 i std s) (g31 j std s):=fun _=>z0c (w9a h _) (fun _=>z0v (le_refl _) (z0c (v21 h _) (fun _=>le_refl _)))
theorem mg28 {i j:It} (h:i.Le j):∀ s,le (g28 i std s) (g28 j std s):=fun _=>z0c (w9a h _) (fun _=>z0v (le_refl _) (z0c (w7v h _) (fun _=>z0v (le_refl _) (z0c (h _ _ _ _ _ (fun _=>le_refl _)) (fun _=>le_refl _)))))
theorem w4o {i j:It} (h:i.Le j):∀ s,le (w3e i std s) (w3e j std s):=fun _=>z11 (z0v (z0c (z11 (z0a (z0a (z0a (z0a (z0a (z0a (z0a (z0a (z0a (z0a (z0a (z0v (le_refl _) (z0a (z0a (z0a (z0a (z0c (h _ _ _ _ _ (fun _=>le_refl _)) (fun _=>le_refl _))))))))))))))))))) (fun _=>le_refl _)) (le_refl _))
theorem mg49 {i j:It} (h:i.Le j):∀ s,le (g49 i std s) (g49 j std s):=fun _=>z0a (z0a (z0a (z0a (z0a (z0c (h _ _ _ _ _ (w4o h)) (fun _=>le_refl _))))))
theorem w4r {i j:It} (h:i.Le j):∀ s,le (w3f i std s) (w3f j std s):=fun _=>z11 (z0v (z0a (z0a (z0a (z0c (w89 h _) (fun _=>z0c (h _ _ _ _ _ (fun _=>le_refl _)) (fun _=>le_refl _)))))) (le_refl _))
theorem v25 {i j:It} (h:i.Le j):∀ s,le (g30 i std s) (g30 j std s):=fun _=>z0c (w9a h _) (fun _=>z0v (le_refl _) (z0c (v21 h _) (fun _=>z0v (le_refl _) (z0a (z0a (z0c (le_refl _) (fun _=>z0c (h _ _ _ _ _ (fun _=>le_refl _)) (fun _=>z0c (h _ _ _ _ _ (w4r h)) (fun _=>z0c (mg49 h _) (fun _=>le_refl _))))))))))
theorem mg14 {i j:It} (h:i.Le j):∀ s,le (g14 i std s) (g14 j std s):=fun _=>z0c (le_refl _) (fun _=>z0c (le_refl _) (fun _=>z0c (le_refl _) (fun _=>z0c (le_refl _) (fun _=>z0c (le_refl _) (fun _=>z0c (w9d h _) (fun _=>z0c (le_refl _) (fun _=>z0c (mg36 h _) (fun _=>z0c (le_refl _) (fun _=>z0c (mg24 h _) (fun _=>z0c (le_refl _) (fun _=>z0c (mg26 h _) (fun _=>z0c (le_refl _) (fun _=>z0c (mg37 h _) (fun _=>z0c (v25 h _) (fun _=>z0c (v25 h _) (fun _=>z0c (mg31 h _) (fun _=>z0c (mg28 h _) (fun _=>z0c (le_refl _) (fun _=>z0v (le_refl _) (z0c (mg33 h _) (fun _=>z0c (z11 (z0v (z0a (z0c (w7y h _) (fun _=>z0v (z0c (w7y h _) (fun _=>z0v (z0c (v26 h _) (fun _=>z0v (z0a (z0c (w7y h _) (fun _=>z0v (z0v (z0c (le_refl _) (fun _=>z0a (z0c (mg25 h _) (fun _=>z0v (z0c (v26 h _) (fun _=>z0v (z0c (mg29 h _) (fun _=>le_refl _)) (le_refl _))) (le_refl _))))) (le_refl _)) (le_refl _)))) (le_refl _))) (le_refl _))) (le_refl _)))) (le_refl _))) (fun _=>le_refl _))))))))))))))))))))))
end Go.Am
end
section
namespace Go.Am
theorem w5i:g14 (itN 400) std ()=some (true,()):=by kernel_rfl
theorem w7e:G14 std ()=some (true,()):=mg14 (w43 400) () _ w5i
end Go.Am
end
noncomputable section
namespace Go.Am
def g4 (it:It):(p:Prim)→(LD×(LD×Unit))→Option T0:=
 fun p x=>
 opt.bnd ((LD×(LD×T8))) _ (
 opt.run ((LD×(LD×T8))) (
 opt.bnd T0 _ (g23 it p (x.1,())) fun a=>
 opt.ask _ a.1 (
 opt.ret _ (x.1,(x.2.1,(Bool.true,())))) (
 opt.ask _ (p.cmp .gtr (p.ofNat (p.len x.2.1)) (14:Int)) (
 opt.ret _ (x.1,(x.2.1,(Bool.true,())))) (
 opt.bnd T2 _ (g24 it p (x.1,(x.2.1,()))) fun b=>
 opt.bnd T2 _ (g25 it p (x.1,(x.2.1,()))) fun c=>
 opt.ret _ (x.1,(x.2.1,((p.cmp .neq b.1 c.1),()))))))) fun d=>
 opt.ask _ d.2.2.1 (
 opt.bnd T0 _ (
 opt.run T0 (
 opt.bnd T0 _ (g23 it p (d.1,())) fun e=>
 opt.ask _ e.1 (
 opt.bnd T0 _ (g14 it p ()) fun f=>
 opt.ret _ (f.1,())) (
 opt.ask _ (p.cmp .gtr (p.ofNat (p.len d.2.1)) (14:Int)) (
 opt.bnd T0 _ (g14 it p ()) fun g=>
 opt.ret _ (g.1,())) (
 opt.ret _ (Bool.false,()))))) fun h=>
 opt.ret _ (h.1,())) (
 opt.bnd ((LD×T1)) _ (g26 it p (d.1,())) fun i=>
 opt.bnd T2 _ (g27 it p (d.1,())) fun j=>
 opt.ask _ (p.cmp .neq j.1 (0:Int)) (
 opt.bnd T0 _ (
 opt.run T0 (
 opt.bnd T2 _ (g27 it p (d.1,())) fun k=>
 opt.ask _ (p.cmp .eql i.2.1 k.1) (
 opt.ask _ (p.cmp .eql (p.ofNat (p.len i.1)) (0:Int)) (
 opt.bnd T0 _ (g14 it p ()) fun l=>
 opt.ret _ (l.1,())) (
 opt.ret _ (Bool.false,()))) (
 opt.ret _ (Bool.false,())))) fun m=>
 opt.ret _ (m.1,())) (
 opt.bnd T0 _ (
 opt.run T0 (
 opt.ask _ (p.cmp .eql i.2.1 (0:Int)) (
 opt.need _ (p.and Bool.true (p.and (p.leN (p.add 0 (p.len i.1)) (p.len i.1)) Bool.true))<|
 opt.bnd T2 _ (g25 it p (d.1,((p.cut i.1 0 (p.len i.1)),()))) fun n=>
 opt.ask _ (p.cmp .eql n.1 (0:Int)) (
 opt.bnd T0 _ (g14 it p ()) fun o=>
 opt.ret _ (o.1,())) (
 opt.ret _ (Bool.false,()))) (
 opt.ret _ (Bool.false,())))) fun q=>
 opt.ret _ (q.1,())))
def g5 (it:It):(p:Prim)→(LD×(LD×Unit))→Option T0:=
 fun p x=>
 opt.bnd ((LD×(LD×T8))) _ (
 opt.run ((LD×(LD×T8))) (
 opt.ask _ (p.cmp .gtr (p.ofNat (p.len x.1)) (14:Int)) (
 opt.ret _ (x.1,(x.2.1,(Bool.true,())))) (
 opt.ret _ (x.1,(x.2.1,((p.cmp .gtr (p.ofNat (p.len x.2.1)) (14:Int)),())))))) fun a=>
 opt.ask _ a.2.2.1 (
 opt.bnd T0 _ (g14 it p ()) fun b=>
 opt.ret _ (b.1,())) (
 opt.bnd T2 _ (g28 it p (a.1,(a.2.1,()))) fun c=>
 opt.bnd T2 _ (g29 it p (a.1,(a.2.1,()))) fun d=>
 opt.ask _ (p.cmp .neq c.1 d.1) (
 opt.ret _ (Bool.false,())) (
 opt.bnd ((LD×T1)) _ (g30 it p (a.1,())) fun e=>
 opt.bnd ((LD×T1)) _ (g31 it p (a.1,())) fun f=>
 opt.bnd T2 _ (g32 it p (a.1,())) fun g=>
 opt.ask _ (p.cmp .neq e.2.1 g.1) (
 opt.ret _ (Bool.false,())) (
 opt.ask _ (p.cmp .eql g.1 (0:Int)) (
 opt.bnd ((LD×T1)) _ (g33 it p (e.1,())) fun h=>
 opt.bnd T0 _ (
 opt.run T0 (
 opt.ask _ (p.cmp .eql h.2.1 (0:Int)) (
 opt.need _ (p.and (p.leN (p.add 0 (p.len h.1)) (p.len h.1)) (p.and Bool.true Bool.true))<|
 opt.bnd T0 _ (g21 it p ((p.cut h.1 0 (p.len h.1)),(a.1,()))) fun i=>
 opt.ask _ i.1 (
 opt.ask _ (p.cmp .eql f.2.1 (5:Int)) (
 opt.ask _ (p.cmp .eql (p.ofNat (p.len f.1)) (0:Int)) (
 opt.bnd T0 _ (g14 it p ()) fun j=>
 opt.ret _ (j.1,())) (
 opt.ret _ (Bool.false,()))) (
 opt.ret _ (Bool.false,()))) (
 opt.ret _ (Bool.false,()))) (
 opt.ret _ (Bool.false,())))) fun k=>
 opt.ret _ (k.1,())) (
 opt.ask _ (p.cmp .eql g.1 (13:Int)) (
 opt.bnd T0 _ (
 opt.run T0 (
 opt.ask _ (p.cmp .eql (p.ofNat (p.len e.1)) (0:Int)) (
 opt.ask _ (p.cmp .eql f.2.1 (0:Int)) (
 opt.bnd T2 _ (g29 it p (a.1,(f.1,()))) fun l=>
 opt.ask _ (p.cmp .eql l.1 (0:Int)) (
 opt.bnd T0 _ (g14 it p ()) fun m=>
 opt.ret _ (m.1,())) (
 opt.ret _ (Bool.false,()))) (
 opt.ret _ (Bool.false,()))) (
 opt.ret _ (Bool.false,())))) fun n=>
 opt.ret _ (n.1,())) (
 opt.bnd T0 _ (
 opt.run T0 (
 opt.ask _ (p.cmp .eql (p.ofNat (p.len e.1)) (0:Int)) (
 opt.ask _ (p.cmp .eql f.2.1 g.1) (
 opt.ask _ (p.cmp .eql (p.ofNat (p.len f.1)) (0:Int)) (
 opt.bnd T0 _ (g14 it p ()) fun o=>
 opt.ret _ (o.1,())) (
 opt.ret _ (Bool.false,()))) (
 opt.ret _ (Bool.false,()))) (
 opt.ret _ (Bool.false,())))) fun q=>
 opt.ret _ (q.1,()))))))
def v1p:Ctr:=
 ⟨13,[.list 1],[],[(.ret,⟨[(0, .bool)],[],1⟩)]⟩
def la13:List LA:=
 []
def ja13:List JA:=
 [⟨13,[false,true,true,true,true,true,true,true,true],0,[(AX.normal,⟨[(2, .bool)],[],86⟩)]⟩]
def v1h:List CF:=
 [⟨w3a,G22⟩,⟨x8v,G21⟩,⟨x2r,G27⟩,⟨w56,G44⟩,⟨w57,G43⟩,⟨w27,G37⟩,⟨w58,G42⟩,⟨w28,G36⟩,⟨w29,G33⟩,⟨x5n,G35⟩,⟨w6j,G14⟩,⟨w6i,G23⟩]
def an13:Anns:=
 ⟨v1h,ja13,[]⟩
def g13 (it:It):(p:Prim)→(LD×Unit)→Option T0:=
 fun p x=>
 opt.bnd T0 _ (g23 it p (x.1,())) fun a=>
 opt.ask _ a.1 (
 opt.bnd T0 _ (g14 it p ()) fun b=>
 opt.ret _ (b.1,())) (
 opt.bnd ((LD×T1)) _ (g35 it p (x.1,())) fun c=>
 opt.bnd ((LD×T1)) _ (g33 it p (x.1,())) fun d=>
 opt.bnd T7 _ (g36 it p (x.1,())) fun e=>
 opt.bnd T7 _ (g42 it p (x.1,())) fun f=>
 opt.bnd ((LD×T1)) _ (g37 it p (x.1,())) fun g=>
 opt.bnd ((LD×T1)) _ (g43 it p (x.1,())) fun h=>
 opt.bnd T0 _ (
 opt.run T0 (
 opt.bnd T2 _ (g44 it p (x.1,())) fun i=>
 opt.bnd T2 _ (g27 it p (x.1,())) fun j=>
 opt.ask _ (p.cmp .eql i.1 j.1) (
 opt.need _ (p.and (p.leN (p.add 0 (p.len c.1)) (p.len c.1)) (p.and (p.leN (p.add 0 (p.len d.1)) (p.len d.1)) Bool.true))<|
 opt.bnd T0 _ (g21 it p ((p.cut c.1 0 (p.len c.1)),((p.cut d.1 0 (p.len d.1)),()))) fun k=>
 opt.ask _ k.1 (
 opt.ask _ (p.cmp .eql c.2.1 d.2.1) (
 opt.ask _ (p.cmp .eql e.1 f.1) (
 opt.ask _ (p.cmp .eql e.2.1 f.2.1) (
 opt.bnd T0 _ (g22 it p (g.1,(h.1,()))) fun l=>
 opt.ask _ l.1 (
 opt.ask _ (p.cmp .eql g.2.1 h.2.1) (
 opt.bnd T0 _ (g14 it p ()) fun m=>
 opt.ret _ (m.1,())) (
 opt.ret _ (Bool.false,()))) (
 opt.ret _ (Bool.false,()))) (
 opt.ret _ (Bool.false,()))) (
 opt.ret _ (Bool.false,()))) (
 opt.ret _ (Bool.false,()))) (
 opt.ret _ (Bool.false,()))) (
 opt.ret _ (Bool.false,())))) fun n=>
 opt.ret _ (n.1,()))
def G13:=g13 it0
theorem ok13:CtrOk PG v1p (G13 std):=okF (a:=an13) (l:=la13) (gC v2y (gC w8w (gC w4d (gC ok44 (gC ok43 (gC v2v (gC ok42 (gC v2w (gC v2x (gC w7t (gC ok14 (gC ok23 (gN))))))))))))) (by kernel_rfl) fun _ _=>by kernel_rfl
end Go.Am
end
section
namespace Go.Am
open T11
variable {fl:List Int→Bool}
theorem x75:g14 it0 std ()=some (true,()):=w7e
theorem y9i {d:List (List Int)} (h:¬ y0x d):∀ l∈d,l.length≤1000000:=fun l hl=>by
 have:¬ 14<l.length:=fun hlt=>h (.inr ⟨l,hl,hlt⟩)
 omega
theorem z9p {d:List (List Int)} (hl:d.length≤1000):(z13 d).length≤1000000∧∀ l∈z13 d,l.length≤1000000:=by
 have h1:∀ j,(RG (rcD d) d.length j).length≤j:=by
  intro j
  induction j with
  |zero=>exact Nat.le_refl _
  |succ j ih=>
   rw [RG]
   cases (lG (rcD d) d.length j).isEmpty<;>simp<;>omega
 have h2:∀ j,∀ l∈RG (rcD d) d.length j,l.length≤d.length:=by
  intro j
  induction j with
  |zero=>intro l hl; cases hl
  |succ j ih=>
   intro l hl
   rw [RG] at hl
   have h3:(lG (rcD d) d.length j).length≤d.length:=by
    have:=List.length_filter_le (fun i=>rcD d i==d.length - j) (List.range d.length)
    rw [List.length_range] at this; exact this
   cases he:(lG (rcD d) d.length j).isEmpty with
   |true=>rw [he] at hl; exact ih l hl
   |false=>
    rw [he,cond_false,List.mem_append] at hl
    rcases hl with hl|hl
    ·exact ih l hl
    ·rw [List.mem_singleton.1 hl]; exact h3
 have h3:=h1 d.length
 refine ⟨by rw [z13,List.length_map]; omega,fun l hl'=>?_⟩
 rw [z13,List.mem_map] at hl'
 obtain ⟨m,hm,rfl⟩:=hl'
 have:=h2 d.length m hm
 rw [y45]; omega
theorem w7f (d:List (List Int)):G13 std (z0d fl d,())=some (true,()):=by
 have h23:g23 it0 std (z0d fl d,())=_:=w7d d
 have hg:=x75
 unfold G13
 by_cases a:y0x d
 ·simp only [g13,z01,z02,eq_self,not_true,not_false_eq_true,decide_true,decide_false,Bool.not_true,Bool.not_false,Int.reduceLT,Int.reduceNeg,Int.reduceGT,cond_true,cond_false,Int.reduceEq,h23,a,hg]
 ·have hr:=y9i a
  have h35:g35 it0 std (z0d fl d,())=_:=x6o d hr
  have h33:g33 it0 std (z0d fl d,())=_:=w7c d hr
  have h36:g36 it0 std (z0d fl d,())=_:=w7b d hr
  have h42:g42 it0 std (z0d fl d,())=_:=w67 d hr
  have h37:g37 it0 std (z0d fl d,())=_:=w7a d hr
  have h43:g43 it0 std (z0d fl d,())=_:=w66 d hr
  have h44:g44 it0 std (z0d fl d,())=_:=w65 d hr
  have h27:g27 it0 std (z0d fl d,())=_:=x1p d hr
  by_cases h:z0w d=0
  ·rw [if_pos h] at h35 h33 h36 h42 h37 h43
   have hl:=z3v h
   have h21:g21 it0 std (z0h (z1f d),(z0h (z1f d),()))=_:=x6p (z1f d) (z1f d) (by rw [z2q]; omega)
   have h22:g22 it0 std (z0d fz (z13 d),(z0d fz (z13 d),()))=_:=w0w (z13 d) (z13 d) (z9p (by omega)).1 (z9p (by omega)).2
   have ht:(z0h (z1f d)).take (z0h (z1f d)).length=z0h (z1f d):=List.take_length
   simp only [decide_true] at h21 h22
   simp only [g13,z01,z02,eq_self,not_true,not_false_eq_true,decide_true,decide_false,Bool.not_true,Bool.not_false,Int.reduceLT,Int.reduceNeg,Int.reduceGT,cond_true,cond_false,Int.reduceEq,h23,a,h35,h33,h36,h42,h37,h43,h44,h27,ne_eq,Nat.le_refl,Bool.and_true,List.drop_zero,ht,h21,h22,hg]
  ·rw [if_neg h] at h35 h33 h36 h42 h37 h43
   have h21:g21 it0 std ([],([],()))=_:=x6p [] [] (by simp)
   have h22:g22 it0 std ([],([],()))=_:=w0w (fl:=fz) (fl':=fz) [] [] (by simp) (by simp)
   simp only [decide_true] at h21 h22
   simp only [g13,z01,z02,eq_self,not_true,not_false_eq_true,decide_true,decide_false,Bool.not_true,Bool.not_false,Int.reduceLT,Int.reduceNeg,Int.reduceGT,cond_true,cond_false,Int.reduceEq,h23,a,h35,h33,h36,h42,h37,h43,h44,h27,ne_eq,Nat.le_refl,Bool.and_true,List.drop_zero,List.take_nil,h21,h22,hg]
end Go.Am
end
section
namespace Go.Proofs.Ytjlhhpjkmgediaa
open Go.ChangeShapes Go.WideShapes Go.ChangeAt Go.RowKit Go.Am
theorem w31 {e0:List (List D)} (h:G13 std (e0,())=some (true,())):∃ h',z85 Try.prog 13 (toA [.list false 1 e0]) [] (.d (.bool true)) h':=by
 have:=(ok13.2 (e0,()) (true,()) h).2
 exact ⟨_,this⟩
theorem w79:w1c Try.prog 6 Try.f13.params.toList=true:=by kernel_rfl
theorem rt13:Try.f13.resultTypes=#[Try.f13.resultTypes.getD 0 0]:=by kernel_rfl
theorem rb13:Try.prog.underlying (Try.f13.resultTypes.getD 0 0)=some .bool:=by kernel_rfl
theorem w3k:Try.f13.params.toList.all (fun t=>decide (t<Try.prog.types.size))=true:=by kernel_rfl
set_option maxRecDepth 100000 in
theorem x2v (H:Type) (enc:TypeId×Value→H) (W:World) (base:Nat) (args:Array Value) (ds gs:List (DataW H)) (before:List MemPlace)
  (hval:∀ (j:Nat) t v,Try.f13.params[j]?=some t→args[j]?=some v→Value.okWide Try.prog W .any base t v)
  (hW:DataW.Whole enc Try.prog Try.f13.params.toList Rows.panelDuelsSpec.vars false W args.toList ds gs before):
  Calls Try.prog 13 args W fun e W'=>∃ v,e= .returned v∧Rows.panelDuelsSpec.post enc Try.prog Try.f13 false true false false W args v W':=by
 have hW':=hW
 obtain ⟨p,q,hA0,hV,rfl,hfz,hnd⟩:=hW
 have hA:DataW.TrodAll enc Try.prog W 0 (fun _=>true) true Try.f13.params.toList args.toList ds p:=hA0
 obtain ⟨xs,h1,h2,h3⟩:=x6i (O:=fun _=>False) (fun _ h=>h) w79 (x4u hval) hA
 have hd:∃ x0,xs=[x0]∧(DK (.list [.list [.int .i64]]) x0):=by
  match xs,h1 with
  |[x0],h1=>exact ⟨x0,rfl,h1.1⟩
 obtain ⟨x0,rfl,k0⟩:=hd
 obtain ⟨d0,rfl⟩:=x7p k0
 obtain ⟨h',hr⟩:=w31 (w7f d0)
 exact (y58 hr h2 h3).mono fun e W' ⟨he,hs⟩=>⟨_,he,x7v laid rowed sized w3k rfl rt13 rb13 (fun ds hd=>by
  match ds,hd with
  |[d0],_=>exact ⟨rfl,rfl,rfl⟩) hW' hs⟩
set_option maxRecDepth 100000 in
theorem x7q (os:Os) (started:os.Started) (H:Type) (enc:TypeId×Value→H):
  ReturnsInHanded {} Try.checked os 13 .any (Rows.panelDuelsSpec.pre6 enc Try.prog Try.f13 Rows.panelDuelsRow.domain false) (Rows.panelDuelsSpec.post enc Try.prog Try.f13 false true false false):=by
 refine returnsInHanded_of_change (C:=Try.checked) own started (by kernel_rfl) Try.func13
  (ChangeSpec.witness6 (enc:=enc) (C:=Try.checked) false ⟨#[],#[.slice none 0 0],[]⟩ 8 (by kernel_rfl) (by kernel_rfl) (by kernel_rfl) (by kernel_rfl)) ?_
 intro W base args ds gs before hval hW _ _
 exact x2v H enc W base args ds gs before hval hW
set_option maxRecDepth 100000 in
theorem y2i:Rows.panelDuelsRow.holds Try.pinned (OpenSpec.ofChange Rows.panelDuelsSpec):=
 OpenClaim.holds_of_wide 13 Try.f13 rfl rfl rfl rfl rfl rfl rfl ⟨rfl,rfl,rfl,rfl,rfl⟩ rfl rfl rfl rfl rfl (by kernel_rfl) Try.func13 (by kernel_rfl)
  (of_decide_eq_true (by kernel_rfl)) (by unfold Func.isWrapper; first|(rw [if_pos (by decide+kernel)]; kernel_rfl)|(rw [if_neg (by decide+kernel)]; exact ⟨rfl,rfl⟩))
  (fun os started H enc _=>x7q os started H enc)
theorem panelDuels_holds:Rows.PanelDuelsSaid:=y2i
end Go.Proofs.Ytjlhhpjkmgediaa
end
