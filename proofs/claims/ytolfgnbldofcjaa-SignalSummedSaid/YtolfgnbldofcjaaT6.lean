/-
  Proved: SignalSummed: for every input the call returns true, and each argument reads afterwards as it read before; there is no condition.
-/
import Derived.Test.YtolfgnbldofcjaaT5
import Derived.Test.YtolfgnbldofcjaaProg
import Derived.KernelRfl
set_option linter.unusedVariables false
set_option linter.unusedSimpArgs false
set_option linter.unusedSectionVars false
set_option maxRecDepth 100000
set_option maxHeartbeats 0
noncomputable section
namespace Go.Am
def w08:Ctr:=
 ⟨11,[.agg [.list 2, .list 1], .int .u8, .list 1, .list 2],[],[(.ret,⟨[(0, .bool)],[],1⟩)]⟩
def la11:List LA:=
 [⟨11,[false,true,false,true,true,true,true,true],0,⟨⟨[(3, .list 2),(4, .bptr 0 0),(9, .bptr 1 0),(10, .vec 2 2),(12, .int .i64)],[.box [.list 2, .list 1], .box [.int .i64, .int .i64, .int .i64], .row [ci,ci]],237⟩,[(AX.ret,⟨[(8, .bool)],[],237⟩),((AX.exit 0),⟨[(3, .list 2),(4, .bptr 0 0),(9, .bptr 1 0),(10, .vec 2 2)],[.box [.list 2, .list 1], .box [.int .i64, .int .i64, .int .i64], .row [ci,ci]],237⟩)]⟩⟩,
 ⟨11,[false,true,true,false,true,false,true,true,true,true,true,true],0,⟨⟨[(3, .list 2),(4, .bptr 0 0),(9, .bptr 1 0),(10, .vec 2 2),(17, .list 2),(18, .int .i64)],[.box [.list 2, .list 1], .box [.int .i64, .int .i64, .int .i64], .row [ci,ci]],237⟩,[(AX.ret,⟨[(8, .bool)],[],237⟩),((AX.exit 2),⟨[(3, .list 2),(4, .bptr 0 0),(9, .bptr 1 0),(10, .vec 2 2)],[.box [.list 2, .list 1], .box [.int .i64, .int .i64, .int .i64], .row [ci,ci]],237⟩)]⟩⟩,
 ⟨11,[false,true,false,true,false,false,true,false,false,true,true,false,true,false,true,true,true,true,true,true],0,⟨⟨[(3, .list 2),(4, .bptr 0 0),(9, .bptr 1 0),(10, .vec 2 2),(17, .list 2),(18, .int .i64),(19, .bool),(20, .int .i64)],[.box [.list 2, .list 1], .box [.int .i64, .int .i64, .int .i64], .row [ci,ci]],237⟩,[((AX.exit 4),⟨[(3, .list 2),(4, .bptr 0 0),(9, .bptr 1 0),(10, .vec 2 2),(17, .list 2),(18, .int .i64),(19, .bool)],[.box [.list 2, .list 1], .box [.int .i64, .int .i64, .int .i64], .row [ci,ci]],237⟩)]⟩⟩,
 ⟨11,[false,true,false,true,true,true,true,true,true,true,true,true],0,⟨⟨[(4, .bptr 0 0),(9, .bptr 1 0),(10, .vec 2 2),(21, .bptr 3 0),(22, .int .i64)],[.box [.list 2, .list 1], .box [.int .i64, .int .i64, .int .i64], .row [ci,ci], .box [.list 2, .sl 4 1], .row [(CK.list 2)]],237⟩,[(AX.ret,⟨[(8, .bool)],[],237⟩),((AX.exit 6),⟨[(4, .bptr 0 0),(9, .bptr 1 0),(21, .bptr 2 0)],[.box [.list 2, .list 1], .box [.int .i64, .int .i64, .int .i64], .box [.list 2, .sl 3 1], .row [(CK.list 2)]],237⟩)]⟩⟩]
def ja11:List JA:=
 [⟨11,[false,true,false,false,true,false,true,false,false,true,false,false,true,true,false,true,false,true,true,true,true,true,true],0,[(AX.normal,⟨[(3, .list 2),(4, .bptr 0 0),(9, .bptr 1 0),(10, .vec 2 2),(17, .list 2),(18, .int .i64),(19, .bool),(20, .int .i64)],[.box [.list 2, .list 1], .box [.int .i64, .int .i64, .int .i64], .row [ci,ci]],237⟩)]⟩,
 ⟨11,[false,false,true],0,[(AX.normal,⟨[(1, .int .u8),(2, .list 1),(3, .list 2),(4, .bptr 0 0),(37, .bool)],[.box [.list 2, .list 1]],237⟩)]⟩,
 ⟨11,[false,true,true,true,true,true,true,true,true,true,true],0,[(AX.normal,⟨[(8, .bool)],[],237⟩)]⟩,
 ⟨11,[true,false,true,true,true,true,true,true],0,[(AX.ret,⟨[(8, .bool)],[],237⟩),(AX.normal,⟨[(3, .list 2),(4, .bptr 0 0),(9, .bptr 1 0),(10, .vec 2 2)],[.box [.list 2, .list 1], .box [.int .i64, .int .i64, .int .i64], .row [ci,ci]],237⟩)]⟩,
 ⟨11,[false,true,false,false,true,false,true,true,true,true,true],0,[(AX.ret,⟨[(8, .bool)],[],237⟩),(AX.normal,⟨[(3, .list 2),(4, .bptr 0 0),(9, .bptr 1 0),(10, .vec 2 2),(12, .int .i64)],[.box [.list 2, .list 1], .box [.int .i64, .int .i64, .int .i64], .row [ci,ci]],237⟩)]⟩,
 ⟨11,[false,true,false,false,true,false,false,true,false,true,true,true,true,true,true,true,true,true],0,[(AX.normal,⟨[(4, .bptr 0 0),(9, .bptr 1 0),(10, .vec 2 2),(21, .bptr 3 0),(22, .int .i64),(228, .bool)],[.box [.list 2, .list 1], .box [.int .i64, .int .i64, .int .i64], .row [ci,ci], .box [.list 2, .sl 4 1], .row [(CK.list 2)]],237⟩)]⟩,
 ⟨11,[false,false,true,true,true,true],0,[(AX.normal,⟨[(3, .list 2),(4, .bptr 0 0),(9, .bptr 1 0),(10, .vec 2 2),(67, .bool)],[.box [.list 2, .list 1], .box [.int .i64, .int .i64, .int .i64], .row [ci,ci]],237⟩)]⟩,
 ⟨11,[true,true,true,false,false,true,false,false,true,false,true,true,true,true,true],0,[(AX.ret,⟨[(8, .bool)],[],237⟩),(AX.normal,⟨[(3, .list 2),(4, .bptr 0 0),(9, .bptr 1 0),(10, .vec 2 2),(12, .int .i64)],[.box [.list 2, .list 1], .box [.int .i64, .int .i64, .int .i64], .row [ci,ci]],237⟩)]⟩]
def w8l:List CF:=
 [⟨w9j,G16⟩,⟨v44,G31⟩,⟨v4v,G45⟩,⟨v4w,G44⟩,⟨w9h,G21⟩,⟨w9g,G43⟩,⟨v4x,G40⟩,⟨v42,G33⟩,⟨v5d,G15⟩,⟨v47,G29⟩]
def an11:Anns:=
 ⟨w8l,ja11,[]⟩
def y9s (p:Prim):(LD×(LD×(LD×(LD×T11))))→Option ((LD×(LD×(LD×(LD×T11))))⊕T28):=
 fun a=>opt.run _ (
 opt.ask _ (p.cmp .lss a.2.2.2.2.2.2.2.2.2.2.1 (p.ofNat (p.len a.1))) (
 opt.need _ (bif (p.cmp .geq a.2.2.2.2.2.2.2.2.2.2.1 (0:Int)) then (p.cmp .lss a.2.2.2.2.2.2.2.2.2.2.1 (p.ofNat (p.len a.1))) else Bool.false)<|
 opt.need _ (p.rowOk a.1 (p.add 0 (p.nat a.2.2.2.2.2.2.2.2.2.2.1)) [ci,ci])<|
 opt.need _ (p.and (p.and Bool.true (p.and (p.leN (p.add a.2.2.2.2.2.2.2.2.1 a.2.2.2.2.2.2.2.2.2.1) (p.len a.2.1)) Bool.true)) (p.and Bool.true Bool.true))<|
 opt.bnd T17 _ (G21 p (a.2.2.2.2.2.2.2.1,((p.cut a.2.1 a.2.2.2.2.2.2.2.2.1 a.2.2.2.2.2.2.2.2.2.1),((p.rdI a.1 (p.add 0 (p.nat a.2.2.2.2.2.2.2.2.2.2.1)) 0),((p.rdI a.1 (p.add 0 (p.nat a.2.2.2.2.2.2.2.2.2.2.1)) 1),()))))) fun b=>
 opt.bnd ((LD×(LD×(LD×(LD×T12))))) _ (
 opt.run ((LD×(LD×(LD×(LD×T12))))) (
 opt.ask _ (p.cmp .neq b.2.1 (0:Int)) (
 opt.need _ (p.eqN 0 0)<|
 opt.need _ (p.eqN (p.len a.1) (p.len a.1))<|
 opt.ret _ (a.1,(a.2.1,(a.2.2.1,(a.2.2.2.1,(a.2.2.2.2.1,(a.2.2.2.2.2.1,(a.2.2.2.2.2.2.1,(a.2.2.2.2.2.2.2.1,(a.2.2.2.2.2.2.2.2.1,(a.2.2.2.2.2.2.2.2.2.1,(a.2.2.2.2.2.2.2.2.2.2.1,(Bool.true,()))))))))))))) (
 opt.need _ (p.eqN 0 0)<|
 opt.need _ (p.eqN (p.len a.1) (p.len a.1))<|
 opt.ret _ (a.1,(a.2.1,(a.2.2.1,(a.2.2.2.1,(a.2.2.2.2.1,(a.2.2.2.2.2.1,(a.2.2.2.2.2.2.1,(a.2.2.2.2.2.2.2.1,(a.2.2.2.2.2.2.2.2.1,(a.2.2.2.2.2.2.2.2.2.1,(a.2.2.2.2.2.2.2.2.2.2.1,((bif b.1 then Bool.false else Bool.true),()))))))))))))))) fun c=>
 opt.ask _ c.2.2.2.2.2.2.2.2.2.2.2.1 (
 opt.ret _ (Sum.inr (Sum.inl (Bool.false,())))) (
 opt.need _ (p.eqN 0 0)<|
 opt.need _ (p.eqN (p.len c.1) (p.len c.1))<|
 opt.ret _ (Sum.inl (c.1,(c.2.1,(c.2.2.1,(c.2.2.2.1,(c.2.2.2.2.1,(c.2.2.2.2.2.1,(c.2.2.2.2.2.2.1,(c.2.2.2.2.2.2.2.1,(c.2.2.2.2.2.2.2.2.1,(c.2.2.2.2.2.2.2.2.2.1,((p.ar .add .i64 c.2.2.2.2.2.2.2.2.2.2.1 (1:Int)),())))))))))))))) (
 opt.ret _ (Sum.inr (Sum.inr (a.2.1,(a.2.2.1,(a.2.2.2.1,(a.2.2.2.2.1,(a.2.2.2.2.2.1,(a.2.2.2.2.2.2.1,(a.2.2.2.2.2.2.2.1,(a.2.2.2.2.2.2.2.2.1,(a.2.2.2.2.2.2.2.2.2.1,())))))))))))))
def v5n (p:Prim):(LD×(LD×(LD×(LD×T11))))→Option ((LD×(LD×(LD×(LD×T11))))⊕T28):=
 fun a=>opt.run _ (
 opt.ask _ (p.cmp .lss a.2.2.2.2.2.2.2.2.2.2.1 (p.ofNat (p.len a.1))) (
 opt.need _ (bif (p.cmp .geq a.2.2.2.2.2.2.2.2.2.2.1 (0:Int)) then (p.cmp .lss a.2.2.2.2.2.2.2.2.2.2.1 (p.ofNat (p.len a.1))) else Bool.false)<|
 opt.need _ (p.rowOk a.1 (p.add 0 (p.nat a.2.2.2.2.2.2.2.2.2.2.1)) [ci,ci])<|
 opt.need _ (p.and (p.and Bool.true (p.and (p.leN (p.add a.2.2.2.2.2.2.2.2.1 a.2.2.2.2.2.2.2.2.2.1) (p.len a.2.1)) Bool.true)) (p.and Bool.true Bool.true))<|
 opt.bnd T17 _ (G21 p (a.2.2.2.2.2.2.2.1,((p.cut a.2.1 a.2.2.2.2.2.2.2.2.1 a.2.2.2.2.2.2.2.2.2.1),((p.rdI a.1 (p.add 0 (p.nat a.2.2.2.2.2.2.2.2.2.2.1)) 0),((p.rdI a.1 (p.add 0 (p.nat a.2.2.2.2.2.2.2.2.2.2.1)) 1),()))))) fun b=>
 opt.bnd ((LD×(LD×(LD×(LD×T12))))) _ (
 opt.run ((LD×(LD×(LD×(LD×T12))))) (
 opt.ask _ (p.cmp .neq b.2.1 (0:Int)) (
 opt.need _ (p.eqN 0 0)<|
 opt.need _ (p.eqN (p.len a.1) (p.len a.1))<|
 opt.ret _ (a.1,(a.2.1,(a.2.2.1,(a.2.2.2.1,(a.2.2.2.2.1,(a.2.2.2.2.2.1,(a.2.2.2.2.2.2.1,(a.2.2.2.2.2.2.2.1,(a.2.2.2.2.2.2.2.2.1,(a.2.2.2.2.2.2.2.2.2.1,(a.2.2.2.2.2.2.2.2.2.2.1,(Bool.true,()))))))))))))) (
 opt.need _ (p.eqN 0 0)<|
 opt.need _ (p.eqN (p.len a.1) (p.len a.1))<|
 opt.ret _ (a.1,(a.2.1,(a.2.2.1,(a.2.2.2.1,(a.2.2.2.2.1,(a.2.2.2.2.2.1,(a.2.2.2.2.2.2.1,(a.2.2.2.2.2.2.2.1,(a.2.2.2.2.2.2.2.2.1,(a.2.2.2.2.2.2.2.2.2.1,(a.2.2.2.2.2.2.2.2.2.2.1,((bif b.1 then Bool.false else Bool.true),()))))))))))))))) fun c=>
 opt.ask _ c.2.2.2.2.2.2.2.2.2.2.2.1 (
 opt.ret _ (Sum.inr (Sum.inl (Bool.false,())))) (
 opt.need _ (p.eqN 0 0)<|
 opt.need _ (p.eqN (p.len c.1) (p.len c.1))<|
 opt.ret _ (Sum.inl (c.1,(c.2.1,(c.2.2.1,(c.2.2.2.1,(c.2.2.2.2.1,(c.2.2.2.2.2.1,(c.2.2.2.2.2.2.1,(c.2.2.2.2.2.2.2.1,(c.2.2.2.2.2.2.2.2.1,(c.2.2.2.2.2.2.2.2.2.1,((p.ar .add .i64 c.2.2.2.2.2.2.2.2.2.2.1 (1:Int)),())))))))))))))) (
 opt.ret _ (Sum.inr (Sum.inr (a.2.1,(a.2.2.1,(a.2.2.2.1,(a.2.2.2.2.1,(a.2.2.2.2.2.1,(a.2.2.2.2.2.2.1,(a.2.2.2.2.2.2.2.1,(a.2.2.2.2.2.2.2.2.1,(a.2.2.2.2.2.2.2.2.2.1,())))))))))))))
def v5o (p:Prim):(LD×(LD×(LD×(LD×T11))))→Option ((LD×(LD×(LD×(LD×T11))))⊕T28):=
 fun a=>opt.run _ (
 opt.ask _ (p.cmp .lss a.2.2.2.2.2.2.2.2.2.2.1 (p.ofNat (p.len a.1))) (
 opt.need _ (bif (p.cmp .geq a.2.2.2.2.2.2.2.2.2.2.1 (0:Int)) then (p.cmp .lss a.2.2.2.2.2.2.2.2.2.2.1 (p.ofNat (p.len a.1))) else Bool.false)<|
 opt.need _ (p.rowOk a.1 (p.add 0 (p.nat a.2.2.2.2.2.2.2.2.2.2.1)) [ci,ci])<|
 opt.need _ (p.and (p.and Bool.true (p.and (p.leN (p.add a.2.2.2.2.2.2.2.2.1 a.2.2.2.2.2.2.2.2.2.1) (p.len a.2.1)) Bool.true)) (p.and Bool.true Bool.true))<|
 opt.bnd T17 _ (G21 p (a.2.2.2.2.2.2.2.1,((p.cut a.2.1 a.2.2.2.2.2.2.2.2.1 a.2.2.2.2.2.2.2.2.2.1),((p.rdI a.1 (p.add 0 (p.nat a.2.2.2.2.2.2.2.2.2.2.1)) 0),((p.rdI a.1 (p.add 0 (p.nat a.2.2.2.2.2.2.2.2.2.2.1)) 1),()))))) fun b=>
 opt.bnd ((LD×(LD×(LD×(LD×T12))))) _ (
 opt.run ((LD×(LD×(LD×(LD×T12))))) (
 opt.ask _ (p.cmp .neq b.2.1 (0:Int)) (
 opt.need _ (p.eqN 0 0)<|
 opt.need _ (p.eqN (p.len a.1) (p.len a.1))<|
 opt.ret _ (a.1,(a.2.1,(a.2.2.1,(a.2.2.2.1,(a.2.2.2.2.1,(a.2.2.2.2.2.1,(a.2.2.2.2.2.2.1,(a.2.2.2.2.2.2.2.1,(a.2.2.2.2.2.2.2.2.1,(a.2.2.2.2.2.2.2.2.2.1,(a.2.2.2.2.2.2.2.2.2.2.1,(Bool.true,()))))))))))))) (
 opt.need _ (p.eqN 0 0)<|
 opt.need _ (p.eqN (p.len a.1) (p.len a.1))<|
 opt.ret _ (a.1,(a.2.1,(a.2.2.1,(a.2.2.2.1,(a.2.2.2.2.1,(a.2.2.2.2.2.1,(a.2.2.2.2.2.2.1,(a.2.2.2.2.2.2.2.1,(a.2.2.2.2.2.2.2.2.1,(a.2.2.2.2.2.2.2.2.2.1,(a.2.2.2.2.2.2.2.2.2.2.1,((bif b.1 then Bool.false else Bool.true),()))))))))))))))) fun c=>
 opt.ask _ c.2.2.2.2.2.2.2.2.2.2.2.1 (
 opt.ret _ (Sum.inr (Sum.inl (Bool.false,())))) (
 opt.need _ (p.eqN 0 0)<|
 opt.need _ (p.eqN (p.len c.1) (p.len c.1))<|
 opt.ret _ (Sum.inl (c.1,(c.2.1,(c.2.2.1,(c.2.2.2.1,(c.2.2.2.2.1,(c.2.2.2.2.2.1,(c.2.2.2.2.2.2.1,(c.2.2.2.2.2.2.2.1,(c.2.2.2.2.2.2.2.2.1,(c.2.2.2.2.2.2.2.2.2.1,((p.ar .add .i64 c.2.2.2.2.2.2.2.2.2.2.1 (1:Int)),())))))))))))))) (
 opt.ret _ (Sum.inr (Sum.inr (a.2.1,(a.2.2.1,(a.2.2.2.1,(a.2.2.2.2.1,(a.2.2.2.2.2.1,(a.2.2.2.2.2.2.1,(a.2.2.2.2.2.2.2.1,(a.2.2.2.2.2.2.2.2.1,(a.2.2.2.2.2.2.2.2.2.1,())))))))))))))
def u1c (p:Prim):(LD×(LD×(LD×(LD×T11))))→Option ((LD×(LD×(LD×(LD×T11))))⊕T28):=
 fun a=>opt.run _ (
 opt.ask _ (p.cmp .lss a.2.2.2.2.2.2.2.2.2.2.1 (p.ofNat (p.len a.1))) (
 opt.need _ (bif (p.cmp .geq a.2.2.2.2.2.2.2.2.2.2.1 (0:Int)) then (p.cmp .lss a.2.2.2.2.2.2.2.2.2.2.1 (p.ofNat (p.len a.1))) else Bool.false)<|
 opt.need _ (p.rowOk a.1 (p.add 0 (p.nat a.2.2.2.2.2.2.2.2.2.2.1)) [ci,ci])<|
 opt.need _ (p.and (p.and Bool.true (p.and (p.leN (p.add a.2.2.2.2.2.2.2.2.1 a.2.2.2.2.2.2.2.2.2.1) (p.len a.2.1)) Bool.true)) (p.and Bool.true Bool.true))<|
 opt.bnd T17 _ (G21 p (a.2.2.2.2.2.2.2.1,((p.cut a.2.1 a.2.2.2.2.2.2.2.2.1 a.2.2.2.2.2.2.2.2.2.1),((p.rdI a.1 (p.add 0 (p.nat a.2.2.2.2.2.2.2.2.2.2.1)) 0),((p.rdI a.1 (p.add 0 (p.nat a.2.2.2.2.2.2.2.2.2.2.1)) 1),()))))) fun b=>
 opt.bnd ((LD×(LD×(LD×(LD×T12))))) _ (
 opt.run ((LD×(LD×(LD×(LD×T12))))) (
 opt.ask _ (p.cmp .neq b.2.1 (0:Int)) (
 opt.need _ (p.eqN 0 0)<|
 opt.need _ (p.eqN (p.len a.1) (p.len a.1))<|
 opt.ret _ (a.1,(a.2.1,(a.2.2.1,(a.2.2.2.1,(a.2.2.2.2.1,(a.2.2.2.2.2.1,(a.2.2.2.2.2.2.1,(a.2.2.2.2.2.2.2.1,(a.2.2.2.2.2.2.2.2.1,(a.2.2.2.2.2.2.2.2.2.1,(a.2.2.2.2.2.2.2.2.2.2.1,(Bool.true,()))))))))))))) (
 opt.need _ (p.eqN 0 0)<|
 opt.need _ (p.eqN (p.len a.1) (p.len a.1))<|
 opt.ret _ (a.1,(a.2.1,(a.2.2.1,(a.2.2.2.1,(a.2.2.2.2.1,(a.2.2.2.2.2.1,(a.2.2.2.2.2.2.1,(a.2.2.2.2.2.2.2.1,(a.2.2.2.2.2.2.2.2.1,(a.2.2.2.2.2.2.2.2.2.1,(a.2.2.2.2.2.2.2.2.2.2.1,((bif b.1 then Bool.false else Bool.true),()))))))))))))))) fun c=>
 opt.ask _ c.2.2.2.2.2.2.2.2.2.2.2.1 (
 opt.ret _ (Sum.inr (Sum.inl (Bool.false,())))) (
 opt.need _ (p.eqN 0 0)<|
 opt.need _ (p.eqN (p.len c.1) (p.len c.1))<|
 opt.ret _ (Sum.inl (c.1,(c.2.1,(c.2.2.1,(c.2.2.2.1,(c.2.2.2.2.1,(c.2.2.2.2.2.1,(c.2.2.2.2.2.2.1,(c.2.2.2.2.2.2.2.1,(c.2.2.2.2.2.2.2.2.1,(c.2.2.2.2.2.2.2.2.2.1,((p.ar .add .i64 c.2.2.2.2.2.2.2.2.2.2.1 (1:Int)),())))))))))))))) (
 opt.ret _ (Sum.inr (Sum.inr (a.2.1,(a.2.2.1,(a.2.2.2.1,(a.2.2.2.2.1,(a.2.2.2.2.2.1,(a.2.2.2.2.2.2.1,(a.2.2.2.2.2.2.2.1,(a.2.2.2.2.2.2.2.2.1,(a.2.2.2.2.2.2.2.2.2.1,())))))))))))))
def v5p (p:Prim):(LD×(LD×(LD×(LD×T11))))→Option ((LD×(LD×(LD×(LD×T11))))⊕T28):=
 fun a=>opt.run _ (
 opt.ask _ (p.cmp .lss a.2.2.2.2.2.2.2.2.2.2.1 (p.ofNat (p.len a.1))) (
 opt.need _ (bif (p.cmp .geq a.2.2.2.2.2.2.2.2.2.2.1 (0:Int)) then (p.cmp .lss a.2.2.2.2.2.2.2.2.2.2.1 (p.ofNat (p.len a.1))) else Bool.false)<|
 opt.need _ (p.rowOk a.1 (p.add 0 (p.nat a.2.2.2.2.2.2.2.2.2.2.1)) [ci,ci])<|
 opt.need _ (p.and (p.and Bool.true (p.and (p.leN (p.add a.2.2.2.2.2.2.2.2.1 a.2.2.2.2.2.2.2.2.2.1) (p.len a.2.1)) Bool.true)) (p.and Bool.true Bool.true))<|
 opt.bnd T17 _ (G21 p (a.2.2.2.2.2.2.2.1,((p.cut a.2.1 a.2.2.2.2.2.2.2.2.1 a.2.2.2.2.2.2.2.2.2.1),((p.rdI a.1 (p.add 0 (p.nat a.2.2.2.2.2.2.2.2.2.2.1)) 0),((p.rdI a.1 (p.add 0 (p.nat a.2.2.2.2.2.2.2.2.2.2.1)) 1),()))))) fun b=>
 opt.bnd ((LD×(LD×(LD×(LD×T12))))) _ (
 opt.run ((LD×(LD×(LD×(LD×T12))))) (
 opt.ask _ (p.cmp .neq b.2.1 (0:Int)) (
 opt.need _ (p.eqN 0 0)<|
 opt.need _ (p.eqN (p.len a.1) (p.len a.1))<|
 opt.ret _ (a.1,(a.2.1,(a.2.2.1,(a.2.2.2.1,(a.2.2.2.2.1,(a.2.2.2.2.2.1,(a.2.2.2.2.2.2.1,(a.2.2.2.2.2.2.2.1,(a.2.2.2.2.2.2.2.2.1,(a.2.2.2.2.2.2.2.2.2.1,(a.2.2.2.2.2.2.2.2.2.2.1,(Bool.true,()))))))))))))) (
 opt.need _ (p.eqN 0 0)<|
 opt.need _ (p.eqN (p.len a.1) (p.len a.1))<|
 opt.ret _ (a.1,(a.2.1,(a.2.2.1,(a.2.2.2.1,(a.2.2.2.2.1,(a.2.2.2.2.2.1,(a.2.2.2.2.2.2.1,(a.2.2.2.2.2.2.2.1,(a.2.2.2.2.2.2.2.2.1,(a.2.2.2.2.2.2.2.2.2.1,(a.2.2.2.2.2.2.2.2.2.2.1,((bif b.1 then Bool.false else Bool.true),()))))))))))))))) fun c=>
 opt.ask _ c.2.2.2.2.2.2.2.2.2.2.2.1 (
 opt.ret _ (Sum.inr (Sum.inl (Bool.false,())))) (
 opt.need _ (p.eqN 0 0)<|
 opt.need _ (p.eqN (p.len c.1) (p.len c.1))<|
 opt.ret _ (Sum.inl (c.1,(c.2.1,(c.2.2.1,(c.2.2.2.1,(c.2.2.2.2.1,(c.2.2.2.2.2.1,(c.2.2.2.2.2.2.1,(c.2.2.2.2.2.2.2.1,(c.2.2.2.2.2.2.2.2.1,(c.2.2.2.2.2.2.2.2.2.1,((p.ar .add .i64 c.2.2.2.2.2.2.2.2.2.2.1 (1:Int)),())))))))))))))) (
 opt.ret _ (Sum.inr (Sum.inr (a.2.1,(a.2.2.1,(a.2.2.2.1,(a.2.2.2.2.1,(a.2.2.2.2.2.1,(a.2.2.2.2.2.2.1,(a.2.2.2.2.2.2.2.1,(a.2.2.2.2.2.2.2.2.1,(a.2.2.2.2.2.2.2.2.2.1,())))))))))))))
def u1d (p:Prim):(LD×(LD×(LD×(LD×T11))))→Option ((LD×(LD×(LD×(LD×T11))))⊕T28):=
 fun a=>opt.run _ (
 opt.ask _ (p.cmp .lss a.2.2.2.2.2.2.2.2.2.2.1 (p.ofNat (p.len a.1))) (
 opt.need _ (bif (p.cmp .geq a.2.2.2.2.2.2.2.2.2.2.1 (0:Int)) then (p.cmp .lss a.2.2.2.2.2.2.2.2.2.2.1 (p.ofNat (p.len a.1))) else Bool.false)<|
 opt.need _ (p.rowOk a.1 (p.add 0 (p.nat a.2.2.2.2.2.2.2.2.2.2.1)) [ci,ci])<|
 opt.need _ (p.and (p.and Bool.true (p.and (p.leN (p.add a.2.2.2.2.2.2.2.2.1 a.2.2.2.2.2.2.2.2.2.1) (p.len a.2.1)) Bool.true)) (p.and Bool.true Bool.true))<|
 opt.bnd T17 _ (G21 p (a.2.2.2.2.2.2.2.1,((p.cut a.2.1 a.2.2.2.2.2.2.2.2.1 a.2.2.2.2.2.2.2.2.2.1),((p.rdI a.1 (p.add 0 (p.nat a.2.2.2.2.2.2.2.2.2.2.1)) 0),((p.rdI a.1 (p.add 0 (p.nat a.2.2.2.2.2.2.2.2.2.2.1)) 1),()))))) fun b=>
 opt.bnd ((LD×(LD×(LD×(LD×T12))))) _ (
 opt.run ((LD×(LD×(LD×(LD×T12))))) (
 opt.ask _ (p.cmp .neq b.2.1 (0:Int)) (
 opt.need _ (p.eqN 0 0)<|
 opt.need _ (p.eqN (p.len a.1) (p.len a.1))<|
 opt.ret _ (a.1,(a.2.1,(a.2.2.1,(a.2.2.2.1,(a.2.2.2.2.1,(a.2.2.2.2.2.1,(a.2.2.2.2.2.2.1,(a.2.2.2.2.2.2.2.1,(a.2.2.2.2.2.2.2.2.1,(a.2.2.2.2.2.2.2.2.2.1,(a.2.2.2.2.2.2.2.2.2.2.1,(Bool.true,()))))))))))))) (
 opt.need _ (p.eqN 0 0)<|
 opt.need _ (p.eqN (p.len a.1) (p.len a.1))<|
 opt.ret _ (a.1,(a.2.1,(a.2.2.1,(a.2.2.2.1,(a.2.2.2.2.1,(a.2.2.2.2.2.1,(a.2.2.2.2.2.2.1,(a.2.2.2.2.2.2.2.1,(a.2.2.2.2.2.2.2.2.1,(a.2.2.2.2.2.2.2.2.2.1,(a.2.2.2.2.2.2.2.2.2.2.1,((bif b.1 then Bool.false else Bool.true),()))))))))))))))) fun c=>
 opt.ask _ c.2.2.2.2.2.2.2.2.2.2.2.1 (
 opt.ret _ (Sum.inr (Sum.inl (Bool.false,())))) (
 opt.need _ (p.eqN 0 0)<|
 opt.need _ (p.eqN (p.len c.1) (p.len c.1))<|
 opt.ret _ (Sum.inl (c.1,(c.2.1,(c.2.2.1,(c.2.2.2.1,(c.2.2.2.2.1,(c.2.2.2.2.2.1,(c.2.2.2.2.2.2.1,(c.2.2.2.2.2.2.2.1,(c.2.2.2.2.2.2.2.2.1,(c.2.2.2.2.2.2.2.2.2.1,((p.ar .add .i64 c.2.2.2.2.2.2.2.2.2.2.1 (1:Int)),())))))))))))))) (
 opt.ret _ (Sum.inr (Sum.inr (a.2.1,(a.2.2.1,(a.2.2.2.1,(a.2.2.2.2.1,(a.2.2.2.2.2.1,(a.2.2.2.2.2.2.1,(a.2.2.2.2.2.2.2.1,(a.2.2.2.2.2.2.2.2.1,(a.2.2.2.2.2.2.2.2.2.1,())))))))))))))
def x8g (p:Prim):(LD×(LD×(LD×T57)))→Option ((LD×(LD×(LD×T57)))⊕(LD×(LD×(LD×T99)))):=
 fun a=>opt.run _ (
 opt.ask _ (p.cmp .lss a.2.2.2.2.2.2.2.2.2.2.1 (p.ofNat (p.len a.2.2.2.2.2.2.2.1))) (
 opt.bnd ((LD×(LD×(LD×T57)))) _ (
 opt.run ((LD×(LD×(LD×T57)))) (
 opt.ask _ a.2.2.2.2.2.2.2.2.2.1 (
 opt.need _ (p.eqN 0 0)<|
 opt.need _ (p.eqN (p.len a.1) (p.len a.1))<|
 opt.ret _ (a.1,(a.2.1,(a.2.2.1,(a.2.2.2.1,(a.2.2.2.2.1,(a.2.2.2.2.2.1,(a.2.2.2.2.2.2.1,(a.2.2.2.2.2.2.2.1,(a.2.2.2.2.2.2.2.2.1,(Bool.true,(a.2.2.2.2.2.2.2.2.2.2.1,())))))))))))) (
 opt.need _ (p.rowOk a.2.2.2.2.2.2.2.1 (p.nat a.2.2.2.2.2.2.2.2.2.2.1) [ci,ci])<|
 opt.need _ (p.cmp .geq a.2.2.2.2.2.2.2.2.2.2.1 (0:Int))<|
 opt.need _ (bif (p.cmp .geq a.2.2.2.2.2.2.2.2.1 (0:Int)) then (p.cmp .lss a.2.2.2.2.2.2.2.2.1 (p.ofNat (p.len a.1))) else Bool.false)<|
 opt.need _ (p.rowOk a.1 (p.add 0 (p.nat a.2.2.2.2.2.2.2.2.1)) [ci,ci])<|
 opt.need _ (p.eqN 0 0)<|
 opt.need _ (p.eqN (p.len a.1) (p.len a.1))<|
 opt.ret _ (a.1,(a.2.1,(a.2.2.1,(a.2.2.2.1,(a.2.2.2.2.1,(a.2.2.2.2.2.1,(a.2.2.2.2.2.2.1,(a.2.2.2.2.2.2.2.1,(a.2.2.2.2.2.2.2.2.1,((bif (p.cmp .eql (p.rdI a.2.2.2.2.2.2.2.1 (p.nat a.2.2.2.2.2.2.2.2.2.2.1) 0) (p.rdI a.1 (p.add 0 (p.nat a.2.2.2.2.2.2.2.2.1)) 0)) then (bif (p.cmp .eql (p.rdI a.2.2.2.2.2.2.2.1 (p.nat a.2.2.2.2.2.2.2.2.2.2.1) 1) (p.rdI a.1 (p.add 0 (p.nat a.2.2.2.2.2.2.2.2.1)) 1)) then Bool.true else Bool.false) else Bool.false),(a.2.2.2.2.2.2.2.2.2.2.1,())))))))))))))) fun b=>
 opt.need _ (p.eqN 0 0)<|
 opt.need _ (p.eqN (p.len b.1) (p.len b.1))<|
 opt.ret _ (Sum.inl (b.1,(b.2.1,(b.2.2.1,(b.2.2.2.1,(b.2.2.2.2.1,(b.2.2.2.2.2.1,(b.2.2.2.2.2.2.1,(b.2.2.2.2.2.2.2.1,(b.2.2.2.2.2.2.2.2.1,(b.2.2.2.2.2.2.2.2.2.1,((p.ar .add .i64 b.2.2.2.2.2.2.2.2.2.2.1 (1:Int)),()))))))))))))) (
 opt.need _ (p.eqN 0 0)<|
 opt.need _ (p.eqN (p.len a.1) (p.len a.1))<|
 opt.ret _ (Sum.inr (a.1,(a.2.1,(a.2.2.1,(a.2.2.2.1,(a.2.2.2.2.1,(a.2.2.2.2.2.1,(a.2.2.2.2.2.2.1,(a.2.2.2.2.2.2.2.1,(a.2.2.2.2.2.2.2.2.1,(a.2.2.2.2.2.2.2.2.2.1,())))))))))))))
def x8h (p:Prim):(LD×(LD×(LD×T60)))→Option ((LD×(LD×(LD×T60)))⊕T100):=
 fun a=>opt.run _ (
 opt.ask _ (p.cmp .lss a.2.2.2.2.2.2.2.2.1 (p.ofNat (p.len a.1))) (
 opt.need _ (p.eqN 0 0)<|
 opt.need _ (p.eqN (p.len a.1) (p.len a.1))<|
 opt.bnd ((LD×(LD×(LD×T99)))) _ (
 z4m (x8g p) (a.1,(a.2.1,(a.2.2.1,(a.2.2.2.1,(a.2.2.2.2.1,(a.2.2.2.2.2.1,(a.2.2.2.2.2.2.1,(a.2.2.2.2.2.2.2.1,(a.2.2.2.2.2.2.2.2.1,(Bool.false,((0:Int),())))))))))))) fun b=>
 opt.ask _ (bif b.2.2.2.2.2.2.2.2.2.1 then Bool.false else Bool.true) (
 opt.ret _ (Sum.inr (Sum.inl (Bool.false,())))) (
 opt.need _ (p.eqN 0 0)<|
 opt.need _ (p.eqN (p.len b.1) (p.len b.1))<|
 opt.ret _ (Sum.inl (b.1,(b.2.1,(b.2.2.1,(b.2.2.2.1,(b.2.2.2.2.1,(b.2.2.2.2.2.1,(b.2.2.2.2.2.2.1,(b.2.2.2.2.2.2.2.1,((p.ar .add .i64 b.2.2.2.2.2.2.2.2.1 (1:Int)),())))))))))))) (
 opt.need _ (p.eqN 0 0)<|
 opt.need _ (p.eqN (p.len a.1) (p.len a.1))<|
 opt.ret _ (Sum.inr (Sum.inr (a.1,(a.2.1,(a.2.2.1,(a.2.2.2.1,(a.2.2.2.2.1,(a.2.2.2.2.2.1,(a.2.2.2.2.2.2.1,())))))))))))
def y5y (p:Prim):(LD×(LD×(LD×T15)))→Option ((LD×(LD×(LD×T15)))⊕T100):=
 fun a=>opt.run _ (
 opt.ask _ (p.cmp .lss a.2.2.2.2.2.2.2.1 (p.ofNat (p.len a.1))) (
 opt.alt T1 ((LD×(LD×(LD×T15)))) _ (
 opt.run T63 (
 opt.need _ (bif (p.cmp .geq a.2.2.2.2.2.2.2.1 (0:Int)) then (p.cmp .lss a.2.2.2.2.2.2.2.1 (p.ofNat (p.len a.1))) else Bool.false)<|
 opt.need _ (p.rowOk a.1 (p.add 0 (p.nat a.2.2.2.2.2.2.2.1)) [ci,ci])<|
 opt.bnd T17 _ (G21 p (a.2.1,(a.2.2.1,((p.rdI a.1 (p.add 0 (p.nat a.2.2.2.2.2.2.2.1)) 0),((p.rdI a.1 (p.add 0 (p.nat a.2.2.2.2.2.2.2.1)) 1),()))))) fun b=>
 opt.ask _ (p.cmp .neq b.2.1 (0:Int)) (
 opt.ret _ (Sum.inl (Bool.false,()))) (
 opt.ask _ (bif b.1 then Bool.false else Bool.true) (
 opt.ret _ (Sum.inl (Bool.false,()))) (
 opt.ask _ (p.cmp .gtr a.2.2.2.2.2.2.2.1 (0:Int)) (
 opt.need _ (bif (p.cmp .geq a.2.2.2.2.2.2.2.1 (0:Int)) then (p.cmp .lss a.2.2.2.2.2.2.2.1 (p.ofNat (p.len a.1))) else Bool.false)<|
 opt.need _ (p.rowOk a.1 (p.add 0 (p.nat a.2.2.2.2.2.2.2.1)) [ci,ci])<|
 opt.need _ (bif (p.cmp .geq (p.ar .sub .i64 a.2.2.2.2.2.2.2.1 (1:Int)) (0:Int)) then (p.cmp .lss (p.ar .sub .i64 a.2.2.2.2.2.2.2.1 (1:Int)) (p.ofNat (p.len a.1))) else Bool.false)<|
 opt.need _ (p.rowOk a.1 (p.add 0 (p.nat (p.ar .sub .i64 a.2.2.2.2.2.2.2.1 (1:Int)))) [ci,ci])<|
 opt.ask _ (bif (p.cmp .eql (p.rdI a.1 (p.add 0 (p.nat a.2.2.2.2.2.2.2.1)) 0) (p.rdI a.1 (p.add 0 (p.nat (p.ar .sub .i64 a.2.2.2.2.2.2.2.1 (1:Int)))) 0)) then (bif (p.cmp .eql (p.rdI a.1 (p.add 0 (p.nat a.2.2.2.2.2.2.2.1)) 1) (p.rdI a.1 (p.add 0 (p.nat (p.ar .sub .i64 a.2.2.2.2.2.2.2.1 (1:Int)))) 1)) then Bool.true else Bool.false) else Bool.false) (
 opt.ret _ (Sum.inl (Bool.false,()))) (
 opt.alt T1 ((LD×(LD×(LD×T15)))) _ (
 opt.run T63 (
 opt.ask _ (p.cmp .gtr (p.ofNat (p.len a.1)) (2:Int)) (
 opt.need _ (p.cmp .neq (p.ofNat (p.len a.1)) (0:Int))<|
 opt.need _ (bif (p.cmp .geq (p.ar .rem .i64 (p.ar .add .i64 a.2.2.2.2.2.2.2.1 (1:Int)) (p.ofNat (p.len a.1))) (0:Int)) then (p.cmp .lss (p.ar .rem .i64 (p.ar .add .i64 a.2.2.2.2.2.2.2.1 (1:Int)) (p.ofNat (p.len a.1))) (p.ofNat (p.len a.1))) else Bool.false)<|
 opt.need _ (p.rowOk a.1 (p.add 0 (p.nat (p.ar .rem .i64 (p.ar .add .i64 a.2.2.2.2.2.2.2.1 (1:Int)) (p.ofNat (p.len a.1))))) [ci,ci])<|
 opt.need _ (p.cmp .neq (p.ofNat (p.len a.1)) (0:Int))<|
 opt.need _ (bif (p.cmp .geq (p.ar .rem .i64 (p.ar .add .i64 a.2.2.2.2.2.2.2.1 (2:Int)) (p.ofNat (p.len a.1))) (0:Int)) then (p.cmp .lss (p.ar .rem .i64 (p.ar .add .i64 a.2.2.2.2.2.2.2.1 (2:Int)) (p.ofNat (p.len a.1))) (p.ofNat (p.len a.1))) else Bool.false)<|
 opt.need _ (p.rowOk a.1 (p.add 0 (p.nat (p.ar .rem .i64 (p.ar .add .i64 a.2.2.2.2.2.2.2.1 (2:Int)) (p.ofNat (p.len a.1))))) [ci,ci])<|
 opt.need _ (bif (p.cmp .geq a.2.2.2.2.2.2.2.1 (0:Int)) then (p.cmp .lss a.2.2.2.2.2.2.2.1 (p.ofNat (p.len a.1))) else Bool.false)<|
 opt.need _ (p.rowOk a.1 (p.add 0 (p.nat a.2.2.2.2.2.2.2.1)) [ci,ci])<|
 opt.need _ (bif (p.cmp .geq a.2.2.2.2.2.2.2.1 (0:Int)) then (p.cmp .lss a.2.2.2.2.2.2.2.1 (p.ofNat (p.len a.1))) else Bool.false)<|
 opt.need _ (p.rowOk a.1 (p.add 0 (p.nat a.2.2.2.2.2.2.2.1)) [ci,ci])<|
 opt.need _ (bif (p.cmp .geq a.2.2.2.2.2.2.2.1 (0:Int)) then (p.cmp .lss a.2.2.2.2.2.2.2.1 (p.ofNat (p.len a.1))) else Bool.false)<|
 opt.need _ (p.rowOk a.1 (p.add 0 (p.nat a.2.2.2.2.2.2.2.1)) [ci,ci])<|
 opt.need _ (bif (p.cmp .geq a.2.2.2.2.2.2.2.1 (0:Int)) then (p.cmp .lss a.2.2.2.2.2.2.2.1 (p.ofNat (p.len a.1))) else Bool.false)<|
 opt.need _ (p.rowOk a.1 (p.add 0 (p.nat a.2.2.2.2.2.2.2.1)) [ci,ci])<|
 opt.ask _ (p.cmp .leq (p.ar .sub .i64 (p.ar .mul .i64 (p.ar .sub .i64 (p.rdI a.1 (p.add 0 (p.nat (p.ar .rem .i64 (p.ar .add .i64 a.2.2.2.2.2.2.2.1 (1:Int)) (p.ofNat (p.len a.1))))) 0) (p.rdI a.1 (p.add 0 (p.nat a.2.2.2.2.2.2.2.1)) 0)) (p.ar .sub .i64 (p.rdI a.1 (p.add 0 (p.nat (p.ar .rem .i64 (p.ar .add .i64 a.2.2.2.2.2.2.2.1 (2:Int)) (p.ofNat (p.len a.1))))) 1) (p.rdI a.1 (p.add 0 (p.nat a.2.2.2.2.2.2.2.1)) 1))) (p.ar .mul .i64 (p.ar .sub .i64 (p.rdI a.1 (p.add 0 (p.nat (p.ar .rem .i64 (p.ar .add .i64 a.2.2.2.2.2.2.2.1 (1:Int)) (p.ofNat (p.len a.1))))) 1) (p.rdI a.1 (p.add 0 (p.nat a.2.2.2.2.2.2.2.1)) 1)) (p.ar .sub .i64 (p.rdI a.1 (p.add 0 (p.nat (p.ar .rem .i64 (p.ar .add .i64 a.2.2.2.2.2.2.2.1 (2:Int)) (p.ofNat (p.len a.1))))) 0) (p.rdI a.1 (p.add 0 (p.nat a.2.2.2.2.2.2.2.1)) 0)))) (0:Int)) (
 opt.ret _ (Sum.inl (Bool.false,()))) (
 opt.need _ (p.eqN 0 0)<|
 opt.need _ (p.eqN (p.len a.1) (p.len a.1))<|
 opt.ret _ (Sum.inr (a.1,(a.2.1,(a.2.2.1,(a.2.2.2.1,(a.2.2.2.2.1,(a.2.2.2.2.2.1,(a.2.2.2.2.2.2.1,(a.2.2.2.2.2.2.2.1,()))))))))))) (
 opt.need _ (p.eqN 0 0)<|
 opt.need _ (p.eqN (p.len a.1) (p.len a.1))<|
 opt.ret _ (Sum.inr (a.1,(a.2.1,(a.2.2.1,(a.2.2.2.1,(a.2.2.2.2.1,(a.2.2.2.2.2.1,(a.2.2.2.2.2.2.1,(a.2.2.2.2.2.2.2.1,())))))))))))) (fun c=>
 opt.ret _ (Sum.inl (c.1,()))) (fun d=>
 opt.bnd ((LD×(LD×(LD×T15)))) _ (some d) fun e=>
 opt.need _ (p.eqN 0 0)<|
 opt.need _ (p.eqN (p.len e.1) (p.len e.1))<|
 opt.ret _ (Sum.inr (e.1,(e.2.1,(e.2.2.1,(e.2.2.2.1,(e.2.2.2.2.1,(e.2.2.2.2.2.1,(e.2.2.2.2.2.2.1,(e.2.2.2.2.2.2.2.1,())))))))))))) (
 opt.alt T1 ((LD×(LD×(LD×T15)))) _ (
 opt.run T63 (
 opt.ask _ (p.cmp .gtr (p.ofNat (p.len a.1)) (2:Int)) (
 opt.need _ (p.cmp .neq (p.ofNat (p.len a.1)) (0:Int))<|
 opt.need _ (bif (p.cmp .geq (p.ar .rem .i64 (p.ar .add .i64 a.2.2.2.2.2.2.2.1 (1:Int)) (p.ofNat (p.len a.1))) (0:Int)) then (p.cmp .lss (p.ar .rem .i64 (p.ar .add .i64 a.2.2.2.2.2.2.2.1 (1:Int)) (p.ofNat (p.len a.1))) (p.ofNat (p.len a.1))) else Bool.false)<|
 opt.need _ (p.rowOk a.1 (p.add 0 (p.nat (p.ar .rem .i64 (p.ar .add .i64 a.2.2.2.2.2.2.2.1 (1:Int)) (p.ofNat (p.len a.1))))) [ci,ci])<|
 opt.need _ (p.cmp .neq (p.ofNat (p.len a.1)) (0:Int))<|
 opt.need _ (bif (p.cmp .geq (p.ar .rem .i64 (p.ar .add .i64 a.2.2.2.2.2.2.2.1 (2:Int)) (p.ofNat (p.len a.1))) (0:Int)) then (p.cmp .lss (p.ar .rem .i64 (p.ar .add .i64 a.2.2.2.2.2.2.2.1 (2:Int)) (p.ofNat (p.len a.1))) (p.ofNat (p.len a.1))) else Bool.false)<|
 opt.need _ (p.rowOk a.1 (p.add 0 (p.nat (p.ar .rem .i64 (p.ar .add .i64 a.2.2.2.2.2.2.2.1 (2:Int)) (p.ofNat (p.len a.1))))) [ci,ci])<|
 opt.need _ (bif (p.cmp .geq a.2.2.2.2.2.2.2.1 (0:Int)) then (p.cmp .lss a.2.2.2.2.2.2.2.1 (p.ofNat (p.len a.1))) else Bool.false)<|
 opt.need _ (p.rowOk a.1 (p.add 0 (p.nat a.2.2.2.2.2.2.2.1)) [ci,ci])<|
 opt.need _ (bif (p.cmp .geq a.2.2.2.2.2.2.2.1 (0:Int)) then (p.cmp .lss a.2.2.2.2.2.2.2.1 (p.ofNat (p.len a.1))) else Bool.false)<|
 opt.need _ (p.rowOk a.1 (p.add 0 (p.nat a.2.2.2.2.2.2.2.1)) [ci,ci])<|
 opt.need _ (bif (p.cmp .geq a.2.2.2.2.2.2.2.1 (0:Int)) then (p.cmp .lss a.2.2.2.2.2.2.2.1 (p.ofNat (p.len a.1))) else Bool.false)<|
 opt.need _ (p.rowOk a.1 (p.add 0 (p.nat a.2.2.2.2.2.2.2.1)) [ci,ci])<|
 opt.need _ (bif (p.cmp .geq a.2.2.2.2.2.2.2.1 (0:Int)) then (p.cmp .lss a.2.2.2.2.2.2.2.1 (p.ofNat (p.len a.1))) else Bool.false)<|
 opt.need _ (p.rowOk a.1 (p.add 0 (p.nat a.2.2.2.2.2.2.2.1)) [ci,ci])<|
 opt.ask _ (p.cmp .leq (p.ar .sub .i64 (p.ar .mul .i64 (p.ar .sub .i64 (p.rdI a.1 (p.add 0 (p.nat (p.ar .rem .i64 (p.ar .add .i64 a.2.2.2.2.2.2.2.1 (1:Int)) (p.ofNat (p.len a.1))))) 0) (p.rdI a.1 (p.add 0 (p.nat a.2.2.2.2.2.2.2.1)) 0)) (p.ar .sub .i64 (p.rdI a.1 (p.add 0 (p.nat (p.ar .rem .i64 (p.ar .add .i64 a.2.2.2.2.2.2.2.1 (2:Int)) (p.ofNat (p.len a.1))))) 1) (p.rdI a.1 (p.add 0 (p.nat a.2.2.2.2.2.2.2.1)) 1))) (p.ar .mul .i64 (p.ar .sub .i64 (p.rdI a.1 (p.add 0 (p.nat (p.ar .rem .i64 (p.ar .add .i64 a.2.2.2.2.2.2.2.1 (1:Int)) (p.ofNat (p.len a.1))))) 1) (p.rdI a.1 (p.add 0 (p.nat a.2.2.2.2.2.2.2.1)) 1)) (p.ar .sub .i64 (p.rdI a.1 (p.add 0 (p.nat (p.ar .rem .i64 (p.ar .add .i64 a.2.2.2.2.2.2.2.1 (2:Int)) (p.ofNat (p.len a.1))))) 0) (p.rdI a.1 (p.add 0 (p.nat a.2.2.2.2.2.2.2.1)) 0)))) (0:Int)) (
 opt.ret _ (Sum.inl (Bool.false,()))) (
 opt.need _ (p.eqN 0 0)<|
 opt.need _ (p.eqN (p.len a.1) (p.len a.1))<|
 opt.ret _ (Sum.inr (a.1,(a.2.1,(a.2.2.1,(a.2.2.2.1,(a.2.2.2.2.1,(a.2.2.2.2.2.1,(a.2.2.2.2.2.2.1,(a.2.2.2.2.2.2.2.1,()))))))))))) (
 opt.need _ (p.eqN 0 0)<|
 opt.need _ (p.eqN (p.len a.1) (p.len a.1))<|
 opt.ret _ (Sum.inr (a.1,(a.2.1,(a.2.2.1,(a.2.2.2.1,(a.2.2.2.2.1,(a.2.2.2.2.2.1,(a.2.2.2.2.2.2.1,(a.2.2.2.2.2.2.2.1,())))))))))))) (fun f=>
 opt.ret _ (Sum.inl (f.1,()))) (fun g=>
 opt.bnd ((LD×(LD×(LD×T15)))) _ (some g) fun h=>
 opt.need _ (p.eqN 0 0)<|
 opt.need _ (p.eqN (p.len h.1) (p.len h.1))<|
 opt.ret _ (Sum.inr (h.1,(h.2.1,(h.2.2.1,(h.2.2.2.1,(h.2.2.2.2.1,(h.2.2.2.2.2.1,(h.2.2.2.2.2.2.1,(h.2.2.2.2.2.2.2.1,()))))))))))))))) (fun i=>
 opt.ret _ (Sum.inr (Sum.inl (i.1,())))) (fun j=>
 opt.bnd ((LD×(LD×(LD×T15)))) _ (some j) fun k=>
 opt.need _ (p.eqN 0 0)<|
 opt.need _ (p.eqN (p.len k.1) (p.len k.1))<|
 opt.ret _ (Sum.inl (k.1,(k.2.1,(k.2.2.1,(k.2.2.2.1,(k.2.2.2.2.1,(k.2.2.2.2.2.1,(k.2.2.2.2.2.2.1,((p.ar .add .i64 k.2.2.2.2.2.2.2.1 (1:Int)),()))))))))))) (
 opt.need _ (p.eqN 0 0)<|
 opt.need _ (p.eqN (p.len a.1) (p.len a.1))<|
 opt.ret _ (Sum.inr (Sum.inr (a.1,(a.2.1,(a.2.2.1,(a.2.2.2.1,(a.2.2.2.2.1,(a.2.2.2.2.2.1,(a.2.2.2.2.2.2.1,())))))))))))
def G11:(p:Prim)→(LD×(LD×(Int×(LD×(LD×Unit)))))→Option T1:=
 fun p x=>
 opt.bnd ((LD×(LD×T101))) _ (
 opt.run ((LD×(LD×T101))) (
 opt.bnd T1 _ (G29 p (x.1,(x.2.1,()))) fun a=>
 opt.ask _ (bif a.1 then Bool.false else Bool.true) (
 opt.ret _ (x.1,(x.2.1,(x.2.2.1,(x.2.2.2.1,(x.2.2.2.2.1,(Bool.true,()))))))) (
 opt.ask _ (p.cmp .gtr (p.ofNat (p.len x.2.2.2.1)) (50:Int)) (
 opt.ret _ (x.1,(x.2.1,(x.2.2.1,(x.2.2.2.1,(x.2.2.2.2.1,(Bool.true,()))))))) (
 opt.ret _ (x.1,(x.2.1,(x.2.2.1,(x.2.2.2.1,(x.2.2.2.2.1,((p.cmp .gtr (p.ofNat (p.len x.2.2.2.2.1)) (11:Int)),())))))))))) fun b=>
 opt.ask _ b.2.2.2.2.2.1 (
 opt.bnd T1 _ (G15 p ()) fun c=>
 opt.ret _ (c.1,())) (
 opt.bnd T7 _ (G33 p (b.1,(b.2.1,(b.2.2.1,(b.2.2.2.1,()))))) fun d=>
 opt.bnd ((LD×T2)) _ (G16 p (b.1,(b.2.1,()))) fun e=>
 opt.bnd ((LD×(LD×(LD×T102)))) _ (
 opt.run ((LD×(LD×(LD×T102)))) (
 opt.ask _ (p.cmp .neq e.2.1 (0:Int)) (
 opt.need _ (p.eqN 0 0)<|
 opt.need _ (p.eqN (p.len e.1) (p.len e.1))<|
 opt.ret _ (e.1,(b.1,(b.2.1,(d.1,(d.2.1,(d.2.2.1,(b.2.2.2.2.1,(Bool.true,()))))))))) (
 opt.ask _ (p.cmp .lss (p.ofNat (p.len e.1)) (1:Int)) (
 opt.need _ (p.eqN 0 0)<|
 opt.need _ (p.eqN (p.len e.1) (p.len e.1))<|
 opt.ret _ (e.1,(b.1,(b.2.1,(d.1,(d.2.1,(d.2.2.1,(b.2.2.2.2.1,(Bool.true,()))))))))) (
 opt.bnd T0 _ (G40 p (b.1,(b.2.1,(b.1,(b.2.1,(d.1,(d.2.1,(d.2.2.1,())))))))) fun f=>
 opt.ask _ (p.cmp .neq f.1 (0:Int)) (
 opt.need _ (p.eqN 0 0)<|
 opt.need _ (p.eqN (p.len e.1) (p.len e.1))<|
 opt.ret _ (e.1,(b.1,(b.2.1,(d.1,(d.2.1,(d.2.2.1,(b.2.2.2.2.1,(Bool.true,()))))))))) (
 opt.need _ (p.and (p.leN (p.add 0 (p.len e.1)) (p.len e.1)) (p.and Bool.true Bool.true))<|
 opt.bnd T1 _ (G43 p ((p.cut e.1 0 (p.len e.1)),(d.1,(d.2.1,(d.2.2.1,()))))) fun g=>
 opt.need _ (p.eqN 0 0)<|
 opt.need _ (p.eqN (p.len e.1) (p.len e.1))<|
 opt.ret _ (e.1,(b.1,(b.2.1,(d.1,(d.2.1,(d.2.2.1,(b.2.2.2.2.1,((bif g.1 then Bool.false else Bool.true),()))))))))))))) fun h=>
 opt.ask _ h.2.2.2.2.2.2.2.1 (
 opt.ret _ (Bool.false,())) (
 opt.need _ (p.eqN 0 0)<|
 opt.need _ (p.eqN (p.len h.1) (p.len h.1))<|
 opt.alt T1 ((LD×(LD×(LD×T29)))) _ (
 z4m (y5y p) (h.1,(h.2.1,(h.2.2.1,(h.2.2.2.1,(h.2.2.2.2.1,(h.2.2.2.2.2.1,(h.2.2.2.2.2.2.1,((0:Int),()))))))))) (fun i=>
 opt.ret _ (i.1,())) (fun j=>
 opt.bnd ((LD×(LD×(LD×T29)))) _ (some j) fun k=>
 opt.bnd T0 _ (G44 p (k.2.1,(k.2.2.1,()))) fun l=>
 opt.alt T1 ((LD×(LD×(LD×T29)))) _ (
 opt.run (((Bool×Unit)⊕(LD×(LD×(LD×(Int×(Int×(Int×(LD×Unit))))))))) (
 opt.ask _ (p.cmp .leq l.1 (300:Int)) (
 opt.bnd ((LD×Unit)) _ (G45 p (k.2.1,(k.2.2.1,()))) fun m=>
 opt.need _ (p.eqN 0 0)<|
 opt.need _ (p.eqN (p.len k.1) (p.len k.1))<|
 opt.alt T1 ((LD×(LD×(LD×T29)))) _ (
 z4m (x8h p) (k.1,(k.2.1,(k.2.2.1,(k.2.2.2.1,(k.2.2.2.2.1,(k.2.2.2.2.2.1,(k.2.2.2.2.2.2.1,(m.1,((0:Int),())))))))))) (fun n=>
 opt.ret _ (Sum.inl (n.1,()))) (fun o=>
 opt.bnd ((LD×(LD×(LD×T29)))) _ (some o) fun q=>
 opt.need _ (p.eqN 0 0)<|
 opt.need _ (p.eqN (p.len q.1) (p.len q.1))<|
 opt.ret _ (Sum.inr (q.1,(q.2.1,(q.2.2.1,(q.2.2.2.1,(q.2.2.2.2.1,(q.2.2.2.2.2.1,(q.2.2.2.2.2.2.1,())))))))))) (
 opt.need _ (p.eqN 0 0)<|
 opt.need _ (p.eqN (p.len k.1) (p.len k.1))<|
 opt.ret _ (Sum.inr (k.1,(k.2.1,(k.2.2.1,(k.2.2.2.1,(k.2.2.2.2.1,(k.2.2.2.2.2.1,(k.2.2.2.2.2.2.1,()))))))))))) (fun r=>
 opt.ret _ (r.1,())) (fun t=>
 opt.bnd ((LD×(LD×(LD×T29)))) _ (some t) fun u=>
 opt.ask _ (p.leN (p.add 0 (p.len u.2.2.1)) 0) (
 opt.need _ (p.and Bool.true (p.and (p.leN (p.add 0 0) (p.len [])) (p.leN (p.add 0 0) (p.len []))))<|
 opt.bnd T5 _ (G31 p ((0:Int),((0:Int),()))) fun v=>
 opt.ask _ (p.leN (p.add 1 (p.len u.2.2.2.2.2.2.1)) 1) (
 opt.need _ (p.and (p.and Bool.true (p.and (p.leN (p.add 0 1) (p.len [[(D.int .i64 v.1),(D.int .i64 v.2.1)]])) (p.leN (p.add 0 1) (p.len [[(D.int .i64 v.1),(D.int .i64 v.2.1)]])))) (p.leN (p.add 0 (p.add 1 (p.len u.2.2.2.2.2.2.1))) (p.len (p.splice [[(D.int .i64 v.1),(D.int .i64 v.2.1)]] (p.add 0 1) u.2.2.2.2.2.2.1))))<|
 opt.ask _ (p.leN (p.add (p.add 0 (p.len u.2.2.1)) 1) 0) (
 opt.need _ (p.and (p.leN (p.add 0 1) (p.len [[(D.list Bool.false 2 (p.cut (p.splice [[(D.int .i64 v.1),(D.int .i64 v.2.1)]] (p.add 0 1) u.2.2.2.2.2.2.1) 0 (p.add 1 (p.len u.2.2.2.2.2.2.1))))]])) (p.and (p.leN (p.add 0 (p.add 0 (p.len u.2.2.1))) (p.len (p.splice [] (p.add 0 0) u.2.2.1))) (p.and (p.leN 1 1) (p.leN (p.add 0 0) (p.len (p.splice [] (p.add 0 0) u.2.2.1))))))<|
 opt.need _ (p.and (p.and Bool.true (p.and (p.leN (p.add 0 (p.add (p.add 0 (p.len u.2.2.1)) 1)) (p.len (p.splice (p.splice [] (p.add 0 0) u.2.2.1) (p.add 0 (p.add 0 (p.len u.2.2.1))) (p.cut [[(D.list Bool.false 2 (p.cut (p.splice [[(D.int .i64 v.1),(D.int .i64 v.2.1)]] (p.add 0 1) u.2.2.2.2.2.2.1) 0 (p.add 1 (p.len u.2.2.2.2.2.2.1))))]] 0 1)))) Bool.true)) Bool.true)<|
 opt.bnd T1 _ (G29 p (u.2.1,((p.cut (p.splice (p.splice [] (p.add 0 0) u.2.2.1) (p.add 0 (p.add 0 (p.len u.2.2.1))) (p.cut [[(D.list Bool.false 2 (p.cut (p.splice [[(D.int .i64 v.1),(D.int .i64 v.2.1)]] (p.add 0 1) u.2.2.2.2.2.2.1) 0 (p.add 1 (p.len u.2.2.2.2.2.2.1))))]] 0 1)) 0 (p.add (p.add 0 (p.len u.2.2.1)) 1)),()))) fun w=>
 opt.ask _ (bif w.1 then Bool.false else Bool.true) (
 opt.bnd T1 _ (G15 p ()) fun z=>
 opt.ret _ (z.1,())) (
 opt.need _ (p.leN (p.add 0 0) (p.len (p.splice (p.splice [] (p.add 0 0) u.2.2.1) (p.add 0 (p.add 0 (p.len u.2.2.1))) (p.cut [[(D.list Bool.false 2 (p.cut (p.splice [[(D.int .i64 v.1),(D.int .i64 v.2.1)]] (p.add 0 1) u.2.2.2.2.2.2.1) 0 (p.add 1 (p.len u.2.2.2.2.2.2.1))))]] 0 1))))<|
 opt.need _ (p.eqN 0 0)<|
 opt.need _ (p.eqN (p.len u.1) (p.len u.1))<|
 opt.alt T1 ((LD×(LD×(LD×T13)))) _ (
 z4m (u1d p) (u.1,((p.splice (p.splice [] (p.add 0 0) u.2.2.1) (p.add 0 (p.add 0 (p.len u.2.2.1))) (p.cut [[(D.list Bool.false 2 (p.cut (p.splice [[(D.int .i64 v.1),(D.int .i64 v.2.1)]] (p.add 0 1) u.2.2.2.2.2.2.1) 0 (p.add 1 (p.len u.2.2.2.2.2.2.1))))]] 0 1)),(u.2.1,(u.2.2.1,(u.2.2.2.1,(u.2.2.2.2.1,(u.2.2.2.2.2.1,(u.2.1,(0,((p.add (p.add 0 (p.len u.2.2.1)) 1),((0:Int),())))))))))))) (fun a1=>
 opt.ret _ (a1.1,())) (fun b1=>
 opt.bnd ((LD×(LD×(LD×T13)))) _ (some b1) fun c1=>
 opt.bnd T1 _ (
 opt.run T1 (
 opt.need _ (p.and Bool.true (p.and (p.and Bool.true (p.and (p.leN (p.add c1.2.2.2.2.2.2.2.1 c1.2.2.2.2.2.2.2.2.1) (p.len c1.1)) Bool.true)) (p.and Bool.true Bool.true)))<|
 opt.bnd T0 _ (G40 p (c1.2.1,(c1.2.2.1,(c1.2.2.2.2.2.2.1,((p.cut c1.1 c1.2.2.2.2.2.2.2.1 c1.2.2.2.2.2.2.2.2.1),(c1.2.2.2.1,(c1.2.2.2.2.1,(c1.2.2.2.2.2.1,())))))))) fun d1=>
 opt.ask _ (p.cmp .eql d1.1 (0:Int)) (
 opt.bnd T1 _ (G15 p ()) fun e1=>
 opt.ret _ (e1.1,())) (
 opt.ret _ (Bool.false,())))) fun f1=>
 opt.ret _ (f1.1,())))) (
 opt.need _ (p.and (p.leN (p.add 0 1) (p.len [[(D.list Bool.false 2 (p.cut (p.splice [[(D.int .i64 v.1),(D.int .i64 v.2.1)]] (p.add 0 1) u.2.2.2.2.2.2.1) 0 (p.add 1 (p.len u.2.2.2.2.2.2.1))))]])) (p.and (p.leN (p.add 0 (p.add 0 (p.len u.2.2.1))) (p.len (p.splice [] (p.add 0 0) u.2.2.1))) (p.and (p.leN 1 1) (p.leN (p.add (p.add 0 (p.len u.2.2.1)) 1) 1000000))))<|
 opt.need _ (p.and (p.and Bool.true (p.and (p.leN (p.add 0 (p.add (p.add 0 (p.len u.2.2.1)) 1)) (p.len (p.app (p.cut (p.splice [] (p.add 0 0) u.2.2.1) 0 (p.add 0 (p.len u.2.2.1))) (p.cut [[(D.list Bool.false 2 (p.cut (p.splice [[(D.int .i64 v.1),(D.int .i64 v.2.1)]] (p.add 0 1) u.2.2.2.2.2.2.1) 0 (p.add 1 (p.len u.2.2.2.2.2.2.1))))]] 0 1)))) Bool.true)) Bool.true)<|
 opt.bnd T1 _ (G29 p (u.2.1,((p.cut (p.app (p.cut (p.splice [] (p.add 0 0) u.2.2.1) 0 (p.add 0 (p.len u.2.2.1))) (p.cut [[(D.list Bool.false 2 (p.cut (p.splice [[(D.int .i64 v.1),(D.int .i64 v.2.1)]] (p.add 0 1) u.2.2.2.2.2.2.1) 0 (p.add 1 (p.len u.2.2.2.2.2.2.1))))]] 0 1)) 0 (p.add (p.add 0 (p.len u.2.2.1)) 1)),()))) fun g1=>
 opt.ask _ (bif g1.1 then Bool.false else Bool.true) (
 opt.bnd T1 _ (G15 p ()) fun h1=>
 opt.ret _ (h1.1,())) (
 opt.need _ (p.eqN 0 0)<|
 opt.need _ (p.eqN (p.len u.1) (p.len u.1))<|
 opt.alt T1 ((LD×(LD×(LD×T13)))) _ (
 z4m (v5p p) (u.1,((p.app (p.cut (p.splice [] (p.add 0 0) u.2.2.1) 0 (p.add 0 (p.len u.2.2.1))) (p.cut [[(D.list Bool.false 2 (p.cut (p.splice [[(D.int .i64 v.1),(D.int .i64 v.2.1)]] (p.add 0 1) u.2.2.2.2.2.2.1) 0 (p.add 1 (p.len u.2.2.2.2.2.2.1))))]] 0 1)),(u.2.1,(u.2.2.1,(u.2.2.2.1,(u.2.2.2.2.1,(u.2.2.2.2.2.1,(u.2.1,(0,((p.add (p.add 0 (p.len u.2.2.1)) 1),((0:Int),())))))))))))) (fun i1=>
 opt.ret _ (i1.1,())) (fun j1=>
 opt.bnd ((LD×(LD×(LD×T13)))) _ (some j1) fun k1=>
 opt.bnd T1 _ (
 opt.run T1 (
 opt.need _ (p.and Bool.true (p.and (p.and Bool.true (p.and (p.leN (p.add k1.2.2.2.2.2.2.2.1 k1.2.2.2.2.2.2.2.2.1) (p.len k1.1)) Bool.true)) (p.and Bool.true Bool.true)))<|
 opt.bnd T0 _ (G40 p (k1.2.1,(k1.2.2.1,(k1.2.2.2.2.2.2.1,((p.cut k1.1 k1.2.2.2.2.2.2.2.1 k1.2.2.2.2.2.2.2.2.1),(k1.2.2.2.1,(k1.2.2.2.2.1,(k1.2.2.2.2.2.1,())))))))) fun l1=>
 opt.ask _ (p.cmp .eql l1.1 (0:Int)) (
 opt.bnd T1 _ (G15 p ()) fun m1=>
 opt.ret _ (m1.1,())) (
 opt.ret _ (Bool.false,())))) fun n1=>
 opt.ret _ (n1.1,()))))) (
 opt.need _ (p.and (p.and Bool.true (p.and (p.leN (p.add 0 1) (p.len [[(D.int .i64 v.1),(D.int .i64 v.2.1)]])) (p.and (p.leN 1 (p.len u.2.2.2.2.2.2.1)) (p.leN (p.add 1 (p.len u.2.2.2.2.2.2.1)) 1000000)))) (p.leN (p.add 0 (p.add 1 (p.len u.2.2.2.2.2.2.1))) (p.len (p.app (p.cut [[(D.int .i64 v.1),(D.int .i64 v.2.1)]] 0 1) u.2.2.2.2.2.2.1))))<|
 opt.ask _ (p.leN (p.add (p.add 0 (p.len u.2.2.1)) 1) 0) (
 opt.need _ (p.and (p.leN (p.add 0 1) (p.len [[(D.list Bool.false 2 (p.cut (p.app (p.cut [[(D.int .i64 v.1),(D.int .i64 v.2.1)]] 0 1) u.2.2.2.2.2.2.1) 0 (p.add 1 (p.len u.2.2.2.2.2.2.1))))]])) (p.and (p.leN (p.add 0 (p.add 0 (p.len u.2.2.1))) (p.len (p.splice [] (p.add 0 0) u.2.2.1))) (p.and (p.leN 1 1) (p.leN (p.add 0 0) (p.len (p.splice [] (p.add 0 0) u.2.2.1))))))<|
 opt.need _ (p.and (p.and Bool.true (p.and (p.leN (p.add 0 (p.add (p.add 0 (p.len u.2.2.1)) 1)) (p.len (p.splice (p.splice [] (p.add 0 0) u.2.2.1) (p.add 0 (p.add 0 (p.len u.2.2.1))) (p.cut [[(D.list Bool.false 2 (p.cut (p.app (p.cut [[(D.int .i64 v.1),(D.int .i64 v.2.1)]] 0 1) u.2.2.2.2.2.2.1) 0 (p.add 1 (p.len u.2.2.2.2.2.2.1))))]] 0 1)))) Bool.true)) Bool.true)<|
 opt.bnd T1 _ (G29 p (u.2.1,((p.cut (p.splice (p.splice [] (p.add 0 0) u.2.2.1) (p.add 0 (p.add 0 (p.len u.2.2.1))) (p.cut [[(D.list Bool.false 2 (p.cut (p.app (p.cut [[(D.int .i64 v.1),(D.int .i64 v.2.1)]] 0 1) u.2.2.2.2.2.2.1) 0 (p.add 1 (p.len u.2.2.2.2.2.2.1))))]] 0 1)) 0 (p.add (p.add 0 (p.len u.2.2.1)) 1)),()))) fun o1=>
 opt.ask _ (bif o1.1 then Bool.false else Bool.true) (
 opt.bnd T1 _ (G15 p ()) fun q1=>
 opt.ret _ (q1.1,())) (
 opt.need _ (p.leN (p.add 0 0) (p.len (p.splice (p.splice [] (p.add 0 0) u.2.2.1) (p.add 0 (p.add 0 (p.len u.2.2.1))) (p.cut [[(D.list Bool.false 2 (p.cut (p.app (p.cut [[(D.int .i64 v.1),(D.int .i64 v.2.1)]] 0 1) u.2.2.2.2.2.2.1) 0 (p.add 1 (p.len u.2.2.2.2.2.2.1))))]] 0 1))))<|
 opt.need _ (p.eqN 0 0)<|
 opt.need _ (p.eqN (p.len u.1) (p.len u.1))<|
 opt.alt T1 ((LD×(LD×(LD×T13)))) _ (
 z4m (u1c p) (u.1,((p.splice (p.splice [] (p.add 0 0) u.2.2.1) (p.add 0 (p.add 0 (p.len u.2.2.1))) (p.cut [[(D.list Bool.false 2 (p.cut (p.app (p.cut [[(D.int .i64 v.1),(D.int .i64 v.2.1)]] 0 1) u.2.2.2.2.2.2.1) 0 (p.add 1 (p.len u.2.2.2.2.2.2.1))))]] 0 1)),(u.2.1,(u.2.2.1,(u.2.2.2.1,(u.2.2.2.2.1,(u.2.2.2.2.2.1,(u.2.1,(0,((p.add (p.add 0 (p.len u.2.2.1)) 1),((0:Int),())))))))))))) (fun r1=>
 opt.ret _ (r1.1,())) (fun t1=>
 opt.bnd ((LD×(LD×(LD×T13)))) _ (some t1) fun u1=>
 opt.bnd T1 _ (
 opt.run T1 (
 opt.need _ (p.and Bool.true (p.and (p.and Bool.true (p.and (p.leN (p.add u1.2.2.2.2.2.2.2.1 u1.2.2.2.2.2.2.2.2.1) (p.len u1.1)) Bool.true)) (p.and Bool.true Bool.true)))<|
 opt.bnd T0 _ (G40 p (u1.2.1,(u1.2.2.1,(u1.2.2.2.2.2.2.1,((p.cut u1.1 u1.2.2.2.2.2.2.2.1 u1.2.2.2.2.2.2.2.2.1),(u1.2.2.2.1,(u1.2.2.2.2.1,(u1.2.2.2.2.2.1,())))))))) fun v1=>
 opt.ask _ (p.cmp .eql v1.1 (0:Int)) (
 opt.bnd T1 _ (G15 p ()) fun w1=>
 opt.ret _ (w1.1,())) (
 opt.ret _ (Bool.false,())))) fun z1=>
 opt.ret _ (z1.1,())))) (
 opt.need _ (p.and (p.leN (p.add 0 1) (p.len [[(D.list Bool.false 2 (p.cut (p.app (p.cut [[(D.int .i64 v.1),(D.int .i64 v.2.1)]] 0 1) u.2.2.2.2.2.2.1) 0 (p.add 1 (p.len u.2.2.2.2.2.2.1))))]])) (p.and (p.leN (p.add 0 (p.add 0 (p.len u.2.2.1))) (p.len (p.splice [] (p.add 0 0) u.2.2.1))) (p.and (p.leN 1 1) (p.leN (p.add (p.add 0 (p.len u.2.2.1)) 1) 1000000))))<|
 opt.need _ (p.and (p.and Bool.true (p.and (p.leN (p.add 0 (p.add (p.add 0 (p.len u.2.2.1)) 1)) (p.len (p.app (p.cut (p.splice [] (p.add 0 0) u.2.2.1) 0 (p.add 0 (p.len u.2.2.1))) (p.cut [[(D.list Bool.false 2 (p.cut (p.app (p.cut [[(D.int .i64 v.1),(D.int .i64 v.2.1)]] 0 1) u.2.2.2.2.2.2.1) 0 (p.add 1 (p.len u.2.2.2.2.2.2.1))))]] 0 1)))) Bool.true)) Bool.true)<|
 opt.bnd T1 _ (G29 p (u.2.1,((p.cut (p.app (p.cut (p.splice [] (p.add 0 0) u.2.2.1) 0 (p.add 0 (p.len u.2.2.1))) (p.cut [[(D.list Bool.false 2 (p.cut (p.app (p.cut [[(D.int .i64 v.1),(D.int .i64 v.2.1)]] 0 1) u.2.2.2.2.2.2.1) 0 (p.add 1 (p.len u.2.2.2.2.2.2.1))))]] 0 1)) 0 (p.add (p.add 0 (p.len u.2.2.1)) 1)),()))) fun a2=>
 opt.ask _ (bif a2.1 then Bool.false else Bool.true) (
 opt.bnd T1 _ (G15 p ()) fun b2=>
 opt.ret _ (b2.1,())) (
 opt.need _ (p.eqN 0 0)<|
 opt.need _ (p.eqN (p.len u.1) (p.len u.1))<|
 opt.alt T1 ((LD×(LD×(LD×T13)))) _ (
 z4m (v5o p) (u.1,((p.app (p.cut (p.splice [] (p.add 0 0) u.2.2.1) 0 (p.add 0 (p.len u.2.2.1))) (p.cut [[(D.list Bool.false 2 (p.cut (p.app (p.cut [[(D.int .i64 v.1),(D.int .i64 v.2.1)]] 0 1) u.2.2.2.2.2.2.1) 0 (p.add 1 (p.len u.2.2.2.2.2.2.1))))]] 0 1)),(u.2.1,(u.2.2.1,(u.2.2.2.1,(u.2.2.2.2.1,(u.2.2.2.2.2.1,(u.2.1,(0,((p.add (p.add 0 (p.len u.2.2.1)) 1),((0:Int),())))))))))))) (fun c2=>
 opt.ret _ (c2.1,())) (fun d2=>
 opt.bnd ((LD×(LD×(LD×T13)))) _ (some d2) fun e2=>
 opt.bnd T1 _ (
 opt.run T1 (
 opt.need _ (p.and Bool.true (p.and (p.and Bool.true (p.and (p.leN (p.add e2.2.2.2.2.2.2.2.1 e2.2.2.2.2.2.2.2.2.1) (p.len e2.1)) Bool.true)) (p.and Bool.true Bool.true)))<|
 opt.bnd T0 _ (G40 p (e2.2.1,(e2.2.2.1,(e2.2.2.2.2.2.2.1,((p.cut e2.1 e2.2.2.2.2.2.2.2.1 e2.2.2.2.2.2.2.2.2.1),(e2.2.2.2.1,(e2.2.2.2.2.1,(e2.2.2.2.2.2.1,())))))))) fun f2=>
 opt.ask _ (p.cmp .eql f2.1 (0:Int)) (
 opt.bnd T1 _ (G15 p ()) fun g2=>
 opt.ret _ (g2.1,())) (
 opt.ret _ (Bool.false,())))) fun h2=>
 opt.ret _ (h2.1,())))))) (
 opt.need _ (p.and Bool.true (p.and (p.leN (p.add 0 0) (p.len [])) (p.and (p.leN 1 (p.len u.2.2.1)) (p.leN (p.add 0 (p.len u.2.2.1)) 1000000))))<|
 opt.bnd T5 _ (G31 p ((0:Int),((0:Int),()))) fun i2=>
 opt.ask _ (p.leN (p.add 1 (p.len u.2.2.2.2.2.2.1)) 1) (
 opt.need _ (p.and (p.and Bool.true (p.and (p.leN (p.add 0 1) (p.len [[(D.int .i64 i2.1),(D.int .i64 i2.2.1)]])) (p.leN (p.add 0 1) (p.len [[(D.int .i64 i2.1),(D.int .i64 i2.2.1)]])))) (p.leN (p.add 0 (p.add 1 (p.len u.2.2.2.2.2.2.1))) (p.len (p.splice [[(D.int .i64 i2.1),(D.int .i64 i2.2.1)]] (p.add 0 1) u.2.2.2.2.2.2.1))))<|
 opt.need _ (p.and (p.leN (p.add 0 1) (p.len [[(D.list Bool.false 2 (p.cut (p.splice [[(D.int .i64 i2.1),(D.int .i64 i2.2.1)]] (p.add 0 1) u.2.2.2.2.2.2.1) 0 (p.add 1 (p.len u.2.2.2.2.2.2.1))))]])) (p.and (p.leN (p.add 0 (p.add 0 (p.len u.2.2.1))) (p.len (p.app (p.cut [] 0 0) u.2.2.1))) (p.and (p.leN 1 1) (p.leN (p.add (p.add 0 (p.len u.2.2.1)) 1) 1000000))))<|
 opt.need _ (p.and (p.and Bool.true (p.and (p.leN (p.add 0 (p.add (p.add 0 (p.len u.2.2.1)) 1)) (p.len (p.app (p.cut (p.app (p.cut [] 0 0) u.2.2.1) 0 (p.add 0 (p.len u.2.2.1))) (p.cut [[(D.list Bool.false 2 (p.cut (p.splice [[(D.int .i64 i2.1),(D.int .i64 i2.2.1)]] (p.add 0 1) u.2.2.2.2.2.2.1) 0 (p.add 1 (p.len u.2.2.2.2.2.2.1))))]] 0 1)))) Bool.true)) Bool.true)<|
 opt.bnd T1 _ (G29 p (u.2.1,((p.cut (p.app (p.cut (p.app (p.cut [] 0 0) u.2.2.1) 0 (p.add 0 (p.len u.2.2.1))) (p.cut [[(D.list Bool.false 2 (p.cut (p.splice [[(D.int .i64 i2.1),(D.int .i64 i2.2.1)]] (p.add 0 1) u.2.2.2.2.2.2.1) 0 (p.add 1 (p.len u.2.2.2.2.2.2.1))))]] 0 1)) 0 (p.add (p.add 0 (p.len u.2.2.1)) 1)),()))) fun j2=>
 opt.ask _ (bif j2.1 then Bool.false else Bool.true) (
 opt.bnd T1 _ (G15 p ()) fun k2=>
 opt.ret _ (k2.1,())) (
 opt.need _ (p.eqN 0 0)<|
 opt.need _ (p.eqN (p.len u.1) (p.len u.1))<|
 opt.alt T1 ((LD×(LD×(LD×T13)))) _ (
 z4m (v5n p) (u.1,((p.app (p.cut (p.app (p.cut [] 0 0) u.2.2.1) 0 (p.add 0 (p.len u.2.2.1))) (p.cut [[(D.list Bool.false 2 (p.cut (p.splice [[(D.int .i64 i2.1),(D.int .i64 i2.2.1)]] (p.add 0 1) u.2.2.2.2.2.2.1) 0 (p.add 1 (p.len u.2.2.2.2.2.2.1))))]] 0 1)),(u.2.1,(u.2.2.1,(u.2.2.2.1,(u.2.2.2.2.1,(u.2.2.2.2.2.1,(u.2.1,(0,((p.add (p.add 0 (p.len u.2.2.1)) 1),((0:Int),())))))))))))) (fun l2=>
 opt.ret _ (l2.1,())) (fun m2=>
 opt.bnd ((LD×(LD×(LD×T13)))) _ (some m2) fun n2=>
 opt.bnd T1 _ (
 opt.run T1 (
 opt.need _ (p.and Bool.true (p.and (p.and Bool.true (p.and (p.leN (p.add n2.2.2.2.2.2.2.2.1 n2.2.2.2.2.2.2.2.2.1) (p.len n2.1)) Bool.true)) (p.and Bool.true Bool.true)))<|
 opt.bnd T0 _ (G40 p (n2.2.1,(n2.2.2.1,(n2.2.2.2.2.2.2.1,((p.cut n2.1 n2.2.2.2.2.2.2.2.1 n2.2.2.2.2.2.2.2.2.1),(n2.2.2.2.1,(n2.2.2.2.2.1,(n2.2.2.2.2.2.1,())))))))) fun o2=>
 opt.ask _ (p.cmp .eql o2.1 (0:Int)) (
 opt.bnd T1 _ (G15 p ()) fun q2=>
 opt.ret _ (q2.1,())) (
 opt.ret _ (Bool.false,())))) fun r2=>
 opt.ret _ (r2.1,())))) (
 opt.need _ (p.and (p.and Bool.true (p.and (p.leN (p.add 0 1) (p.len [[(D.int .i64 i2.1),(D.int .i64 i2.2.1)]])) (p.and (p.leN 1 (p.len u.2.2.2.2.2.2.1)) (p.leN (p.add 1 (p.len u.2.2.2.2.2.2.1)) 1000000)))) (p.leN (p.add 0 (p.add 1 (p.len u.2.2.2.2.2.2.1))) (p.len (p.app (p.cut [[(D.int .i64 i2.1),(D.int .i64 i2.2.1)]] 0 1) u.2.2.2.2.2.2.1))))<|
 opt.need _ (p.and (p.leN (p.add 0 1) (p.len [[(D.list Bool.false 2 (p.cut (p.app (p.cut [[(D.int .i64 i2.1),(D.int .i64 i2.2.1)]] 0 1) u.2.2.2.2.2.2.1) 0 (p.add 1 (p.len u.2.2.2.2.2.2.1))))]])) (p.and (p.leN (p.add 0 (p.add 0 (p.len u.2.2.1))) (p.len (p.app (p.cut [] 0 0) u.2.2.1))) (p.and (p.leN 1 1) (p.leN (p.add (p.add 0 (p.len u.2.2.1)) 1) 1000000))))<|
 opt.need _ (p.and (p.and Bool.true (p.and (p.leN (p.add 0 (p.add (p.add 0 (p.len u.2.2.1)) 1)) (p.len (p.app (p.cut (p.app (p.cut [] 0 0) u.2.2.1) 0 (p.add 0 (p.len u.2.2.1))) (p.cut [[(D.list Bool.false 2 (p.cut (p.app (p.cut [[(D.int .i64 i2.1),(D.int .i64 i2.2.1)]] 0 1) u.2.2.2.2.2.2.1) 0 (p.add 1 (p.len u.2.2.2.2.2.2.1))))]] 0 1)))) Bool.true)) Bool.true)<|
 opt.bnd T1 _ (G29 p (u.2.1,((p.cut (p.app (p.cut (p.app (p.cut [] 0 0) u.2.2.1) 0 (p.add 0 (p.len u.2.2.1))) (p.cut [[(D.list Bool.false 2 (p.cut (p.app (p.cut [[(D.int .i64 i2.1),(D.int .i64 i2.2.1)]] 0 1) u.2.2.2.2.2.2.1) 0 (p.add 1 (p.len u.2.2.2.2.2.2.1))))]] 0 1)) 0 (p.add (p.add 0 (p.len u.2.2.1)) 1)),()))) fun t2=>
 opt.ask _ (bif t2.1 then Bool.false else Bool.true) (
 opt.bnd T1 _ (G15 p ()) fun u2=>
 opt.ret _ (u2.1,())) (
 opt.need _ (p.eqN 0 0)<|
 opt.need _ (p.eqN (p.len u.1) (p.len u.1))<|
 opt.alt T1 ((LD×(LD×(LD×T13)))) _ (
 z4m (y9s p) (u.1,((p.app (p.cut (p.app (p.cut [] 0 0) u.2.2.1) 0 (p.add 0 (p.len u.2.2.1))) (p.cut [[(D.list Bool.false 2 (p.cut (p.app (p.cut [[(D.int .i64 i2.1),(D.int .i64 i2.2.1)]] 0 1) u.2.2.2.2.2.2.1) 0 (p.add 1 (p.len u.2.2.2.2.2.2.1))))]] 0 1)),(u.2.1,(u.2.2.1,(u.2.2.2.1,(u.2.2.2.2.1,(u.2.2.2.2.2.1,(u.2.1,(0,((p.add (p.add 0 (p.len u.2.2.1)) 1),((0:Int),())))))))))))) (fun v2=>
 opt.ret _ (v2.1,())) (fun w2=>
 opt.bnd ((LD×(LD×(LD×T13)))) _ (some w2) fun z2=>
 opt.bnd T1 _ (
 opt.run T1 (
 opt.need _ (p.and Bool.true (p.and (p.and Bool.true (p.and (p.leN (p.add z2.2.2.2.2.2.2.2.1 z2.2.2.2.2.2.2.2.2.1) (p.len z2.1)) Bool.true)) (p.and Bool.true Bool.true)))<|
 opt.bnd T0 _ (G40 p (z2.2.1,(z2.2.2.1,(z2.2.2.2.2.2.2.1,((p.cut z2.1 z2.2.2.2.2.2.2.2.1 z2.2.2.2.2.2.2.2.2.1),(z2.2.2.2.1,(z2.2.2.2.2.1,(z2.2.2.2.2.2.1,())))))))) fun a3=>
 opt.ask _ (p.cmp .eql a3.1 (0:Int)) (
 opt.bnd T1 _ (G15 p ()) fun b3=>
 opt.ret _ (b3.1,())) (
 opt.ret _ (Bool.false,())))) fun c3=>
 opt.ret _ (c3.1,())))))))))
def F11:Prim→Tup (w08).scs→Option (STup (scss (w08).outs)):=
 fun p x=>G11 p x
theorem eq11 (p:Prim) (x:Tup (w08).scs):bodyRun opt p (y9t [] Go.Proofs.Try.prog) (mkOrc opt p (y9t [] Go.Proofs.Try.prog) 400 (an11) la11) 400 w08 x=G11 p x:=by kernel_rfl
theorem v8x:GamOk Go.Proofs.Try.prog (w8l):=by
 intro cf h
 simp only [w8l,List.mem_cons,List.not_mem_nil,or_false] at h
 rcases h with rfl|rfl|rfl|rfl|rfl|rfl|rfl|rfl|rfl|rfl
 ·exact u2c
 ·exact ok31
 ·exact ok45
 ·exact ok44
 ·exact u2a
 ·exact u1z
 ·exact ok40
 ·exact ok33
 ·exact ok15
 ·exact ok29
theorem w4f:z29 Go.Proofs.Try.prog 11:=enters_auto (b:=_) rfl (by kernel_rfl)
theorem ok11:CtrOk Go.Proofs.Try.prog w08 (F11 std):=ctr_of_body (y50 follows_mixed) (mkOrc_ok (y50 follows_mixed) v8x _) w4f (fun x=>eq11 std x)
end Go.Am
end
section
namespace Go.Am
open M06
theorem y51 {i k:Nat} (h:i+k≤1000000):std.ar .add .i64 (i:Int) (k:Int)=((i+k:Nat):Int):=by
 rw [z0f,z1k _ (by omega) (by omega)]; omega
theorem x4z {i n:Nat}:std.ar .rem .i64 (i:Int) (n:Int)=((i % n:Nat):Int):=(Int.ofNat_tmod i n).symm
theorem y3q {a p:Int} (ha: -5000≤a∧a≤5000) (hp: -5000≤p∧p≤5000):std.ar .sub .i64 a p=a - p:=by
 rw [z0o,z1k _ (by omega) (by omega)]
theorem w2m {p a b:Pt} (hp:z0s (-5000) 5000 p) (ha:z0s (-5000) 5000 a) (hb:z0s (-5000) 5000 b):
  std.ar .sub .i64 (std.ar .mul .i64 (std.ar .sub .i64 a.1 p.1) (std.ar .sub .i64 b.2 p.2)) (std.ar .mul .i64 (std.ar .sub .i64 a.2 p.2) (std.ar .sub .i64 b.1 p.1))=crs (sb a p) (sb b p):=by
 simp only [z0s] at hp ha hb
 have h1:std.ar .sub .i64 a.1 p.1=a.1 - p.1:=y3q (by omega) (by omega)
 have h2:std.ar .sub .i64 b.2 p.2=b.2 - p.2:=y3q (by omega) (by omega)
 have h3:std.ar .sub .i64 a.2 p.2=a.2 - p.2:=y3q (by omega) (by omega)
 have h4:std.ar .sub .i64 b.1 p.1=b.1 - p.1:=y3q (by omega) (by omega)
 rw [h1,h2,h3,h4]
 have m1:=y1a (a:=a.1 - p.1) (b:=b.2 - p.2) (by omega) (by omega) (by omega) (by omega)
 have m2:=y1a (a:=a.2 - p.2) (b:=b.1 - p.1) (by omega) (by omega) (by omega) (by omega)
 rw [z09,z09,z0o,z1k ((a.1 - p.1)*(b.2 - p.2)) (by omega) (by omega),z1k ((a.2 - p.2)*(b.1 - p.1)) (by omega) (by omega),z1k _ (by omega) (by omega)]
 rfl
set_option maxHeartbeats 2000000 in
theorem x8i {l:List Pt} {hs:List (List Pt)} {c:List Pt} (hc:Cyc (z1j l hs) c) (hbx:∀ p∈c,z0s (-5000) 5000 p) (hl:c.length≤1000) (X:List (List D)) (x y d:Int) {i:Nat} {p:Pt} (hp:c[i]?=some p)
  (h21:G21 std (z0b l,z0y hs,p.1,p.2,())=some (true,0,())):
  y5y std (z0b c,z0b l,z0y hs,x,y,d,X,(i:Int),())=some (.inl (z0b c,z0b l,z0y hs,x,y,d,X,((i+1:Nat):Int),())):=by
 have hi:=(List.getElem?_eq_some_iff.1 hp).1
 have gp:=z0w hp
 have c1:(i:Int)<(c.length:Int):=by omega
 have c2:(0:Int)≤i:=by omega
 have w1:std.ar .add .i64 (i:Int) 1=((i+1:Nat):Int):=y51 (k:=1) (by omega)
 have w2:std.ar .add .i64 (i:Int) 2=((i+2:Nat):Int):=y51 (k:=2) (by omega)
 have hn0:¬ ((c.length:Nat):Int)=0:=by omega
 have hpos:0<c.length:=by omega
 obtain ⟨a,ha⟩:=z0q (l:=c) (i:=(i+1) % c.length) (Nat.mod_lt _ hpos)
 obtain ⟨b,hb⟩:=z0q (l:=c) (i:=(i+2) % c.length) (Nat.mod_lt _ hpos)
 have ga:=z0w ha
 have gb:=z0w hb
 have r1:std.ar .rem .i64 ((i+1:Nat):Int) ((c.length:Nat):Int)=(((i+1) % c.length:Nat):Int):=x4z
 have r2:std.ar .rem .i64 ((i+2:Nat):Int) ((c.length:Nat):Int)=(((i+2) % c.length:Nat):Int):=x4z
 have ka:(((i+1) % c.length:Nat):Int)<((c.length:Nat):Int):=by have:=Nat.mod_lt (i+1) hpos; omega
 have kb:(((i+2) % c.length:Nat):Int)<((c.length:Nat):Int):=by have:=Nat.mod_lt (i+2) hpos; omega
 have ka0:(0:Int)≤(((i+1) % c.length:Nat):Int):=by omega
 have kb0:(0:Int)≤(((i+2) % c.length:Nat):Int):=by omega
 have bp:=hbx p (List.mem_of_getElem? hp)
 have ba:=hbx a (List.mem_of_getElem? ha)
 have bb:=hbx b (List.mem_of_getElem? hb)
 have ht:=w2m bp ba bb
 have hlen:=z0e c
 have hgt:2<c.length→¬ crs (sb a p) (sb b p)≤0:=fun h3=>by have:=x90 hc h3 hi hp ha hb; omega
 generalize hka:(i+1) % c.length=ia at*
 generalize hkb:(i+2) % c.length=ib at*
 by_cases h0:i=0
 ·subst h0
  have n0:¬ ((0:Nat):Int)>0:=by omega
  by_cases h3:2<c.length
  ·have h3':((c.length:Nat):Int)>2:=by omega
   have hg:=hgt h3
   generalize z0b c=C at*
   generalize z0b l=L at*
   generalize z0y hs=H at*
   simp only [y5y,z01,z02,hlen,c1,c2,gp,ga,gb,z0p,z1b,z1a,h21,n0,h3',hn0,w1,w2,r1,r2,ka,kb,ka0,kb0,ge_iff_le,ht,hg,ne_eq,eq_self,not_true,not_false_eq_true,decide_true,decide_false,Bool.not_true,Bool.not_false,cond_true,cond_false,Nat.le_refl,Bool.and_true,List.drop_zero,List.take_succ_cons,List.take_zero,List.length_append,List.length_cons,List.length_nil,Nat.zero_add]
  ·have h3':¬ ((c.length:Nat):Int)>2:=by omega
   generalize z0b c=C at*
   generalize z0b l=L at*
   generalize z0y hs=H at*
   simp only [y5y,z01,z02,hlen,c1,c2,gp,z0p,z1b,z1a,h21,n0,h3',w1,ge_iff_le,ne_eq,eq_self,not_true,not_false_eq_true,decide_true,decide_false,Bool.not_true,Bool.not_false,cond_true,cond_false,Nat.le_refl,Bool.and_true,List.drop_zero,List.take_succ_cons,List.take_zero,List.length_append,List.length_cons,List.length_nil,Nat.zero_add]
 ·have n0:(i:Int)>0:=by omega
  obtain ⟨o,ho⟩:=z0q (l:=c) (i:=i - 1) (by omega)
  have go:=z0w ho
  have w3:std.ar .sub .i64 (i:Int) 1=((i - 1:Nat):Int):=by rw [z0o,z1k _ (by omega) (by omega)]; omega
  have k1:(((i - 1:Nat)):Int)<((c.length:Nat):Int):=by omega
  have k2:(0:Int)≤((i - 1:Nat):Int):=by omega
  have hne:¬ p=o:=by
   rintro rfl
   have:=y09 (y1m hc) hp ho
   omega
  have hne2:(if p.1=o.1 then decide (p.2=o.2) else false)=false:=by
   by_cases e1:p.1=o.1
   ·rw [if_pos e1]
    exact decide_eq_false fun e2=>hne (Prod.ext e1 e2)
   ·rw [if_neg e1]
  have hne3:∀ {α:Type} (u v:α),(if (if p.1=o.1 then decide (p.2=o.2) else false)=true then u else v)=v:=fun u v=>by rw [hne2]; simp
  by_cases h3:2<c.length
  ·have h3':((c.length:Nat):Int)>2:=by omega
   have hg:=hgt h3
   generalize z0b c=C at*
   generalize z0b l=L at*
   generalize z0y hs=H at*
   by_cases e1:p.1=o.1
   ·have e2:¬ p.2=o.2:=fun e2=>hne (Prod.ext e1 e2)
    have e1':(p.1=o.1)=True:=eq_true e1
    simp only [y5y,z01,z02,hlen,c1,c2,gp,ga,gb,go,z0p,z1b,z1a,e1',h21,n0,h3',hn0,w1,w2,w3,r1,r2,ka,kb,ka0,kb0,k1,k2,ge_iff_le,e2,ht,hg,ne_eq,eq_self,not_true,not_false_eq_true,decide_true,decide_false,Bool.not_true,Bool.not_false,cond_true,cond_false,Nat.le_refl,Bool.and_true,List.drop_zero,List.take_succ_cons,List.take_zero,List.length_append,List.length_cons,List.length_nil,Nat.zero_add]
   ·simp only [y5y,z01,z02,hlen,c1,c2,gp,ga,gb,go,z0p,z1b,z1a,h21,n0,h3',hn0,w1,w2,w3,r1,r2,ka,kb,ka0,kb0,k1,k2,ge_iff_le,e1,ht,hg,ne_eq,eq_self,not_true,not_false_eq_true,decide_true,decide_false,Bool.not_true,Bool.not_false,cond_true,cond_false,Nat.le_refl,Bool.and_true,List.drop_zero,List.take_succ_cons,List.take_zero,List.length_append,List.length_cons,List.length_nil,Nat.zero_add]
  ·have h3':¬ ((c.length:Nat):Int)>2:=by omega
   generalize z0b c=C at*
   generalize z0b l=L at*
   generalize z0y hs=H at*
   by_cases e1:p.1=o.1
   ·have e2:¬ p.2=o.2:=fun e2=>hne (Prod.ext e1 e2)
    have e1':(p.1=o.1)=True:=eq_true e1
    simp only [y5y,z01,z02,hlen,c1,c2,gp,go,z0p,z1b,z1a,e1',h21,n0,h3',w1,w3,k1,k2,ge_iff_le,e2,ne_eq,eq_self,not_true,not_false_eq_true,decide_true,decide_false,Bool.not_true,Bool.not_false,cond_true,cond_false,Nat.le_refl,Bool.and_true,List.drop_zero,List.take_succ_cons,List.take_zero,List.length_append,List.length_cons,List.length_nil,Nat.zero_add]
   ·simp only [y5y,z01,z02,hlen,c1,c2,gp,go,z0p,z1b,z1a,h21,n0,h3',w1,w3,k1,k2,ge_iff_le,e1,ne_eq,eq_self,not_true,not_false_eq_true,decide_true,decide_false,Bool.not_true,Bool.not_false,cond_true,cond_false,Nat.le_refl,Bool.and_true,List.drop_zero,List.take_succ_cons,List.take_zero,List.length_append,List.length_cons,List.length_nil,Nat.zero_add]
end Go.Am
end
section
namespace Go.Am
open M06
theorem w7d {l:List Pt} {hs:List (List Pt)} (hf:z6k l hs) {ks:List Pt} (h:∀ x∈ks,x∈z1j l hs) {n:Int} (hn:(ks.length:Int)=n) (h1:1≤n) (h2:n≤20):
  x4h l hs l hs (z1d ks) n=0∧InH (z3t (z1j l hs)) (z1d ks) n∧z0s (-100000) 100000 (z1d ks):=by
 have hl:=w3p hf.cyc h
 rw [hn] at hl
 have hbx:=x4g hf.boxA (ks:=ks) (by omega) h
 have hi:=(y81 hf.cyc (by omega)).2 hl
 refine ⟨?_,hl,hbx⟩
 unfold x4h
 rw [if_neg (by simp [z3q.2 hf]),if_neg (by simp [z3q.2 hf]),if_neg (by simp only [Classical.not_not]; exact ⟨by omega,by omega,by simp only [Big,z0s] at*; omega⟩),if_pos ⟨hi,hi⟩]
end Go.Am
end
section
namespace Go.Am
open M06
theorem z5s:v5p std=y9s std:=rfl
theorem z5r:v5o std=y9s std:=rfl
theorem z5q:v5n std=y9s std:=rfl
theorem v0a {p:Pt} (h:z0s (-5000) 5000 p):Big p:=by
 simp only [Big,z0s] at*; omega
theorem y24 {l m:List Pt} {hs ks:List (List Pt)} (hf:z6k l hs) (hk:z6k m ks) (hsub:∀ x∈z1j l hs,x∈z1j m ks) {p:Pt} (hp:p∈z3t (z1j l hs)):G21 std (z0b m,z0y ks,p.1,p.2,())=some (true,0,()):=by
 have h:=v6f m ks p
 have hb:=v0a (hf.cbox p hp)
 have hin:inC (z3t (z1j m ks)) p 1=true:=x9u hf.cyc hk.cyc hsub (by decide) (w8e hp)
 unfold x5q at h
 rw [if_neg (by simp [z3q.2 hk]),if_neg (by simp [hb]),hin] at h
 exact h
theorem w3o {l:List Pt} {hs:List (List Pt)} (hf:z6k l hs) (X:List (List D)) (x y d:Int):
  z4m (y5y std) (z0b (z3t (z1j l hs)),z0b l,z0y hs,x,y,d,X,(0:Int),())=some (.inr (z0b (z3t (z1j l hs)),z0b l,z0y hs,x,y,d,X,())):=by
 have hl:=z9v hf
 have hb:=hf.cbox
 have hh:∀ p∈z3t (z1j l hs),_:=fun p hp=>y24 hf hf (fun _ h=>h) hp
 have hcy:=hf.cyc
 generalize z3t (z1j l hs)=c at hl hb hh hcy⊢
 exact z80 (b:=y5y std) c.length (fun i=>(z0b c,z0b l,z0y hs,x,y,d,X,(i:Int),())) _ (fun i hi=>by
  obtain ⟨p,hp⟩:=z0q hi
  exact x8i hcy hb (by omega) X x y d hp (hh p (List.mem_of_getElem? hp))) (by
  have hn':¬ ((c.length:Int)<(c.length:Int)):=by omega
  have hlen:=z0e c
  generalize z0b c=C at hlen⊢
  simp only [y5y,z01,z02,hlen,hn',eq_self,not_true,not_false_eq_true,decide_true,decide_false,Bool.not_true,Bool.not_false,cond_true,cond_false,Nat.le_refl,Bool.and_true,List.drop_zero,List.take_succ_cons,List.take_zero,List.length_append,List.length_cons,List.length_nil,Nat.zero_add])
theorem w2n {p:Pt} {L:List Pt} {k:Nat} {q:Pt} (hq:L[k]?=some q):decide (p∈L.take (k+1))=(decide (p∈L.take k)||decide (q=p)):=by
 rw [List.take_add_one,hq]
 simp only [Option.toList_some,List.mem_append,List.mem_singleton,Bool.decide_or]
 congr 1
 rw [decide_eq_decide]; exact ⟨fun h=>h.symm,fun h=>h.symm⟩
theorem w3m {c L:List Pt} (P H X:List (List D)) (x y d:Int) (hL:L.length≤1000) {i:Nat} {p:Pt} (hp:c[i]?=some p):
  z4m (x8g std) (z0b c,P,H,x,y,d,X,z0b L,(i:Int),false,(0:Int),())=some (z0b c,P,H,x,y,d,X,z0b L,(i:Int),decide (p∈L),()):=by
 have gp:=z0w hp
 have hi:=(List.getElem?_eq_some_iff.1 hp).1
 have c1:(i:Int)<(c.length:Int):=by omega
 have c2:(0:Int)≤i:=by omega
 have hlc:=z0e c
 have key:=z80 (b:=x8g std) L.length (fun k=>(z0b c,P,H,x,y,d,X,z0b L,(i:Int),decide (p∈L.take k),(k:Int),())) (z0b c,P,H,x,y,d,X,z0b L,(i:Int),decide (p∈L),()) (fun k hk=>by
  obtain ⟨q,hq⟩:=z0q hk
  have gq:=z0w hq
  have k1:(k:Int)<(L.length:Int):=by omega
  have k2:(0:Int)≤k:=by omega
  have w1:std.ar .add .i64 (k:Int) 1=((k+1:Nat):Int):=y51 (k:=1) (by omega)
  have hll:=z0e L
  rw [w2n hq]
  generalize z0b L=LL at*
  generalize z0b c=C at*
  cases hd:decide (p∈L.take k) with
  |true=>simp only [x8g,z01,z02,hll,k1,w1,Bool.true_or,eq_self,not_true,not_false_eq_true,decide_true,decide_false,Bool.not_true,Bool.not_false,cond_true,cond_false,Nat.le_refl,Bool.and_true,List.drop_zero,List.take_succ_cons,List.take_zero,List.length_append,List.length_cons,List.length_nil,Nat.zero_add]
  |false=>
   have e:(if q.1=p.1 then (if q.2=p.2 then true else false) else false)=decide (q=p):=by
    by_cases h1:q.1=p.1
    ·by_cases h2:q.2=p.2
     ·rw [if_pos h1,if_pos h2,decide_eq_true (Prod.ext h1 h2)]
     ·rw [if_pos h1,if_neg h2,decide_eq_false (fun e=>h2 (by rw [e]))]
    ·rw [if_neg h1,decide_eq_false (fun e=>h1 (by rw [e]))]
   simp only [x8g,z01,z02,hlc,hll,k1,k2,c1,c2,w1,gp,gq,z0p,z1b,z1a,ge_iff_le,e,Bool.false_or,eq_self,not_true,not_false_eq_true,decide_true,decide_false,Bool.not_true,Bool.not_false,cond_true,cond_false,Nat.le_refl,Bool.and_true,List.drop_zero,List.take_succ_cons,List.take_zero,List.length_append,List.length_cons,List.length_nil,Nat.zero_add]) (by
  have hn':¬ ((L.length:Int)<(L.length:Int)):=by omega
  have hll:=z0e L
  rw [List.take_length]
  generalize z0b L=LL at*
  simp only [x8g,z01,z02,hll,hn',eq_self,not_true,not_false_eq_true,decide_true,decide_false,Bool.not_true,Bool.not_false,cond_true,cond_false,Nat.le_refl,Bool.and_true,List.drop_zero,List.take_succ_cons,List.take_zero,List.length_append,List.length_cons,List.length_nil,Nat.zero_add])
 exact key
theorem w3n {c L:List Pt} (P H X:List (List D)) (x y d:Int) (hc:c.length≤1000) (hL:L.length≤1000) (hm:∀ p∈c,p∈L):
  z4m (x8h std) (z0b c,P,H,x,y,d,X,z0b L,(0:Int),())=some (.inr (z0b c,P,H,x,y,d,X,())):=by
 exact z80 (b:=x8h std) c.length (fun i=>(z0b c,P,H,x,y,d,X,z0b L,(i:Int),())) _ (fun i hi=>by
  obtain ⟨p,hp⟩:=z0q hi
  have c1:(i:Int)<(c.length:Int):=by omega
  have w1:std.ar .add .i64 (i:Int) 1=((i+1:Nat):Int):=y51 (k:=1) (by omega)
  have h3:=w3m P H X x y d hL hp
  rw [decide_eq_true (hm p (List.mem_of_getElem? hp))] at h3
  have hlc:=z0e c
  generalize z0b L=LL at*
  generalize z0b c=C at*
  simp only [x8h,z01,z02,hlc,c1,h3,w1,eq_self,not_true,not_false_eq_true,decide_true,decide_false,Bool.not_true,Bool.not_false,cond_true,cond_false,Nat.le_refl,Bool.and_true,List.drop_zero,List.take_succ_cons,List.take_zero,List.length_append,List.length_cons,List.length_nil,Nat.zero_add]) (by
  have hn':¬ ((c.length:Int)<(c.length:Int)):=by omega
  have hlc:=z0e c
  generalize z0b c=C at*
  simp only [x8h,z01,z02,hlc,hn',eq_self,not_true,not_false_eq_true,decide_true,decide_false,Bool.not_true,Bool.not_false,cond_true,cond_false,Nat.le_refl,Bool.and_true,List.drop_zero,List.take_succ_cons,List.take_zero,List.length_append,List.length_cons,List.length_nil,Nat.zero_add])
theorem w3l {l:List Pt} {hs ks:List (List Pt)} (hf:z6k l hs) (hk:z6k l ks) (hsub:∀ x∈z1j l hs,x∈z1j l ks) (P H:List (List D)) (x y d:Int) {n:Nat} (hn:n=ks.length):
  z4m (y9s std) (z0b (z3t (z1j l hs)),z0y ks,P,H,x,y,d,z0b l,(0:Nat),n,(0:Int),())=some (.inr (z0y ks,P,H,x,y,d,z0b l,(0:Nat),n,())):=by
 have hl:=z9v hf
 have hh:∀ p∈z3t (z1j l hs),_:=fun p hp=>y24 hf hk hsub hp
 subst hn
 have ht:(z0y ks).take ks.length=z0y ks:=List.take_of_length_le (by rw [z31]; omega)
 generalize z3t (z1j l hs)=c at hl hh⊢
 have hlc:=z0e c
 exact z80 (b:=y9s std) c.length (fun i=>(z0b c,z0y ks,P,H,x,y,d,z0b l,(0:Nat),ks.length,(i:Int),())) _ (fun i hi=>by
  obtain ⟨p,hp⟩:=z0q hi
  have gp:=z0w hp
  have c1:(i:Int)<(c.length:Int):=by omega
  have c2:(0:Int)≤i:=by omega
  have w1:std.ar .add .i64 (i:Int) 1=((i+1:Nat):Int):=y51 (k:=1) (by omega)
  have h21:=hh p (List.mem_of_getElem? hp)
  have hlk:=z31 ks
  generalize z0b c=C at*
  generalize z0b l=L at*
  generalize z0y ks=K at*
  simp only [y9s,z01,z02,hlc,hlk,c1,c2,gp,z0p,z1b,z1a,ht,h21,w1,ge_iff_le,ne_eq,eq_self,not_true,not_false_eq_true,decide_true,decide_false,Bool.not_true,Bool.not_false,cond_true,cond_false,Nat.le_refl,Bool.and_true,List.drop_zero,List.take_succ_cons,List.take_zero,List.length_append,List.length_cons,List.length_nil,Nat.zero_add]) (by
  have hn':¬ ((c.length:Int)<(c.length:Int)):=by omega
  generalize z0b c=C at*
  simp only [y9s,z01,z02,hlc,hn',eq_self,not_true,not_false_eq_true,decide_true,decide_false,Bool.not_true,Bool.not_false,cond_true,cond_false,Nat.le_refl,Bool.and_true,List.drop_zero,List.take_succ_cons,List.take_zero,List.length_append,List.length_cons,List.length_nil,Nat.zero_add])
end Go.Am
end
section
namespace Go.Am
open M06
def hz1 (more:List Pt):List Pt:=(0,0)::more
theorem w81 (hs:List (List Pt)) (more:List Pt):z0y hs++[[.list false 2 (z0b (hz1 more))]]=z0y (hs++[hz1 more]):=by simp [z0y,eH]
theorem w80 (more:List Pt):[[D.int .i64 0,D.int .i64 0]]++z0b more=z0b (hz1 more):=rfl
theorem z11:¬ ((0:Nat):Int)>11:=by omega
theorem w5z:(1≤0)=False:=by simp
theorem x2r:(1≤1000000)=True:=by simp
theorem w1u {l:List Pt} {hs ks:List (List Pt)} (hf:z6k l hs) (hk:z6k l ks) (hsub:∀ x∈z1j l hs,x∈z1j l ks) {p:Pt} {d:Int} (h1:1≤d) (h2:d≤20) (hb:z0s (-100000) 100000 p) (hin:InH (z3t (z1j l hs)) p d):x4h l hs l ks p d=0:=by
 unfold x4h
 rw [if_neg (by simp [z3q.2 hf]),if_neg (by simp [z3q.2 hk]),if_neg (by simp only [Classical.not_not]; exact ⟨by omega,by omega,by simp only [Big,z0s] at*; omega⟩),if_pos ⟨(y81 hf.cyc (by omega)).2 hin,x9u hf.cyc hk.cyc hsub (by omega) hin⟩]
set_option maxHeartbeats 4000000 in
theorem v6j (l:List Pt) (hs:List (List Pt)) (n:Int) (hn:(Lit.int IntKind.u8 n).wf=true) (bs:List Int) (hbs:∀ b∈bs,(Lit.int IntKind.u8 b).wf=true) (more:List Pt):
  G11 std (z0b l,z0y hs,n,y1j bs,z0b more,())=some (true,()):=by
 unfold G11
 have h29:=w6y l hs
 by_cases hf:z6k l hs
 case neg=>simp only [z01,z02,h29,hf,z4k]
 by_cases q1:(bs.length:Int)>50
 ·simp only [z01,z02,h29,hf,z1l,q1,z4k]
 by_cases q2:(more.length:Int)>11
 ·simp only [z01,z02,h29,hf,z1l,z0e,q1,q2,z4k]
 have hp:=x3k hn
 obtain ⟨k1,f1,f2,f3⟩:=v6e hf hn hbs (by omega)
 obtain ⟨s1,s2,s3⟩:=w7d hf f3 f2 hp.1 hp.2
 have c1:=w6x l hs l hs (z1d k1) (z2z n)
 rw [s1] at c1
 have h16:=v6h l hs
 unfold v0e at h16
 rw [if_pos (z3q.2 hf),z3q.2 hf] at h16
 have hcl:=z9v hf
 have hcb:=hf.cbox'
 have hne:=w9k hf.allNe
 have hc1:¬ ((z3t (z1j l hs)).length:Int)<1:=by
  have:0<(z3t (z1j l hs)).length:=List.length_pos_iff.2 hne
  omega
 have hsub:∀ x∈z1j l hs,x∈z1j l (hs++[hz1 more]):=by rw [z6j]; exact w3a _ (by simp [hz1])
 have h43:=v6d hf.cyc hcb (by omega) (p:=z1d k1) (by simp only [Big,z0s] at*; omega) (den:=z2z n) hp.1 (by omega)
 rw [(y81 hf.cyc (by omega)).2 s2] at h43
 have l1:=w3o hf (z0b more) (z1d k1).1 (z1d k1).2 (z2z n)
 have h44:=v6c hf
 have l2:z5g l hs≤300→z4m (x8h std) (z0b (z3t (z1j l hs)),z0b l,z0y hs,(z1d k1).1,(z1d k1).2,z2z n,z0b more,z0b (z1j l hs),(0:Int),())=_:=fun h3=>
  w3n (z0b l) (z0y hs) (z0b more) (z1d k1).1 (z1d k1).2 (z2z n) (by omega) (by unfold z5g at h3; omega) (y0q hf.cyc)
 have h45:=v6b hf
 have h29':=w6y l (hs++[hz1 more])
 have l9:z6k l (hs++[hz1 more])→z4m (y9s std) (z0b (z3t (z1j l hs)),z0y (hs++[hz1 more]),z0b l,z0y hs,(z1d k1).1,(z1d k1).2,z2z n,z0b l,(0:Nat),hs.length+1,(0:Int),())=_:=fun hk=>
  w3l hf hk hsub (z0b l) (z0y hs) (z1d k1).1 (z1d k1).2 (z2z n) (n:=hs.length+1) (by simp)
 have c2:=w6x l hs l (hs++[hz1 more]) (z1d k1) (z2z n)
 have c3:z6k l (hs++[hz1 more])→x4h l hs l (hs++[hz1 more]) (z1d k1) (z2z n)=0:=fun hk=>w1u hf hk hsub hp.1 (by omega) s3 s2
 have hlc:=z0e (z3t (z1j l hs))
 have tC:(z0b (z3t (z1j l hs))).take (z3t (z1j l hs)).length=z0b (z3t (z1j l hs)):=List.take_of_length_le (by omega)
 have h31:G31 std (0,0,())=some (0,0,()):=rfl
 have hlH:=z31 hs
 have hlM:=z0e more
 have hlK:(z0y (hs++[hz1 more])).length=hs.length+1:=by rw [z31]; simp
 have tK:(z0y (hs++[hz1 more])).take (hs.length+1)=z0y (hs++[hz1 more]):=List.take_of_length_le (by omega)
 have tH:(z0y hs).take hs.length=z0y hs:=List.take_of_length_le (by omega)
 have hlZ:(z0b (hz1 more)).length=1+more.length:=by rw [z0e]; simp [hz1]; omega
 have tZ:(z0b (hz1 more)).take (1+more.length)=z0b (hz1 more):=List.take_of_length_le (by omega)
 have few:=hf.few
 have eK:=w81 hs more
 have eZ:=w80 more
 have i1:hs.length+1≤1000000:=by omega
 have i2:hs.length≤1000000:=by omega
 have i3:1+more.length≤1000000:=by omega
 have j1:(hs.length+1≤0)=False:=by simp
 have m2:((z5g l hs:Nat):Int)≤300→z5g l hs≤300:=fun h=>by omega
 generalize z5g l hs=M at*
 have fin:G11 std (z0b l,z0y hs,n,y1j bs,z0b more,())=some (true,()):=by
  unfold G11
  by_cases hk:z6k l (hs++[hz1 more])
  ·have l9':=l9 hk
   rw [c3 hk] at c2
   rw [decide_eq_true hk] at h29'
   by_cases hM:((M:Nat):Int)≤300
   ·have l2':=l2 (m2 hM)
    have h45':=h45 (m2 hM)
    by_cases he:hs=[]
    ·by_cases hm:more=[]
     ·subst he
      have hH:z0y ([]:List (List Pt))=[]:=rfl
      rw [hH] at h29 h16 c1 f1 h44 h45' l2' eK c2 l9'
      rw [hH] at l1
      rw [List.nil_append] at eK
      simp only [List.length_nil,Nat.zero_add] at l9'
      have hlK1:(z0y ([]++[hz1 more])).length=1:=hlK
      have tK1:(z0y ([]++[hz1 more])).take 1=z0y ([]++[hz1 more]):=tK
      subst hm
      have hR:z0b ([]:List Pt)=[]:=rfl
      rw [hR] at eZ l1 l2'
      rw [List.append_nil] at eZ
      have hlZ1:(z0b (hz1 [])).length=1:=hlZ
      have tZ1:(z0b (hz1 [])).take 1=z0b (hz1 []):=tZ
      have dZ1:(z0b (hz1 [])).drop 1=[]:=rfl
      clear l2 h45 l9 c3 m2 s1 s2 s3 hcb hsub hne f2 f3 hbs hn hp
      generalize z0b (z3t (z1j l []))=C at*
      generalize z0b (z1j l [])=A at*
      generalize z0y ([]++[hz1 []])=K at*
      generalize z0b (hz1 [])=Z at*
      generalize z0b l=L at*
      simp only [z01,z02,h29,hf,z1l,q1,q2,f1,h16,hc1,c1,hlc,tC,h43,l1,h44,hM,h45',l2',hH,hlK1,tK1,Nat.add_zero,w5z,List.take_nil,List.drop_nil,List.append_nil,Nat.zero_le,Nat.le_refl,hR,hlZ1,tZ1,dZ1,List.drop_succ_cons,h31,eZ,eK,h29',z5s,z5r,z5q,l9',c2,z4k,z5p,x2r,z11,List.nil_append,ne_eq,eq_self,not_true,not_false_eq_true,decide_true,decide_false,Bool.not_true,Bool.not_false,cond_true,cond_false,Nat.le_refl,Bool.and_true,Bool.true_and,List.drop_zero,List.take_succ_cons,List.take_zero,List.length_append,List.length_cons,List.length_nil,Nat.zero_add,if_true,if_false]
     ·subst he
      have hH:z0y ([]:List (List Pt))=[]:=rfl
      rw [hH] at h29 h16 c1 f1 h44 h45' l2' eK c2 l9'
      rw [hH] at l1
      rw [List.nil_append] at eK
      simp only [List.length_nil,Nat.zero_add] at l9'
      have hlK1:(z0y ([]++[hz1 more])).length=1:=hlK
      have tK1:(z0y ([]++[hz1 more])).take 1=z0y ([]++[hz1 more]):=tK
      have m1:¬ 1+more.length≤1:=by have:=List.length_pos_iff.2 hm; omega
      have m3:1≤more.length:=by omega
      clear l2 h45 l9 c3 m2 s1 s2 s3 hcb hsub hne f2 f3 hbs hn hp
      generalize z0b (z3t (z1j l []))=C at*
      generalize z0b (z1j l [])=A at*
      generalize z0y ([]++[hz1 more])=K at*
      generalize z0b (hz1 more)=Z at*
      generalize z0b l=L at*
      generalize z0b more=R at*
      simp only [z01,z02,h29,hf,z1l,q1,q2,f1,h16,hc1,c1,hlc,tC,h43,l1,h44,hM,h45',l2',hH,hlK1,tK1,Nat.add_zero,w5z,List.take_nil,List.drop_nil,List.append_nil,Nat.zero_le,Nat.le_refl,hlM,hlZ,tZ,m1,m3,i3,h31,eZ,eK,h29',z5s,z5r,z5q,l9',c2,z4k,z5p,x2r,z11,List.nil_append,ne_eq,eq_self,not_true,not_false_eq_true,decide_true,decide_false,Bool.not_true,Bool.not_false,cond_true,cond_false,Nat.le_refl,Bool.and_true,Bool.true_and,List.drop_zero,List.take_succ_cons,List.take_zero,List.length_append,List.length_cons,List.length_nil,Nat.zero_add,if_true,if_false]
    ·by_cases hm:more=[]
     ·have e1:¬ hs.length≤0:=by have:=List.length_pos_iff.2 he; omega
      have e2:1≤hs.length:=by omega
      subst hm
      have hR:z0b ([]:List Pt)=[]:=rfl
      rw [hR] at eZ l1 l2'
      rw [List.append_nil] at eZ
      have hlZ1:(z0b (hz1 [])).length=1:=hlZ
      have tZ1:(z0b (hz1 [])).take 1=z0b (hz1 []):=tZ
      have dZ1:(z0b (hz1 [])).drop 1=[]:=rfl
      clear l2 h45 l9 c3 m2 s1 s2 s3 hcb hsub hne f2 f3 hbs hn hp
      generalize z0b (z3t (z1j l hs))=C at*
      generalize z0b (z1j l hs)=A at*
      generalize z0y (hs++[hz1 []])=K at*
      generalize z0b (hz1 [])=Z at*
      generalize z0b l=L at*
      generalize z0y hs=H at*
      simp only [z01,z02,h29,hf,z1l,q1,q2,f1,h16,hc1,c1,hlc,tC,h43,l1,h44,hM,h45',l2',hlH,hlK,tK,tH,e1,e2,i1,i2,hR,hlZ1,tZ1,dZ1,Nat.add_zero,List.append_nil,List.drop_succ_cons,List.drop_nil,List.take_nil,h31,eZ,eK,h29',z5s,z5r,z5q,l9',c2,z4k,z5p,x2r,z11,List.nil_append,ne_eq,eq_self,not_true,not_false_eq_true,decide_true,decide_false,Bool.not_true,Bool.not_false,cond_true,cond_false,Nat.le_refl,Bool.and_true,Bool.true_and,List.drop_zero,List.take_succ_cons,List.take_zero,List.length_append,List.length_cons,List.length_nil,Nat.zero_add,if_true,if_false]
     ·have e1:¬ hs.length≤0:=by have:=List.length_pos_iff.2 he; omega
      have e2:1≤hs.length:=by omega
      have m1:¬ 1+more.length≤1:=by have:=List.length_pos_iff.2 hm; omega
      have m3:1≤more.length:=by omega
      clear l2 h45 l9 c3 m2 s1 s2 s3 hcb hsub hne f2 f3 hbs hn hp
      generalize z0b (z3t (z1j l hs))=C at*
      generalize z0b (z1j l hs)=A at*
      generalize z0y (hs++[hz1 more])=K at*
      generalize z0b (hz1 more)=Z at*
      generalize z0b l=L at*
      generalize z0y hs=H at*
      generalize z0b more=R at*
      simp only [z01,z02,h29,hf,z1l,q1,q2,f1,h16,hc1,c1,hlc,tC,h43,l1,h44,hM,h45',l2',hlH,hlK,tK,tH,e1,e2,i1,i2,hlM,hlZ,tZ,m1,m3,i3,h31,eZ,eK,h29',z5s,z5r,z5q,l9',c2,z4k,z5p,x2r,z11,List.nil_append,ne_eq,eq_self,not_true,not_false_eq_true,decide_true,decide_false,Bool.not_true,Bool.not_false,cond_true,cond_false,Nat.le_refl,Bool.and_true,Bool.true_and,List.drop_zero,List.take_succ_cons,List.take_zero,List.length_append,List.length_cons,List.length_nil,Nat.zero_add,if_true,if_false]
   ·by_cases he:hs=[]
    ·by_cases hm:more=[]
     ·subst he
      have hH:z0y ([]:List (List Pt))=[]:=rfl
      rw [hH] at h29 h16 c1 f1 h44 eK c2 l9'
      rw [hH] at l1
      rw [List.nil_append] at eK
      simp only [List.length_nil,Nat.zero_add] at l9'
      have hlK1:(z0y ([]++[hz1 more])).length=1:=hlK
      have tK1:(z0y ([]++[hz1 more])).take 1=z0y ([]++[hz1 more]):=tK
      subst hm
      have hR:z0b ([]:List Pt)=[]:=rfl
      rw [hR] at eZ l1
      rw [List.append_nil] at eZ
      have hlZ1:(z0b (hz1 [])).length=1:=hlZ
      have tZ1:(z0b (hz1 [])).take 1=z0b (hz1 []):=tZ
      have dZ1:(z0b (hz1 [])).drop 1=[]:=rfl
      clear l2 h45 l9 c3 m2 s1 s2 s3 hcb hsub hne f2 f3 hbs hn hp
      generalize z0b (z3t (z1j l []))=C at*
      generalize z0b (z1j l [])=A at*
      generalize z0y ([]++[hz1 []])=K at*
      generalize z0b (hz1 [])=Z at*
      generalize z0b l=L at*
      simp only [z01,z02,h29,hf,z1l,q1,q2,f1,h16,hc1,c1,hlc,tC,h43,l1,h44,hM,hH,hlK1,tK1,Nat.add_zero,w5z,List.take_nil,List.drop_nil,List.append_nil,Nat.zero_le,Nat.le_refl,hR,hlZ1,tZ1,dZ1,List.drop_succ_cons,h31,eZ,eK,h29',z5s,z5r,z5q,l9',c2,z4k,z5p,x2r,z11,List.nil_append,ne_eq,eq_self,not_true,not_false_eq_true,decide_true,decide_false,Bool.not_true,Bool.not_false,cond_true,cond_false,Nat.le_refl,Bool.and_true,Bool.true_and,List.drop_zero,List.take_succ_cons,List.take_zero,List.length_append,List.length_cons,List.length_nil,Nat.zero_add,if_true,if_false]
     ·subst he
      have hH:z0y ([]:List (List Pt))=[]:=rfl
      rw [hH] at h29 h16 c1 f1 h44 eK c2 l9'
      rw [hH] at l1
      rw [List.nil_append] at eK
      simp only [List.length_nil,Nat.zero_add] at l9'
      have hlK1:(z0y ([]++[hz1 more])).length=1:=hlK
      have tK1:(z0y ([]++[hz1 more])).take 1=z0y ([]++[hz1 more]):=tK
      have m1:¬ 1+more.length≤1:=by have:=List.length_pos_iff.2 hm; omega
      have m3:1≤more.length:=by omega
      clear l2 h45 l9 c3 m2 s1 s2 s3 hcb hsub hne f2 f3 hbs hn hp
      generalize z0b (z3t (z1j l []))=C at*
      generalize z0b (z1j l [])=A at*
      generalize z0y ([]++[hz1 more])=K at*
      generalize z0b (hz1 more)=Z at*
      generalize z0b l=L at*
      generalize z0b more=R at*
      simp only [z01,z02,h29,hf,z1l,q1,q2,f1,h16,hc1,c1,hlc,tC,h43,l1,h44,hM,hH,hlK1,tK1,Nat.add_zero,w5z,List.take_nil,List.drop_nil,List.append_nil,Nat.zero_le,Nat.le_refl,hlM,hlZ,tZ,m1,m3,i3,h31,eZ,eK,h29',z5s,z5r,z5q,l9',c2,z4k,z5p,x2r,z11,List.nil_append,ne_eq,eq_self,not_true,not_false_eq_true,decide_true,decide_false,Bool.not_true,Bool.not_false,cond_true,cond_false,Nat.le_refl,Bool.and_true,Bool.true_and,List.drop_zero,List.take_succ_cons,List.take_zero,List.length_append,List.length_cons,List.length_nil,Nat.zero_add,if_true,if_false]
    ·by_cases hm:more=[]
     ·have e1:¬ hs.length≤0:=by have:=List.length_pos_iff.2 he; omega
      have e2:1≤hs.length:=by omega
      subst hm
      have hR:z0b ([]:List Pt)=[]:=rfl
      rw [hR] at eZ l1
      rw [List.append_nil] at eZ
      have hlZ1:(z0b (hz1 [])).length=1:=hlZ
      have tZ1:(z0b (hz1 [])).take 1=z0b (hz1 []):=tZ
      have dZ1:(z0b (hz1 [])).drop 1=[]:=rfl
      clear l2 h45 l9 c3 m2 s1 s2 s3 hcb hsub hne f2 f3 hbs hn hp
      generalize z0b (z3t (z1j l hs))=C at*
      generalize z0b (z1j l hs)=A at*
      generalize z0y (hs++[hz1 []])=K at*
      generalize z0b (hz1 [])=Z at*
      generalize z0b l=L at*
      generalize z0y hs=H at*
      simp only [z01,z02,h29,hf,z1l,q1,q2,f1,h16,hc1,c1,hlc,tC,h43,l1,h44,hM,hlH,hlK,tK,tH,e1,e2,i1,i2,hR,hlZ1,tZ1,dZ1,Nat.add_zero,List.append_nil,List.drop_succ_cons,List.drop_nil,List.take_nil,h31,eZ,eK,h29',z5s,z5r,z5q,l9',c2,z4k,z5p,x2r,z11,List.nil_append,ne_eq,eq_self,not_true,not_false_eq_true,decide_true,decide_false,Bool.not_true,Bool.not_false,cond_true,cond_false,Nat.le_refl,Bool.and_true,Bool.true_and,List.drop_zero,List.take_succ_cons,List.take_zero,List.length_append,List.length_cons,List.length_nil,Nat.zero_add,if_true,if_false]
     ·have e1:¬ hs.length≤0:=by have:=List.length_pos_iff.2 he; omega
      have e2:1≤hs.length:=by omega
      have m1:¬ 1+more.length≤1:=by have:=List.length_pos_iff.2 hm; omega
      have m3:1≤more.length:=by omega
      clear l2 h45 l9 c3 m2 s1 s2 s3 hcb hsub hne f2 f3 hbs hn hp
      generalize z0b (z3t (z1j l hs))=C at*
      generalize z0b (z1j l hs)=A at*
      generalize z0y (hs++[hz1 more])=K at*
      generalize z0b (hz1 more)=Z at*
      generalize z0b l=L at*
      generalize z0y hs=H at*
      generalize z0b more=R at*
      simp only [z01,z02,h29,hf,z1l,q1,q2,f1,h16,hc1,c1,hlc,tC,h43,l1,h44,hM,hlH,hlK,tK,tH,e1,e2,i1,i2,hlM,hlZ,tZ,m1,m3,i3,h31,eZ,eK,h29',z5s,z5r,z5q,l9',c2,z4k,z5p,x2r,z11,List.nil_append,ne_eq,eq_self,not_true,not_false_eq_true,decide_true,decide_false,Bool.not_true,Bool.not_false,cond_true,cond_false,Nat.le_refl,Bool.and_true,Bool.true_and,List.drop_zero,List.take_succ_cons,List.take_zero,List.length_append,List.length_cons,List.length_nil,Nat.zero_add,if_true,if_false]
  ·rw [decide_eq_false hk] at h29'
   by_cases hM:((M:Nat):Int)≤300
   ·have l2':=l2 (m2 hM)
    have h45':=h45 (m2 hM)
    by_cases he:hs=[]
    ·by_cases hm:more=[]
     ·subst he
      have hH:z0y ([]:List (List Pt))=[]:=rfl
      rw [hH] at h29 h16 c1 f1 h44 h45' l2' eK c2
      rw [hH] at l1
      rw [List.nil_append] at eK
      have hlK1:(z0y ([]++[hz1 more])).length=1:=hlK
      have tK1:(z0y ([]++[hz1 more])).take 1=z0y ([]++[hz1 more]):=tK
      subst hm
      have hR:z0b ([]:List Pt)=[]:=rfl
      rw [hR] at eZ l1 l2'
      rw [List.append_nil] at eZ
      have hlZ1:(z0b (hz1 [])).length=1:=hlZ
      have tZ1:(z0b (hz1 [])).take 1=z0b (hz1 []):=tZ
      have dZ1:(z0b (hz1 [])).drop 1=[]:=rfl
      clear l2 h45 l9 c3 m2 s1 s2 s3 hcb hsub hne f2 f3 hbs hn hp
      generalize z0b (z3t (z1j l []))=C at*
      generalize z0b (z1j l [])=A at*
      generalize z0y ([]++[hz1 []])=K at*
      generalize z0b (hz1 [])=Z at*
      generalize z0b l=L at*
      simp only [z01,z02,h29,hf,z1l,q1,q2,f1,h16,hc1,c1,hlc,tC,h43,l1,h44,hM,h45',l2',hH,hlK1,tK1,Nat.add_zero,w5z,List.take_nil,List.drop_nil,List.append_nil,Nat.zero_le,Nat.le_refl,hR,hlZ1,tZ1,dZ1,List.drop_succ_cons,h31,eZ,eK,h29',z5s,z5r,z5q,z4k,z5p,x2r,z11,List.nil_append,ne_eq,eq_self,not_true,not_false_eq_true,decide_true,decide_false,Bool.not_true,Bool.not_false,cond_true,cond_false,Nat.le_refl,Bool.and_true,Bool.true_and,List.drop_zero,List.take_succ_cons,List.take_zero,List.length_append,List.length_cons,List.length_nil,Nat.zero_add,if_true,if_false]
     ·subst he
      have hH:z0y ([]:List (List Pt))=[]:=rfl
      rw [hH] at h29 h16 c1 f1 h44 h45' l2' eK c2
      rw [hH] at l1
      rw [List.nil_append] at eK
      have hlK1:(z0y ([]++[hz1 more])).length=1:=hlK
      have tK1:(z0y ([]++[hz1 more])).take 1=z0y ([]++[hz1 more]):=tK
      have m1:¬ 1+more.length≤1:=by have:=List.length_pos_iff.2 hm; omega
      have m3:1≤more.length:=by omega
      clear l2 h45 l9 c3 m2 s1 s2 s3 hcb hsub hne f2 f3 hbs hn hp
      generalize z0b (z3t (z1j l []))=C at*
      generalize z0b (z1j l [])=A at*
      generalize z0y ([]++[hz1 more])=K at*
      generalize z0b (hz1 more)=Z at*
      generalize z0b l=L at*
      generalize z0b more=R at*
      simp only [z01,z02,h29,hf,z1l,q1,q2,f1,h16,hc1,c1,hlc,tC,h43,l1,h44,hM,h45',l2',hH,hlK1,tK1,Nat.add_zero,w5z,List.take_nil,List.drop_nil,List.append_nil,Nat.zero_le,Nat.le_refl,hlM,hlZ,tZ,m1,m3,i3,h31,eZ,eK,h29',z5s,z5r,z5q,z4k,z5p,x2r,z11,List.nil_append,ne_eq,eq_self,not_true,not_false_eq_true,decide_true,decide_false,Bool.not_true,Bool.not_false,cond_true,cond_false,Nat.le_refl,Bool.and_true,Bool.true_and,List.drop_zero,List.take_succ_cons,List.take_zero,List.length_append,List.length_cons,List.length_nil,Nat.zero_add,if_true,if_false]
    ·by_cases hm:more=[]
     ·have e1:¬ hs.length≤0:=by have:=List.length_pos_iff.2 he; omega
      have e2:1≤hs.length:=by omega
      subst hm
      have hR:z0b ([]:List Pt)=[]:=rfl
      rw [hR] at eZ l1 l2'
      rw [List.append_nil] at eZ
      have hlZ1:(z0b (hz1 [])).length=1:=hlZ
      have tZ1:(z0b (hz1 [])).take 1=z0b (hz1 []):=tZ
      have dZ1:(z0b (hz1 [])).drop 1=[]:=rfl
      clear l2 h45 l9 c3 m2 s1 s2 s3 hcb hsub hne f2 f3 hbs hn hp
      generalize z0b (z3t (z1j l hs))=C at*
      generalize z0b (z1j l hs)=A at*
      generalize z0y (hs++[hz1 []])=K at*
      generalize z0b (hz1 [])=Z at*
      generalize z0b l=L at*
      generalize z0y hs=H at*
      simp only [z01,z02,h29,hf,z1l,q1,q2,f1,h16,hc1,c1,hlc,tC,h43,l1,h44,hM,h45',l2',hlH,hlK,tK,tH,e1,e2,i1,i2,hR,hlZ1,tZ1,dZ1,Nat.add_zero,List.append_nil,List.drop_succ_cons,List.drop_nil,List.take_nil,h31,eZ,eK,h29',z5s,z5r,z5q,z4k,z5p,x2r,z11,List.nil_append,ne_eq,eq_self,not_true,not_false_eq_true,decide_true,decide_false,Bool.not_true,Bool.not_false,cond_true,cond_false,Nat.le_refl,Bool.and_true,Bool.true_and,List.drop_zero,List.take_succ_cons,List.take_zero,List.length_append,List.length_cons,List.length_nil,Nat.zero_add,if_true,if_false]
     ·have e1:¬ hs.length≤0:=by have:=List.length_pos_iff.2 he; omega
      have e2:1≤hs.length:=by omega
      have m1:¬ 1+more.length≤1:=by have:=List.length_pos_iff.2 hm; omega
      have m3:1≤more.length:=by omega
      clear l2 h45 l9 c3 m2 s1 s2 s3 hcb hsub hne f2 f3 hbs hn hp
      generalize z0b (z3t (z1j l hs))=C at*
      generalize z0b (z1j l hs)=A at*
      generalize z0y (hs++[hz1 more])=K at*
      generalize z0b (hz1 more)=Z at*
      generalize z0b l=L at*
      generalize z0y hs=H at*
      generalize z0b more=R at*
      simp only [z01,z02,h29,hf,z1l,q1,q2,f1,h16,hc1,c1,hlc,tC,h43,l1,h44,hM,h45',l2',hlH,hlK,tK,tH,e1,e2,i1,i2,hlM,hlZ,tZ,m1,m3,i3,h31,eZ,eK,h29',z5s,z5r,z5q,z4k,z5p,x2r,z11,List.nil_append,ne_eq,eq_self,not_true,not_false_eq_true,decide_true,decide_false,Bool.not_true,Bool.not_false,cond_true,cond_false,Nat.le_refl,Bool.and_true,Bool.true_and,List.drop_zero,List.take_succ_cons,List.take_zero,List.length_append,List.length_cons,List.length_nil,Nat.zero_add,if_true,if_false]
   ·by_cases he:hs=[]
    ·by_cases hm:more=[]
     ·subst he
      have hH:z0y ([]:List (List Pt))=[]:=rfl
      rw [hH] at h29 h16 c1 f1 h44 eK c2
      rw [hH] at l1
      rw [List.nil_append] at eK
      have hlK1:(z0y ([]++[hz1 more])).length=1:=hlK
      have tK1:(z0y ([]++[hz1 more])).take 1=z0y ([]++[hz1 more]):=tK
      subst hm
      have hR:z0b ([]:List Pt)=[]:=rfl
      rw [hR] at eZ l1
      rw [List.append_nil] at eZ
      have hlZ1:(z0b (hz1 [])).length=1:=hlZ
      have tZ1:(z0b (hz1 [])).take 1=z0b (hz1 []):=tZ
      have dZ1:(z0b (hz1 [])).drop 1=[]:=rfl
      clear l2 h45 l9 c3 m2 s1 s2 s3 hcb hsub hne f2 f3 hbs hn hp
      generalize z0b (z3t (z1j l []))=C at*
      generalize z0b (z1j l [])=A at*
      generalize z0y ([]++[hz1 []])=K at*
      generalize z0b (hz1 [])=Z at*
      generalize z0b l=L at*
      simp only [z01,z02,h29,hf,z1l,q1,q2,f1,h16,hc1,c1,hlc,tC,h43,l1,h44,hM,hH,hlK1,tK1,Nat.add_zero,w5z,List.take_nil,List.drop_nil,List.append_nil,Nat.zero_le,Nat.le_refl,hR,hlZ1,tZ1,dZ1,List.drop_succ_cons,h31,eZ,eK,h29',z5s,z5r,z5q,z4k,z5p,x2r,z11,List.nil_append,ne_eq,eq_self,not_true,not_false_eq_true,decide_true,decide_false,Bool.not_true,Bool.not_false,cond_true,cond_false,Nat.le_refl,Bool.and_true,Bool.true_and,List.drop_zero,List.take_succ_cons,List.take_zero,List.length_append,List.length_cons,List.length_nil,Nat.zero_add,if_true,if_false]
     ·subst he
      have hH:z0y ([]:List (List Pt))=[]:=rfl
      rw [hH] at h29 h16 c1 f1 h44 eK c2
      rw [hH] at l1
      rw [List.nil_append] at eK
      have hlK1:(z0y ([]++[hz1 more])).length=1:=hlK
      have tK1:(z0y ([]++[hz1 more])).take 1=z0y ([]++[hz1 more]):=tK
      have m1:¬ 1+more.length≤1:=by have:=List.length_pos_iff.2 hm; omega
      have m3:1≤more.length:=by omega
      clear l2 h45 l9 c3 m2 s1 s2 s3 hcb hsub hne f2 f3 hbs hn hp
      generalize z0b (z3t (z1j l []))=C at*
      generalize z0b (z1j l [])=A at*
      generalize z0y ([]++[hz1 more])=K at*
      generalize z0b (hz1 more)=Z at*
      generalize z0b l=L at*
      generalize z0b more=R at*
      simp only [z01,z02,h29,hf,z1l,q1,q2,f1,h16,hc1,c1,hlc,tC,h43,l1,h44,hM,hH,hlK1,tK1,Nat.add_zero,w5z,List.take_nil,List.drop_nil,List.append_nil,Nat.zero_le,Nat.le_refl,hlM,hlZ,tZ,m1,m3,i3,h31,eZ,eK,h29',z5s,z5r,z5q,z4k,z5p,x2r,z11,List.nil_append,ne_eq,eq_self,not_true,not_false_eq_true,decide_true,decide_false,Bool.not_true,Bool.not_false,cond_true,cond_false,Nat.le_refl,Bool.and_true,Bool.true_and,List.drop_zero,List.take_succ_cons,List.take_zero,List.length_append,List.length_cons,List.length_nil,Nat.zero_add,if_true,if_false]
    ·by_cases hm:more=[]
     ·have e1:¬ hs.length≤0:=by have:=List.length_pos_iff.2 he; omega
      have e2:1≤hs.length:=by omega
      subst hm
      have hR:z0b ([]:List Pt)=[]:=rfl
      rw [hR] at eZ l1
      rw [List.append_nil] at eZ
      have hlZ1:(z0b (hz1 [])).length=1:=hlZ
      have tZ1:(z0b (hz1 [])).take 1=z0b (hz1 []):=tZ
      have dZ1:(z0b (hz1 [])).drop 1=[]:=rfl
      clear l2 h45 l9 c3 m2 s1 s2 s3 hcb hsub hne f2 f3 hbs hn hp
      generalize z0b (z3t (z1j l hs))=C at*
      generalize z0b (z1j l hs)=A at*
      generalize z0y (hs++[hz1 []])=K at*
      generalize z0b (hz1 [])=Z at*
      generalize z0b l=L at*
      generalize z0y hs=H at*
      simp only [z01,z02,h29,hf,z1l,q1,q2,f1,h16,hc1,c1,hlc,tC,h43,l1,h44,hM,hlH,hlK,tK,tH,e1,e2,i1,i2,hR,hlZ1,tZ1,dZ1,Nat.add_zero,List.append_nil,List.drop_succ_cons,List.drop_nil,List.take_nil,h31,eZ,eK,h29',z5s,z5r,z5q,z4k,z5p,x2r,z11,List.nil_append,ne_eq,eq_self,not_true,not_false_eq_true,decide_true,decide_false,Bool.not_true,Bool.not_false,cond_true,cond_false,Nat.le_refl,Bool.and_true,Bool.true_and,List.drop_zero,List.take_succ_cons,List.take_zero,List.length_append,List.length_cons,List.length_nil,Nat.zero_add,if_true,if_false]
     ·have e1:¬ hs.length≤0:=by have:=List.length_pos_iff.2 he; omega
      have e2:1≤hs.length:=by omega
      have m1:¬ 1+more.length≤1:=by have:=List.length_pos_iff.2 hm; omega
      have m3:1≤more.length:=by omega
      clear l2 h45 l9 c3 m2 s1 s2 s3 hcb hsub hne f2 f3 hbs hn hp
      generalize z0b (z3t (z1j l hs))=C at*
      generalize z0b (z1j l hs)=A at*
      generalize z0y (hs++[hz1 more])=K at*
      generalize z0b (hz1 more)=Z at*
      generalize z0b l=L at*
      generalize z0y hs=H at*
      generalize z0b more=R at*
      simp only [z01,z02,h29,hf,z1l,q1,q2,f1,h16,hc1,c1,hlc,tC,h43,l1,h44,hM,hlH,hlK,tK,tH,e1,e2,i1,i2,hlM,hlZ,tZ,m1,m3,i3,h31,eZ,eK,h29',z5s,z5r,z5q,z4k,z5p,x2r,z11,List.nil_append,ne_eq,eq_self,not_true,not_false_eq_true,decide_true,decide_false,Bool.not_true,Bool.not_false,cond_true,cond_false,Nat.le_refl,Bool.and_true,Bool.true_and,List.drop_zero,List.take_succ_cons,List.take_zero,List.length_append,List.length_cons,List.length_nil,Nat.zero_add,if_true,if_false]
 unfold G11 at fin
 exact fin
end Go.Am
end
section
namespace Go.Proofs.Ytolfgnbldofcjaa
open Go.ChangeShapes Go.WideShapes Go.ChangeAt Go.RowKit Go.Am
theorem v01 {e0:List (List D)} {e1:List (List D)} {e2:Int} {e3:List (List D)} {e4:List (List D)} (h:G11 std (e0,e1,e2,e3,e4,())=some (true,())):∃ h',z90 Try.prog 11 (toA [.agg [.list false 2 e0, .list false 1 e1], .int .u8 e2, .list false 1 e3, .list false 2 e4]) [] (.d (.bool true)) h':=by
 have:=(ok11.2 (e0,e1,e2,e3,e4,()) (true,()) h).2
 exact ⟨_,this⟩
theorem v7h:w7c Try.prog 6 Try.f11.params.toList=true:=by kernel_rfl
theorem rt11:Try.f11.resultTypes=#[Try.f11.resultTypes.getD 0 0]:=by kernel_rfl
theorem rb11:Try.prog.underlying (Try.f11.resultTypes.getD 0 0)=some .bool:=by kernel_rfl
theorem v0b:Try.f11.params.toList.all (fun t=>decide (t<Try.prog.types.size))=true:=by kernel_rfl
set_option maxRecDepth 100000 in
theorem x73 (H:Type) (enc:TypeId×Value→H) (W:World) (base:Nat) (args:Array Value) (ds gs:List (DataW H)) (before:List MemPlace)
  (hval:∀ (j:Nat) t v,Try.f11.params[j]?=some t→args[j]?=some v→Value.okWide Try.prog W .any base t v)
  (hW:DataW.Whole enc Try.prog Try.f11.params.toList Rows.signalSummedSpec.vars false W args.toList ds gs before):
  Calls Try.prog 11 args W fun e W'=>∃ v,e= .returned v∧Rows.signalSummedSpec.post enc Try.prog Try.f11 false true false false W args v W':=by
 have hW':=hW
 obtain ⟨p,q,hA0,hV,rfl,hfz,hnd⟩:=hW
 have hA:DataW.TrodAll enc Try.prog W 0 (fun _=>true) true Try.f11.params.toList args.toList ds p:=hA0
 obtain ⟨xs,h1,h2,h3⟩:=w1y (O:=fun _=>False) (fun _ h=>h) v7h (x97 hval) hA
 have hd:∃ x0 x1 x2 x3,xs=[x0,x1,x2,x3]∧(∃ ds,x0= .agg ds∧DKs [.list [.int .i64, .int .i64], .list [.list [.int .i64, .int .i64]]] ds)∧(DK (.int .u8) x1)∧(DK (.list [.int .u8]) x2)∧(DK (.list [.int .i64, .int .i64]) x3):=by
  match xs,h1 with
  |[x0,x1,x2,x3],h1=>exact ⟨x0,x1,x2,x3,rfl,h1.1,h1.2.1,h1.2.2.1,h1.2.2.2.1⟩
 obtain ⟨x0,x1,x2,x3,rfl,k0,k1,k2,k3⟩:=hd
 obtain ⟨l0,hz0,rfl⟩:=w34 k0
 obtain ⟨n1,rfl,wf1⟩:=v02 k1
 obtain ⟨l2,rfl,wf2⟩:=w42 k2
 obtain ⟨l3,rfl⟩:=y45 k3
 obtain ⟨h',hr⟩:=v01 (v6j l0 hz0 n1 wf1 l2 wf2 l3)
 exact (y9n hr h2 h3).mono fun e W' ⟨he,hs⟩=>⟨_,he,w3v laid rowed sized v0b rfl rt11 rb11 (fun ds hd=>by
  match ds,hd with
  |[d0,d1,d2,d3],_=>exact ⟨rfl,rfl,rfl⟩) hW' hs⟩
set_option maxRecDepth 100000 in
theorem w3q (os:Os) (started:os.Started) (H:Type) (enc:TypeId×Value→H):
  ReturnsInHanded {} Try.checked os 11 .any (Rows.signalSummedSpec.pre6 enc Try.prog Try.f11 Rows.signalSummedRow.domain false) (Rows.signalSummedSpec.post enc Try.prog Try.f11 false true false false):=by
 refine returnsInHanded_of_change (C:=Try.checked) own started (by kernel_rfl) Try.func11
  (ChangeSpec.witness6 (enc:=enc) (C:=Try.checked) false ⟨#[],#[.agg #[.slice none 0 0, .slice none 0 0], .int .u8 0, .slice none 0 0, .slice none 0 0],[]⟩ 8 (by kernel_rfl) (by kernel_rfl) (by kernel_rfl) (by kernel_rfl)) ?_
 intro W base args ds gs before hval hW _ _
 exact x73 H enc W base args ds gs before hval hW
set_option maxRecDepth 100000 in
theorem y19:Rows.signalSummedRow.holds Try.pinned (OpenSpec.ofChange Rows.signalSummedSpec):=
 OpenClaim.holds_of_wide 11 Try.f11 rfl rfl rfl rfl rfl rfl rfl ⟨rfl,rfl,rfl,rfl,rfl⟩ rfl rfl rfl rfl rfl (by kernel_rfl) Try.func11 (by kernel_rfl)
  (of_decide_eq_true (by kernel_rfl)) (by unfold Func.isWrapper; first|(rw [if_pos (by decide+kernel)]; kernel_rfl)|(rw [if_neg (by decide+kernel)]; exact ⟨rfl,rfl⟩))
  (fun os started H enc _=>w3q os started H enc)
theorem signalSummed_holds:Rows.SignalSummedSaid:=y19
end Go.Proofs.Ytolfgnbldofcjaa
end
