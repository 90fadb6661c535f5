/-
  Proved: PanelOrders: for every input the call returns true, and each argument reads afterwards as it read before; there is no condition.
-/
import Derived.Test.YtjlhhpjkmgediaaT3
import Derived.Test.YtjlhhpjkmgediaaProg
import Derived.KernelRfl
import Derived.Shelf.Spec.SlicesInsertGrow
set_option linter.unusedVariables false
set_option linter.unusedSimpArgs false
set_option linter.unusedSectionVars false
set_option maxRecDepth 100000
set_option maxHeartbeats 0
noncomputable section
namespace Go.Am
def w2q:Ctr:=
 ⟨52,[.int .i64, .int .i64, .list 1],[],[(.ret,⟨[(0, .bool)],[],1⟩)]⟩
def la52:List LA:=
 [⟨91,[false,true,false,true],2,⟨⟨[(0, .list 1),(1, .clo 80 [] [.bptr 0 0, .bptr 1 0]),(7, .int .i64),(8, .int .i64)],[.box [.int .i64], .box [.int .i64]],19⟩,[(AX.ret,⟨[(4, .int .i64)],[.box [.int .i64], .box [.int .i64]],19⟩),((AX.exit 0),⟨[],[.box [.int .i64], .box [.int .i64]],19⟩)]⟩⟩]
def ja52:List JA:=
 [⟨80,[false,true],2,[(AX.normal,⟨[(4, .bool)],[.box [.int .i64], .box [.int .i64]],13⟩)]⟩]
def w6x:List CF:=
 []
def an52:Anns:=
 ⟨w6x,ja52,[]⟩
def w73 (p:Prim):T9→Option ((Int×(Int×(LD×(Int×(Int×Unit)))))⊕((Int×(Int×(Int×Unit)))⊕(Int×(Int×Unit)))):=
 fun a=>opt.run _ (
 opt.ask _ (p.cmp .lss a.2.2.2.2.1 a.2.2.2.1) (
 opt.need _ (p.rowOk a.2.2.1 (p.nat a.2.2.2.2.1) [ci])<|
 opt.need _ (p.cmp .geq a.2.2.2.2.1 (0:Int))<|
 opt.bnd T27 _ (
 opt.run T27 (
 opt.ask _ (p.cmp .lss (p.rdI a.2.2.1 (p.nat a.2.2.2.2.1) 0) a.1) (
 opt.ret _ (a.1,(a.2.1,(Bool.true,())))) (
 opt.ret _ (a.1,(a.2.1,((p.cmp .gtr (p.rdI a.2.2.1 (p.nat a.2.2.2.2.1) 0) a.2.1),())))))) fun b=>
 opt.ask _ b.2.2.1 (
 opt.ret _ (Sum.inr (Sum.inl (b.1,(b.2.1,(a.2.2.2.2.1,())))))) (
 opt.ret _ (Sum.inl (b.1,(b.2.1,(a.2.2.1,(a.2.2.2.1,((p.ar .add .i64 a.2.2.2.2.1 (1:Int)),())))))))) (
 opt.ret _ (Sum.inr (Sum.inr (a.1,(a.2.1,()))))))
def g52 (it:It):(p:Prim)→(Int×(Int×(LD×Unit)))→Option T0:=
 fun p x=>
 opt.alt ((Int×(Int×(Int×Unit)))) T8 _ (
 it _ _ (w73 p) (x.1,(x.2.1,(x.2.2.1,((p.ofNat (p.len x.2.2.1)),((0:Int),())))))) (fun a=>
 opt.ret _ ((bif (p.cmp .geq a.2.2.1 (0:Int)) then Bool.false else Bool.true),())) (fun b=>
 opt.bnd T8 _ (some b) fun c=>
 opt.ret _ ((bif (p.cmp .geq (-1:Int) (0:Int)) then Bool.false else Bool.true),()))
def G52:=g52 it0
theorem ok52:CtrOk PG w2q (G52 std):=okF (a:=an52) (l:=la52) (gN) (by kernel_rfl) fun _ _=>by kernel_rfl
def x58:Ctr:=
 ⟨56,[.list 1, .int .i64],[],[(.ret,⟨[(0, .bool)],[],1⟩)]⟩
def la56:List LA:=
 [⟨56,[false,true,false,true,true],0,⟨⟨[(1, .int .i64),(5, .int .i64),(8, .list 1),(9, .int .i64),(10, .int .i64)],[],24⟩,[(AX.ret,⟨[(4, .bool)],[],24⟩),((AX.exit 0),⟨[],[],24⟩)]⟩⟩]
def ja56:List JA:=
 [⟨56,[false,false,true,false,false,true,true,false,false,true,false,true,true],0,[(AX.normal,⟨[(1, .int .i64),(7, .int .i64),(8, .list 1),(9, .int .i64),(10, .int .i64),(21, .bool)],[],24⟩)]⟩]
def w6v:List CF:=
 []
def an56:Anns:=
 ⟨w6v,ja56,[]⟩
def y61 (p:Prim):T9→Option ((Int×(Int×(LD×(Int×(Int×Unit)))))⊕((Bool×Unit)⊕Unit)):=
 fun a=>opt.run _ (
 opt.ask _ (p.cmp .lss a.2.2.2.2.1 a.2.2.2.1) (
 opt.need _ (p.rowOk a.2.2.1 (p.nat a.2.2.2.2.1) [ci])<|
 opt.need _ (p.cmp .geq a.2.2.2.2.1 (0:Int))<|
 opt.bnd T28 _ (
 opt.run T28 (
 opt.ask _ (p.cmp .leq (p.rdI a.2.2.1 (p.nat a.2.2.2.2.1) 0) a.2.1) (
 opt.ret _ (a.1,((p.rdI a.2.2.1 (p.nat a.2.2.2.2.1) 0),(a.2.2.1,(a.2.2.2.1,(a.2.2.2.2.1,(Bool.true,()))))))) (
 opt.ret _ (a.1,((p.rdI a.2.2.1 (p.nat a.2.2.2.2.1) 0),(a.2.2.1,(a.2.2.2.1,(a.2.2.2.2.1,((p.cmp .geq (p.rdI a.2.2.1 (p.nat a.2.2.2.2.1) 0) a.1),()))))))))) fun b=>
 opt.ask _ b.2.2.2.2.2.1 (
 opt.ret _ (Sum.inr (Sum.inl (Bool.false,())))) (
 opt.ret _ (Sum.inl (b.1,(b.2.1,(b.2.2.1,(b.2.2.2.1,((p.ar .add .i64 b.2.2.2.2.1 (1:Int)),())))))))) (
 opt.ret _ (Sum.inr (Sum.inr ()))))
def g56 (it:It):(p:Prim)→(LD×T1)→Option T0:=
 fun p x=>
 opt.alt T0 (Unit) _ (
 it _ _ (y61 p) (x.2.1,((-1:Int),(x.1,((p.ofNat (p.len x.1)),((0:Int),())))))) (fun a=>
 opt.ret _ (a.1,())) (fun b=>
 opt.bnd (Unit) _ (some b) fun c=>
 opt.ret _ (Bool.true,()))
def G56:=g56 it0
theorem w4z:CtrOk PG x58 (G56 std):=okF (a:=an56) (l:=la56) (gN) (by kernel_rfl) fun _ _=>by kernel_rfl
def w2l:Ctr:=
 ⟨70,[.list 1],[],[(.ret,⟨[(0, .int .i64)],[],1⟩)]⟩
def la70:List LA:=
 [⟨70,[false,true,false,true,true],0,⟨⟨[(3, .int .i64),(6, .list 1),(7, .int .i64),(8, .int .i64)],[],17⟩,[((AX.exit 0),⟨[(3, .int .i64)],[],17⟩)]⟩⟩]
def ja70:List JA:=
 []
def w6o:List CF:=
 []
def an70:Anns:=
 ⟨w6o,ja70,[]⟩
def w7y (p:Prim):(Int×(LD×(Int×(Int×Unit))))→Option ((Int×(LD×(Int×(Int×Unit))))⊕(Int×Unit)):=
 fun a=>opt.run _ (
 opt.ask _ (p.cmp .lss a.2.2.2.1 a.2.2.1) (
 opt.need _ (p.rowOk a.2.1 (p.nat a.2.2.2.1) [ci])<|
 opt.need _ (p.cmp .geq a.2.2.2.1 (0:Int))<|
 opt.ret _ (Sum.inl ((p.ar .add .i64 a.1 (p.rdI a.2.1 (p.nat a.2.2.2.1) 0)),(a.2.1,(a.2.2.1,((p.ar .add .i64 a.2.2.2.1 (1:Int)),())))))) (
 opt.ret _ (Sum.inr (a.1,()))))
def g70 (it:It):(p:Prim)→(LD×Unit)→Option T2:=
 fun p x=>
 opt.bnd T2 _ (
 it _ _ (w7y p) ((0:Int),(x.1,((p.ofNat (p.len x.1)),((0:Int),()))))) fun a=>
 opt.ret _ (a.1,())
def G70:=g70 it0
theorem ok70:CtrOk PG w2l (G70 std):=okF (a:=an70) (l:=la70) (gN) (by kernel_rfl) fun _ _=>by kernel_rfl
def x57:Ctr:=
 ⟨61,[.list 1],[],[(.ret,⟨[(0, .int .i64)],[],1⟩)]⟩
def la61:List LA:=
 []
def ja61:List JA:=
 [⟨61,[false,false,false,true],0,[(AX.normal,⟨[(0, .list 1),(3, .bool)],[],16⟩)]⟩,
 ⟨61,[true,false,false,true],0,[(AX.ret,⟨[(2, .int .i64)],[],16⟩),(AX.normal,⟨[],[],16⟩)]⟩]
def w6u:List CF:=
 [⟨w2q,G52⟩]
def an61:Anns:=
 ⟨w6u,ja61,[]⟩
def g61 (it:It):(p:Prim)→(LD×Unit)→Option T2:=
 fun p x=>
 opt.bnd ((LD×T7)) _ (
 opt.run ((LD×T7)) (
 opt.ask _ (p.cmp .eql (p.ofNat (p.len x.1)) (0:Int)) (
 opt.ret _ (x.1,(Bool.true,()))) (
 opt.ret _ (x.1,((p.cmp .gtr (p.ofNat (p.len x.1)) (10:Int)),()))))) fun a=>
 opt.alt T2 (Unit) _ (
 opt.run (((Int×Unit)⊕Unit)) (
 opt.ask _ a.2.1 (
 opt.ret _ (Sum.inl ((6:Int),()))) (
 opt.bnd T0 _ (g52 it p ((0:Int),((9:Int),(a.1,())))) fun b=>
 opt.ask _ (bif b.1 then Bool.false else Bool.true) (
 opt.ret _ (Sum.inl ((3:Int),()))) (
 opt.ret _ (Sum.inr ()))))) (fun c=>
 opt.ret _ (c.1,())) (fun d=>
 opt.bnd (Unit) _ (some d) fun e=>
 opt.ret _ ((0:Int),()))
def G61:=g61 it0
theorem w4y:CtrOk PG x57 (G61 std):=okF (a:=an61) (l:=la61) (gC ok52 (gN)) (by kernel_rfl) fun _ _=>by kernel_rfl
def x7p:Ctr:=
 ⟨102,[.int .u64],[],[(.ret,⟨[(0, .int .i64)],[],1⟩)]⟩
def w5y:List LA:=
 []
def w59:List JA:=
 [⟨102,[true,false,true,true,true],0,[(AX.normal,⟨[(0, .int .u64),(2, .int .i64)],[],25⟩)]⟩,
 ⟨102,[true,false,true],0,[(AX.normal,⟨[(0, .int .u64),(2, .int .i64)],[],25⟩)]⟩,
 ⟨102,[true,false,true,true],0,[(AX.normal,⟨[(0, .int .u64),(2, .int .i64)],[],25⟩)]⟩]
def w11:List CF:=
 []
def w8l:Anns:=
 ⟨w11,w59,[]⟩
def w8n:(p:Prim)→T1→Option T2:=
 fun p x=>
 opt.bnd T8 _ (
 opt.run T8 (
 opt.ask _ (p.cmp .geq x.1 (4294967296:Int)) (
 opt.need _ (p.cmp .geq (32:Int) (0:Int))<|
 opt.ret _ ((p.ar .shr .u64 x.1 (32:Int)),((32:Int),()))) (
 opt.ret _ (x.1,((0:Int),()))))) fun a=>
 opt.bnd T8 _ (
 opt.run T8 (
 opt.ask _ (p.cmp .geq a.1 (65536:Int)) (
 opt.need _ (p.cmp .geq (16:Int) (0:Int))<|
 opt.ret _ ((p.ar .shr .u64 a.1 (16:Int)),((p.ar .add .i64 a.2.1 (16:Int)),()))) (
 opt.ret _ (a.1,(a.2.1,()))))) fun b=>
 opt.bnd T8 _ (
 opt.run T8 (
 opt.ask _ (p.cmp .geq b.1 (256:Int)) (
 opt.need _ (p.cmp .geq (8:Int) (0:Int))<|
 opt.ret _ ((p.ar .shr .u64 b.1 (8:Int)),((p.ar .add .i64 b.2.1 (8:Int)),()))) (
 opt.ret _ (b.1,(b.2.1,()))))) fun c=>
 opt.need _ (bif (p.cmp .geq (p.cvt .u8 c.1) (0:Int)) then (p.cmp .lss (p.cvt .u8 c.1) (p.ofNat 256)) else Bool.false)<|
 opt.ret _ ((p.ar .add .i64 c.2.1 (p.cvt .i64 (p.byte (ByteArray.mk #[0,1,2,2,3,3,3,3,4,4,4,4,4,4,4,4,5,5,5,5,5,5,5,5,5,5,5,5,5,5,5,5,6,6,6,6,6,6,6,6,6,6,6,6,6,6,6,6,6,6,6,6,6,6,6,6,6,6,6,6,6,6,6,6,7,7,7,7,7,7,7,7,7,7,7,7,7,7,7,7,7,7,7,7,7,7,7,7,7,7,7,7,7,7,7,7,7,7,7,7,7,7,7,7,7,7,7,7,7,7,7,7,7,7,7,7,7,7,7,7,7,7,7,7,7,7,7,7,8,8,8,8,8,8,8,8,8,8,8,8,8,8,8,8,8,8,8,8,8,8,8,8,8,8,8,8,8,8,8,8,8,8,8,8,8,8,8,8,8,8,8,8,8,8,8,8,8,8,8,8,8,8,8,8,8,8,8,8,8,8,8,8,8,8,8,8,8,8,8,8,8,8,8,8,8,8,8,8,8,8,8,8,8,8,8,8,8,8,8,8,8,8,8,8,8,8,8,8,8,8,8,8,8,8,8,8,8,8,8,8,8,8,8,8,8,8,8,8,8,8,8,8,8,8,8,8]) (p.cvt .u8 c.1)))),())
theorem w47:CtrOk PG x7p (w8n std):=okF (a:=w8l) (l:=w5y) (gN) (by kernel_rfl) fun _ _=>by kernel_rfl
def x9w:Ctr:=
 ⟨83,[.int .u64],[],[(.ret,⟨[(0, .int .i64)],[],1⟩)]⟩
def la83:List LA:=
 []
def ja83:List JA:=
 []
def w6k:List CF:=
 [⟨x7p,w8n⟩]
def an83:Anns:=
 ⟨w6k,ja83,[]⟩
def G83:(p:Prim)→T1→Option T2:=
 fun p x=>
 opt.bnd T2 _ (w8n p (x.1,())) fun a=>
 opt.ret _ (a.1,())
theorem w8s:CtrOk PG x9w (G83 std):=okF (a:=an83) (l:=la83) (gC w47 (gN)) (by kernel_rfl) fun _ _=>by kernel_rfl
def x9v:Ctr:=
 ⟨98,[.int .i64, .int .i64],[],[(.ret,⟨[(0, .bool)],[],1⟩)]⟩
def la98:List LA:=
 []
def ja98:List JA:=
 [⟨98,[false,true],0,[(AX.normal,⟨[(4, .bool)],[],17⟩)]⟩]
def w6i:List CF:=
 []
def an98:Anns:=
 ⟨w6i,ja98,[]⟩
def G98:(p:Prim)→T3→Option T0:=
 fun p x=>
 opt.bnd T0 _ (
 opt.run T0 (
 opt.ask _ (p.cmp .neq x.1 x.1) (
 opt.ask _ (bif (p.cmp .neq x.2.1 x.2.1) then Bool.false else Bool.true) (
 opt.ret _ (Bool.true,())) (
 opt.ret _ ((p.cmp .lss x.1 x.2.1),()))) (
 opt.ret _ ((p.cmp .lss x.1 x.2.1),())))) fun a=>
 opt.ret _ (a.1,())
theorem w8r:CtrOk PG x9v (G98 std):=okF (a:=an98) (l:=la98) (gN) (by kernel_rfl) fun _ _=>by kernel_rfl
def w2n:Ctr:=
 ⟨65,[.list 1],[],[(.ret,⟨[(0, .sl 0 1)],[.row [ci]],1⟩)]⟩
def la65:List LA:=
 []
def ja65:List JA:=
 []
def w6q:List CF:=
 []
def an65:Anns:=
 ⟨w6q,ja65,[]⟩
def G65:(p:Prim)→(LD×Unit)→Option ((LD×T5)):=
 fun p x=>
 opt.need _ (p.leN 1 (p.len x.1))<|
 opt.ask _ (p.leN (p.add 0 (p.len x.1)) 0) (
 opt.need _ (p.and Bool.true (p.and (p.leN (p.add 0 0) (p.len [])) (p.and (p.leN 1 (p.len x.1)) (p.leN (p.add 0 0) (p.len [])))))<|
 opt.need _ (p.leN (p.add 0 0) (p.len (p.splice [] (p.add 0 0) x.1)))<|
 opt.ret _ ((p.splice [] (p.add 0 0) x.1),(0,((p.add 0 (p.len x.1)),())))) (
 opt.need _ (p.and Bool.true (p.and (p.leN (p.add 0 0) (p.len [])) (p.and (p.leN 1 (p.len x.1)) (p.leN (p.add 0 (p.len x.1)) 1000000))))<|
 opt.ret _ ((p.app (p.cut [] 0 0) x.1),(0,((p.add 0 (p.len x.1)),()))))
theorem ok65:CtrOk PG w2n (G65 std):=okF (a:=an65) (l:=la65) (gN) (by kernel_rfl) fun _ _=>by kernel_rfl
def x59:Ctr:=
 ⟨54,[.list 1],[],[(.ret,⟨[(0, .tuple [.nilp, .int .i64])],[],1⟩),(.ret,⟨[(0, .tuple [.bptr 0 0, .int .i64])],[.row [ci]],1⟩)]⟩
def la54:List LA:=
 [⟨54,[false,true,false,true,true,true,true],0,⟨⟨[(2, .bptr 0 0),(3, .bptr 1 0),(4, .int .i64),(5, .bptr 2 0),(23, .list 1),(24, .int .i64),(25, .int .i64)],[.box [.nilp], .box [.int .i64], .box [.bptr 3 0], .row [ci]],75⟩,[(AX.ret,⟨[(2, .bptr 0 0),(3, .bptr 1 0)],[.box [.nilp], .box [.int .i64]],75⟩),((AX.exit 0),⟨[(2, .bptr 0 0),(3, .bptr 1 0),(4, .int .i64),(5, .bptr 2 0)],[.box [.nilp], .box [.int .i64], .box [.bptr 3 0], .row [ci]],75⟩)]⟩⟩,
 ⟨54,[false,true,true,true,false,false,true,true,false,false,true,false,true,true,true,true],0,⟨⟨[(2, .bptr 0 0),(3, .bptr 1 0),(4, .int .i64),(5, .bptr 2 0),(6, .int .i64),(23, .list 1),(24, .int .i64),(25, .int .i64),(34, .list 1),(35, .int .i64),(36, .int .i64)],[.box [.nilp], .box [.int .i64], .box [.bptr 3 0], .row [ci]],75⟩,[((AX.exit 2),⟨[(2, .bptr 0 0),(3, .bptr 1 0),(4, .int .i64),(5, .bptr 2 0),(23, .list 1),(24, .int .i64),(25, .int .i64)],[.box [.nilp], .box [.int .i64], .box [.bptr 3 0], .row [ci]],75⟩)]⟩⟩,
 ⟨54,[false,true,false,true,true,true,true,true],0,⟨⟨[(2, .bptr 0 0),(3, .bptr 1 0),(5, .bptr 2 0),(49, .int .i64),(50, .int .i64)],[.box [.nilp], .box [.int .i64], .box [.bptr 3 0], .row [ci]],75⟩,[(AX.ret,⟨[(2, .bptr 0 0),(3, .bptr 1 0)],[.box [.nilp], .box [.int .i64]],75⟩),((AX.exit 4),⟨[(2, .bptr 0 0),(3, .bptr 1 0),(5, .bptr 2 0)],[.box [.nilp], .box [.int .i64], .box [.bptr 3 0], .row [ci]],75⟩)]⟩⟩,
 ⟨78,[false,true],6,⟨⟨[(0, .yld 5),(8, .int .i64),(9, .int .i64)],[.box [.nilp], .box [.int .i64], .box [.bptr 3 0], .row [ci], .box [.bptr 3 0], .loop Go.LoopState.ready Option.none 54 [Bool.false,Bool.true,Bool.false,Bool.true,Bool.true,Bool.true,Bool.true,Bool.true,Bool.true] 75 [(59, .clo 78 [] [.bptr 4 0]),(2, .bptr 0 0),(3, .bptr 1 0),(5, .bptr 2 0)]],24⟩,[(AX.ret,⟨[],[.box [.nilp], .box [.int .i64], .box [.bptr 3 0], .row [ci], .box [.bptr 3 0], .loop Go.LoopState.done (Option.some Go.Code.ret) 54 [Bool.false,Bool.true,Bool.false,Bool.true,Bool.true,Bool.true,Bool.true,Bool.true,Bool.true] 75 [(59, .clo 78 [] [.bptr 4 0]),(2, .bptr 0 0),(3, .bptr 1 0),(5, .bptr 2 0)]],24⟩),((AX.exit 0),⟨[],[.box [.nilp], .box [.int .i64], .box [.bptr 3 0], .row [ci], .box [.bptr 3 0], .loop Go.LoopState.ready Option.none 54 [Bool.false,Bool.true,Bool.false,Bool.true,Bool.true,Bool.true,Bool.true,Bool.true,Bool.true] 75 [(59, .clo 78 [] [.bptr 4 0]),(2, .bptr 0 0),(3, .bptr 1 0),(5, .bptr 2 0)]],24⟩)]⟩⟩,
 ⟨78,[false,true,true,false,false,true,true,false,false,true],6,⟨⟨[(0, .yld 5),(3, .int .i64),(8, .int .i64),(9, .int .i64),(12, .int .i64),(13, .int .i64)],[.box [.nilp], .box [.int .i64], .box [.bptr 3 0], .row [ci], .box [.bptr 3 0], .loop Go.LoopState.ready Option.none 54 [Bool.false,Bool.true,Bool.false,Bool.true,Bool.true,Bool.true,Bool.true,Bool.true,Bool.true] 75 [(59, .clo 78 [] [.bptr 4 0]),(2, .bptr 0 0),(3, .bptr 1 0),(5, .bptr 2 0)]],24⟩,[(AX.ret,⟨[],[.box [.nilp], .box [.int .i64], .box [.bptr 3 0], .row [ci], .box [.bptr 3 0], .loop Go.LoopState.done (Option.some Go.Code.ret) 54 [Bool.false,Bool.true,Bool.false,Bool.true,Bool.true,Bool.true,Bool.true,Bool.true,Bool.true] 75 [(59, .clo 78 [] [.bptr 4 0]),(2, .bptr 0 0),(3, .bptr 1 0),(5, .bptr 2 0)]],24⟩),((AX.exit 2),⟨[(0, .yld 5),(8, .int .i64),(9, .int .i64)],[.box [.nilp], .box [.int .i64], .box [.bptr 3 0], .row [ci], .box [.bptr 3 0], .loop Go.LoopState.ready Option.none 54 [Bool.false,Bool.true,Bool.false,Bool.true,Bool.true,Bool.true,Bool.true,Bool.true,Bool.true] 75 [(59, .clo 78 [] [.bptr 4 0]),(2, .bptr 0 0),(3, .bptr 1 0),(5, .bptr 2 0)]],24⟩)]⟩⟩]
def ja54:List JA:=
 [⟨54,[false,false,true,true],0,[(AX.normal,⟨[(0, .list 1),(2, .bptr 0 0),(3, .bptr 1 0),(4, .int .i64),(19, .bool)],[.box [.nilp], .box [.int .i64]],75⟩)]⟩]
def w6w:List CF:=
 [⟨x58,G56⟩]
def an54:Anns:=
 ⟨w6w,ja54,[]⟩
def x05 (p:Prim):(LD×T29)→Option ((LD×T29)⊕((LD×T1)⊕(LD×T4))):=
 fun a=>opt.run _ (
 opt.ask _ (p.cmp .lss a.2.2.2.2.2.2.1 a.2.2.2.2.2.1) (
 opt.need _ (p.and Bool.true (p.and Bool.true (p.and Bool.true Bool.true)))<|
 opt.need _ (bif (p.cmp .geq a.2.2.2.2.2.2.1 (0:Int)) then (p.cmp .lss a.2.2.2.2.2.2.1 (p.ofNat 10)) else Bool.false)<|
 opt.need _ (bif (p.cmp .geq a.2.2.1 (0:Int)) then (p.cmp .lss a.2.2.1 (p.ofNat 10)) else Bool.false)<|
 opt.need _ (p.rowOk a.1 (p.add (p.add 1 (p.mul (p.nat a.2.2.2.2.2.2.1) 10)) (p.nat a.2.2.1)) [ci])<|
 opt.need _ (bif (p.cmp .geq a.2.2.1 (0:Int)) then (p.cmp .lss a.2.2.1 (p.ofNat 10)) else Bool.false)<|
 opt.need _ (bif (p.cmp .geq a.2.2.2.2.2.2.1 (0:Int)) then (p.cmp .lss a.2.2.2.2.2.2.1 (p.ofNat 10)) else Bool.false)<|
 opt.need _ (p.rowOk a.1 (p.add (p.add 1 (p.mul (p.nat a.2.2.1) 10)) (p.nat a.2.2.2.2.2.2.1)) [ci])<|
 opt.ask _ (bif (p.bEq (p.cmp .eql (p.rdI a.1 (p.add (p.add 1 (p.mul (p.nat a.2.2.2.2.2.2.1) 10)) (p.nat a.2.2.1)) 0) (1:Int)) (p.cmp .eql (p.rdI a.1 (p.add (p.add 1 (p.mul (p.nat a.2.2.1) 10)) (p.nat a.2.2.2.2.2.2.1)) 0) (1:Int))) then Bool.true else Bool.false) (
 opt.ret _ (Sum.inr (Sum.inl (a.1,((16:Int),()))))) (
 opt.ret _ (Sum.inl (a.1,(a.2.1,(a.2.2.1,(a.2.2.2.1,(a.2.2.2.2.1,(a.2.2.2.2.2.1,((p.ar .add .i64 a.2.2.2.2.2.2.1 (1:Int)),())))))))))) (
 opt.ret _ (Sum.inr (Sum.inr (a.1,(a.2.1,(a.2.2.2.1,(a.2.2.2.2.1,()))))))))
def y43 (it:It) (p:Prim):(LD×T4)→Option ((LD×T4)⊕((LD×T1)⊕(LD×T1))):=
 fun a=>opt.run _ (
 opt.ask _ (p.cmp .lss a.2.2.2.1 a.2.2.1) (
 opt.alt ((LD×T1)) ((LD×T4)) _ (
 it _ _ (x05 p) (a.1,(a.2.1,(a.2.2.2.1,(a.2.2.1,(a.2.2.2.1,(a.2.2.2.1,((0:Int),())))))))) (fun b=>
 opt.ret _ (Sum.inr (Sum.inl (b.1,(b.2.1,()))))) (fun c=>
 opt.bnd ((LD×T4)) _ (some c) fun d=>
 opt.ret _ (Sum.inl (d.1,(d.2.1,(d.2.2.1,((p.ar .add .i64 d.2.2.2.1 (1:Int)),()))))))) (
 opt.ret _ (Sum.inr (Sum.inr (a.1,(a.2.1,()))))))
def x06 (p:Prim):(LD×T4)→Option ((LD×T4)⊕T26):=
 fun a=>opt.run _ (
 opt.ask _ (p.cmp .lss a.2.2.2.1 a.2.2.1) (
 opt.need _ (bif (p.cmp .geq a.2.2.2.1 (0:Int)) then (p.cmp .lss a.2.2.2.1 (p.ofNat 10)) else Bool.false)<|
 opt.need _ (bif (p.cmp .geq a.2.2.2.1 (0:Int)) then (p.cmp .lss a.2.2.2.1 (p.ofNat 10)) else Bool.false)<|
 opt.need _ (p.rowOk a.1 (p.add (p.add 1 (p.mul (p.nat a.2.2.2.1) 10)) (p.nat a.2.2.2.1)) [ci])<|
 opt.ask _ (p.cmp .eql (p.rdI a.1 (p.add (p.add 1 (p.mul (p.nat a.2.2.2.1) 10)) (p.nat a.2.2.2.1)) 0) (1:Int)) (
 opt.ret _ (Sum.inr (Sum.inl ((16:Int),())))) (
 opt.ret _ (Sum.inl (a.1,(a.2.1,(a.2.2.1,((p.ar .add .i64 a.2.2.2.1 (1:Int)),()))))))) (
 opt.ret _ (Sum.inr (Sum.inr (a.1,(a.2.1,()))))))
def x07 (p:Prim):(LD×T30)→Option ((LD×T30)⊕(LD×T9)):=
 fun a=>opt.run _ (
 opt.ask _ (p.cmp .lss a.2.2.2.2.2.2.2.2.2.1 a.2.2.2.2.2.2.2.2.1) (
 opt.need _ (p.rowOk a.2.2.2.2.2.2.2.1 (p.nat a.2.2.2.2.2.2.2.2.2.1) [ci])<|
 opt.need _ (p.cmp .geq a.2.2.2.2.2.2.2.2.2.1 (0:Int))<|
 opt.need _ (bif (p.cmp .geq a.2.2.2.1 (0:Int)) then (p.cmp .lss a.2.2.2.1 (p.ofNat 10)) else Bool.false)<|
 opt.need _ (bif (p.cmp .geq (p.rdI a.2.2.2.2.2.2.2.1 (p.nat a.2.2.2.2.2.2.2.2.2.1) 0) (0:Int)) then (p.cmp .lss (p.rdI a.2.2.2.2.2.2.2.1 (p.nat a.2.2.2.2.2.2.2.2.2.1) 0) (p.ofNat 10)) else Bool.false)<|
 opt.need _ (p.rowOk a.1 (p.add (p.add 1 (p.mul (p.nat a.2.2.2.1) 10)) (p.nat (p.rdI a.2.2.2.2.2.2.2.1 (p.nat a.2.2.2.2.2.2.2.2.2.1) 0))) [ci])<|
 opt.ret _ (Sum.inl ((p.set a.1 (p.add (p.add 1 (p.mul (p.nat a.2.2.2.1) 10)) (p.nat (p.rdI a.2.2.2.2.2.2.2.1 (p.nat a.2.2.2.2.2.2.2.2.2.1) 0))) [k1k]),(a.2.1,(a.2.2.1,(a.2.2.2.1,(a.2.2.2.2.1,(a.2.2.2.2.2.1,(a.2.2.2.2.2.2.1,(a.2.2.2.2.2.2.2.1,(a.2.2.2.2.2.2.2.2.1,((p.ar .add .i64 a.2.2.2.2.2.2.2.2.2.1 (1:Int)),())))))))))))) (
 opt.ret _ (Sum.inr (a.1,(a.2.1,(a.2.2.1,(a.2.2.2.2.1,(a.2.2.2.2.2.1,(a.2.2.2.2.2.2.1,())))))))))
def y44 (it:It) (p:Prim):(LD×T9)→Option ((LD×T9)⊕T25):=
 fun a=>opt.run _ (
 opt.ask _ (p.cmp .lss a.2.2.2.2.2.1 a.2.2.2.2.1) (
 opt.need _ (p.rowOk a.2.2.2.1 (p.nat a.2.2.2.2.2.1) [(CK.list 1)])<|
 opt.need _ (p.cmp .geq a.2.2.2.2.2.1 (0:Int))<|
 opt.bnd T0 _ (g56 it p ((p.rdL a.2.2.2.1 (p.nat a.2.2.2.2.2.1) 0),(a.2.2.1,()))) fun b=>
 opt.ask _ (bif b.1 then Bool.false else Bool.true) (
 opt.ret _ (Sum.inr (Sum.inl ((3:Int),())))) (
 opt.bnd ((LD×T9)) _ (
 it _ _ (x07 p) (a.1,(a.2.1,(a.2.2.1,(a.2.2.2.2.2.1,(a.2.2.2.1,(a.2.2.2.2.1,(a.2.2.2.2.2.1,((p.rdL a.2.2.2.1 (p.nat a.2.2.2.2.2.1) 0),((p.ofNat (p.len (p.rdL a.2.2.2.1 (p.nat a.2.2.2.2.2.1) 0))),((0:Int),()))))))))))) fun c=>
 opt.ret _ (Sum.inl (c.1,(c.2.1,(c.2.2.1,(c.2.2.2.1,(c.2.2.2.2.1,((p.ar .add .i64 c.2.2.2.2.2.1 (1:Int)),()))))))))) (
 opt.ret _ (Sum.inr (Sum.inr (a.1,(a.2.1,(a.2.2.1,())))))))
def g54 (it:It):(p:Prim)→(LD×Unit)→Option (((Int×Unit)⊕(LD×(Int×Unit)))):=
 fun p x=>
 opt.bnd T31 _ (
 opt.run T31 (
 opt.ask _ (p.cmp .eql (p.ofNat (p.len x.1)) (0:Int)) (
 opt.ret _ ((0:Int),(x.1,((p.ofNat (p.len x.1)),(Bool.true,()))))) (
 opt.ret _ ((0:Int),(x.1,((p.ofNat (p.len x.1)),((p.cmp .gtr (p.ofNat (p.len x.1)) (10:Int)),()))))))) fun a=>
 opt.ask _ a.2.2.2.1 (
 opt.ret _ (Sum.inl ((6:Int),()))) (
 opt.alt T2 ((LD×T3)) _ (
 it _ _ (y44 it p) ([[(D.int .i64 a.2.2.1)],k0k,k0k,k0k,k0k,k0k,k0k,k0k,k0k,k0k,k0k,k0k,k0k,k0k,k0k,k0k,k0k,k0k,k0k,k0k,k0k,k0k,k0k,k0k,k0k,k0k,k0k,k0k,k0k,k0k,k0k,k0k,k0k,k0k,k0k,k0k,k0k,k0k,k0k,k0k,k0k,k0k,k0k,k0k,k0k,k0k,k0k,k0k,k0k,k0k,k0k,k0k,k0k,k0k,k0k,k0k,k0k,k0k,k0k,k0k,k0k,k0k,k0k,k0k,k0k,k0k,k0k,k0k,k0k,k0k,k0k,k0k,k0k,k0k,k0k,k0k,k0k,k0k,k0k,k0k,k0k,k0k,k0k,k0k,k0k,k0k,k0k,k0k,k0k,k0k,k0k,k0k,k0k,k0k,k0k,k0k,k0k,k0k,k0k,k0k,k0k],(a.1,(a.2.2.1,(a.2.1,((p.ofNat (p.len a.2.1)),((0:Int),()))))))) (fun b=>
 opt.ret _ (Sum.inl (b.1,()))) (fun c=>
 opt.bnd ((LD×T3)) _ (some c) fun d=>
 opt.alt T2 ((LD×T1)) _ (
 it _ _ (x06 p) (d.1,(d.2.1,(d.2.2.1,((0:Int),()))))) (fun e=>
 opt.ret _ (Sum.inl (e.1,()))) (fun f=>
 opt.bnd ((LD×T1)) _ (some f) fun g=>
 opt.need _ (p.rowOk g.1 0 [ci])<|
 opt.alt ((LD×T1)) ((LD×T1)) _ (
 it _ _ (y43 it p) (g.1,(g.2.1,((p.rdI g.1 0 0),((0:Int),()))))) (fun h=>
 opt.ret _ (Sum.inl (h.2.1,()))) (fun i=>
 opt.bnd ((LD×T1)) _ (some i) fun j=>
 opt.ret _ (Sum.inr (j.1,((0:Int),())))))))
def G54:=g54 it0
theorem w42:CtrOk PG x59 (G54 std):=okF (a:=an54) (l:=la54) (gC w4z (gN)) (by kernel_rfl) fun _ _=>by kernel_rfl
def x6a:Ctr:=
 ⟨35,[.list 1],[],[(.ret,⟨[(0, .tuple [.vec 0 1, .int .i64])],[.row [ci]],1⟩)]⟩
def la35:List LA:=
 [⟨35,[false,true,false,true,true,true,true],0,⟨⟨[(4, .bptr 0 0),(6, .full 1 1),(22, .int .i64),(23, .int .i64)],[.row [ci], .row [ci]],38⟩,[((AX.exit 0),⟨[(6, .full 0 1)],[.row [ci]],38⟩)]⟩⟩]
def ja35:List JA:=
 []
def w65:List CF:=
 [⟨w2l,G70⟩,⟨x59,G54⟩]
def an35:Anns:=
 ⟨w65,ja35,[]⟩
def w0b (it:It) (p:Prim):(LD×(LD×T3))→Option ((LD×(LD×T3))⊕(LD×Unit)):=
 fun a=>opt.run _ (
 opt.ask _ (p.cmp .lss a.2.2.2.1 a.2.2.1) (
 opt.need _ (bif (p.cmp .geq a.2.2.2.1 (0:Int)) then (p.cmp .lss a.2.2.2.1 (p.ofNat 10)) else Bool.false)<|
 opt.need _ (p.rowOk a.1 (p.add 1 (p.mul (p.nat a.2.2.2.1) 10)) [ci])<|
 opt.need _ (p.and (p.leN (p.add (p.add 1 (p.mul (p.nat a.2.2.2.1) 10)) 10) (p.len a.1)) Bool.true)<|
 opt.bnd T2 _ (g70 it p ((p.cut a.1 (p.add 1 (p.mul (p.nat a.2.2.2.1) 10)) 10),())) fun b=>
 opt.need _ (bif (p.cmp .geq a.2.2.2.1 (0:Int)) then (p.cmp .lss a.2.2.2.1 (p.ofNat (p.len a.2.1))) else Bool.false)<|
 opt.need _ (p.rowOk a.2.1 (p.add 0 (p.nat a.2.2.2.1)) [ci])<|
 opt.need _ (p.eqN 0 0)<|
 opt.need _ (p.eqN (p.len a.2.1) (p.len (p.set a.2.1 (p.add 0 (p.nat a.2.2.2.1)) [(D.int .i64 b.1)])))<|
 opt.need _ (p.eqN (p.len a.2.1) (p.len (p.set a.2.1 (p.add 0 (p.nat a.2.2.2.1)) [(D.int .i64 b.1)])))<|
 opt.ret _ (Sum.inl (a.1,((p.set a.2.1 (p.add 0 (p.nat a.2.2.2.1)) [(D.int .i64 b.1)]),(a.2.2.1,((p.ar .add .i64 a.2.2.2.1 (1:Int)),())))))) (
 opt.need _ (p.eqN 0 0)<|
 opt.need _ (p.eqN (p.len a.2.1) (p.len a.2.1))<|
 opt.need _ (p.eqN (p.len a.2.1) (p.len a.2.1))<|
 opt.ret _ (Sum.inr (a.2.1,()))))
def g35 (it:It):(p:Prim)→(LD×Unit)→Option ((LD×T1)):=
 fun p x=>
 opt.alt T2 ((LD×T1)) _ (g54 it p (x.1,())) (fun a=>
 opt.ask _ (p.cmp .neq a.1 (0:Int)) (
 opt.ret _ ([],(a.1,()))) (
 opt.no _ 41)) (fun b=>
 opt.bnd ((LD×T1)) _ (some b) fun c=>
 opt.ask _ (p.cmp .neq c.2.1 (0:Int)) (
 opt.ret _ ([],(c.2.1,()))) (
 opt.need _ (p.rowOk c.1 0 [ci])<|
 opt.need _ (p.and (p.cmp .geq (p.rdI c.1 0 0) (0:Int)) (p.and (p.cmp .leq (p.rdI c.1 0 0) (p.rdI c.1 0 0)) (p.cmp .leq (p.rdI c.1 0 0) (1000000:Int))))<|
 opt.need _ (p.eqN 0 0)<|
 opt.need _ (p.eqN (p.nat (p.rdI c.1 0 0)) (p.len (p.rep (p.nat (p.rdI c.1 0 0)) k0k)))<|
 opt.need _ (p.eqN (p.nat (p.rdI c.1 0 0)) (p.len (p.rep (p.nat (p.rdI c.1 0 0)) k0k)))<|
 opt.bnd ((LD×Unit)) _ (
 it _ _ (w0b it p) (c.1,((p.rep (p.nat (p.rdI c.1 0 0)) k0k),((p.ofNat (p.nat (p.rdI c.1 0 0))),((0:Int),()))))) fun d=>
 opt.need _ (p.eqN 0 0)<|
 opt.need _ (p.eqN (p.len d.1) (p.len d.1))<|
 opt.need _ (p.leN (p.add 0 (p.len d.1)) (p.len d.1))<|
 opt.ret _ (d.1,((0:Int),()))))
def G35:=g35 it0
theorem w43:CtrOk PG x6a (G35 std):=okF (a:=an35) (l:=la35) (gC ok70 (gC w42 (gN))) (by kernel_rfl) fun _ _=>by kernel_rfl
def w2v:Ctr:=
 ⟨36,[.list 1],[],[(.ret,⟨[(0, .tuple [.int .i64, .int .i64])],[],1⟩)]⟩
def la36:List LA:=
 [⟨36,[false,true,false,true,true,true,true,true],0,⟨⟨[(7, .int .i64),(28, .vec 0 1),(29, .int .i64),(30, .int .i64)],[.row [ci]],43⟩,[((AX.exit 0),⟨[(7, .int .i64)],[],43⟩)]⟩⟩]
def ja36:List JA:=
 []
def w64:List CF:=
 [⟨x6a,G35⟩]
def an36:Anns:=
 ⟨w64,ja36,[]⟩
def w75 (p:Prim):(LD×T4)→Option ((LD×T4)⊕T1):=
 fun a=>opt.run _ (
 opt.ask _ (p.cmp .lss a.2.2.2.1 a.2.2.1) (
 opt.need _ (bif (p.cmp .geq a.2.2.2.1 (0:Int)) then (p.cmp .lss a.2.2.2.1 (p.ofNat (p.len a.1))) else Bool.false)<|
 opt.need _ (p.rowOk a.1 (p.add 0 (p.nat a.2.2.2.1)) [ci])<|
 opt.need _ (p.cmp .neq (2:Int) (0:Int))<|
 opt.need _ (p.eqN 0 0)<|
 opt.need _ (p.eqN (p.len a.1) (p.len a.1))<|
 opt.ret _ (Sum.inl (a.1,((p.ar .sub .i64 a.2.1 (p.ar .quo .i64 (p.ar .mul .i64 (p.rdI a.1 (p.add 0 (p.nat a.2.2.2.1)) 0) (p.ar .sub .i64 (p.rdI a.1 (p.add 0 (p.nat a.2.2.2.1)) 0) (1:Int))) (2:Int))),(a.2.2.1,((p.ar .add .i64 a.2.2.2.1 (1:Int)),())))))) (
 opt.ret _ (Sum.inr (a.2.1,()))))
def g36 (it:It):(p:Prim)→(LD×Unit)→Option T8:=
 fun p x=>
 opt.bnd ((LD×T1)) _ (g35 it p (x.1,())) fun a=>
 opt.ask _ (p.cmp .neq a.2.1 (0:Int)) (
 opt.ret _ ((0:Int),(a.2.1,()))) (
 opt.need _ (p.cmp .neq (6:Int) (0:Int))<|
 opt.need _ (p.eqN 0 0)<|
 opt.need _ (p.eqN (p.len a.1) (p.len a.1))<|
 opt.bnd T2 _ (
 it _ _ (w75 p) (a.1,((p.ar .quo .i64 (p.ar .mul .i64 (p.ar .mul .i64 (p.ofNat (p.len a.1)) (p.ar .sub .i64 (p.ofNat (p.len a.1)) (1:Int))) (p.ar .sub .i64 (p.ofNat (p.len a.1)) (2:Int))) (6:Int)),((p.ofNat (p.len a.1)),((0:Int),()))))) fun b=>
 opt.ret _ (b.1,((0:Int),())))
def G36:=g36 it0
theorem ok36:CtrOk PG w2v (G36 std):=okF (a:=an36) (l:=la36) (gC w43 (gN)) (by kernel_rfl) fun _ _=>by kernel_rfl
end Go.Am
end
section
namespace Go.Am
variable {fl:List Int→Bool}
def z8u (l:List Int):Nat→Int
 |0=> -1
 |i+1=>l.getD i 0
def z7p (l:List Int) (n:Int) (i:Nat):Prop:=l.getD i 0≤z8u l i∨n≤l.getD i 0
instance (l:List Int) (n:Int) (i:Nat):Decidable (z7p l n i):=by unfold z7p; infer_instance
theorem y2z (l:List Int) (n:Int):z1x l n↔∀ i,i<l.length→¬ z7p l n i:=by
 constructor
 ·intro h i hi
  obtain ⟨h1,h2,h3⟩:=h i hi
  cases i with
  |zero=>rw [z7p,z8u]; omega
  |succ i=>
   have:=h3 (by omega)
   rw [z7p,z8u]
   rw [Nat.add_sub_cancel] at this
   omega
 ·intro h
  have h0:∀ i,i<l.length→0≤l.getD i 0:=by
   intro i
   induction i with
   |zero=>
    intro hi
    have:=h 0 hi
    rw [z7p,z8u] at this; omega
   |succ i ih=>
    intro hi
    have:=h (i+1) hi
    have:=ih (by omega)
    rw [z7p,z8u] at*; omega
  intro i hi
  have hf:=h i hi
  refine ⟨h0 i hi,?_,fun h1=>?_⟩
  ·rw [z7p] at hf; omega
  ·cases i with
   |zero=>omega
   |succ i=>
    rw [z7p,z8u] at hf
    rw [Nat.add_sub_cancel]
    omega
theorem x7w (l:List Int) (n:Int) (hL:l.length≤1000000):G56 std (z0x l,(n,()))=some (decide (z1x l n),()):=by
 unfold G56
 have key:=z1b (b:=y61 std) l.length (fun i=>(n,(z8u l i,(z0x l,((l.length:Int),((i:Int),())))))) (fun i=>decide (z7p l n i)) (fun i=> .inl (false,())) (.inr ()) (fun i hi=>by
  obtain ⟨m,hm⟩:=z2p hi
  have hw:=z1n (i:=i) (by omega)
  have hlt:(i:Int)<l.length:=by omega
  have h0:(0:Int)≤i:=by omega
  have hla:z8u l (i+1)=m:=z1q hm
  by_cases h1:m≤z8u l i
  ·have hr:z7p l n i:=by rw [z7p,z1q hm]; exact .inl h1
   simp only [hr,y61,z1g,z1h,z0x,z0j,z1m,z2l,z0r,z0o,hm,hlt,h0,ge_iff_le,z0h,hw,h1,hla,decide_true]
  ·by_cases h2:n≤m
   ·have hr:z7p l n i:=by rw [z7p,z1q hm]; exact .inr h2
    simp only [hr,y61,z1g,z1h,z0x,z0j,z1m,z2l,z0r,z0o,hm,hlt,h0,ge_iff_le,z0h,hw,h1,h2,hla,decide_true]
   ·have hr:¬ z7p l n i:=by rw [z7p,z1q hm]; omega
    simp only [hr,y61,z1g,z1h,z0x,z0j,z1m,z2l,z0r,z0o,hm,hlt,h0,ge_iff_le,z0h,hw,h1,h2,hla,decide_false]) (by
  have hn:¬ (l.length:Int)<l.length:=by omega
  simp only [y61,z1g,z1h,z0x,z0j,z1m,z2l,z0r,z0o,hn])
 have e:∀ {r:(Bool×Unit)⊕Unit},z54 (y61 std) (n,((-1:Int),(z0x l,((l.length:Int),((0:Int),())))))=some r→g56 it0 std (z0x l,(n,()))=some (match r with| .inl y=>y| .inr _=>(true,())):=by
  intro r hr
  have hr':it0 _ _ (y61 std) (n,((-1:Int),(z0x l,((l.length:Int),((0:Int),())))))=some r:=hr
  simp only [g56,z1g,z1h,z1u,hr']
  rcases r with ⟨y,u⟩|u<;>rfl
 rcases key with ⟨i,h1,h2,_,h4⟩|⟨h1,h2⟩
 ·have:¬ z1x l n:=fun h=>(y2z l n).1 h i h1 (by simpa using h2)
  rw [e h4]
  simp [this]
 ·have:z1x l n:=(y2z l n).2 fun i hi=>by simpa using h1 i hi
  rw [e h2]
  simp [this]
end Go.Am
end
section
namespace Go.Am
variable {fl:List Int→Bool}
def eC (b:Bool):List D:=eI (bif b then 1 else 0)
def fld (n:Int) (f:Nat→Nat→Bool):List (List D):=eI n::(List.range 100).map fun j=>eC (f (j / 10) (j % 10))
theorem x5l (n:Int):fld n (fun _ _=>false)=eI n::List.replicate 100 (eI 0):=rfl
theorem y1t (n:Int) (f:Nat→Nat→Bool) (i k:Nat) (hi:i<10) (hk:k<10):(fld n f)[1+i*10+k]?=some (eC (f i k)):=by
 have h:1+i*10+k=(i*10+k)+1:=by omega
 have h1:(i*10+k) / 10=i:=by omega
 have h2:(i*10+k) % 10=k:=by omega
 rw [h,fld,List.getElem?_cons_succ,List.getElem?_map,List.getElem?_range (by omega)]
 simp only [Option.map_some,h1,h2]
theorem x9m (n:Int) (f:Nat→Nat→Bool) (i k:Nat) (hi:i<10) (hk:k<10):(fld n f).set (1+i*10+k) (eI 1)=fld n (fun a b=>f a b||(decide (a=i)&&decide (b=k))):=by
 have h:1+i*10+k=(i*10+k)+1:=by omega
 rw [h,fld,fld,List.set_cons_succ]
 congr 1
 apply List.ext_getElem?
 intro j
 rw [List.getElem?_set,List.getElem?_map,List.getElem?_map,List.length_map,List.length_range]
 by_cases hj:i*10+k=j
 ·subst hj
  rw [if_pos rfl,if_pos (by omega),List.getElem?_range (by omega)]
  have h1:(i*10+k) / 10=i:=by omega
  have h2:(i*10+k) % 10=k:=by omega
  simp [h1,h2,eC]
 ·rw [if_neg hj]
  by_cases hl:j<100
  ·rw [List.getElem?_range hl]
   have:¬ (j / 10=i∧j % 10=k):=by omega
   have:(decide (j / 10=i)&&decide (j % 10=k))=false:=by
    cases h:(decide (j / 10=i)&&decide (j % 10=k)) with
    |false=>rfl
    |true=>simp at h; exact absurd h this
   simp [this]
  ·rw [List.getElem?_eq_none (by simp; omega)]; rfl
theorem z7i (b:Bool):z42 [CK.int IntKind.i64] (eC b)=true:=rfl
theorem x3j (b:Bool):dI ((eC b)[0]?.getD D.nilp)=bif b then 1 else 0:=rfl
theorem x6r (d:List (List Int)) (n:Int) (i:Nat) (l:List Int) (hi:i<10) (hL:l.length≤1000000) (hg:∀ x∈l,0≤x∧x<10) (f:Nat→Nat→Bool):
  z54 (x07 std) (fld n f,((0:Int),(n,((i:Int),(z0o fl d,(n,((i:Int),(z0x l,((l.length:Int),((0:Int),()))))))))))=
   some (fld n (fun a b=>f a b||(decide (a=i)&&decide ((b:Int)∈l))),((0:Int),(n,(z0o fl d,(n,((i:Int),())))))):=by
 have key:=x2h (b:=x07 std) l.length (fun j=>(fld n (fun a b=>f a b||(decide (a=i)&&decide ((b:Int)∈l.take j))),((0:Int),(n,((i:Int),(z0o fl d,(n,((i:Int),(z0x l,((l.length:Int),((j:Int),()))))))))))) (fld n (fun a b=>f a b||(decide (a=i)&&decide ((b:Int)∈l))),((0:Int),(n,(z0o fl d,(n,((i:Int),())))))) (fun j hj=>by
  obtain ⟨m,hm⟩:=z2p hj
  have hw:=z1n (i:=j) (by omega)
  have hlt:(j:Int)<l.length:=by omega
  have h0:(0:Int)≤j:=by omega
  obtain ⟨hm0,hm1⟩:=hg m (List.mem_of_getElem? hm)
  obtain ⟨k,rfl⟩:∃ k:Nat,m=(k:Int):=⟨m.toNat,by omega⟩
  have hk:k<10:=by omega
  have hi0:(0:Int)≤i:=by omega
  have hi1:(i:Int)<((10:Nat):Int):=by omega
  have hk1:(k:Int)<((10:Nat):Int):=by omega
  have ht:l.take (j+1)=l.take j++[(k:Int)]:=by
   obtain ⟨h1,h2⟩:=List.getElem?_eq_some_iff.1 hm
   rw [List.take_succ_eq_append_getElem h1,h2]
  have hfe:(fun a b=>f a b||(decide (a=i)&&decide ((b:Int)∈l.take (j+1))))=(fun a b=>(f a b||(decide (a=i)&&decide ((b:Int)∈l.take j)))||(decide (a=i)&&decide (b=k))):=by
   funext a b
   have:decide ((b:Int)∈l.take (j+1))=(decide ((b:Int)∈l.take j)||decide (b=k)):=by
    rw [ht]
    by_cases x:(b:Int)∈l.take j<;>by_cases y:b=k<;>simp [x,y]<;>omega
   rw [this]
   cases f a b<;>cases decide (a=i)<;>rfl
  rw [hfe, ←x9m _ _ _ _ hi hk]
  have hg':=y1t n (fun a b=>f a b||(decide (a=i)&&decide ((b:Int)∈l.take j))) i k hi hk
  generalize fld n (fun a b=>f a b||(decide (a=i)&&decide ((b:Int)∈l.take j)))=F at hg'⊢
  simp only [x07,z1g,z1h,z0x,z0j,z1m,z2l,z0r,z0o,hm,hlt,h0,hi0,hi1,hm0,hk1,ge_iff_le,z0h,hw,hg',z7i,show [D.int IntKind.i64 (1:Int)]=eI 1 from rfl]) (by
  have hn:¬ (l.length:Int)<l.length:=by omega
  simp only [x07,z1g,z1h,z0x,z0j,z1m,z2l,z0r,z0o,hn,List.take_length])
 simpa using key
theorem w26 {d:List (List Int)} {i:Nat} {m:List Int} (hm:d[i]?=some m) (k:Nat):bt d i k=decide ((k:Int)∈m):=by rw [bt,z1q hm]
theorem w27 {d:List (List Int)} {i:Nat} (h:d.length≤i) (k:Nat):bt d i k=false:=by
 rw [bt,List.getD_eq_getElem?_getD,List.getElem?_eq_none h]; simp
theorem x6h (d:List (List Int)) (hr:∀ l∈d,l.length≤1000000) (hl:d.length≤10):
  z54 (y44 it0 std) (fld d.length (fun _ _=>false),((0:Int),((d.length:Int),(z0o fl d,((d.length:Int),((0:Int),()))))))=
   if ∃ i∈List.range d.length,¬ z1x (d.getD i []) d.length then some (.inl (3,())) else some (.inr (fld d.length (bt d),((0:Int),((d.length:Int),())))):=by
 have hz:(fun (_ _:Nat)=>false)=(fun a b=>decide (a<0)&&bt d a b):=by
  funext a b; simp
 have hz':bt d=(fun a b=>decide (a<d.length)&&bt d a b):=by
  funext a b
  by_cases h:a<d.length
  ·simp [h]
  ·rw [w27 (by omega)]; simp
 have key:=z1b (b:=y44 it0 std) d.length (fun i=>(fld d.length (fun a b=>decide (a<i)&&bt d a b),((0:Int),((d.length:Int),(z0o fl d,((d.length:Int),((i:Int),()))))))) (fun i=>decide (¬ z1x (d.getD i []) d.length)) (fun i=> .inl (3,())) (.inr (fld d.length (bt d),((0:Int),((d.length:Int),())))) (fun i hi=>by
  obtain ⟨m,hm⟩:=z2p hi
  have hw:=z1n (i:=i) (by omega)
  have hlt:(i:Int)<d.length:=by omega
  have h0:(0:Int)≤i:=by omega
  have h1:g56 it0 std (z0x m,((d.length:Int),()))=some (decide (z1x m d.length),()):=x7w m d.length (hr m (List.mem_of_getElem? hm))
  simp only [z0x] at h1
  by_cases a:z1x m d.length
  ·have hg:∀ x∈m,0≤x∧x<10:=fun x hx=>by
    obtain ⟨j,hj⟩:=List.getElem?_of_mem hx
    obtain ⟨q1,q2,_⟩:=a j (List.getElem?_eq_some_iff.1 hj).1
    rw [z1q hj] at q1 q2
    omega
   have h2:it0 _ _ (x07 std) (fld d.length (fun a b=>decide (a<i)&&bt d a b),((0:Int),((d.length:Int),((i:Int),(z0o fl d,((d.length:Int),((i:Int),(z0x m,((m.length:Int),((0:Int),()))))))))))=_:=
    x6r d d.length i m (by omega) (hr m (List.mem_of_getElem? hm)) hg _
   have hfe:(fun x b=>(decide (x<i)&&bt d x b)||(decide (x=i)&&decide ((b:Int)∈m)))=(fun x b=>decide (x<i+1)&&bt d x b):=by
    funext x b
    by_cases e:x=i
    ·subst e; simp [w26 hm]
    ·have:decide (x<i+1)=decide (x<i):=by
      by_cases q:x<i
      ·simp [q]; omega
      ·simp [q]; omega
     simp [e,this]
   rw [hfe] at h2
   simp only [z0o,z0x] at h2
   simp only [z1q hm,y44,z1g,z1h,z0x,z0j,z1m,z2l,z0r,z0o,hm,hlt,h0,ge_iff_le,z0h,hw,h1,h2,a,List.length_map,decide_true,not_true,decide_false]
  ·simp only [z1q hm,y44,z1g,z1h,z0x,z0j,z1m,z2l,z0r,z0o,hm,hlt,h0,ge_iff_le,z0h,hw,h1,a,decide_true,not_false_eq_true,decide_false]) (by
  have hn:¬ (d.length:Int)<d.length:=by omega
  rw [←hz']
  simp only [y44,z1g,z1h,z0x,z0j,z1m,z2l,z0r,z0o,hn])
 rw [←hz] at key
 rcases key with ⟨k,h1,h2,_,h4⟩|⟨h1,h2⟩
 ·rw [if_pos ⟨k,List.mem_range.2 h1,of_decide_eq_true h2⟩]
  exact h4
 ·rw [if_neg]
  ·exact h2
  ·rintro ⟨k,hk,h⟩
   exact of_decide_eq_false (h1 k (List.mem_range.1 hk)) h
theorem x6q (d:List (List Int)) (hl:d.length≤10) (f:Nat→Nat→Bool):
  z54 (x06 std) (fld d.length f,((0:Int),((d.length:Int),((0:Int),()))))=
   if ∃ i∈List.range d.length,f i i=true then some (.inl (16,())) else some (.inr (fld d.length f,((0:Int),()))):=by
 have key:=z1b (b:=x06 std) d.length (fun i=>(fld d.length f,((0:Int),((d.length:Int),((i:Int),()))))) (fun i=>f i i) (fun i=> .inl (16,())) (.inr (fld d.length f,((0:Int),()))) (fun i hi=>by
  have hw:=z1n (i:=i) (by omega)
  have hlt:(i:Int)<d.length:=by omega
  have h0:(0:Int)≤i:=by omega
  have hi1:(i:Int)<((10:Nat):Int):=by omega
  have hg:=y1t d.length f i i (by omega) (by omega)
  generalize fld d.length f=F at hg⊢
  revert hg
  cases f i i<;>intro hg<;>simp only [x06,z1g,z1h,hlt,h0,hi1,ge_iff_le,z0h,hw,hg,z7i,x3j,cond_true,cond_false]<;>rfl) (by
  have hn:¬ (d.length:Int)<d.length:=by omega
  simp only [x06,z1g,z1h,hn])
 rcases key with ⟨k,h1,h2,_,h4⟩|⟨h1,h2⟩
 ·rw [if_pos ⟨k,List.mem_range.2 h1,h2⟩]
  exact h4
 ·rw [if_neg]
  ·exact h2
  ·rintro ⟨k,hk,h⟩
   rw [h1 k (List.mem_range.1 hk)] at h
   exact Bool.noConfusion h
theorem x6p (n:Int) (N k:Nat) (hk:k<10) (f:Nat→Nat→Bool):
  z54 (x05 std) (fld n f,((0:Int),((k:Int),((N:Int),((k:Int),((k:Int),((0:Int),())))))))=
   if ∃ i∈List.range k,f i k=f k i then some (.inl (fld n f,(16,()))) else some (.inr (fld n f,((0:Int),((N:Int),((k:Int),()))))):=by
 have key:=z1b (b:=x05 std) k (fun i=>(fld n f,((0:Int),((k:Int),((N:Int),((k:Int),((k:Int),((i:Int),())))))))) (fun i=>f i k==f k i) (fun i=> .inl (fld n f,(16,()))) (.inr (fld n f,((0:Int),((N:Int),((k:Int),()))))) (fun i hi=>by
  have hw:=z1n (i:=i) (by omega)
  have hlt:(i:Int)<k:=by omega
  have h0:(0:Int)≤i:=by omega
  have h0':(0:Int)≤k:=by omega
  have hi1:(i:Int)<((10:Nat):Int):=by omega
  have hk1:(k:Int)<((10:Nat):Int):=by omega
  have hg:=y1t n f i k (by omega) (by omega)
  have hg':=y1t n f k i (by omega) (by omega)
  generalize fld n f=F at hg hg'⊢
  revert hg hg'
  cases f i k<;>cases f k i<;>intro hg hg'<;>simp only [x05,z1g,z1h,hlt,h0,h0',hi1,hk1,ge_iff_le,z0h,hw,hg,hg',z7i,x3j,cond_true,cond_false]<;>rfl) (by
  have hn:¬ (k:Int)<k:=by omega
  simp only [x05,z1g,z1h,hn])
 rcases key with ⟨i,h1,h2,_,h4⟩|⟨h1,h2⟩
 ·rw [if_pos ⟨i,List.mem_range.2 h1,by simpa using h2⟩]
  exact h4
 ·rw [if_neg]
  ·exact h2
  ·rintro ⟨i,hi,h⟩
   have:=h1 i (List.mem_range.1 hi)
   simp [h] at this
theorem x6g (n:Int) (N:Nat) (hN:N≤10) (f:Nat→Nat→Bool):
  z54 (y43 it0 std) (fld n f,((0:Int),((N:Int),((0:Int),()))))=
   if ∃ k∈List.range N,∃ i∈List.range k,f i k=f k i then some (.inl (fld n f,(16,()))) else some (.inr (fld n f,((0:Int),()))):=by
 have key:=z1b (b:=y43 it0 std) N (fun k=>(fld n f,((0:Int),((N:Int),((k:Int),()))))) (fun k=>decide (∃ i∈List.range k,f i k=f k i)) (fun k=> .inl (fld n f,(16,()))) (.inr (fld n f,((0:Int),()))) (fun k hk=>by
  have hw:=z1n (i:=k) (by omega)
  have hlt:(k:Int)<N:=by omega
  have h1:it0 _ _ (x05 std) (fld n f,((0:Int),((k:Int),((N:Int),((k:Int),((k:Int),((0:Int),())))))))=_:=x6p n N k (by omega) f
  by_cases a:∃ i∈List.range k,f i k=f k i
  ·rw [if_pos a] at h1
   simp only [y43,z1g,z1h,hlt,z0h,hw,h1,a,decide_true]
  ·rw [if_neg a] at h1
   simp only [y43,z1g,z1h,hlt,z0h,hw,h1,a,decide_false]) (by
  have hn:¬ (N:Int)<N:=by omega
  simp only [y43,z1g,z1h,hn])
 rcases key with ⟨i,h1,h2,_,h4⟩|⟨h1,h2⟩
 ·rw [if_pos ⟨i,List.mem_range.2 h1,of_decide_eq_true h2⟩]
  exact h4
 ·rw [if_neg]
  ·exact h2
  ·rintro ⟨i,hi,h⟩
   exact of_decide_eq_false (h1 i (List.mem_range.1 hi)) h
theorem x7x (d:List (List Int)) (hr:∀ l∈d,l.length≤1000000):G54 std (z0o fl d,())=some (if z10 d=0 then .inr (fld d.length (bt d),((0:Int),())) else .inl (z10 d,())):=by
 unfold G54
 by_cases h1:d.length=0
 ·have h1':((d.length:Nat):Int)=0:=by omega
  have hd:z10 d=6:=by rw [z10,if_pos (.inl (by omega))]
  rw [hd]
  simp only [g54,z1g,z1h,z1z,h1']
  rfl
 ·have h1':¬ ((d.length:Nat):Int)=0:=by omega
  by_cases h2:10<d.length
  ·have h2':((d.length:Nat):Int)>10:=by omega
   have hd:z10 d=6:=by rw [z10,if_pos (.inr h2)]
   rw [hd]
   simp only [g54,z1g,z1h,z1z,h1',h2']
   rfl
  ·have h2':¬ ((d.length:Nat):Int)>10:=by omega
   have e1:it0 _ _ (y44 it0 std) (fld d.length (fun _ _=>false),((0:Int),((d.length:Int),(z0o fl d,((d.length:Int),((0:Int),()))))))=_:=x6h d hr (by omega)
   have e2:it0 _ _ (x06 std) (fld d.length (bt d),((0:Int),((d.length:Int),((0:Int),()))))=_:=x6q d (by omega) (bt d)
   have e3:it0 _ _ (y43 it0 std) (fld d.length (bt d),((0:Int),((d.length:Int),((0:Int),()))))=_:=x6g d.length d.length (by omega) (bt d)
   have hf0:(fld d.length (bt d))[0]?=some (eI d.length):=rfl
   rw [x5l] at e1
   simp only [List.replicate_succ,List.replicate_zero] at e1
   have hd:z10 d=if ∃ i∈List.range d.length,¬ z1x (d.getD i []) d.length then 3 else if ∃ i∈List.range d.length,z7q d i then 16 else 0:=by
    rw [z10,if_neg (by omega)]
   rw [hd]
   simp only [eI] at e1
   by_cases a:∃ i∈List.range d.length,¬ z1x (d.getD i []) d.length
   ·rw [if_pos a] at e1⊢
    simp only [g54,z1g,z1h,z1z,h1',h2',e1]
    rfl
   ·rw [if_neg a] at e1⊢
    by_cases b:∃ i∈List.range d.length,bt d i i=true
    ·rw [if_pos b] at e2
     have hb:∃ i∈List.range d.length,z7q d i:=by
      obtain ⟨i,hi,h⟩:=b
      exact ⟨i,hi, .inl (by rw [bt] at h; exact of_decide_eq_true h)⟩
     rw [if_pos hb]
     simp only [g54,z1g,z1h,z1z,h1',h2',e1,e2]
     rfl
    ·rw [if_neg b] at e2
     by_cases c:∃ k∈List.range d.length,∃ i∈List.range k,bt d i k=bt d k i
     ·rw [if_pos c] at e3
      have hb:∃ i∈List.range d.length,z7q d i:=by
       obtain ⟨k,hk,i,hi,h⟩:=c
       exact ⟨k,hk, .inr ⟨i,hi,h⟩⟩
      rw [if_pos hb]
      simp only [g54,z1g,z1h,z1z,h1',h2',e1,e2,e3,hf0,z0j,z1m]
      rfl
     ·rw [if_neg c] at e3
      have hb:¬ ∃ i∈List.range d.length,z7q d i:=by
       rintro ⟨k,hk,h|⟨i,hi,h⟩⟩
       ·exact b ⟨k,hk,by rw [bt]; exact decide_eq_true h⟩
       ·exact c ⟨k,hk,i,hi,h⟩
      rw [if_neg hb]
      simp only [g54,z1g,z1h,z1z,h1',h2',e1,e2,e3,hf0,z0j,z1m]
end Go.Am
end
section
namespace Go.Am.T11
def o1 (b:Bool):Nat:=bif b then 1 else 0
def sm (n:Nat) (f:Nat→Nat):Nat:=
 match n with
 |0=>0
 |n+1=>sm n f+f n
def cnt (n:Nat) (p:Nat→Bool):Nat:=sm n fun i=>o1 (p i)
theorem y39 (n:Nat) (f:Nat→Nat):sm (n+1) f=sm n f+f n:=rfl
theorem y8n {n:Nat} {f g:Nat→Nat} (h:∀ i,i<n→f i=g i):sm n f=sm n g:=by
 induction n with
 |zero=>rfl
 |succ n ih=>rw [y39,y39,ih fun i hi=>h i (by omega),h n (by omega)]
theorem x4n (n k:Nat) (f:Nat→Nat):sm (n+k) f=sm n f+sm k fun i=>f (n+i):=by
 induction k with
 |zero=>rfl
 |succ k ih=>rw [←Nat.add_assoc,y39,y39,ih]; omega
def c2:Nat→Nat
 |0=>0
 |n+1=>c2 n+n
def c3:Nat→Nat
 |0=>0
 |n+1=>c3 n+c2 n
section
variable (b:Nat→Nat→Bool)
def tri (i k m:Nat):Bool:=b i k&&b k m&&b m i||b k i&&b m k&&b i m
def T3 (i k n:Nat):Nat:=cnt n (tri b i k)
def T2 (i n:Nat):Nat:=sm n fun k=>T3 b i k k
def T1 (n:Nat):Nat:=sm n fun i=>T2 b i i
def w9c (n:Nat):Prop:=(∀ i,i<n→b i i=false)∧∀ i k,i<n→k<n→i≠k→b i k=!b k i
end
variable {b:Nat→Nat→Bool} {N:Nat}
end Go.Am.T11
end
section
namespace Go.Am.T11
variable {b:Nat→Nat→Bool} {N n:Nat}
def cut (b:Nat→Nat→Bool) (n k:Nat):Prop:=sm k (fun q=>cnt n (b q))=c2 k+k*(n - k)
instance (b:Nat→Nat→Bool) (n k:Nat):Decidable (cut b n k):=by unfold cut; infer_instance
def at_ (s:List Nat) (q:Nat):Nat:=s.getD q 0
theorem x1u (l:List Nat) (f:Nat→Nat):sm l.length (fun q=>f (at_ l q))=(l.map f).sum:=by
 induction l with
 |nil=>rfl
 |cons a l ih=>
  rw [List.length_cons,Nat.add_comm,x4n,List.map_cons,List.sum_cons, ←ih]
  congr 1
  ·simp [sm,at_]
  ·refine y8n fun i hi=>?_
   simp [at_,Nat.add_comm 1 i]
theorem x4o (n:Nat) (f:Nat→Nat):sm n f=((List.range n).map f).sum:=by
 have:=x1u (List.range n) f
 rw [List.length_range] at this
 rw [←this]
 refine y8n fun i hi=>?_
 rw [at_,List.getD_eq_getElem?_getD,List.getElem?_range hi]; rfl
def y9z (n:Nat) (s:List Nat):Prop:=s.Perm (List.range n)
variable {s:List Nat}
theorem y9z.len (h:y9z n s):s.length=n:=by rw [h.length_eq,List.length_range]
theorem y9z.sum (h:y9z n s) (f:Nat→Nat):sm n (fun q=>f (at_ s q))=sm n f:=by
 have:=x1u s f
 rw [h.len] at this
 rw [this,x4o]
 exact (h.map f).sum_nat
theorem y9z.get (h:y9z n s) {q:Nat} (hq:q<n):s[q]?=some (at_ s q):=by
 rw [at_,List.getD_eq_getElem?_getD,List.getElem?_eq_getElem (by rw [h.len]; exact hq)]; rfl
theorem y9z.lt (h:y9z n s) {q:Nat} (hq:q<n):at_ s q<n:=List.mem_range.1 (h.mem_iff.1 (List.mem_of_getElem? (h.get hq)))
theorem y9z.nodup (h:y9z n s):s.Nodup:=h.nodup_iff.2 List.nodup_range
theorem y9z.inj (h:y9z n s) {q r:Nat} (hq:q<n) (hr:r<n) (he:at_ s q=at_ s r):q=r:=by
 have h1:=h.get hq
 have h2:=h.get hr
 rw [←he] at h2
 exact (List.getElem?_inj (by rw [h.len]; exact hq) h.nodup).1 (h1.trans h2.symm)
theorem y9z.ex (h:y9z n s) {i:Nat} (hi:i<n):∃ q,q<n∧at_ s q=i:=by
 have:=h.mem_iff.2 (List.mem_range.2 hi)
 obtain ⟨q,hq⟩:=List.getElem?_of_mem this
 have hl:q<n:=by rw [←h.len]; exact (List.getElem?_eq_some_iff.1 hq).1
 refine ⟨q,hl,?_⟩
 have:=h.get hl
 rw [hq] at this; cases this; rfl
variable {rc:Nat→Nat}
end Go.Am.T11
end
section
namespace Go.Am.T11
def Lan (L:List Int):Prop:=(∀ T:List Int,T.Sublist L→(c2 T.length:Int)≤T.sum)∧L.sum=c2 L.length
theorem x4j {L L':List Int} (h:L.Perm L'):L.sum=L'.sum:=by
 induction h with
 |nil=>rfl
 |cons a _ ih=>simp [ih]
 |swap a b l=>simp; omega
 |trans _ _ h1 h2=>exact h1.trans h2
theorem x40 {T K:List Int} (h:T.Sublist K) (hne:T≠K):∃ (y:Int) (K1:List Int),y∈K∧K1.Sublist K∧K1.Perm (y::T):=by
 induction h with
 |slnil=>exact absurd rfl hne
 |cons a hs ih=>exact ⟨a,a::_,List.mem_cons_self .., .cons_cons a hs, .refl _⟩
 |cons_cons a hs ih=>
  obtain ⟨y,K1,h1,h2,h3⟩:=ih fun e=>hne (by rw [e])
  exact ⟨y,a::K1,List.mem_cons_of_mem _ h1, .cons_cons a h2,(h3.cons a).trans (.swap _ _ _)⟩
theorem x1n (L:List Int):(L.map (· - 1)).sum=L.sum - L.length:=by
 induction L with
 |nil=>rfl
 |cons a L ih=>simp [ih]; omega
theorem Lan.step {v:Int} {L:List Int} (h:Lan (v::L)) (hs:L.Pairwise (· ≤ ·)):
  0≤v∧v≤L.length∧Lan (L.take v.toNat++(L.drop v.toNat).map (· - 1)):=by
 have h0:0≤v:=by
  have:=h.1 [v] (.cons_cons v (List.nil_sublist _))
  simpa [c2] using this
 have htot:=h.2
 rw [List.sum_cons,List.length_cons,c2] at htot
 have h1:v≤L.length:=by
  have:=h.1 L (.cons v (List.Sublist.refl _))
  omega
 refine ⟨h0,h1,?_,?_⟩
 ·intro T hT
  obtain ⟨T1,T2',rfl,hT1,hT2'⟩:=List.sublist_append_iff.1 hT
  obtain ⟨T2,hT2,rfl⟩:=List.sublist_map_iff.1 hT2'
  rw [List.length_append,List.length_map,List.sum_append,x1n]
  have hKD:∀ y∈L.take v.toNat,∀ z∈L.drop v.toNat,y≤z:=by
   intro y hy z hz
   have:=hs
   rw [←List.take_append_drop v.toNat L,List.pairwise_append] at this
   exact this.2.2 y hy z hz
  have hKl:(L.take v.toNat).length=v.toNat:=by rw [List.length_take]; omega
  have hDl:(L.drop v.toNat).length=L.length - v.toNat:=List.length_drop ..
  have hall:∀ T1 T2:List Int,T1.Sublist (L.take v.toNat)→T2.Sublist (L.drop v.toNat)→(T1++T2).Sublist L:=fun T1 T2 a b=>by
   have:=a.append b
   rwa [List.take_append_drop] at this
  have key:∀ m:Nat,∀ T1 T2:List Int,T1.Sublist (L.take v.toNat)→T2.Sublist (L.drop v.toNat)→
    (T1.sum+T2.sum - T2.length - c2 (T1.length+T2.length)+L.length).toNat*(L.length+1)+(T1.length+T2.length)≤m→
    (c2 (T1.length+T2.length):Int)≤T1.sum+(T2.sum - T2.length):=by
   intro m
   induction m with
   |zero=>
    intro T1 T2 a b hm
    have e1:T1.length+T2.length=0:=by omega
    have e2:T1=[]:=List.length_eq_zero_iff.1 (by omega)
    have e3:T2=[]:=List.length_eq_zero_iff.1 (by omega)
    subst e2 e3; simp [c2]
   |succ m ih=>
    intro T1 T2 a b hm
    have hsub:=h.1 (T1++T2) (.cons v (hall T1 T2 a b))
    rw [List.length_append,List.sum_append] at hsub
    have hl1:=a.length_le
    have hl2:=b.length_le
    refine Int.not_lt.1 fun hneg=>?_
    match T2,b with
    |[],_=>simp at hneg hsub; omega
    |z::T2,b=>
     rw [List.length_cons,List.sum_cons] at*
     have hz:z∈L.drop v.toNat:=b.subset (List.mem_cons_self ..)
     by_cases hK:T1=L.take v.toNat
     ·have:=h.1 (v::(T1++(z::T2))) (.cons_cons v (hall T1 (z::T2) a b))
      rw [List.length_cons,List.sum_cons,List.length_append,List.sum_append,c2,List.length_cons,List.sum_cons] at this
      have hTl:T1.length=v.toNat:=by rw [hK,hKl]
      push_cast at*
      omega
     ·obtain ⟨y,K1,hy,hK1,hp⟩:=x40 a hK
      have hyz:=hKD y hy z hz
      have hv1:=List.length_pos_of_mem hy
      rw [hKl] at hv1
      rw [hDl] at hl2
      have hKl1:=hp.length_eq
      have hKs:=x4j hp
      rw [List.length_cons] at hKl1
      rw [List.sum_cons] at hKs
      by_cases hyk:y<(T1.length+(T2.length+1):Nat)
      ·have:=ih K1 (z::T2) hK1 b (by
        rw [List.length_cons,List.sum_cons,hKl1,hKs,show T1.length+1+(T2.length+1)=T1.length+(T2.length+1)+1 by omega,c2]
        generalize c2 (T1.length+(T2.length+1))=C at*
        have hd:(y+T1.sum+(z+T2.sum) - ((T2.length+1:Nat):Int) - ((C+(T1.length+(T2.length+1)):Nat):Int)+(L.length:Int)).toNat+1≤
          (T1.sum+(z+T2.sum) - ((T2.length+1:Nat):Int) - (C:Int)+(L.length:Int)).toNat:=by omega
        have hmul:=Nat.mul_le_mul_right (L.length+1) hd
        rw [Nat.add_mul,Nat.one_mul] at hmul
        have:0<L.length:=by
         have:=List.length_pos_of_mem hz
         omega
        omega)
       rw [List.length_cons,List.sum_cons,hKl1,hKs,show T1.length+1+(T2.length+1)=T1.length+(T2.length+1)+1 by omega,c2] at this
       push_cast at*
       omega
      ·have b':T2.Sublist (L.drop v.toNat):=(List.sublist_cons_self z T2).trans b
       have e1:T1.length+(T2.length+1)=T1.length+T2.length+1:=by omega
       have hc2:c2 (T1.length+(T2.length+1))=c2 (T1.length+T2.length)+(T1.length+T2.length):=by rw [e1,c2]
       rw [hc2] at hneg hm hsub
       have hsub':=h.1 (T1++T2) (.cons v (hall T1 T2 a b'))
       rw [List.length_append,List.sum_append] at hsub'
       have:=ih T1 T2 a b' (by
        generalize c2 (T1.length+T2.length)=C at*
        have hd:(T1.sum+T2.sum - ((T2.length:Nat):Int) - (C:Int)+(L.length:Int)).toNat≤
          (T1.sum+(z+T2.sum) - ((T2.length+1:Nat):Int) - ((C+(T1.length+T2.length):Nat):Int)+(L.length:Int)).toNat:=by omega
        have hmul:=Nat.mul_le_mul_right (L.length+1) hd
        omega)
       push_cast at*
       omega
  exact key _ T1 T2 hT1 hT2 (Nat.le_refl _)
 ·have hl:(L.take v.toNat++(L.drop v.toNat).map (· - 1)).length=L.length:=by
   rw [List.length_append,List.length_map, ←List.length_append,List.take_append_drop]
  have hsum:(L.take v.toNat).sum+(L.drop v.toNat).sum=L.sum:=by
   rw [←List.sum_append,List.take_append_drop]
  rw [hl,List.sum_append,x1n,List.length_drop]
  push_cast at*
  omega
def x66 (n k:Nat) (sum:Int):Prop:=sum<c2 k∨k=n∧sum≠c2 k
instance (n k:Nat) (sum:Int):Decidable (x66 n k sum):=by unfold x66; infer_instance
end Go.Am.T11
end
section
namespace Go.Am.T11
def gI (l:List Int) (q:Nat):Int:=l.getD q 0
def sw (l:List Int) (j:Nat):List Int:=(l.set (j+1) (gI l j)).set j (gI l (j+1))
def x0t (κ:Int→Int):Nat→List Int→List Int
 |0,l=>l
 |j+1,l=>if κ (gI l (j+1))<κ (gI l j) then x0t κ j (sw l j) else l
def x2n (κ:Int→Int):Nat→Nat→List Int→List Int
 |0,_,l=>l
 |k+1,i,l=>x2n κ k (i+1) (x0t κ i l)
def z3j (κ:Int→Int) (l:List Int):List Int:=x2n κ (l.length - 1) 1 l
theorem y03 (l:List Int) (j:Nat):(sw l j).length=l.length:=by simp [sw]
theorem x2t {l:List Int} {j:Nat} (hj:j+1<l.length) (q:Nat):gI (sw l j) q=if q=j then gI l (j+1) else if q=j+1 then gI l j else gI l q:=by
 have e:gI (sw l j) q=((sw l j)[q]?).getD 0:=by rw [gI,List.getD_eq_getElem?_getD]
 rw [e,sw,List.getElem?_set,List.getElem?_set,List.length_set]
 by_cases h1:q=j
 ·subst h1; rw [if_pos rfl,if_pos (by omega),if_pos rfl]; rfl
 ·by_cases h2:q=j+1
  ·subst h2; rw [if_neg (by omega),if_pos rfl,if_pos hj,if_neg h1,if_pos rfl]; rfl
  ·rw [if_neg (by omega),if_neg (by omega),if_neg h1,if_neg h2,gI,List.getD_eq_getElem?_getD]
theorem w12 {l l':List Int} (hl:l.length=l'.length) (h:∀ q,q<l.length→gI l q=gI l' q):l=l':=by
 apply List.ext_getElem hl
 intro i h1 h2
 have:=h i h1
 simpa [gI,List.getD_eq_getElem?_getD,h1,h2] using this
theorem x74 {l:List Int} {j:Nat} (hj:j+1<l.length):(sw l j).Perm l:=by
 have e:l=l.take j++(gI l j::gI l (j+1)::l.drop (j+2)):=by
  conv=>lhs; rw [←List.take_append_drop j l]
  congr 1
  rw [List.drop_eq_getElem_cons (by omega),List.drop_eq_getElem_cons (by omega)]
  simp [gI,List.getD_eq_getElem?_getD,show j<l.length by omega,hj]
 have e2:sw l j=l.take j++(gI l (j+1)::gI l j::l.drop (j+2)):=by
  apply w12
  ·simp only [y03,List.length_append,List.length_take,List.length_cons,List.length_drop]; omega
  ·intro q hq
   rw [y03] at hq
   rw [x2t hj]
   have hlt:(l.take j).length=j:=by rw [List.length_take]; omega
   have hR:gI (l.take j++(gI l (j+1)::gI l j::l.drop (j+2))) q=((l.take j++(gI l (j+1)::gI l j::l.drop (j+2)))[q]?).getD 0:=by rw [gI,List.getD_eq_getElem?_getD]
   rw [hR,List.getElem?_append,hlt]
   by_cases h1:q<j
   ·rw [if_neg (by omega),if_neg (by omega),if_pos h1,List.getElem?_take_of_lt h1,gI,List.getD_eq_getElem?_getD]
   ·rw [if_neg h1]
    by_cases h2:q=j
    ·subst h2; rw [if_pos rfl,Nat.sub_self]; rfl
    ·by_cases h3:q=j+1
     ·subst h3; rw [if_neg h2,if_pos rfl,show j+1 - j=1 by omega]; rfl
     ·rw [if_neg h2,if_neg h3]
      obtain ⟨m,rfl⟩:∃ m,q=j+2+m:=⟨q - (j+2),by omega⟩
      rw [show j+2+m - j=m+2 by omega,List.getElem?_cons_succ,List.getElem?_cons_succ,List.getElem?_drop,gI,List.getD_eq_getElem?_getD]
 rw [e2]
 conv=>rhs; rw [e]
 exact List.Perm.append_left _ (.swap _ _ _)
theorem y0l (κ:Int→Int) (j:Nat) (l:List Int):(x0t κ j l).length=l.length:=by
 induction j generalizing l with
 |zero=>rfl
 |succ j ih=>
  rw [x0t]
  split
  ·rw [ih,y03]
  ·rfl
theorem x5h (κ:Int→Int) (k i:Nat) (l:List Int):(x2n κ k i l).length=l.length:=by
 induction k generalizing i l with
 |zero=>rfl
 |succ k ih=>rw [x2n,ih,y0l]
theorem x2o (κ:Int→Int) (j:Nat) (l:List Int) (hj:j<l.length):(x0t κ j l).Perm l:=by
 induction j generalizing l with
 |zero=>exact .refl _
 |succ j ih=>
  rw [x0t]
  split
  ·exact (ih _ (by rw [y03]; omega)).trans (x74 hj)
  ·exact .refl _
theorem x2m (κ:Int→Int) (k i:Nat) (l:List Int) (h:i+k≤l.length):(x2n κ k i l).Perm l:=by
 induction k generalizing i l with
 |zero=>exact .refl _
 |succ k ih=>
  rw [x2n]
  exact (ih _ _ (by rw [y0l]; omega)).trans (x2o κ i l (by omega))
def x8g (κ:Int→Int) (l:List Int) (i:Nat):Prop:=∀ p q,p<q→q≤i→κ (gI l p)≤κ (gI l q)
theorem x5i (κ:Int→Int) (i j:Nat) (l:List Int) (hj:j≤i) (hi:i<l.length)
  (h1:∀ p q,p<q→q≤i→p≠j→q≠j→κ (gI l p)≤κ (gI l q)) (h2:∀ q,j<q→q≤i→κ (gI l j)≤κ (gI l q)):x8g κ (x0t κ j l) i:=by
 induction j generalizing l with
 |zero=>
  intro p q hpq hq
  by_cases hp:p=0
  ·subst hp; exact h2 q hpq hq
  ·exact h1 p q hpq hq hp (by omega)
 |succ j ih=>
  rw [x0t]
  split
  ·rename_i hlt
   refine ih _ (by omega) (by rw [y03]; exact hi) (fun p q hpq hq hp hqj=>?_) (fun q hjq hq=>?_)
   ·rw [x2t (by omega),x2t (by omega),if_neg hp,if_neg hqj]
    by_cases e:p=j+1
    ·rw [if_pos e,if_neg (by omega)]
     exact h1 j q (by omega) hq (by omega) (by omega)
    ·rw [if_neg e]
     by_cases e2:q=j+1
     ·rw [if_pos e2]
      exact h1 p j (by omega) (by omega) e (by omega)
     ·rw [if_neg e2]
      exact h1 p q hpq hq e e2
   ·rw [x2t (by omega),x2t (by omega),if_pos rfl,if_neg (by omega)]
    by_cases e2:q=j+1
    ·rw [if_pos e2]; omega
    ·rw [if_neg e2]; exact h2 q (by omega) hq
  ·rename_i hge
   intro p q hpq hq
   by_cases e:q=j+1
   ·subst e
    by_cases e2:p=j
    ·subst e2; omega
    ·have:=h1 p j (by omega) (by omega) (by omega) (by omega)
     omega
   ·by_cases e2:p=j+1
    ·subst e2; exact h2 q hpq hq
    ·exact h1 p q hpq hq e2 e
theorem x5g (κ:Int→Int) (k i:Nat) (l:List Int) (hi:1≤i) (h:i+k≤l.length) (ho:x8g κ l (i - 1)):x8g κ (x2n κ k i l) (i+k - 1):=by
 induction k generalizing i l with
 |zero=>exact ho
 |succ k ih=>
  rw [x2n]
  have:=ih (i+1) (x0t κ i l) (by omega) (by rw [y0l]; omega) (by
   rw [Nat.add_sub_cancel]
   exact x5i κ i i l (Nat.le_refl _) (by omega) (fun p q hpq hq hp hqi=>ho p q hpq (by omega)) (fun q h1 h2=>by omega))
  rwa [show i+1+k - 1=i+(k+1) - 1 by omega] at this
theorem z5o (κ:Int→Int) (l:List Int):(z3j κ l).length=l.length:=x5h ..
theorem y99 (κ:Int→Int) (l:List Int):(z3j κ l).Perm l:=by
 cases hl:l.length with
 |zero=>
  have:l=[]:=List.length_eq_zero_iff.1 hl
  subst this; exact .refl _
 |succ n=>exact x2m κ _ _ _ (by omega)
theorem x1t (κ:Int→Int) (l:List Int):∀ p q,p≤q→q<l.length→κ (gI (z3j κ l) p)≤κ (gI (z3j κ l) q):=by
 intro p q hpq hq
 by_cases e:p=q
 ·subst e; exact Int.le_refl _
 ·exact x5g κ (l.length - 1) 1 l (Nat.le_refl _) (by omega) (fun p q h1 h2=>by omega) p q (by omega) (by omega)
end Go.Am.T11
end
noncomputable section
namespace Go.Am
def y9t:Ctr:=
 ⟨93,[.full 0 1, .int .i64, .int .i64],[.row [ci]],[]⟩
def w9r:Prim→Tup (y9t).scs→Option (STup (scss (y9t).outs)):=
 fun _ _=>none
theorem x3e:z2d Go.Proofs.Try.prog 93:=enters_auto (b:=_) rfl (by kernel_rfl)
theorem w4r:CtrOk Go.Proofs.Try.prog y9t (w9r std):=⟨x3e,fun x y h=>by cases h⟩
def y9r:Ctr:=
 ⟨94,[.full 0 1, .int .i64, .int .i64],[.row [ci]],[]⟩
def w9p:Prim→Tup (y9r).scs→Option (STup (scss (y9r).outs)):=
 fun _ _=>none
theorem x3c:z2d Go.Proofs.Try.prog 94:=enters_auto (b:=_) rfl (by kernel_rfl)
theorem w4p:CtrOk Go.Proofs.Try.prog y9r (w9p std):=⟨x3c,fun x y h=>by cases h⟩
def y9p:Ctr:=
 ⟨95,[.full 0 1, .int .i64, .int .i64],[.row [ci]],[]⟩
def w9n:Prim→Tup (y9p).scs→Option (STup (scss (y9p).outs)):=
 fun _ _=>none
theorem x3a:z2d Go.Proofs.Try.prog 95:=enters_auto (b:=_) rfl (by kernel_rfl)
theorem w4n:CtrOk Go.Proofs.Try.prog y9p (w9n std):=⟨x3a,fun x y h=>by cases h⟩
def x7h:Ctr:=
 ⟨92,[.full 0 1, .int .i64, .int .i64],[.row [ci]],[(.ret,⟨[(0, .tuple [])],[.row [ci]],1⟩)]⟩
def w5q:List LA:=
 [⟨92,[false,true],1,⟨⟨[(0, .full 0 1),(1, .int .i64),(2, .int .i64),(6, .int .i64)],[.row [ci]],49⟩,[((AX.exit 0),⟨[],[.row [ci]],49⟩)]⟩⟩,
 ⟨92,[false,true,false,false,true,false,false,true],1,⟨⟨[(0, .full 0 1),(1, .int .i64),(2, .int .i64),(6, .int .i64),(7, .int .i64)],[.row [ci]],49⟩,[((AX.exit 2),⟨[(0, .full 0 1),(1, .int .i64),(2, .int .i64),(6, .int .i64)],[.row [ci]],49⟩)]⟩⟩]
def w51:List JA:=
 []
def w1t:List CF:=
 [⟨x9v,G98⟩]
def w8d:Anns:=
 ⟨w1t,w51,[]⟩
def z84 (p:Prim):(LD×T6)→Option ((LD×T6)⊕(LD×T4)):=
 fun a=>opt.run _ (
 opt.ask _ (p.cmp .gtr a.2.2.2.2.1 a.2.1) (
 opt.need _ (bif (p.cmp .geq a.2.2.2.2.1 (0:Int)) then (p.cmp .lss a.2.2.2.2.1 (p.ofNat (p.len a.1))) else Bool.false)<|
 opt.need _ (p.rowOk a.1 (p.add 0 (p.nat a.2.2.2.2.1)) [ci])<|
 opt.need _ (bif (p.cmp .geq (p.ar .sub .i64 a.2.2.2.2.1 (1:Int)) (0:Int)) then (p.cmp .lss (p.ar .sub .i64 a.2.2.2.2.1 (1:Int)) (p.ofNat (p.len a.1))) else Bool.false)<|
 opt.need _ (p.rowOk a.1 (p.add 0 (p.nat (p.ar .sub .i64 a.2.2.2.2.1 (1:Int)))) [ci])<|
 opt.bnd T0 _ (G98 p ((p.rdI a.1 (p.add 0 (p.nat a.2.2.2.2.1)) 0),((p.rdI a.1 (p.add 0 (p.nat (p.ar .sub .i64 a.2.2.2.2.1 (1:Int)))) 0),()))) fun b=>
 opt.ask _ b.1 (
 opt.need _ (bif (p.cmp .geq (p.ar .sub .i64 a.2.2.2.2.1 (1:Int)) (0:Int)) then (p.cmp .lss (p.ar .sub .i64 a.2.2.2.2.1 (1:Int)) (p.ofNat (p.len a.1))) else Bool.false)<|
 opt.need _ (p.rowOk a.1 (p.add 0 (p.nat (p.ar .sub .i64 a.2.2.2.2.1 (1:Int)))) [ci])<|
 opt.need _ (bif (p.cmp .geq a.2.2.2.2.1 (0:Int)) then (p.cmp .lss a.2.2.2.2.1 (p.ofNat (p.len a.1))) else Bool.false)<|
 opt.need _ (p.rowOk a.1 (p.add 0 (p.nat a.2.2.2.2.1)) [ci])<|
 opt.need _ (bif (p.cmp .geq a.2.2.2.2.1 (0:Int)) then (p.cmp .lss a.2.2.2.2.1 (p.ofNat (p.len a.1))) else Bool.false)<|
 opt.need _ (p.rowOk a.1 (p.add 0 (p.nat a.2.2.2.2.1)) [ci])<|
 opt.need _ (bif (p.cmp .geq (p.ar .sub .i64 a.2.2.2.2.1 (1:Int)) (0:Int)) then (p.cmp .lss (p.ar .sub .i64 a.2.2.2.2.1 (1:Int)) (p.ofNat (p.len a.1))) else Bool.false)<|
 opt.need _ (p.rowOk (p.set a.1 (p.add 0 (p.nat a.2.2.2.2.1)) [(D.int .i64 (p.rdI a.1 (p.add 0 (p.nat (p.ar .sub .i64 a.2.2.2.2.1 (1:Int)))) 0))]) (p.add 0 (p.nat (p.ar .sub .i64 a.2.2.2.2.1 (1:Int)))) [ci])<|
 opt.need _ (p.eqN 0 0)<|
 opt.need _ (p.eqN (p.len a.1) (p.len (p.set (p.set a.1 (p.add 0 (p.nat a.2.2.2.2.1)) [(D.int .i64 (p.rdI a.1 (p.add 0 (p.nat (p.ar .sub .i64 a.2.2.2.2.1 (1:Int)))) 0))]) (p.add 0 (p.nat (p.ar .sub .i64 a.2.2.2.2.1 (1:Int)))) [(D.int .i64 (p.rdI a.1 (p.add 0 (p.nat a.2.2.2.2.1)) 0))])))<|
 opt.need _ (p.eqN (p.len a.1) (p.len (p.set (p.set a.1 (p.add 0 (p.nat a.2.2.2.2.1)) [(D.int .i64 (p.rdI a.1 (p.add 0 (p.nat (p.ar .sub .i64 a.2.2.2.2.1 (1:Int)))) 0))]) (p.add 0 (p.nat (p.ar .sub .i64 a.2.2.2.2.1 (1:Int)))) [(D.int .i64 (p.rdI a.1 (p.add 0 (p.nat a.2.2.2.2.1)) 0))])))<|
 opt.ret _ (Sum.inl ((p.set (p.set a.1 (p.add 0 (p.nat a.2.2.2.2.1)) [(D.int .i64 (p.rdI a.1 (p.add 0 (p.nat (p.ar .sub .i64 a.2.2.2.2.1 (1:Int)))) 0))]) (p.add 0 (p.nat (p.ar .sub .i64 a.2.2.2.2.1 (1:Int)))) [(D.int .i64 (p.rdI a.1 (p.add 0 (p.nat a.2.2.2.2.1)) 0))]),(a.2.1,(a.2.2.1,(a.2.2.2.1,((p.ar .sub .i64 a.2.2.2.2.1 (1:Int)),()))))))) (
 opt.need _ (p.eqN 0 0)<|
 opt.need _ (p.eqN (p.len a.1) (p.len a.1))<|
 opt.need _ (p.eqN (p.len a.1) (p.len a.1))<|
 opt.ret _ (Sum.inr (a.1,(a.2.1,(a.2.2.1,(a.2.2.2.1,()))))))) (
 opt.need _ (p.eqN 0 0)<|
 opt.need _ (p.eqN (p.len a.1) (p.len a.1))<|
 opt.need _ (p.eqN (p.len a.1) (p.len a.1))<|
 opt.ret _ (Sum.inr (a.1,(a.2.1,(a.2.2.1,(a.2.2.2.1,())))))))
def z6m (it:It) (p:Prim):(LD×T4)→Option ((LD×T4)⊕(LD×Unit)):=
 fun a=>opt.run _ (
 opt.ask _ (p.cmp .lss a.2.2.2.1 a.2.2.1) (
 opt.need _ (p.eqN 0 0)<|
 opt.need _ (p.eqN (p.len a.1) (p.len a.1))<|
 opt.need _ (p.eqN (p.len a.1) (p.len a.1))<|
 opt.bnd ((LD×T4)) _ (
 it _ _ (z84 p) (a.1,(a.2.1,(a.2.2.1,(a.2.2.2.1,(a.2.2.2.1,())))))) fun b=>
 opt.need _ (p.eqN 0 0)<|
 opt.need _ (p.eqN (p.len b.1) (p.len b.1))<|
 opt.need _ (p.eqN (p.len b.1) (p.len b.1))<|
 opt.ret _ (Sum.inl (b.1,(b.2.1,(b.2.2.1,((p.ar .add .i64 b.2.2.2.1 (1:Int)),())))))) (
 opt.ret _ (Sum.inr (a.1,()))))
def x9i (it:It):(p:Prim)→(LD×T3)→Option ((LD×Unit)):=
 fun p x=>
 opt.need _ (p.eqN 0 0)<|
 opt.need _ (p.eqN (p.len x.1) (p.len x.1))<|
 opt.need _ (p.eqN (p.len x.1) (p.len x.1))<|
 opt.bnd ((LD×Unit)) _ (
 it _ _ (z6m it p) (x.1,(x.2.1,(x.2.2.1,((p.ar .add .i64 x.2.1 (1:Int)),()))))) fun a=>
 opt.ret _ (a.1,())
def w9f:=x9i it0
theorem w4t:CtrOk PG x7h (w9f std):=okF (a:=w8d) (l:=w5q) (gC w8r (gN)) (by kernel_rfl) fun _ _=>by kernel_rfl
def x7k:Ctr:=
 ⟨82,[.full 0 1, .int .i64, .int .i64, .int .i64],[.row [ci]],[(.ret,⟨[(0, .tuple [])],[.row [ci]],1⟩)]⟩
def w5t:List LA:=
 [⟨82,[false,true,true],1,⟨⟨[(0, .full 0 1),(1, .int .i64),(2, .int .i64),(3, .int .i64),(8, .bool),(9, .bool)],[.row [ci]],134⟩,[(AX.ret,⟨[],[.row [ci]],134⟩)]⟩⟩]
def w54:List JA:=
 []
def w1w:List CF:=
 [⟨y9p,w9n⟩,⟨y9r,w9p⟩,⟨y9t,w9r⟩,⟨x7h,w9f⟩]
def w8g:Anns:=
 ⟨w1w,w54,[]⟩
def y6w (it:It) (p:Prim):(LD×T19)→Option ((LD×T19)⊕(LD×Unit)):=
 fun a=>opt.run _ (
 opt.ask _ (p.cmp .leq (p.ar .sub .i64 a.2.2.1 a.2.1) (12:Int)) (
 opt.need _ (p.eqN 0 0)<|
 opt.need _ (p.eqN (p.len a.1) (p.len a.1))<|
 opt.need _ (p.eqN (p.len a.1) (p.len a.1))<|
 opt.bnd ((LD×Unit)) _ (x9i it p (a.1,(a.2.1,(a.2.2.1,())))) fun b=>
 opt.ret _ (Sum.inr (b.1,()))) (
 opt.ask _ (p.cmp .eql a.2.2.2.1 (0:Int)) (
 opt.need _ (p.eqN 0 0)<|
 opt.need _ (p.eqN (p.len a.1) (p.len a.1))<|
 opt.need _ (p.eqN (p.len a.1) (p.len a.1))<|
 opt.no _ 81) (
 opt.ask _ (bif a.2.2.2.2.1 then Bool.false else Bool.true) (
 opt.need _ (p.eqN 0 0)<|
 opt.need _ (p.eqN (p.len a.1) (p.len a.1))<|
 opt.need _ (p.eqN (p.len a.1) (p.len a.1))<|
 opt.no _ 81) (
 opt.need _ (p.eqN 0 0)<|
 opt.need _ (p.eqN (p.len a.1) (p.len a.1))<|
 opt.need _ (p.eqN (p.len a.1) (p.len a.1))<|
 opt.no _ 81))))
def w13 (it:It):(p:Prim)→(LD×T4)→Option ((LD×Unit)):=
 fun p x=>
 opt.need _ (p.eqN 0 0)<|
 opt.need _ (p.eqN (p.len x.1) (p.len x.1))<|
 opt.need _ (p.eqN (p.len x.1) (p.len x.1))<|
 opt.bnd ((LD×Unit)) _ (
 it _ _ (y6w it p) (x.1,(x.2.1,(x.2.2.1,(x.2.2.2.1,(Bool.true,(Bool.true,()))))))) fun a=>
 opt.ret _ (a.1,())
def w9i:=w13 it0
theorem w4w:CtrOk PG x7k (w9i std):=okF (a:=w8g) (l:=w5t) (gC w4n (gC w4p (gC w4r (gC w4t (gN))))) (by kernel_rfl) fun _ _=>by kernel_rfl
def x7n:Ctr:=
 ⟨55,[.full 0 1],[.row [ci]],[(.ret,⟨[(0, .tuple [])],[.row [ci]],1⟩)]⟩
def w5w:List LA:=
 []
def w57:List JA:=
 []
def w1z:List CF:=
 [⟨x7k,w9i⟩,⟨x9w,G83⟩]
def w8j:Anns:=
 ⟨w1z,w57,[]⟩
def x9j (it:It):(p:Prim)→(LD×Unit)→Option ((LD×Unit)):=
 fun p x=>
 opt.bnd T2 _ (G83 p ((p.cvt .u64 (p.ofNat (p.len x.1))),())) fun a=>
 opt.need _ (p.eqN 0 0)<|
 opt.need _ (p.eqN (p.len x.1) (p.len x.1))<|
 opt.need _ (p.eqN (p.len x.1) (p.len x.1))<|
 opt.bnd ((LD×Unit)) _ (w13 it p (x.1,((0:Int),((p.ofNat (p.len x.1)),(a.1,()))))) fun b=>
 opt.ret _ (b.1,())
def w4e:=x9j it0
theorem w41:CtrOk PG x7n (w4e std):=okF (a:=w8j) (l:=w5w) (gC w4w (gC w8s (gN))) (by kernel_rfl) fun _ _=>by kernel_rfl
end Go.Am
end
noncomputable section
namespace Go.Am
def y9s:Ctr:=
 ⟨93,[.vec 0 1, .int .i64, .int .i64],[.row [ci]],[]⟩
def w9q:Prim→Tup (y9s).scs→Option (STup (scss (y9s).outs)):=
 fun _ _=>none
theorem x3d:z2d Go.Proofs.Try.prog 93:=enters_auto (b:=_) rfl (by kernel_rfl)
theorem w4q:CtrOk Go.Proofs.Try.prog y9s (w9q std):=⟨x3d,fun x y h=>by cases h⟩
def y9q:Ctr:=
 ⟨94,[.vec 0 1, .int .i64, .int .i64],[.row [ci]],[]⟩
def w9o:Prim→Tup (y9q).scs→Option (STup (scss (y9q).outs)):=
 fun _ _=>none
theorem x3b:z2d Go.Proofs.Try.prog 94:=enters_auto (b:=_) rfl (by kernel_rfl)
theorem w4o:CtrOk Go.Proofs.Try.prog y9q (w9o std):=⟨x3b,fun x y h=>by cases h⟩
def y9o:Ctr:=
 ⟨95,[.vec 0 1, .int .i64, .int .i64],[.row [ci]],[]⟩
def w9m:Prim→Tup (y9o).scs→Option (STup (scss (y9o).outs)):=
 fun _ _=>none
theorem x29:z2d Go.Proofs.Try.prog 95:=enters_auto (b:=_) rfl (by kernel_rfl)
theorem w4m:CtrOk Go.Proofs.Try.prog y9o (w9m std):=⟨x29,fun x y h=>by cases h⟩
def x7g:Ctr:=
 ⟨92,[.vec 0 1, .int .i64, .int .i64],[.row [ci]],[(.ret,⟨[(0, .tuple [])],[.row [ci]],1⟩)]⟩
def w5p:List LA:=
 [⟨92,[false,true],1,⟨⟨[(0, .vec 0 1),(1, .int .i64),(2, .int .i64),(6, .int .i64)],[.row [ci]],49⟩,[((AX.exit 0),⟨[],[.row [ci]],49⟩)]⟩⟩,
 ⟨92,[false,true,false,false,true,false,false,true],1,⟨⟨[(0, .vec 0 1),(1, .int .i64),(2, .int .i64),(6, .int .i64),(7, .int .i64)],[.row [ci]],49⟩,[((AX.exit 2),⟨[(0, .vec 0 1),(1, .int .i64),(2, .int .i64),(6, .int .i64)],[.row [ci]],49⟩)]⟩⟩]
def w50:List JA:=
 []
def w1s:List CF:=
 [⟨x9v,G98⟩]
def w8c:Anns:=
 ⟨w1s,w50,[]⟩
def w3e (p:Prim):(LD×T6)→Option ((LD×T6)⊕(LD×T4)):=
 fun a=>opt.run _ (
 opt.ask _ (p.cmp .gtr a.2.2.2.2.1 a.2.1) (
 opt.need _ (bif (p.cmp .geq a.2.2.2.2.1 (0:Int)) then (p.cmp .lss a.2.2.2.2.1 (p.ofNat (p.len a.1))) else Bool.false)<|
 opt.need _ (p.rowOk a.1 (p.add 0 (p.nat a.2.2.2.2.1)) [ci])<|
 opt.need _ (bif (p.cmp .geq (p.ar .sub .i64 a.2.2.2.2.1 (1:Int)) (0:Int)) then (p.cmp .lss (p.ar .sub .i64 a.2.2.2.2.1 (1:Int)) (p.ofNat (p.len a.1))) else Bool.false)<|
 opt.need _ (p.rowOk a.1 (p.add 0 (p.nat (p.ar .sub .i64 a.2.2.2.2.1 (1:Int)))) [ci])<|
 opt.bnd T0 _ (G98 p ((p.rdI a.1 (p.add 0 (p.nat a.2.2.2.2.1)) 0),((p.rdI a.1 (p.add 0 (p.nat (p.ar .sub .i64 a.2.2.2.2.1 (1:Int)))) 0),()))) fun b=>
 opt.ask _ b.1 (
 opt.need _ (bif (p.cmp .geq (p.ar .sub .i64 a.2.2.2.2.1 (1:Int)) (0:Int)) then (p.cmp .lss (p.ar .sub .i64 a.2.2.2.2.1 (1:Int)) (p.ofNat (p.len a.1))) else Bool.false)<|
 opt.need _ (p.rowOk a.1 (p.add 0 (p.nat (p.ar .sub .i64 a.2.2.2.2.1 (1:Int)))) [ci])<|
 opt.need _ (bif (p.cmp .geq a.2.2.2.2.1 (0:Int)) then (p.cmp .lss a.2.2.2.2.1 (p.ofNat (p.len a.1))) else Bool.false)<|
 opt.need _ (p.rowOk a.1 (p.add 0 (p.nat a.2.2.2.2.1)) [ci])<|
 opt.need _ (bif (p.cmp .geq a.2.2.2.2.1 (0:Int)) then (p.cmp .lss a.2.2.2.2.1 (p.ofNat (p.len a.1))) else Bool.false)<|
 opt.need _ (p.rowOk a.1 (p.add 0 (p.nat a.2.2.2.2.1)) [ci])<|
 opt.need _ (bif (p.cmp .geq (p.ar .sub .i64 a.2.2.2.2.1 (1:Int)) (0:Int)) then (p.cmp .lss (p.ar .sub .i64 a.2.2.2.2.1 (1:Int)) (p.ofNat (p.len a.1))) else Bool.false)<|
 opt.need _ (p.rowOk (p.set a.1 (p.add 0 (p.nat a.2.2.2.2.1)) [(D.int .i64 (p.rdI a.1 (p.add 0 (p.nat (p.ar .sub .i64 a.2.2.2.2.1 (1:Int)))) 0))]) (p.add 0 (p.nat (p.ar .sub .i64 a.2.2.2.2.1 (1:Int)))) [ci])<|
 opt.need _ (p.eqN 0 0)<|
 opt.need _ (p.eqN (p.len a.1) (p.len (p.set (p.set a.1 (p.add 0 (p.nat a.2.2.2.2.1)) [(D.int .i64 (p.rdI a.1 (p.add 0 (p.nat (p.ar .sub .i64 a.2.2.2.2.1 (1:Int)))) 0))]) (p.add 0 (p.nat (p.ar .sub .i64 a.2.2.2.2.1 (1:Int)))) [(D.int .i64 (p.rdI a.1 (p.add 0 (p.nat a.2.2.2.2.1)) 0))])))<|
 opt.ret _ (Sum.inl ((p.set (p.set a.1 (p.add 0 (p.nat a.2.2.2.2.1)) [(D.int .i64 (p.rdI a.1 (p.add 0 (p.nat (p.ar .sub .i64 a.2.2.2.2.1 (1:Int)))) 0))]) (p.add 0 (p.nat (p.ar .sub .i64 a.2.2.2.2.1 (1:Int)))) [(D.int .i64 (p.rdI a.1 (p.add 0 (p.nat a.2.2.2.2.1)) 0))]),(a.2.1,(a.2.2.1,(a.2.2.2.1,((p.ar .sub .i64 a.2.2.2.2.1 (1:Int)),()))))))) (
 opt.need _ (p.eqN 0 0)<|
 opt.need _ (p.eqN (p.len a.1) (p.len a.1))<|
 opt.ret _ (Sum.inr (a.1,(a.2.1,(a.2.2.1,(a.2.2.2.1,()))))))) (
 opt.need _ (p.eqN 0 0)<|
 opt.need _ (p.eqN (p.len a.1) (p.len a.1))<|
 opt.ret _ (Sum.inr (a.1,(a.2.1,(a.2.2.1,(a.2.2.2.1,())))))))
def x3v (it:It) (p:Prim):(LD×T4)→Option ((LD×T4)⊕(LD×Unit)):=
 fun a=>opt.run _ (
 opt.ask _ (p.cmp .lss a.2.2.2.1 a.2.2.1) (
 opt.need _ (p.eqN 0 0)<|
 opt.need _ (p.eqN (p.len a.1) (p.len a.1))<|
 opt.bnd ((LD×T4)) _ (
 it _ _ (w3e p) (a.1,(a.2.1,(a.2.2.1,(a.2.2.2.1,(a.2.2.2.1,())))))) fun b=>
 opt.need _ (p.eqN 0 0)<|
 opt.need _ (p.eqN (p.len b.1) (p.len b.1))<|
 opt.ret _ (Sum.inl (b.1,(b.2.1,(b.2.2.1,((p.ar .add .i64 b.2.2.2.1 (1:Int)),())))))) (
 opt.ret _ (Sum.inr (a.1,()))))
def w38 (it:It):(p:Prim)→(LD×T3)→Option ((LD×Unit)):=
 fun p x=>
 opt.need _ (p.eqN 0 0)<|
 opt.need _ (p.eqN (p.len x.1) (p.len x.1))<|
 opt.bnd ((LD×Unit)) _ (
 it _ _ (x3v it p) (x.1,(x.2.1,(x.2.2.1,((p.ar .add .i64 x.2.1 (1:Int)),()))))) fun a=>
 opt.ret _ (a.1,())
def w9e:=w38 it0
theorem w4s:CtrOk PG x7g (w9e std):=okF (a:=w8c) (l:=w5p) (gC w8r (gN)) (by kernel_rfl) fun _ _=>by kernel_rfl
def x7j:Ctr:=
 ⟨82,[.vec 0 1, .int .i64, .int .i64, .int .i64],[.row [ci]],[(.ret,⟨[(0, .tuple [])],[.row [ci]],1⟩)]⟩
def w5s:List LA:=
 [⟨82,[false,true,true],1,⟨⟨[(0, .vec 0 1),(1, .int .i64),(2, .int .i64),(3, .int .i64),(8, .bool),(9, .bool)],[.row [ci]],134⟩,[(AX.ret,⟨[],[.row [ci]],134⟩)]⟩⟩]
def w53:List JA:=
 []
def w1v:List CF:=
 [⟨y9o,w9m⟩,⟨y9q,w9o⟩,⟨y9s,w9q⟩,⟨x7g,w9e⟩]
def w8f:Anns:=
 ⟨w1v,w53,[]⟩
def x3z (it:It) (p:Prim):(LD×T19)→Option ((LD×T19)⊕(LD×Unit)):=
 fun a=>opt.run _ (
 opt.ask _ (p.cmp .leq (p.ar .sub .i64 a.2.2.1 a.2.1) (12:Int)) (
 opt.need _ (p.eqN 0 0)<|
 opt.need _ (p.eqN (p.len a.1) (p.len a.1))<|
 opt.bnd ((LD×Unit)) _ (w38 it p (a.1,(a.2.1,(a.2.2.1,())))) fun b=>
 opt.ret _ (Sum.inr (b.1,()))) (
 opt.ask _ (p.cmp .eql a.2.2.2.1 (0:Int)) (
 opt.need _ (p.eqN 0 0)<|
 opt.need _ (p.eqN (p.len a.1) (p.len a.1))<|
 opt.no _ 81) (
 opt.ask _ (bif a.2.2.2.2.1 then Bool.false else Bool.true) (
 opt.need _ (p.eqN 0 0)<|
 opt.need _ (p.eqN (p.len a.1) (p.len a.1))<|
 opt.no _ 81) (
 opt.need _ (p.eqN 0 0)<|
 opt.need _ (p.eqN (p.len a.1) (p.len a.1))<|
 opt.no _ 81))))
def w4a (it:It):(p:Prim)→(LD×T4)→Option ((LD×Unit)):=
 fun p x=>
 opt.need _ (p.eqN 0 0)<|
 opt.need _ (p.eqN (p.len x.1) (p.len x.1))<|
 opt.bnd ((LD×Unit)) _ (
 it _ _ (x3z it p) (x.1,(x.2.1,(x.2.2.1,(x.2.2.2.1,(Bool.true,(Bool.true,()))))))) fun a=>
 opt.ret _ (a.1,())
def w9h:=w4a it0
theorem w4v:CtrOk PG x7j (w9h std):=okF (a:=w8f) (l:=w5s) (gC w4m (gC w4o (gC w4q (gC w4s (gN))))) (by kernel_rfl) fun _ _=>by kernel_rfl
def x7m:Ctr:=
 ⟨55,[.vec 0 1],[.row [ci]],[(.ret,⟨[(0, .tuple [])],[.row [ci]],1⟩)]⟩
def w5v:List LA:=
 []
def w56:List JA:=
 []
def w1y:List CF:=
 [⟨x7j,w9h⟩,⟨x9w,G83⟩]
def w8i:Anns:=
 ⟨w1y,w56,[]⟩
def w4c (it:It):(p:Prim)→(LD×Unit)→Option ((LD×Unit)):=
 fun p x=>
 opt.bnd T2 _ (G83 p ((p.cvt .u64 (p.ofNat (p.len x.1))),())) fun a=>
 opt.need _ (p.eqN 0 0)<|
 opt.need _ (p.eqN (p.len x.1) (p.len x.1))<|
 opt.bnd ((LD×Unit)) _ (w4a it p (x.1,((0:Int),((p.ofNat (p.len x.1)),(a.1,()))))) fun b=>
 opt.ret _ (b.1,())
def w9k:=w4c it0
theorem w40:CtrOk PG x7m (w9k std):=okF (a:=w8i) (l:=w5v) (gC w4v (gC w8s (gN))) (by kernel_rfl) fun _ _=>by kernel_rfl
end Go.Am
end
noncomputable section
namespace Go.Am
def y9u:Ctr:=
 ⟨105,[.vec 0 1, .int .i64, .int .i64, .int .i64, .clo 88 [] [.bptr 1 0]],[.row [ci], .box [.list 1]],[]⟩
def w9s:Prim→Tup (y9u).scs→Option (STup (scss (y9u).outs)):=
 fun _ _=>none
theorem x3f:z2d Go.Proofs.Try.prog 105:=enters_auto (b:=_) rfl (by kernel_rfl)
theorem w45:CtrOk Go.Proofs.Try.prog y9u (w9s std):=⟨x3f,fun x y h=>by cases h⟩
def x7o:Ctr:=
 ⟨104,[.vec 0 1, .int .i64, .int .i64, .clo 88 [] [.bptr 1 0]],[.row [ci], .box [.list 1]],[(.ret,⟨[(0, .tuple [])],[.row [ci], .box [.list 1]],1⟩)]⟩
def w5x:List LA:=
 [⟨104,[false,true],2,⟨⟨[(0, .vec 0 1),(1, .int .i64),(2, .int .i64),(3, .clo 88 [] [.bptr 1 0]),(8, .int .i64)],[.row [ci], .box [.list 1]],53⟩,[((AX.exit 0),⟨[],[.row [ci], .box [.list 1]],53⟩)]⟩⟩,
 ⟨104,[false,true,false,false,true,false,false,true],2,⟨⟨[(0, .vec 0 1),(1, .int .i64),(2, .int .i64),(3, .clo 88 [] [.bptr 1 0]),(8, .int .i64),(9, .int .i64)],[.row [ci], .box [.list 1]],53⟩,[((AX.exit 2),⟨[(0, .vec 0 1),(1, .int .i64),(2, .int .i64),(3, .clo 88 [] [.bptr 1 0]),(8, .int .i64)],[.row [ci], .box [.list 1]],53⟩)]⟩⟩]
def w58:List JA:=
 [⟨68,[true,false,true,true,true],2,[(AX.ret,⟨[(4, .int .i64)],[.row [ci], .box [.list 1]],20⟩),(AX.normal,⟨[(0, .int .i64),(1, .int .i64),(6, .bool)],[.row [ci], .box [.list 1]],20⟩)]⟩]
def w10:List CF:=
 []
def w8k:Anns:=
 ⟨w10,w58,[]⟩
def w3g (p:Prim):(LD×(LD×T6))→Option ((LD×(LD×T6))⊕(LD×(LD×T4))):=
 fun a=>opt.run _ (
 opt.ask _ (p.cmp .gtr a.2.2.2.2.2.1 a.2.2.1) (
 opt.need _ (bif (p.cmp .geq a.2.2.2.2.2.1 (0:Int)) then (p.cmp .lss a.2.2.2.2.2.1 (p.ofNat (p.len a.1))) else Bool.false)<|
 opt.need _ (p.rowOk a.1 (p.add 0 (p.nat a.2.2.2.2.2.1)) [ci])<|
 opt.need _ (bif (p.cmp .geq (p.ar .sub .i64 a.2.2.2.2.2.1 (1:Int)) (0:Int)) then (p.cmp .lss (p.ar .sub .i64 a.2.2.2.2.2.1 (1:Int)) (p.ofNat (p.len a.1))) else Bool.false)<|
 opt.need _ (p.rowOk a.1 (p.add 0 (p.nat (p.ar .sub .i64 a.2.2.2.2.2.1 (1:Int)))) [ci])<|
 opt.need _ (p.rowOk a.2.1 (p.nat (p.rdI a.1 (p.add 0 (p.nat a.2.2.2.2.2.1)) 0)) [ci])<|
 opt.need _ (p.cmp .geq (p.rdI a.1 (p.add 0 (p.nat a.2.2.2.2.2.1)) 0) (0:Int))<|
 opt.need _ (p.rowOk a.2.1 (p.nat (p.rdI a.1 (p.add 0 (p.nat (p.ar .sub .i64 a.2.2.2.2.2.1 (1:Int)))) 0)) [ci])<|
 opt.need _ (p.cmp .geq (p.rdI a.1 (p.add 0 (p.nat (p.ar .sub .i64 a.2.2.2.2.2.1 (1:Int)))) 0) (0:Int))<|
 opt.alt ((LD×(LD×T1))) ((LD×(LD×T15))) _ (
 opt.run (((LD×(LD×T1))⊕(LD×(LD×T15)))) (
 opt.ask _ (p.cmp .neq (p.rdI a.2.1 (p.nat (p.rdI a.1 (p.add 0 (p.nat a.2.2.2.2.2.1)) 0)) 0) (p.rdI a.2.1 (p.nat (p.rdI a.1 (p.add 0 (p.nat a.2.2.2.2.2.1)) 0)) 0)) (
 opt.ask _ (p.cmp .neq (p.rdI a.2.1 (p.nat (p.rdI a.1 (p.add 0 (p.nat (p.ar .sub .i64 a.2.2.2.2.2.1 (1:Int)))) 0)) 0) (p.rdI a.2.1 (p.nat (p.rdI a.1 (p.add 0 (p.nat (p.ar .sub .i64 a.2.2.2.2.2.1 (1:Int)))) 0)) 0)) (
 opt.ret _ (Sum.inl (a.1,(a.2.1,((0:Int),()))))) (
 opt.ret _ (Sum.inl (a.1,(a.2.1,((-1:Int),())))))) (
 opt.ret _ (Sum.inr (a.1,(a.2.1,((p.rdI a.2.1 (p.nat (p.rdI a.1 (p.add 0 (p.nat a.2.2.2.2.2.1)) 0)) 0),((p.rdI a.2.1 (p.nat (p.rdI a.1 (p.add 0 (p.nat (p.ar .sub .i64 a.2.2.2.2.2.1 (1:Int)))) 0)) 0),((p.cmp .neq (p.rdI a.2.1 (p.nat (p.rdI a.1 (p.add 0 (p.nat (p.ar .sub .i64 a.2.2.2.2.2.1 (1:Int)))) 0)) 0) (p.rdI a.2.1 (p.nat (p.rdI a.1 (p.add 0 (p.nat (p.ar .sub .i64 a.2.2.2.2.2.1 (1:Int)))) 0)) 0)),()))))))))) (fun b=>
 opt.ask _ (p.cmp .lss b.2.2.1 (0:Int)) (
 opt.need _ (bif (p.cmp .geq (p.ar .sub .i64 a.2.2.2.2.2.1 (1:Int)) (0:Int)) then (p.cmp .lss (p.ar .sub .i64 a.2.2.2.2.2.1 (1:Int)) (p.ofNat (p.len a.1))) else Bool.false)<|
 opt.need _ (p.rowOk b.1 (p.add 0 (p.nat (p.ar .sub .i64 a.2.2.2.2.2.1 (1:Int)))) [ci])<|
 opt.need _ (bif (p.cmp .geq a.2.2.2.2.2.1 (0:Int)) then (p.cmp .lss a.2.2.2.2.2.1 (p.ofNat (p.len a.1))) else Bool.false)<|
 opt.need _ (p.rowOk b.1 (p.add 0 (p.nat a.2.2.2.2.2.1)) [ci])<|
 opt.need _ (bif (p.cmp .geq a.2.2.2.2.2.1 (0:Int)) then (p.cmp .lss a.2.2.2.2.2.1 (p.ofNat (p.len a.1))) else Bool.false)<|
 opt.need _ (p.rowOk b.1 (p.add 0 (p.nat a.2.2.2.2.2.1)) [ci])<|
 opt.need _ (bif (p.cmp .geq (p.ar .sub .i64 a.2.2.2.2.2.1 (1:Int)) (0:Int)) then (p.cmp .lss (p.ar .sub .i64 a.2.2.2.2.2.1 (1:Int)) (p.ofNat (p.len a.1))) else Bool.false)<|
 opt.need _ (p.rowOk (p.set b.1 (p.add 0 (p.nat a.2.2.2.2.2.1)) [(D.int .i64 (p.rdI b.1 (p.add 0 (p.nat (p.ar .sub .i64 a.2.2.2.2.2.1 (1:Int)))) 0))]) (p.add 0 (p.nat (p.ar .sub .i64 a.2.2.2.2.2.1 (1:Int)))) [ci])<|
 opt.need _ (p.eqN 0 0)<|
 opt.need _ (p.eqN (p.len a.1) (p.len (p.set (p.set b.1 (p.add 0 (p.nat a.2.2.2.2.2.1)) [(D.int .i64 (p.rdI b.1 (p.add 0 (p.nat (p.ar .sub .i64 a.2.2.2.2.2.1 (1:Int)))) 0))]) (p.add 0 (p.nat (p.ar .sub .i64 a.2.2.2.2.2.1 (1:Int)))) [(D.int .i64 (p.rdI b.1 (p.add 0 (p.nat a.2.2.2.2.2.1)) 0))])))<|
 opt.ret _ (Sum.inl ((p.set (p.set b.1 (p.add 0 (p.nat a.2.2.2.2.2.1)) [(D.int .i64 (p.rdI b.1 (p.add 0 (p.nat (p.ar .sub .i64 a.2.2.2.2.2.1 (1:Int)))) 0))]) (p.add 0 (p.nat (p.ar .sub .i64 a.2.2.2.2.2.1 (1:Int)))) [(D.int .i64 (p.rdI b.1 (p.add 0 (p.nat a.2.2.2.2.2.1)) 0))]),(b.2.1,(a.2.2.1,(a.2.2.2.1,(a.2.2.2.2.1,((p.ar .sub .i64 a.2.2.2.2.2.1 (1:Int)),())))))))) (
 opt.need _ (p.eqN 0 0)<|
 opt.need _ (p.eqN (p.len a.1) (p.len b.1))<|
 opt.ret _ (Sum.inr (b.1,(b.2.1,(a.2.2.1,(a.2.2.2.1,(a.2.2.2.2.1,())))))))) (fun c=>
 opt.bnd ((LD×(LD×T15))) _ (some c) fun d=>
 opt.ask _ d.2.2.2.2.1 (
 opt.ask _ (p.cmp .lss (1:Int) (0:Int)) (
 opt.need _ (bif (p.cmp .geq (p.ar .sub .i64 a.2.2.2.2.2.1 (1:Int)) (0:Int)) then (p.cmp .lss (p.ar .sub .i64 a.2.2.2.2.2.1 (1:Int)) (p.ofNat (p.len a.1))) else Bool.false)<|
 opt.need _ (p.rowOk d.1 (p.add 0 (p.nat (p.ar .sub .i64 a.2.2.2.2.2.1 (1:Int)))) [ci])<|
 opt.need _ (bif (p.cmp .geq a.2.2.2.2.2.1 (0:Int)) then (p.cmp .lss a.2.2.2.2.2.1 (p.ofNat (p.len a.1))) else Bool.false)<|
 opt.need _ (p.rowOk d.1 (p.add 0 (p.nat a.2.2.2.2.2.1)) [ci])<|
 opt.need _ (bif (p.cmp .geq a.2.2.2.2.2.1 (0:Int)) then (p.cmp .lss a.2.2.2.2.2.1 (p.ofNat (p.len a.1))) else Bool.false)<|
 opt.need _ (p.rowOk d.1 (p.add 0 (p.nat a.2.2.2.2.2.1)) [ci])<|
 opt.need _ (bif (p.cmp .geq (p.ar .sub .i64 a.2.2.2.2.2.1 (1:Int)) (0:Int)) then (p.cmp .lss (p.ar .sub .i64 a.2.2.2.2.2.1 (1:Int)) (p.ofNat (p.len a.1))) else Bool.false)<|
 opt.need _ (p.rowOk (p.set d.1 (p.add 0 (p.nat a.2.2.2.2.2.1)) [(D.int .i64 (p.rdI d.1 (p.add 0 (p.nat (p.ar .sub .i64 a.2.2.2.2.2.1 (1:Int)))) 0))]) (p.add 0 (p.nat (p.ar .sub .i64 a.2.2.2.2.2.1 (1:Int)))) [ci])<|
 opt.need _ (p.eqN 0 0)<|
 opt.need _ (p.eqN (p.len a.1) (p.len (p.set (p.set d.1 (p.add 0 (p.nat a.2.2.2.2.2.1)) [(D.int .i64 (p.rdI d.1 (p.add 0 (p.nat (p.ar .sub .i64 a.2.2.2.2.2.1 (1:Int)))) 0))]) (p.add 0 (p.nat (p.ar .sub .i64 a.2.2.2.2.2.1 (1:Int)))) [(D.int .i64 (p.rdI d.1 (p.add 0 (p.nat a.2.2.2.2.2.1)) 0))])))<|
 opt.ret _ (Sum.inl ((p.set (p.set d.1 (p.add 0 (p.nat a.2.2.2.2.2.1)) [(D.int .i64 (p.rdI d.1 (p.add 0 (p.nat (p.ar .sub .i64 a.2.2.2.2.2.1 (1:Int)))) 0))]) (p.add 0 (p.nat (p.ar .sub .i64 a.2.2.2.2.2.1 (1:Int)))) [(D.int .i64 (p.rdI d.1 (p.add 0 (p.nat a.2.2.2.2.2.1)) 0))]),(d.2.1,(a.2.2.1,(a.2.2.2.1,(a.2.2.2.2.1,((p.ar .sub .i64 a.2.2.2.2.2.1 (1:Int)),())))))))) (
 opt.need _ (p.eqN 0 0)<|
 opt.need _ (p.eqN (p.len a.1) (p.len d.1))<|
 opt.ret _ (Sum.inr (d.1,(d.2.1,(a.2.2.1,(a.2.2.2.1,(a.2.2.2.2.1,())))))))) (
 opt.ask _ (p.cmp .lss d.2.2.1 d.2.2.2.1) (
 opt.ask _ (p.cmp .lss (-1:Int) (0:Int)) (
 opt.need _ (bif (p.cmp .geq (p.ar .sub .i64 a.2.2.2.2.2.1 (1:Int)) (0:Int)) then (p.cmp .lss (p.ar .sub .i64 a.2.2.2.2.2.1 (1:Int)) (p.ofNat (p.len a.1))) else Bool.false)<|
 opt.need _ (p.rowOk d.1 (p.add 0 (p.nat (p.ar .sub .i64 a.2.2.2.2.2.1 (1:Int)))) [ci])<|
 opt.need _ (bif (p.cmp .geq a.2.2.2.2.2.1 (0:Int)) then (p.cmp .lss a.2.2.2.2.2.1 (p.ofNat (p.len a.1))) else Bool.false)<|
 opt.need _ (p.rowOk d.1 (p.add 0 (p.nat a.2.2.2.2.2.1)) [ci])<|
 opt.need _ (bif (p.cmp .geq a.2.2.2.2.2.1 (0:Int)) then (p.cmp .lss a.2.2.2.2.2.1 (p.ofNat (p.len a.1))) else Bool.false)<|
 opt.need _ (p.rowOk d.1 (p.add 0 (p.nat a.2.2.2.2.2.1)) [ci])<|
 opt.need _ (bif (p.cmp .geq (p.ar .sub .i64 a.2.2.2.2.2.1 (1:Int)) (0:Int)) then (p.cmp .lss (p.ar .sub .i64 a.2.2.2.2.2.1 (1:Int)) (p.ofNat (p.len a.1))) else Bool.false)<|
 opt.need _ (p.rowOk (p.set d.1 (p.add 0 (p.nat a.2.2.2.2.2.1)) [(D.int .i64 (p.rdI d.1 (p.add 0 (p.nat (p.ar .sub .i64 a.2.2.2.2.2.1 (1:Int)))) 0))]) (p.add 0 (p.nat (p.ar .sub .i64 a.2.2.2.2.2.1 (1:Int)))) [ci])<|
 opt.need _ (p.eqN 0 0)<|
 opt.need _ (p.eqN (p.len a.1) (p.len (p.set (p.set d.1 (p.add 0 (p.nat a.2.2.2.2.2.1)) [(D.int .i64 (p.rdI d.1 (p.add 0 (p.nat (p.ar .sub .i64 a.2.2.2.2.2.1 (1:Int)))) 0))]) (p.add 0 (p.nat (p.ar .sub .i64 a.2.2.2.2.2.1 (1:Int)))) [(D.int .i64 (p.rdI d.1 (p.add 0 (p.nat a.2.2.2.2.2.1)) 0))])))<|
 opt.ret _ (Sum.inl ((p.set (p.set d.1 (p.add 0 (p.nat a.2.2.2.2.2.1)) [(D.int .i64 (p.rdI d.1 (p.add 0 (p.nat (p.ar .sub .i64 a.2.2.2.2.2.1 (1:Int)))) 0))]) (p.add 0 (p.nat (p.ar .sub .i64 a.2.2.2.2.2.1 (1:Int)))) [(D.int .i64 (p.rdI d.1 (p.add 0 (p.nat a.2.2.2.2.2.1)) 0))]),(d.2.1,(a.2.2.1,(a.2.2.2.1,(a.2.2.2.2.1,((p.ar .sub .i64 a.2.2.2.2.2.1 (1:Int)),())))))))) (
 opt.need _ (p.eqN 0 0)<|
 opt.need _ (p.eqN (p.len a.1) (p.len d.1))<|
 opt.ret _ (Sum.inr (d.1,(d.2.1,(a.2.2.1,(a.2.2.2.1,(a.2.2.2.2.1,())))))))) (
 opt.ask _ (p.cmp .gtr d.2.2.1 d.2.2.2.1) (
 opt.ask _ (p.cmp .lss (1:Int) (0:Int)) (
 opt.need _ (bif (p.cmp .geq (p.ar .sub .i64 a.2.2.2.2.2.1 (1:Int)) (0:Int)) then (p.cmp .lss (p.ar .sub .i64 a.2.2.2.2.2.1 (1:Int)) (p.ofNat (p.len a.1))) else Bool.false)<|
 opt.need _ (p.rowOk d.1 (p.add 0 (p.nat (p.ar .sub .i64 a.2.2.2.2.2.1 (1:Int)))) [ci])<|
 opt.need _ (bif (p.cmp .geq a.2.2.2.2.2.1 (0:Int)) then (p.cmp .lss a.2.2.2.2.2.1 (p.ofNat (p.len a.1))) else Bool.false)<|
 opt.need _ (p.rowOk d.1 (p.add 0 (p.nat a.2.2.2.2.2.1)) [ci])<|
 opt.need _ (bif (p.cmp .geq a.2.2.2.2.2.1 (0:Int)) then (p.cmp .lss a.2.2.2.2.2.1 (p.ofNat (p.len a.1))) else Bool.false)<|
 opt.need _ (p.rowOk d.1 (p.add 0 (p.nat a.2.2.2.2.2.1)) [ci])<|
 opt.need _ (bif (p.cmp .geq (p.ar .sub .i64 a.2.2.2.2.2.1 (1:Int)) (0:Int)) then (p.cmp .lss (p.ar .sub .i64 a.2.2.2.2.2.1 (1:Int)) (p.ofNat (p.len a.1))) else Bool.false)<|
 opt.need _ (p.rowOk (p.set d.1 (p.add 0 (p.nat a.2.2.2.2.2.1)) [(D.int .i64 (p.rdI d.1 (p.add 0 (p.nat (p.ar .sub .i64 a.2.2.2.2.2.1 (1:Int)))) 0))]) (p.add 0 (p.nat (p.ar .sub .i64 a.2.2.2.2.2.1 (1:Int)))) [ci])<|
 opt.need _ (p.eqN 0 0)<|
 opt.need _ (p.eqN (p.len a.1) (p.len (p.set (p.set d.1 (p.add 0 (p.nat a.2.2.2.2.2.1)) [(D.int .i64 (p.rdI d.1 (p.add 0 (p.nat (p.ar .sub .i64 a.2.2.2.2.2.1 (1:Int)))) 0))]) (p.add 0 (p.nat (p.ar .sub .i64 a.2.2.2.2.2.1 (1:Int)))) [(D.int .i64 (p.rdI d.1 (p.add 0 (p.nat a.2.2.2.2.2.1)) 0))])))<|
 opt.ret _ (Sum.inl ((p.set (p.set d.1 (p.add 0 (p.nat a.2.2.2.2.2.1)) [(D.int .i64 (p.rdI d.1 (p.add 0 (p.nat (p.ar .sub .i64 a.2.2.2.2.2.1 (1:Int)))) 0))]) (p.add 0 (p.nat (p.ar .sub .i64 a.2.2.2.2.2.1 (1:Int)))) [(D.int .i64 (p.rdI d.1 (p.add 0 (p.nat a.2.2.2.2.2.1)) 0))]),(d.2.1,(a.2.2.1,(a.2.2.2.1,(a.2.2.2.2.1,((p.ar .sub .i64 a.2.2.2.2.2.1 (1:Int)),())))))))) (
 opt.need _ (p.eqN 0 0)<|
 opt.need _ (p.eqN (p.len a.1) (p.len d.1))<|
 opt.ret _ (Sum.inr (d.1,(d.2.1,(a.2.2.1,(a.2.2.2.1,(a.2.2.2.2.1,())))))))) (
 opt.ask _ (p.cmp .lss (0:Int) (0:Int)) (
 opt.need _ (bif (p.cmp .geq (p.ar .sub .i64 a.2.2.2.2.2.1 (1:Int)) (0:Int)) then (p.cmp .lss (p.ar .sub .i64 a.2.2.2.2.2.1 (1:Int)) (p.ofNat (p.len a.1))) else Bool.false)<|
 opt.need _ (p.rowOk d.1 (p.add 0 (p.nat (p.ar .sub .i64 a.2.2.2.2.2.1 (1:Int)))) [ci])<|
 opt.need _ (bif (p.cmp .geq a.2.2.2.2.2.1 (0:Int)) then (p.cmp .lss a.2.2.2.2.2.1 (p.ofNat (p.len a.1))) else Bool.false)<|
 opt.need _ (p.rowOk d.1 (p.add 0 (p.nat a.2.2.2.2.2.1)) [ci])<|
 opt.need _ (bif (p.cmp .geq a.2.2.2.2.2.1 (0:Int)) then (p.cmp .lss a.2.2.2.2.2.1 (p.ofNat (p.len a.1))) else Bool.false)<|
 opt.need _ (p.rowOk d.1 (p.add 0 (p.nat a.2.2.2.2.2.1)) [ci])<|
 opt.need _ (bif (p.cmp .geq (p.ar .sub .i64 a.2.2.2.2.2.1 (1:Int)) (0:Int)) then (p.cmp .lss (p.ar .sub .i64 a.2.2.2.2.2.1 (1:Int)) (p.ofNat (p.len a.1))) else Bool.false)<|
 opt.need _ (p.rowOk (p.set d.1 (p.add 0 (p.nat a.2.2.2.2.2.1)) [(D.int .i64 (p.rdI d.1 (p.add 0 (p.nat (p.ar .sub .i64 a.2.2.2.2.2.1 (1:Int)))) 0))]) (p.add 0 (p.nat (p.ar .sub .i64 a.2.2.2.2.2.1 (1:Int)))) [ci])<|
 opt.need _ (p.eqN 0 0)<|
 opt.need _ (p.eqN (p.len a.1) (p.len (p.set (p.set d.1 (p.add 0 (p.nat a.2.2.2.2.2.1)) [(D.int .i64 (p.rdI d.1 (p.add 0 (p.nat (p.ar .sub .i64 a.2.2.2.2.2.1 (1:Int)))) 0))]) (p.add 0 (p.nat (p.ar .sub .i64 a.2.2.2.2.2.1 (1:Int)))) [(D.int .i64 (p.rdI d.1 (p.add 0 (p.nat a.2.2.2.2.2.1)) 0))])))<|
 opt.ret _ (Sum.inl ((p.set (p.set d.1 (p.add 0 (p.nat a.2.2.2.2.2.1)) [(D.int .i64 (p.rdI d.1 (p.add 0 (p.nat (p.ar .sub .i64 a.2.2.2.2.2.1 (1:Int)))) 0))]) (p.add 0 (p.nat (p.ar .sub .i64 a.2.2.2.2.2.1 (1:Int)))) [(D.int .i64 (p.rdI d.1 (p.add 0 (p.nat a.2.2.2.2.2.1)) 0))]),(d.2.1,(a.2.2.1,(a.2.2.2.1,(a.2.2.2.2.1,((p.ar .sub .i64 a.2.2.2.2.2.1 (1:Int)),())))))))) (
 opt.need _ (p.eqN 0 0)<|
 opt.need _ (p.eqN (p.len a.1) (p.len d.1))<|
 opt.ret _ (Sum.inr (d.1,(d.2.1,(a.2.2.1,(a.2.2.2.1,(a.2.2.2.2.1,())))))))))))) (
 opt.need _ (p.eqN 0 0)<|
 opt.need _ (p.eqN (p.len a.1) (p.len a.1))<|
 opt.ret _ (Sum.inr (a.1,(a.2.1,(a.2.2.1,(a.2.2.2.1,(a.2.2.2.2.1,()))))))))
def x30 (it:It) (p:Prim):(LD×(LD×T4))→Option ((LD×(LD×T4))⊕(LD×(LD×Unit))):=
 fun a=>opt.run _ (
 opt.ask _ (p.cmp .lss a.2.2.2.2.1 a.2.2.2.1) (
 opt.need _ (p.eqN 0 0)<|
 opt.need _ (p.eqN (p.len a.1) (p.len a.1))<|
 opt.bnd ((LD×(LD×T4))) _ (
 it _ _ (w3g p) (a.1,(a.2.1,(a.2.2.1,(a.2.2.2.1,(a.2.2.2.2.1,(a.2.2.2.2.1,()))))))) fun b=>
 opt.need _ (p.eqN 0 0)<|
 opt.need _ (p.eqN (p.len b.1) (p.len b.1))<|
 opt.ret _ (Sum.inl (b.1,(b.2.1,(b.2.2.1,(b.2.2.2.1,((p.ar .add .i64 b.2.2.2.2.1 (1:Int)),()))))))) (
 opt.ret _ (Sum.inr (a.1,(a.2.1,())))))
def w16 (it:It):(p:Prim)→(LD×(LD×T3))→Option ((LD×(LD×Unit))):=
 fun p x=>
 opt.need _ (p.eqN 0 0)<|
 opt.need _ (p.eqN (p.len x.1) (p.len x.1))<|
 opt.bnd ((LD×(LD×Unit))) _ (
 it _ _ (x30 it p) (x.1,(x.2.1,(x.2.2.1,(x.2.2.2.1,((p.ar .add .i64 x.2.2.1 (1:Int)),())))))) fun a=>
 opt.ret _ (a.1,(a.2.1,()))
def w9l:=w16 it0
theorem w46:CtrOk PG x7o (w9l std):=okF (a:=w8k) (l:=w5x) (gN) (by kernel_rfl) fun _ _=>by kernel_rfl
def w2j:Ctr:=
 ⟨86,[.vec 0 1, .int .i64, .clo 88 [] [.bptr 1 0]],[.row [ci], .box [.list 1]],[(.ret,⟨[(0, .tuple [])],[.row [ci], .box [.list 1]],1⟩)]⟩
def la86:List LA:=
 [⟨86,[false,false,true,true],2,⟨⟨[(0, .vec 0 1),(1, .int .i64),(2, .clo 88 [] [.bptr 1 0]),(6, .int .i64),(7, .int .i64),(8, .int .i64)],[.row [ci], .box [.list 1]],63⟩,[((AX.exit 0),⟨[(0, .vec 0 1),(1, .int .i64),(2, .clo 88 [] [.bptr 1 0]),(6, .int .i64),(7, .int .i64)],[.row [ci], .box [.list 1]],63⟩)]⟩⟩,
 ⟨86,[false,true,true,true,true],2,⟨⟨[(0, .vec 0 1),(1, .int .i64),(2, .clo 88 [] [.bptr 1 0]),(6, .int .i64)],[.row [ci], .box [.list 1]],63⟩,[((AX.exit 2),⟨[],[.row [ci], .box [.list 1]],63⟩)]⟩⟩,
 ⟨86,[false,false,true,false,true,false,false,true,true,true,true],2,⟨⟨[(0, .vec 0 1),(1, .int .i64),(2, .clo 88 [] [.bptr 1 0]),(6, .int .i64),(7, .int .i64),(8, .int .i64)],[.row [ci], .box [.list 1]],63⟩,[((AX.exit 4),⟨[(0, .vec 0 1),(1, .int .i64),(2, .clo 88 [] [.bptr 1 0]),(6, .int .i64),(7, .int .i64)],[.row [ci], .box [.list 1]],63⟩)]⟩⟩]
def ja86:List JA:=
 []
def w6j:List CF:=
 [⟨y9u,w9s⟩,⟨x7o,w9l⟩]
def an86:Anns:=
 ⟨w6j,ja86,[]⟩
def w7u (p:Prim):(LD×(LD×T6))→Option ((LD×(LD×T6))⊕(LD×(LD×T4))):=
 fun a=>opt.run _ (
 opt.ask _ (p.cmp .leq a.2.2.2.2.2.1 a.2.2.1) (
 opt.need _ (p.eqN 0 0)<|
 opt.need _ (p.eqN (p.len a.1) (p.len a.1))<|
 opt.no _ 81) (
 opt.need _ (p.eqN 0 0)<|
 opt.need _ (p.eqN (p.len a.1) (p.len a.1))<|
 opt.ret _ (Sum.inr (a.1,(a.2.1,(a.2.2.1,(a.2.2.2.1,(a.2.2.2.2.1,()))))))))
def x97 (it:It) (p:Prim):(LD×(LD×T3))→Option ((LD×(LD×T3))⊕(LD×(LD×Unit))):=
 fun a=>opt.run _ (
 opt.ask _ (p.cmp .lss a.2.2.2.1 a.2.2.1) (
 opt.need _ (p.eqN 0 0)<|
 opt.need _ (p.eqN (p.len a.1) (p.len a.1))<|
 opt.bnd ((LD×(LD×T4))) _ (
 it _ _ (w7u p) (a.1,(a.2.1,(a.2.2.1,(a.2.2.2.1,((0:Int),((p.ar .mul .i64 (2:Int) a.2.2.2.1),()))))))) fun b=>
 opt.ask _ (p.cmp .lss (p.ar .add .i64 b.2.2.2.2.1 b.2.2.2.1) b.2.2.1) (
 opt.need _ (p.eqN 0 0)<|
 opt.need _ (p.eqN (p.len b.1) (p.len b.1))<|
 opt.no _ 81) (
 opt.need _ (p.eqN 0 0)<|
 opt.need _ (p.eqN (p.len b.1) (p.len b.1))<|
 opt.ret _ (Sum.inl (b.1,(b.2.1,(b.2.2.1,((p.ar .mul .i64 b.2.2.2.1 (2:Int)),()))))))) (
 opt.ret _ (Sum.inr (a.1,(a.2.1,())))))
def x98 (it:It) (p:Prim):(LD×(LD×T6))→Option ((LD×(LD×T6))⊕(LD×(LD×T4))):=
 fun a=>opt.run _ (
 opt.ask _ (p.cmp .leq a.2.2.2.2.2.1 a.2.2.1) (
 opt.need _ (p.eqN 0 0)<|
 opt.need _ (p.eqN (p.len a.1) (p.len a.1))<|
 opt.bnd ((LD×(LD×Unit))) _ (w16 it p (a.1,(a.2.1,(a.2.2.2.2.1,(a.2.2.2.2.2.1,()))))) fun b=>
 opt.need _ (p.eqN 0 0)<|
 opt.need _ (p.eqN (p.len a.1) (p.len b.1))<|
 opt.ret _ (Sum.inl (b.1,(b.2.1,(a.2.2.1,(a.2.2.2.1,(a.2.2.2.2.2.1,((p.ar .add .i64 a.2.2.2.2.2.1 a.2.2.2.1),())))))))) (
 opt.need _ (p.eqN 0 0)<|
 opt.need _ (p.eqN (p.len a.1) (p.len a.1))<|
 opt.ret _ (Sum.inr (a.1,(a.2.1,(a.2.2.1,(a.2.2.2.1,(a.2.2.2.2.1,()))))))))
def g86 (it:It):(p:Prim)→(LD×(LD×T1))→Option ((LD×(LD×Unit))):=
 fun p x=>
 opt.need _ (p.eqN 0 0)<|
 opt.need _ (p.eqN (p.len x.1) (p.len x.1))<|
 opt.bnd ((LD×(LD×T4))) _ (
 it _ _ (x98 it p) (x.1,(x.2.1,(x.2.2.1,((20:Int),((0:Int),((20:Int),()))))))) fun a=>
 opt.need _ (p.eqN 0 0)<|
 opt.need _ (p.eqN (p.len a.1) (p.len a.1))<|
 opt.bnd ((LD×(LD×Unit))) _ (w16 it p (a.1,(a.2.1,(a.2.2.2.2.1,(a.2.2.1,()))))) fun b=>
 opt.need _ (p.eqN 0 0)<|
 opt.need _ (p.eqN (p.len a.1) (p.len b.1))<|
 opt.bnd ((LD×(LD×Unit))) _ (
 it _ _ (x97 it p) (b.1,(b.2.1,(a.2.2.1,(a.2.2.2.1,()))))) fun c=>
 opt.ret _ (c.1,(c.2.1,()))
def G86:=g86 it0
theorem ok86:CtrOk PG w2j (G86 std):=okF (a:=an86) (l:=la86) (gC w45 (gC w46 (gN))) (by kernel_rfl) fun _ _=>by kernel_rfl
def w2m:Ctr:=
 ⟨66,[.vec 0 1, .clo 88 [] [.bptr 1 0]],[.row [ci], .box [.list 1]],[(.ret,⟨[(0, .tuple [])],[.row [ci], .box [.list 1]],1⟩)]⟩
def la66:List LA:=
 []
def ja66:List JA:=
 []
def w6p:List CF:=
 [⟨w2j,G86⟩]
def an66:Anns:=
 ⟨w6p,ja66,[]⟩
def g66 (it:It):(p:Prim)→(LD×(LD×Unit))→Option ((LD×(LD×Unit))):=
 fun p x=>
 opt.need _ (p.eqN 0 0)<|
 opt.need _ (p.eqN (p.len x.1) (p.len x.1))<|
 opt.bnd ((LD×(LD×Unit))) _ (g86 it p (x.1,(x.2.1,((p.ofNat (p.len x.1)),())))) fun a=>
 opt.ret _ (a.1,(a.2.1,()))
def G66:=g66 it0
theorem ok66:CtrOk PG w2m (G66 std):=okF (a:=an66) (l:=la66) (gC ok86 (gN)) (by kernel_rfl) fun _ _=>by kernel_rfl
def x9y:Ctr:=
 ⟨71,[.list 1],[],[(.ret,⟨[(0, .vec 0 1)],[.row [ci]],1⟩)]⟩
def la71:List LA:=
 [⟨71,[false,true,false,true,true],0,⟨⟨[(1, .bptr 0 0),(3, .vec 1 1),(6, .int .i64),(7, .int .i64)],[.box [.list 1], .row [ci]],19⟩,[((AX.exit 0),⟨[(1, .bptr 0 0),(3, .vec 1 1)],[.box [.list 1], .row [ci]],19⟩)]⟩⟩]
def ja71:List JA:=
 []
def w6n:List CF:=
 [⟨w2m,G66⟩]
def an71:Anns:=
 ⟨w6n,ja71,[]⟩
def w7x (p:Prim):(LD×(LD×T3))→Option ((LD×(LD×T3))⊕(LD×(LD×Unit))):=
 fun a=>opt.run _ (
 opt.ask _ (p.cmp .lss a.2.2.2.1 a.2.2.1) (
 opt.need _ (p.and (p.leN (p.add 0 1) (p.len [[(D.int .i64 a.2.2.2.1)]])) (p.and (p.leN (p.add 0 (p.len a.1)) (p.len a.1)) (p.and (p.leN 1 1) (p.leN (p.add (p.len a.1) 1) 1000000))))<|
 opt.need _ (p.eqN 0 0)<|
 opt.need _ (p.eqN (p.add (p.len a.1) 1) (p.len (p.app (p.cut a.1 0 (p.len a.1)) (p.cut [[(D.int .i64 a.2.2.2.1)]] 0 1))))<|
 opt.ret _ (Sum.inl ((p.app (p.cut a.1 0 (p.len a.1)) (p.cut [[(D.int .i64 a.2.2.2.1)]] 0 1)),(a.2.1,(a.2.2.1,((p.ar .add .i64 a.2.2.2.1 (1:Int)),())))))) (
 opt.need _ (p.eqN 0 0)<|
 opt.need _ (p.eqN (p.len a.1) (p.len a.1))<|
 opt.ret _ (Sum.inr (a.1,(a.2.1,())))))
def g71 (it:It):(p:Prim)→(LD×Unit)→Option ((LD×Unit)):=
 fun p x=>
 opt.bnd ((LD×(LD×Unit))) _ (
 it _ _ (w7x p) ([],(x.1,((p.ofNat (p.len x.1)),((0:Int),()))))) fun a=>
 opt.need _ (p.eqN 0 0)<|
 opt.need _ (p.eqN (p.len a.1) (p.len a.1))<|
 opt.bnd ((LD×(LD×Unit))) _ (g66 it p (a.1,(a.2.1,()))) fun b=>
 opt.need _ (p.eqN 0 0)<|
 opt.need _ (p.eqN (p.len a.1) (p.len b.1))<|
 opt.ret _ (b.1,())
def G71:=g71 it0
theorem w8u:CtrOk PG x9y (G71 std):=okF (a:=an71) (l:=la71) (gC ok66 (gN)) (by kernel_rfl) fun _ _=>by kernel_rfl
end Go.Am
end
noncomputable section
namespace Go.Am
def x9x:Ctr:=
 ⟨73,[.clo 90 [] [.bptr 0 0]],[.box [.sl 1 1], .row [ci]],[(.ret,⟨[(0, .vec 2 1)],[.box [.sl 1 1], .row [ci], .row [ci]],1⟩)]⟩
def la73:List LA:=
 [⟨90,[false,true],4,⟨⟨[(0, .yld 3),(5, .sl 1 1),(6, .int .i64),(7, .int .i64)],[.box [.sl 1 1], .row [ci], .box [.vec 4 1], .loop Go.LoopState.ready Option.none 106 [Bool.false,Bool.true,Bool.false,Bool.true] 13 [(6, .clo 90 [] [.bptr 0 0]),(2, .bptr 2 0)], .row [ci]],16⟩,[((AX.exit 0),⟨[],[.box [.sl 1 1], .row [ci], .box [.vec 4 1], .loop Go.LoopState.ready Option.none 106 [Bool.false,Bool.true,Bool.false,Bool.true] 13 [(6, .clo 90 [] [.bptr 0 0]),(2, .bptr 2 0)], .row [ci]],16⟩)]⟩⟩]
def ja73:List JA:=
 []
def w6l:List CF:=
 [⟨x7m,w9k⟩]
def an73:Anns:=
 ⟨w6l,ja73,[]⟩
def w7v (p:Prim):(LD×(LD×T16))→Option ((LD×(LD×T16))⊕(LD×(LD×T5))):=
 fun a=>opt.run _ (
 opt.ask _ (p.cmp .lss a.2.2.2.2.2.2.2.1 a.2.2.2.2.2.2.1) (
 opt.need _ (bif (p.cmp .geq a.2.2.2.2.2.2.2.1 (0:Int)) then (p.cmp .lss a.2.2.2.2.2.2.2.1 (p.ofNat a.2.2.2.2.2.1)) else Bool.false)<|
 opt.need _ (p.rowOk a.1 (p.add a.2.2.2.2.1 (p.nat a.2.2.2.2.2.2.2.1)) [ci])<|
 opt.need _ (p.and (p.leN (p.add 0 1) (p.len [[(D.int .i64 (p.rdI a.1 (p.add a.2.2.2.2.1 (p.nat a.2.2.2.2.2.2.2.1)) 0))]])) (p.and (p.leN (p.add 0 (p.len a.2.1)) (p.len a.2.1)) (p.and (p.leN 1 1) (p.leN (p.add (p.len a.2.1) 1) 1000000))))<|
 opt.need _ (p.eqN 0 0)<|
 opt.need _ (p.eqN (p.add (p.len a.2.1) 1) (p.len (p.app (p.cut a.2.1 0 (p.len a.2.1)) (p.cut [[(D.int .i64 (p.rdI a.1 (p.add a.2.2.2.2.1 (p.nat a.2.2.2.2.2.2.2.1)) 0))]] 0 1))))<|
 opt.ret _ (Sum.inl (a.1,((p.app (p.cut a.2.1 0 (p.len a.2.1)) (p.cut [[(D.int .i64 (p.rdI a.1 (p.add a.2.2.2.2.1 (p.nat a.2.2.2.2.2.2.2.1)) 0))]] 0 1)),(a.2.2.1,(a.2.2.2.1,(a.2.2.2.2.1,(a.2.2.2.2.2.1,(a.2.2.2.2.2.2.1,((p.ar .add .i64 a.2.2.2.2.2.2.2.1 (1:Int)),())))))))))) (
 opt.need _ (p.eqN 0 0)<|
 opt.need _ (p.eqN (p.len a.2.1) (p.len a.2.1))<|
 opt.ret _ (Sum.inr (a.1,(a.2.1,(a.2.2.1,(a.2.2.2.1,())))))))
def g73 (it:It):(p:Prim)→(LD×T5)→Option ((LD×(LD×T5))):=
 fun p x=>
 opt.bnd ((LD×(LD×T5))) _ (
 it _ _ (w7v p) (x.1,([],(x.2.1,(x.2.2.1,(x.2.1,(x.2.2.1,((p.ofNat x.2.2.1),((0:Int),()))))))))) fun a=>
 opt.need _ (p.eqN 0 0)<|
 opt.need _ (p.eqN (p.len a.2.1) (p.len a.2.1))<|
 opt.bnd ((LD×Unit)) _ (w4c it p (a.2.1,())) fun b=>
 opt.need _ (p.eqN 0 0)<|
 opt.need _ (p.eqN (p.len a.2.1) (p.len b.1))<|
 opt.ret _ (a.1,(b.1,(a.2.2.1,(a.2.2.2.1,()))))
def G73:=g73 it0
theorem w8t:CtrOk PG x9x (G73 std):=okF (a:=an73) (l:=la73) (gC w40 (gN)) (by kernel_rfl) fun _ _=>by kernel_rfl
end Go.Am
end
section
namespace Go.Am
open T11
theorem z3s {l:List Int} {q:Nat} (h:q<l.length):l[q]?=some (gI l q):=by
 rw [gI,List.getD_eq_getElem?_getD,List.getElem?_eq_getElem h]; rfl
theorem y52 (x:Int):[D.int IntKind.i64 x]=eI x:=rfl
theorem w1l (l:List Int) (j:Nat):(sw l j).map eI=((l.map eI).set (j+1) (eI (gI l j))).set j (eI (gI l (j+1))):=by
 simp [sw,List.map_set]
theorem x7v (x y:Int):G98 std (x,(y,()))=some (decide (x<y),()):=by
 unfold G98
 simp only [z1g,z1h,eq_self,not_true,not_false_eq_true,decide_true,decide_false,Bool.not_true,Bool.not_false,Int.reduceLT,Int.reduceNeg,Int.reduceGT,cond_true,cond_false]
theorem y0w {j:Nat} (h:j≤1000000):IntKind.i64.wrap (((j+1:Nat):Int) - 1)=(j:Int):=by rw [x1f]<;>omega
theorem x32 (b i:Int):∀ (j:Nat) (l:List Int),j<l.length→l.length≤1000→
  z54 (z84 std) (z0x l,((0:Int),(b,(i,((j:Int),())))))=some (z0x (x0t id j l),((0:Int),(b,(i,())))):=by
 intro j
 induction j with
 |zero=>
  intro l hj hl
  have:z84 std (z0x l,((0:Int),(b,(i,(((0:Nat):Int),())))))=some (.inr (z0x l,((0:Int),(b,(i,()))))):=by
   have hn:¬ ((0:Nat):Int)>0:=by omega
   simp only [z84,z1g,z1h,hn]
  rw [z13,this]; rfl
 |succ j ih=>
  intro l hj hl
  have hx:=z3s hj
  have hy:=z3s (l:=l) (q:=j) (by omega)
  have hw:=y0w (j:=j) (by omega)
  have hg:((j+1:Nat):Int)>0:=by omega
  have hsj:((l.map eI).set (j+1) (eI (gI l j)))[j]?=some (eI (gI l j)):=by rw [List.getElem?_set_ne (by omega),List.getElem?_map,hy]; rfl
  have h0:((j+1:Nat):Int)≥0:=by omega
  have h1:((j+1:Nat):Int)<(l.length:Int):=by omega
  have h2:(j:Int)≥0:=by omega
  have h3:(j:Int)<(l.length:Int):=by omega
  by_cases hlt:gI l (j+1)<gI l j
  ·have hb:z84 std (z0x l,((0:Int),(b,(i,(((j+1:Nat):Int),())))))=some (.inl (z0x (sw l j),((0:Int),(b,(i,((j:Int),())))))):=by
    simp only [z84,x7v,z1g,z1h,z0x,z0j,z1m,z2l,z0r,z0o,z3d,hg,h0,h1,h2,h3,hw,hx,hy,hlt,y52,w1l,hsj,List.length_set]
   rw [z13,hb,x0t,if_pos (show id (gI l (j+1))<id (gI l j) from hlt)]
   exact ih (sw l j) (by rw [y03]; omega) (by rw [y03]; exact hl)
  ·have hb:z84 std (z0x l,((0:Int),(b,(i,(((j+1:Nat):Int),())))))=some (.inr (z0x l,((0:Int),(b,(i,()))))):=by
    simp only [z84,x7v,z1g,z1h,z0x,z0j,z1m,z2l,z0r,z0o,z3d,hg,h0,h1,h2,h3,hw,hx,hy,hlt,y52,List.length_set]
   rw [z13,hb,x0t,if_neg (show ¬ id (gI l (j+1))<id (gI l j) from hlt)]
theorem x3w (n:Nat):∀ (k i:Nat) (l:List Int),l.length=n→n≤1000→i+k=n→
  z54 (z6m it0 std) (z0x l,((0:Int),((n:Int),((i:Int),()))))=some (z0x (x2n id k i l),()):=by
 intro k
 induction k with
 |zero=>
  intro i l hl hn hi
  have:z6m it0 std (z0x l,((0:Int),((n:Int),((i:Int),()))))=some (.inr (z0x l,())):=by
   have hn:¬ (i:Int)<n:=by omega
   simp only [z6m,z1g,z1h,hn]
  rw [z13,this]; rfl
 |succ k ih=>
  intro i l hl hn hi
  have hw:=z1n (i:=i) (by omega)
  have hlt:(i:Int)<n:=by omega
  have h1:it0 _ _ (z84 std) (z0x l,((0:Int),((n:Int),((i:Int),((i:Int),())))))=_:=x32 n i i l (by omega) (by omega)
  have:z6m it0 std (z0x l,((0:Int),((n:Int),((i:Int),()))))=some (.inl (z0x (x0t id i l),((0:Int),((n:Int),(((i+1:Nat):Int),()))))):=by
   simp only [z6m,z1g,z1h,hlt,h1,z0h,hw]
  rw [z13,this,x2n]
  exact ih (i+1) _ (by rw [y0l]; exact hl) hn (by omega)
theorem x9h (l:List Int) (hl:l.length≤1000):x9i it0 std (z0x l,((0:Int),((l.length:Int),())))=some (z0x (z3j id l),()):=by
 have hw:IntKind.i64.wrap ((0:Int)+1)=((1:Nat):Int):=by decide
 cases hn:l.length with
 |zero=>
  have e:l=[]:=List.length_eq_zero_iff.1 hn
  subst e
  have hb:z6m it0 std (z0x [],((0:Int),(((0:Nat):Int),(((1:Nat):Int),()))))=some (.inr (z0x [],())):=by
   have hn:¬ ((1:Nat):Int)<((0:Nat):Int):=by omega
   simp only [z6m,z1g,z1h,hn]
  have h1:it0 _ _ (z6m it0 std) (z0x [],((0:Int),(((0:Nat):Int),(((1:Nat):Int),()))))=some (z0x [],()):=by
   show z54 _ _=_
   rw [z13,hb]
  simp only [x9i,z1g,z1h,z0h,hw,h1]
  rfl
 |succ n=>
  have h1:it0 _ _ (z6m it0 std) (z0x l,((0:Int),(((n+1:Nat):Int),(((1:Nat):Int),()))))=_:=x3w (n+1) n 1 l hn (by omega) (by omega)
  have e:z3j id l=x2n id n 1 l:=by rw [z3j,hn]; rfl
  simp only [x9i,z1g,z1h,z0h,hw,h1,e]
theorem x61 (n:Nat) (h:n≤12):∃ y,G83 std (IntKind.u64.wrap (n:Int),())=some y:=by
 have hs:n=0∨n=1∨n=2∨n=3∨n=4∨n=5∨n=6∨n=7∨n=8∨n=9∨n=10∨n=11∨n=12:=by omega
 rcases hs with h|h|h|h|h|h|h|h|h|h|h|h|h<;>rw [h]<;>exact ⟨_,rfl⟩
theorem w0j (l:List Int) (hl:l.length≤12):w4e std (z0x l,())=some (z0x (z3j id l),()):=by
 obtain ⟨y,hy⟩:=x61 l.length hl
 have h92:=x9h l (by omega)
 have hw:IntKind.i64.wrap ((l.length:Int) - 0)=(l.length:Int):=by rw [x1f]<;>omega
 have h12:(l.length:Int)≤12:=by omega
 have hb:∀ q:Int,it0 _ _ (y6w it0 std) (z0x l,((0:Int),((l.length:Int),(q,(true,(true,()))))))=some (z0x (z3j id l),()):=by
  intro q
  show z54 _ _=_
  rw [z13]
  simp only [y6w,z1g,z1h,z3d,hw,h12,h92]
 unfold w4e
 simp only [x9j,w13,z1g,z1h,z1u,hy,hb]
def key (w:List Int) (x:Int):Int:=gI w x.toNat
def x7u (n:Nat):List Int:=(List.range n).map fun (i:Nat)=>(i:Int)
theorem x35 (n:Nat):x7u (n+1)=x7u n++[(n:Int)]:=by simp [x7u,List.range_succ]
end Go.Am
end
section
namespace Go.Am
open T11
variable {fl:List Int→Bool}
theorem z8z {d:List (List Int)} (h:z10 d=0):1≤d.length∧d.length≤10:=by
 refine ⟨Nat.le_of_not_lt fun h'=>?_,Nat.le_of_not_lt fun h'=>?_⟩
 ·rw [z10,if_pos (.inl (by omega))] at h; exact absurd h (by decide)
 ·rw [z10,if_pos (.inr h')] at h; exact absurd h (by decide)
theorem x50 {d:List (List Int)} (h:z10 d=0):∀ i,i<d.length→z1x (d.getD i []) d.length:=by
 have hl:=z8z h
 rw [z10,if_neg (by omega)] at h
 by_cases a:∃ i∈List.range d.length,¬ z1x (d.getD i []) d.length
 ·rw [if_pos a] at h; exact absurd h (by decide)
 ·intro i hi
  exact Classical.byContradiction fun hn=>a ⟨i,List.mem_range.2 hi,hn⟩
theorem x3h {d:List (List Int)} (h:z10 d=0):w9c (bt d) d.length:=by
 have hl:=z8z h
 have hr:=x50 h
 rw [z10,if_neg (by omega)] at h
 rw [if_neg (by rintro ⟨i,hi,hn⟩; exact hn (hr i (List.mem_range.1 hi)))] at h
 by_cases a:∃ i∈List.range d.length,z7q d i
 ·rw [if_pos a] at h; exact absurd h (by decide)
 have hno:∀ i,i<d.length→¬ z7q d i:=fun i hi hb=>a ⟨i,List.mem_range.2 hi,hb⟩
 have h1:∀ i k,i<d.length→k<i→bt d i k=!bt d k i:=by
  intro i k hi hk
  have:=hno i hi
  have h2:¬ decide ((i:Int)∈d.getD k [])=decide ((k:Int)∈d.getD i []):=fun e=>this (.inr ⟨k,List.mem_range.2 hk,e⟩)
  rw [bt,bt]
  cases h3:decide ((i:Int)∈d.getD k [])<;>cases h4:decide ((k:Int)∈d.getD i [])<;>rw [h3,h4] at h2
  ·exact absurd rfl h2
  ·rfl
  ·rfl
  ·exact absurd rfl h2
 refine ⟨fun i hi=>?_,fun i k hi hk hne=>?_⟩
 ·rw [bt]; exact decide_eq_false fun hm=>hno i hi (.inl hm)
 ·by_cases hlt:k<i
  ·exact h1 i k hi hlt
  ·rw [h1 k i hk (by omega),Bool.not_not]
theorem w0x {l:List Int} {n:Int} (h:z1x l n):l.Pairwise (· < ·):=by
 have hstep:∀ i,i+1<l.length→gI l i<gI l (i+1):=fun i hi=>by
  have:=(h (i+1) hi).2.2 (by omega)
  rwa [Nat.add_sub_cancel] at this
 have hall:∀ k i,i+k+1<l.length→gI l i<gI l (i+k+1):=by
  intro k
  induction k with
  |zero=>intro i hi; exact hstep i hi
  |succ k ih=>
   intro i hi
   have h1:=ih i (by omega)
   have h2:=hstep (i+k+1) (by omega)
   rw [show i+(k+1)+1=i+k+1+1 by omega]
   omega
 rw [List.pairwise_iff_getElem]
 intro i j hi hj hij
 have:=hall (j - i - 1) i (by omega)
 rw [show i+(j - i - 1)+1=j by omega] at this
 simpa [gI,List.getD_eq_getElem?_getD,hi,hj] using this
theorem x8c {l:List Int} {n:Int} (h:z1x l n) {x:Int} (hx:x∈l):0≤x∧x<n:=by
 obtain ⟨i,hi⟩:=List.getElem?_of_mem hx
 have:=h i (List.getElem?_eq_some_iff.1 hi).1
 rw [z73,z1q hi] at this
 exact ⟨this.1,this.2.1⟩
end Go.Am
end
noncomputable section
namespace Go.Am
def x94:Ctr:=
 ⟨24,[.list 1, .list 1],[],[(.ret,⟨[(0, .int .i64)],[],1⟩)]⟩
def la24:List LA:=
 [⟨24,[false,true,false,true,true,true,true,true,true,true],0,⟨⟨[(1, .list 1),(5, .bptr 0 0),(8, .int .i64)],[.row [ci]],59⟩,[(AX.ret,⟨[(4, .int .i64)],[],59⟩),((AX.exit 1),⟨[],[],59⟩)]⟩⟩]
def ja24:List JA:=
 [⟨24,[true,false,false,true,true],0,[(AX.ret,⟨[(4, .int .i64)],[],59⟩),(AX.normal,⟨[(1, .list 1),(5, .bptr 0 0)],[.row [ci]],59⟩)]⟩]
def w7e:List CF:=
 [⟨x58,G56⟩,⟨x7n,w4e⟩,⟨x59,G54⟩]
def an24:Anns:=
 ⟨w7e,ja24,[]⟩
def y8h (p:Prim):(LD×(LD×T1))→Option ((LD×(LD×T1))⊕T14):=
 fun a=>opt.run _ (
 opt.ask _ (p.cmp .lss a.2.2.1 (p.ofNat (p.len a.2.1))) (
 opt.need _ (p.rowOk a.2.1 (p.nat (p.ar .sub .i64 a.2.2.1 (1:Int))) [ci])<|
 opt.need _ (p.cmp .geq (p.ar .sub .i64 a.2.2.1 (1:Int)) (0:Int))<|
 opt.need _ (p.rowOk a.2.1 (p.nat a.2.2.1) [ci])<|
 opt.need _ (p.cmp .geq a.2.2.1 (0:Int))<|
 opt.need _ (bif (p.cmp .geq (p.rdI a.2.1 (p.nat (p.ar .sub .i64 a.2.2.1 (1:Int))) 0) (0:Int)) then (p.cmp .lss (p.rdI a.2.1 (p.nat (p.ar .sub .i64 a.2.2.1 (1:Int))) 0) (p.ofNat 10)) else Bool.false)<|
 opt.need _ (bif (p.cmp .geq (p.rdI a.2.1 (p.nat a.2.2.1) 0) (0:Int)) then (p.cmp .lss (p.rdI a.2.1 (p.nat a.2.2.1) 0) (p.ofNat 10)) else Bool.false)<|
 opt.need _ (p.rowOk a.1 (p.add (p.add 1 (p.mul (p.nat (p.rdI a.2.1 (p.nat (p.ar .sub .i64 a.2.2.1 (1:Int))) 0)) 10)) (p.nat (p.rdI a.2.1 (p.nat a.2.2.1) 0))) [ci])<|
 opt.ask _ (bif (p.cmp .eql (p.rdI a.1 (p.add (p.add 1 (p.mul (p.nat (p.rdI a.2.1 (p.nat (p.ar .sub .i64 a.2.2.1 (1:Int))) 0)) 10)) (p.nat (p.rdI a.2.1 (p.nat a.2.2.1) 0))) 0) (1:Int)) then Bool.false else Bool.true) (
 opt.ret _ (Sum.inr (Sum.inl ((16:Int),())))) (
 opt.ret _ (Sum.inl (a.1,(a.2.1,((p.ar .add .i64 a.2.2.1 (1:Int)),())))))) (
 opt.ret _ (Sum.inr (Sum.inr ()))))
def w8a (p:Prim):(LD×(LD×T1))→Option ((LD×(LD×T1))⊕T14):=
 fun a=>opt.run _ (
 opt.ask _ (p.cmp .lss a.2.2.1 (p.ofNat (p.len a.2.1))) (
 opt.need _ (p.rowOk a.2.1 (p.nat (p.ar .sub .i64 a.2.2.1 (1:Int))) [ci])<|
 opt.need _ (p.cmp .geq (p.ar .sub .i64 a.2.2.1 (1:Int)) (0:Int))<|
 opt.need _ (p.rowOk a.2.1 (p.nat a.2.2.1) [ci])<|
 opt.need _ (p.cmp .geq a.2.2.1 (0:Int))<|
 opt.need _ (bif (p.cmp .geq (p.rdI a.2.1 (p.nat (p.ar .sub .i64 a.2.2.1 (1:Int))) 0) (0:Int)) then (p.cmp .lss (p.rdI a.2.1 (p.nat (p.ar .sub .i64 a.2.2.1 (1:Int))) 0) (p.ofNat 10)) else Bool.false)<|
 opt.need _ (bif (p.cmp .geq (p.rdI a.2.1 (p.nat a.2.2.1) 0) (0:Int)) then (p.cmp .lss (p.rdI a.2.1 (p.nat a.2.2.1) 0) (p.ofNat 10)) else Bool.false)<|
 opt.need _ (p.rowOk a.1 (p.add (p.add 1 (p.mul (p.nat (p.rdI a.2.1 (p.nat (p.ar .sub .i64 a.2.2.1 (1:Int))) 0)) 10)) (p.nat (p.rdI a.2.1 (p.nat a.2.2.1) 0))) [ci])<|
 opt.ask _ (bif (p.cmp .eql (p.rdI a.1 (p.add (p.add 1 (p.mul (p.nat (p.rdI a.2.1 (p.nat (p.ar .sub .i64 a.2.2.1 (1:Int))) 0)) 10)) (p.nat (p.rdI a.2.1 (p.nat a.2.2.1) 0))) 0) (1:Int)) then Bool.false else Bool.true) (
 opt.ret _ (Sum.inr (Sum.inl ((16:Int),())))) (
 opt.ret _ (Sum.inl (a.1,(a.2.1,((p.ar .add .i64 a.2.2.1 (1:Int)),())))))) (
 opt.ret _ (Sum.inr (Sum.inr ()))))
def g24 (it:It):(p:Prim)→(LD×(LD×Unit))→Option T2:=
 fun p x=>
 opt.alt T2 ((LD×T1)) _ (g54 it p (x.1,())) (fun a=>
 opt.alt T2 ((LD×(LD×Unit))) _ (
 opt.run T32 (
 opt.ask _ (p.cmp .neq a.1 (0:Int)) (
 opt.ret _ (Sum.inl (a.1,()))) (
 opt.no _ 41))) (fun b=>
 opt.ret _ (b.1,())) (fun c=>
 opt.bnd ((LD×(LD×Unit))) _ (some c) fun d=>
 opt.need _ (p.and (p.cmp .geq (p.ofNat (p.len d.2.1)) (0:Int)) (p.and (p.cmp .leq (p.ofNat (p.len d.2.1)) (p.ofNat (p.len d.2.1))) (p.cmp .leq (p.ofNat (p.len d.2.1)) (1000000:Int))))<|
 opt.need _ (p.and Bool.true (p.and (p.leN (p.len d.2.1) (p.nat (p.ofNat (p.len d.2.1)))) (p.leN (p.add 0 (p.nat (p.ofNat (p.len d.2.1)))) (p.len (p.rep (p.nat (p.ofNat (p.len d.2.1))) k0k)))))<|
 opt.need _ (p.eqN 0 0)<|
 opt.need _ (p.eqN (p.nat (p.ofNat (p.len d.2.1))) (p.len (p.splice (p.rep (p.nat (p.ofNat (p.len d.2.1))) k0k) 0 d.2.1)))<|
 opt.need _ (p.eqN (p.nat (p.ofNat (p.len d.2.1))) (p.len (p.splice (p.rep (p.nat (p.ofNat (p.len d.2.1))) k0k) 0 d.2.1)))<|
 opt.bnd ((LD×Unit)) _ (x9j it p ((p.splice (p.rep (p.nat (p.ofNat (p.len d.2.1))) k0k) 0 d.2.1),())) fun e=>
 opt.need _ (p.rowOk d.1 0 [ci])<|
 opt.need _ (p.and (p.leN (p.add 0 (p.nat (p.ofNat (p.len d.2.1)))) (p.len e.1)) (p.and Bool.true Bool.true))<|
 opt.bnd T0 _ (g56 it p ((p.cut e.1 0 (p.nat (p.ofNat (p.len d.2.1)))),((p.rdI d.1 0 0),()))) fun f=>
 opt.ask _ (bif f.1 then Bool.false else Bool.true) (
 opt.ret _ ((3:Int),())) (
 opt.alt T2 (Unit) _ (
 it _ _ (w8a p) (d.1,(d.2.1,((1:Int),())))) (fun g=>
 opt.ret _ (g.1,())) (fun h=>
 opt.bnd (Unit) _ (some h) fun i=>
 opt.ret _ ((0:Int),()))))) (fun j=>
 opt.bnd ((LD×T1)) _ (some j) fun k=>
 opt.alt T2 ((LD×(LD×Unit))) _ (
 opt.run T32 (
 opt.ask _ (p.cmp .neq k.2.1 (0:Int)) (
 opt.ret _ (Sum.inl (k.2.1,()))) (
 opt.need _ (p.rowOk k.1 0 [ci])<|
 opt.ask _ (p.cmp .neq (p.ofNat (p.len x.2.1)) (p.rdI k.1 0 0)) (
 opt.ret _ (Sum.inl ((15:Int),()))) (
 opt.ret _ (Sum.inr (k.1,(x.2.1,()))))))) (fun l=>
 opt.ret _ (l.1,())) (fun m=>
 opt.bnd ((LD×(LD×Unit))) _ (some m) fun n=>
 opt.need _ (p.and (p.cmp .geq (p.ofNat (p.len n.2.1)) (0:Int)) (p.and (p.cmp .leq (p.ofNat (p.len n.2.1)) (p.ofNat (p.len n.2.1))) (p.cmp .leq (p.ofNat (p.len n.2.1)) (1000000:Int))))<|
 opt.need _ (p.and Bool.true (p.and (p.leN (p.len n.2.1) (p.nat (p.ofNat (p.len n.2.1)))) (p.leN (p.add 0 (p.nat (p.ofNat (p.len n.2.1)))) (p.len (p.rep (p.nat (p.ofNat (p.len n.2.1))) k0k)))))<|
 opt.need _ (p.eqN 0 0)<|
 opt.need _ (p.eqN (p.nat (p.ofNat (p.len n.2.1))) (p.len (p.splice (p.rep (p.nat (p.ofNat (p.len n.2.1))) k0k) 0 n.2.1)))<|
 opt.need _ (p.eqN (p.nat (p.ofNat (p.len n.2.1))) (p.len (p.splice (p.rep (p.nat (p.ofNat (p.len n.2.1))) k0k) 0 n.2.1)))<|
 opt.bnd ((LD×Unit)) _ (x9j it p ((p.splice (p.rep (p.nat (p.ofNat (p.len n.2.1))) k0k) 0 n.2.1),())) fun o=>
 opt.need _ (p.rowOk n.1 0 [ci])<|
 opt.need _ (p.and (p.leN (p.add 0 (p.nat (p.ofNat (p.len n.2.1)))) (p.len o.1)) (p.and Bool.true Bool.true))<|
 opt.bnd T0 _ (g56 it p ((p.cut o.1 0 (p.nat (p.ofNat (p.len n.2.1)))),((p.rdI n.1 0 0),()))) fun q=>
 opt.ask _ (bif q.1 then Bool.false else Bool.true) (
 opt.ret _ ((3:Int),())) (
 opt.alt T2 (Unit) _ (
 it _ _ (y8h p) (n.1,(n.2.1,((1:Int),())))) (fun r=>
 opt.ret _ (r.1,())) (fun t=>
 opt.bnd (Unit) _ (some t) fun u=>
 opt.ret _ ((0:Int),())))))
def G24:=g24 it0
theorem w80:CtrOk PG x94 (G24 std):=okF (a:=an24) (l:=la24) (gC w4z (gC w41 (gC w42 (gN)))) (by kernel_rfl) fun _ _=>by kernel_rfl
end Go.Am
end
section
namespace Go.Am
open T11
variable {fl:List Int→Bool}
def y8e (o:List Int) (n:Nat) (i:Nat):Prop:=gI o i<0∨(n:Int)≤gI o i∨∃ k∈List.range i,gI o i=gI o k
instance w7n (o:List Int) (n i:Nat):Decidable (y8e o n i):=by unfold y8e; infer_instance
def x6n (d:List (List Int)) (o:List Int) (i:Nat):Prop:=bt d (gI o i).toNat (gI o (i+1)).toNat=false
instance w7o (d:List (List Int)) (o:List Int) (i:Nat):Decidable (x6n d o i):=by unfold x6n; infer_instance
def w0o (d:List (List Int)) (o:List Int):Prop:=∃ i∈List.range (d.length - 1),x6n d o i
instance w7p (d:List (List Int)) (o:List Int):Decidable (w0o d o):=inferInstanceAs (Decidable (∃ i,i∈List.range (d.length - 1)∧x6n d o i))
def z9h (d:List (List Int)) (o:List Int):Int:=
 if z10 d=0 then
  if o.length=d.length then
   if ∃ i∈List.range d.length,y8e o d.length i then 3
   else if w0o d o then 16 else 0
  else 15
 else z10 d
theorem x6w (X:List (List D)) (n:Int) (o:List Int) (i:Nat) (hi:i<o.length) (ho:o.length≤1000):
  z54 (y8g std) (X,(z0x o,(n,((i:Int),((0:Int),())))))=if ∃ k∈List.range i,gI o i=gI o k then some (.inl (3,())) else some (.inr (X,(z0x o,(n,((i:Int),()))))):=by
 have key:=z1b (b:=y8g std) i (fun k=>(X,(z0x o,(n,((i:Int),((k:Int),())))))) (fun k=>decide (gI o i=gI o k)) (fun k=> .inl (3,())) (.inr (X,(z0x o,(n,((i:Int),()))))) (fun k hk=>by
  have hx:=z3s hi
  have hy:=z3s (l:=o) (q:=k) (by omega)
  have hw:=z1n (i:=k) (by omega)
  have hlt:(k:Int)<i:=by omega
  have h0:(0:Int)≤k:=by omega
  have h1:(0:Int)≤i:=by omega
  by_cases e:gI o i=gI o k
  ·simp only [y8g,z1g,z1h,z0x,z0j,z1m,z2l,z0r,z0o,eq_self,not_true,not_false_eq_true,decide_true,decide_false,Bool.not_true,Bool.not_false,Int.reduceLT,Int.reduceNeg,Int.reduceGT,cond_true,cond_false,hx,hy,hlt,h0,h1,ge_iff_le,z0h,hw,e]
  ·simp only [y8g,z1g,z1h,z0x,z0j,z1m,z2l,z0r,z0o,eq_self,not_true,not_false_eq_true,decide_true,decide_false,Bool.not_true,Bool.not_false,Int.reduceLT,Int.reduceNeg,Int.reduceGT,cond_true,cond_false,hx,hy,hlt,h0,h1,ge_iff_le,z0h,hw,e]) (by
  have hn:¬ (i:Int)<i:=by omega
  simp only [y8g,z1g,z1h,hn])
 rcases key with ⟨k,h1,h2,_,h4⟩|⟨h1,h2⟩
 ·rw [if_pos ⟨k,List.mem_range.2 h1,by simpa using h2⟩]
  exact h4
 ·rw [if_neg]
  ·exact h2
  ·rintro ⟨k,hk,h⟩
   have:=h1 k (List.mem_range.1 hk)
   rw [decide_eq_true h] at this
   exact Bool.noConfusion this
theorem x6j (X:List (List D)) (o:List Int) (ho:o.length≤1000):
  z54 (y11 it0 std) (X,(z0x o,((o.length:Int),((0:Int),()))))=if ∃ i∈List.range o.length,y8e o o.length i then some (.inl (3,())) else some (.inr (X,(z0x o,((o.length:Int),())))):=by
 have key:=z1b (b:=y11 it0 std) o.length (fun i=>(X,(z0x o,((o.length:Int),((i:Int),()))))) (fun i=>decide (y8e o o.length i)) (fun k=> .inl (3,())) (.inr (X,(z0x o,((o.length:Int),())))) (fun i hi=>by
  have hx:=z3s hi
  have hw:=z1n (i:=i) (by omega)
  have hlt:(i:Int)<o.length:=by omega
  have h1:(0:Int)≤i:=by omega
  have h3:it0 _ _ (y8g std) (X,(z0x o,((o.length:Int),((i:Int),((0:Int),())))))=_:=x6w X o.length o i hi ho
  simp only [z0x] at h3
  by_cases a:gI o i<0
  ·have hb:y8e o o.length i:= .inl a
   simp only [hb,y11,z1g,z1h,z0x,z0j,z1m,z2l,z0r,z0o,eq_self,not_true,not_false_eq_true,decide_true,decide_false,Bool.not_true,Bool.not_false,Int.reduceLT,Int.reduceNeg,Int.reduceGT,cond_true,cond_false,hx,hlt,h1,ge_iff_le,a]
  ·by_cases b:(o.length:Int)≤gI o i
   ·have hb:y8e o o.length i:= .inr (.inl b)
    simp only [hb,y11,z1g,z1h,z0x,z0j,z1m,z2l,z0r,z0o,eq_self,not_true,not_false_eq_true,decide_true,decide_false,Bool.not_true,Bool.not_false,Int.reduceLT,Int.reduceNeg,Int.reduceGT,cond_true,cond_false,hx,hlt,h1,ge_iff_le,a,b]
   ·by_cases c:∃ k∈List.range i,gI o i=gI o k
    ·have hb:y8e o o.length i:= .inr (.inr c)
     rw [if_pos c] at h3
     simp only [hb,y11,z1g,z1h,z0x,z0j,z1m,z2l,z0r,z0o,eq_self,not_true,not_false_eq_true,decide_true,decide_false,Bool.not_true,Bool.not_false,Int.reduceLT,Int.reduceNeg,Int.reduceGT,cond_true,cond_false,hx,hlt,h1,ge_iff_le,a,b,h3]
    ·have hb:¬ y8e o o.length i:=by
      rintro (h|h|h)
      ·exact a h
      ·exact b h
      ·exact c h
     rw [if_neg c] at h3
     simp only [hb,y11,z1g,z1h,z0x,z0j,z1m,z2l,z0r,z0o,eq_self,not_true,not_false_eq_true,decide_true,decide_false,Bool.not_true,Bool.not_false,Int.reduceLT,Int.reduceNeg,Int.reduceGT,cond_true,cond_false,hx,hlt,h1,ge_iff_le,a,b,h3,z0h,hw]) (by
  have hn:¬ (o.length:Int)<o.length:=by omega
  simp only [y11,z1g,z1h,hn])
 rcases key with ⟨k,h1,h2,_,h4⟩|⟨h1,h2⟩
 ·rw [if_pos ⟨k,List.mem_range.2 h1,of_decide_eq_true h2⟩]
  exact h4
 ·rw [if_neg]
  ·exact h2
  ·rintro ⟨k,hk,h⟩
   exact of_decide_eq_false (h1 k (List.mem_range.1 hk)) h
theorem x9f {o:List Int} {n:Nat} (h:¬ ∃ i∈List.range n,y8e o n i) {i:Nat} (hi:i<n):0≤gI o i∧gI o i<n:=by
 have:¬ y8e o n i:=fun hb=>h ⟨i,List.mem_range.2 hi,hb⟩
 unfold y8e at this
 omega
theorem x6i (d:List (List Int)) (hr:∀ l∈d,l.length≤1000000) (o:List Int) (ho:o.length=d.length) (h10:d.length≤10) (hg:∀ i,i<d.length→0≤gI o i∧gI o i<d.length):
  z54 (y46 it0 std) (z0o fl d,(z0x o,((d.length:Int),((1:Int),()))))=if w0o d o then some (.inl (16,())) else some (.inr ()):=by
 have key:=z1b (b:=y46 it0 std) (d.length - 1) (fun i=>(z0o fl d,(z0x o,((d.length:Int),(((i+1:Nat):Int),()))))) (fun i=>decide (x6n d o i)) (fun k=> .inl (16,())) (.inr ()) (fun i hi=>by
  have hx:=z3s (l:=o) (q:=i) (by omega)
  have hy:=z3s (l:=o) (q:=i+1) (by omega)
  have hw:=z1n (i:=i+1) (by omega)
  have hp:=y0w (j:=i) (by omega)
  have hlt:((i+1:Nat):Int)<d.length:=by omega
  have h0:(0:Int)≤i:=by omega
  have h1:(0:Int)≤((i+1:Nat):Int):=by omega
  obtain ⟨a0,a1⟩:=hg i (by omega)
  obtain ⟨b0,b1⟩:=hg (i+1) (by omega)
  have ea:(((gI o i).toNat:Nat):Int)=gI o i:=by omega
  have eb:(((gI o (i+1)).toNat:Nat):Int)=gI o (i+1):=by omega
  have h40:=w14 (fl:=fl) d hr (gI o i).toNat (gI o (i+1)).toNat (by omega)
  rw [ea,eb] at h40
  by_cases c:x6n d o i
  ·have hb:bt d (gI o i).toNat (gI o (i+1)).toNat=false:=c
   rw [hb] at h40
   simp only [c,y46,z1g,z1h,z0x,z0j,z1m,eq_self,not_true,not_false_eq_true,decide_true,decide_false,Bool.not_true,Bool.not_false,Int.reduceLT,Int.reduceNeg,Int.reduceGT,cond_true,cond_false,hx,hy,hlt,h0,h1,ge_iff_le,z0h,z3d,hw,hp,h40]
  ·have hb:bt d (gI o i).toNat (gI o (i+1)).toNat=true:=by
    cases hq:bt d (gI o i).toNat (gI o (i+1)).toNat with
    |true=>rfl
    |false=>exact absurd hq c
   rw [hb] at h40
   simp only [c,y46,z1g,z1h,z0x,z0j,z1m,eq_self,not_true,not_false_eq_true,decide_true,decide_false,Bool.not_true,Bool.not_false,Int.reduceLT,Int.reduceNeg,Int.reduceGT,cond_true,cond_false,hx,hy,hlt,h0,h1,ge_iff_le,z0h,z3d,hw,hp,h40]) (by
  have hn:¬ ((d.length - 1+1:Nat):Int)<d.length∨d.length=0:=by omega
  have hn':¬ ((d.length - 1+1:Nat):Int)<d.length:=by omega
  simp only [y46,z1g,z1h,hn'])
 rcases key with ⟨k,h1,h2,_,h4⟩|⟨h1,h2⟩
 ·rw [if_pos ⟨k,List.mem_range.2 h1,of_decide_eq_true h2⟩]
  exact h4
 ·rw [if_neg]
  ·exact h2
  ·rintro ⟨k,hk,h⟩
   exact of_decide_eq_false (h1 k (List.mem_range.1 hk)) h
theorem x7z (d:List (List Int)) (hr:∀ l∈d,l.length≤1000000) (o:List Int):G25 std (z0o fl d,(z0x o,()))=some (z9h d o,()):=by
 have h27:g27 it0 std (z0o fl d,())=_:=x7y d hr
 unfold G25 z9h
 by_cases h:z10 d=0
 ·rw [if_pos h]
  have hl:=z8z h
  by_cases hlen:o.length=d.length
  ·rw [if_pos hlen]
   have e1:it0 _ _ (y11 it0 std) (z0o fl d,(z0x o,((o.length:Int),((0:Int),()))))=_:=x6j (z0o fl d) o (by omega)
   rw [hlen] at e1
   by_cases a:∃ i∈List.range d.length,y8e o d.length i
   ·rw [if_pos a] at e1⊢
    simp only [g25,z1g,z1h,eq_self,not_true,not_false_eq_true,decide_true,decide_false,Bool.not_true,Bool.not_false,Int.reduceLT,Int.reduceNeg,Int.reduceGT,cond_true,cond_false,h27,h,z1z,z1u,hlen,e1,ne_eq]
   ·rw [if_neg a] at e1⊢
    have e2:it0 _ _ (y46 it0 std) (z0o fl d,(z0x o,((d.length:Int),((1:Int),()))))=_:=x6i d hr o hlen (by omega) fun i hi=>x9f a hi
    by_cases b:w0o d o
    ·rw [if_pos b] at e2⊢
     simp only [g25,z1g,z1h,eq_self,not_true,not_false_eq_true,decide_true,decide_false,Bool.not_true,Bool.not_false,Int.reduceLT,Int.reduceNeg,Int.reduceGT,cond_true,cond_false,h27,h,z1z,z1u,hlen,e1,e2,ne_eq]
    ·rw [if_neg b] at e2⊢
     simp only [g25,z1g,z1h,eq_self,not_true,not_false_eq_true,decide_true,decide_false,Bool.not_true,Bool.not_false,Int.reduceLT,Int.reduceNeg,Int.reduceGT,cond_true,cond_false,h27,h,z1z,z1u,hlen,e1,e2,ne_eq]
  ·rw [if_neg hlen]
   have hne:¬ ((o.length:Nat):Int)=(d.length:Nat):=by omega
   simp only [g25,z1g,z1h,eq_self,not_true,not_false_eq_true,decide_true,decide_false,Bool.not_true,Bool.not_false,Int.reduceLT,Int.reduceNeg,Int.reduceGT,cond_true,cond_false,h27,h,z1z,z1u,hne,ne_eq]
 ·rw [if_neg h]
  simp only [g25,z1g,z1h,eq_self,not_true,not_false_eq_true,decide_true,decide_false,Bool.not_true,Bool.not_false,Int.reduceLT,Int.reduceNeg,Int.reduceGT,cond_true,cond_false,h27,h,ne_eq]
theorem y8r {o:List Int} {n:Nat} (hn:o.length=n):z1x (z3j id o) n↔¬ ∃ i∈List.range n,y8e o n i:=by
 have hp:=y99 id o
 constructor
 ·rintro h ⟨i,hi,hb⟩
  have hi:=List.mem_range.1 hi
  have hx:=z3s (l:=o) (q:=i) (by omega)
  have hm:=x8c h (hp.mem_iff.2 (List.mem_of_getElem? hx))
  rcases hb with hb|hb|⟨k,hk,hb⟩
  ·omega
  ·omega
  ·have hk:=List.mem_range.1 hk
   have hnd:(z3j id o).Nodup:=(w0x h).imp fun {a b} hab=>by omega
   have hno:=hp.nodup_iff.1 hnd
   have hy:=z3s (l:=o) (q:=k) (by omega)
   rw [←hb, ←hx] at hy
   have:=(List.getElem?_inj (by omega) hno).1 hy
   omega
 ·intro h
  have hno:o.Nodup:=by
   rw [List.nodup_iff_pairwise_ne,List.pairwise_iff_getElem]
   intro k i hk hi hki he
   refine h ⟨i,List.mem_range.2 (by omega), .inr (.inr ⟨k,List.mem_range.2 hki,?_⟩)⟩
   simp [gI,List.getD_eq_getElem?_getD,hk,hi,he]
  have hns:(z3j id o).Nodup:=hp.nodup_iff.2 hno
  have hle:=x1t id o
  intro i hi
  rw [z5o] at hi
  have hxi:=z3s (l:=z3j id o) (q:=i) (by rw [z5o]; exact hi)
  have hmem:=hp.mem_iff.1 (List.mem_of_getElem? hxi)
  obtain ⟨j,hj⟩:=List.getElem?_of_mem hmem
  have hjl:=(List.getElem?_eq_some_iff.1 hj).1
  have hg:=x9f h (i:=j) (by omega)
  rw [z3s hjl] at hj
  have hje:=Option.some.inj hj
  rw [hje] at hg
  refine ⟨?_,?_,fun hi0=>?_⟩
  ·show 0≤gI (z3j id o) i; omega
  ·show gI (z3j id o) i<n; omega
  ·show gI (z3j id o) (i - 1)<gI (z3j id o) i
   have h1:=hle (i - 1) i (by omega) hi
   simp only [id] at h1
   have h2:gI (z3j id o) (i - 1)≠gI (z3j id o) i:=by
    intro e
    have hxp:=z3s (l:=z3j id o) (q:=i - 1) (by rw [z5o]; omega)
    rw [e, ←hxi] at hxp
    have:=(List.getElem?_inj (by rw [z5o]; omega) hns).1 hxp
    omega
   omega
theorem x7d {d:List (List Int)} {n:Int} {i k:Nat} (hi:i<10) (hk:k<10):(fld n (bt d))[1+i*10+k]?=some (eC (bt d i k)):=y1t n (bt d) i k hi hk
theorem x6x (d:List (List Int)) (o:List Int) (ho:o.length=d.length) (h1:1≤d.length) (h10:d.length≤10) (hg:∀ i,i<d.length→0≤gI o i∧gI o i<d.length):
  z54 (y8h std) (fld d.length (bt d),(z0x o,((1:Int),())))=if w0o d o then some (.inl (16,())) else some (.inr ()):=by
 have key:=z1b (b:=y8h std) (d.length - 1) (fun i=>(fld d.length (bt d),(z0x o,(((i+1:Nat):Int),())))) (fun i=>decide (x6n d o i)) (fun k=> .inl (16,())) (.inr ()) (fun i hi=>by
  have hx:=z3s (l:=o) (q:=i) (by omega)
  have hy:=z3s (l:=o) (q:=i+1) (by omega)
  have hw:=z1n (i:=i+1) (by omega)
  have hp:=y0w (j:=i) (by omega)
  have hlt:((i+1:Nat):Int)<o.length:=by omega
  have h0:(0:Int)≤i:=by omega
  have h1:(0:Int)≤((i+1:Nat):Int):=by omega
  obtain ⟨a0,a1⟩:=hg i (by omega)
  obtain ⟨b0,b1⟩:=hg (i+1) (by omega)
  have a2:gI o i<((10:Nat):Int):=by omega
  have b2:gI o (i+1)<((10:Nat):Int):=by omega
  have hf:=x7d (d:=d) (n:=d.length) (i:=(gI o i).toNat) (k:=(gI o (i+1)).toNat) (by omega) (by omega)
  generalize fld d.length (bt d)=F at hf⊢
  by_cases c:x6n d o i
  ·have hb:bt d (gI o i).toNat (gI o (i+1)).toNat=false:=c
   rw [hb] at hf
   simp only [c,y8h,z1g,z1h,z0x,z0j,z1m,z7i,x3j,eq_self,not_true,not_false_eq_true,decide_true,decide_false,Bool.not_true,Bool.not_false,Int.reduceLT,Int.reduceNeg,Int.reduceGT,cond_true,cond_false,hx,hy,hlt,h0,h1,a0,a2,b0,b2,hf,ge_iff_le,z0h,z3d,hw,hp]
   rfl
  ·have hb:bt d (gI o i).toNat (gI o (i+1)).toNat=true:=by
    cases hq:bt d (gI o i).toNat (gI o (i+1)).toNat with
    |true=>rfl
    |false=>exact absurd hq c
   rw [hb] at hf
   simp only [c,y8h,z1g,z1h,z0x,z0j,z1m,z7i,x3j,eq_self,not_true,not_false_eq_true,decide_true,decide_false,Bool.not_true,Bool.not_false,Int.reduceLT,Int.reduceNeg,Int.reduceGT,cond_true,cond_false,hx,hy,hlt,h0,h1,a0,a2,b0,b2,hf,ge_iff_le,z0h,z3d,hw,hp]) (by
  have hn':¬ ((d.length - 1+1:Nat):Int)<o.length:=by omega
  simp only [y8h,z1g,z1h,z0x,hn'])
 rcases key with ⟨k,h1,h2,_,h4⟩|⟨h1,h2⟩
 ·rw [if_pos ⟨k,List.mem_range.2 h1,of_decide_eq_true h2⟩]
  exact h4
 ·rw [if_neg]
  ·exact h2
  ·rintro ⟨k,hk,h⟩
   exact of_decide_eq_false (h1 k (List.mem_range.1 hk)) h
theorem w3p (d:List (List Int)) (hr:∀ l∈d,l.length≤1000000) (o:List Int):G24 std (z0o fl d,(z0x o,()))=some (z9h d o,()):=by
 have h54:g54 it0 std (z0o fl d,())=_:=x7x d hr
 unfold G24 z9h
 by_cases h:z10 d=0
 ·rw [if_pos h] at h54⊢
  have hl:=z8z h
  have hf0:(fld d.length (bt d))[0]?=some (eI d.length):=rfl
  by_cases hlen:o.length=d.length
  ·rw [if_pos hlen]
   have hrep:(List.replicate o.length (eI 0)).length=o.length:=List.length_replicate
   have hspl:(List.replicate o.length (eI 0)).take 0++z0x o++(List.replicate o.length (eI 0)).drop o.length=z0x o:=by
    rw [List.take_zero,List.nil_append,List.drop_of_length_le (by rw [hrep]; omega),List.append_nil]
   have h55:x9j it0 std (z0x o,())=_:=w0j o (by omega)
   have hsl:(z0x (z3j id o)).length=o.length:=by rw [z1u,z5o]
   have h56:g56 it0 std (z0x (z3j id o),((d.length:Int),()))=_:=x7w (z3j id o) d.length (by rw [z5o]; omega)
   have h0:(0:Int)≤o.length:=by omega
   have h6:(o.length:Int)≤1000000:=by omega
   have htake:(List.replicate o.length (eI 0)).take 0=[]:=rfl
   have htk:(z0x (z3j id o)).take o.length=z0x (z3j id o):=List.take_of_length_le (by rw [hsl]; exact Nat.le_refl _)
   have hd0:(z0x (z3j id o)).drop 0=z0x (z3j id o):=rfl
   by_cases a:∃ i∈List.range d.length,y8e o d.length i
   ·rw [if_pos a]
    have hnr:¬ z1x (z3j id o) d.length:=fun hq=>(y8r hlen).1 hq a
    rw [hlen] at hspl hsl htk h0 h6
    simp only [g24,z1g,z1h,eq_self,not_true,not_false_eq_true,decide_true,decide_false,Bool.not_true,Bool.not_false,Int.reduceLT,Int.reduceNeg,Int.reduceGT,cond_true,cond_false,h54,h,hf0,z0j,z1m,hlen,z1u,ne_eq,y52,List.length_replicate,Nat.le_refl,Bool.and_true,Int.le_refl,ge_iff_le,h0,h6,hspl,h55,hsl,htk,hd0,h56,hnr]
   ·rw [if_neg a]
    have hnr:z1x (z3j id o) d.length:=(y8r hlen).2 a
    have e2:it0 _ _ (y8h std) (fld d.length (bt d),(z0x o,((1:Int),())))=_:=x6x d o hlen (by omega) (by omega) fun i hi=>x9f a hi
    by_cases b:w0o d o
    ·rw [if_pos b] at e2⊢
     rw [hlen] at hspl hsl htk h0 h6
     simp only [g24,z1g,z1h,eq_self,not_true,not_false_eq_true,decide_true,decide_false,Bool.not_true,Bool.not_false,Int.reduceLT,Int.reduceNeg,Int.reduceGT,cond_true,cond_false,h54,h,hf0,z0j,z1m,hlen,z1u,ne_eq,y52,List.length_replicate,Nat.le_refl,Bool.and_true,Int.le_refl,ge_iff_le,h0,h6,hspl,h55,hsl,htk,hd0,h56,hnr,e2]
    ·rw [if_neg b] at e2⊢
     rw [hlen] at hspl hsl htk h0 h6
     simp only [g24,z1g,z1h,eq_self,not_true,not_false_eq_true,decide_true,decide_false,Bool.not_true,Bool.not_false,Int.reduceLT,Int.reduceNeg,Int.reduceGT,cond_true,cond_false,h54,h,hf0,z0j,z1m,hlen,z1u,ne_eq,y52,List.length_replicate,Nat.le_refl,Bool.and_true,Int.le_refl,ge_iff_le,h0,h6,hspl,h55,hsl,htk,hd0,h56,hnr,e2]
  ·rw [if_neg hlen]
   have hne:¬ ((o.length:Nat):Int)=(d.length:Nat):=by omega
   simp only [g24,z1g,z1h,eq_self,not_true,not_false_eq_true,decide_true,decide_false,Bool.not_true,Bool.not_false,Int.reduceLT,Int.reduceNeg,Int.reduceGT,cond_true,cond_false,h54,h,hf0,z0j,z1m,hne,z1u,ne_eq]
 ·rw [if_neg h] at h54⊢
  simp only [g24,z1g,z1h,eq_self,not_true,not_false_eq_true,decide_true,decide_false,Bool.not_true,Bool.not_false,Int.reduceLT,Int.reduceNeg,Int.reduceGT,cond_true,cond_false,h54,h,ne_eq]
theorem x6y {n:Nat} {x:Int}:x∈x7u n↔0≤x∧x<n:=by
 rw [x7u,List.mem_map]
 constructor
 ·rintro ⟨a,ha,rfl⟩; have:=List.mem_range.1 ha; omega
 ·rintro ⟨h1,h2⟩; exact ⟨x.toNat,List.mem_range.2 (by omega),by omega⟩
theorem x1a (n:Nat):(x7u n).Nodup:=by
 rw [x7u,List.nodup_iff_pairwise_ne,List.pairwise_map]
 exact (List.nodup_range (n:=n)).imp fun {a b} hab=>by omega
end Go.Am
end
noncomputable section
namespace Go.Am
def w2k:Ctr:=
 ⟨72,[.vec 0 1],[.row [ci]],[(.ret,⟨[(0, .tuple [])],[.row [ci]],1⟩)]⟩
def la72:List LA:=
 [⟨72,[false,true],1,⟨⟨[(0, .vec 0 1),(2, .int .i64),(3, .int .i64)],[.row [ci]],28⟩,[((AX.exit 0),⟨[],[.row [ci]],28⟩)]⟩⟩]
def ja72:List JA:=
 []
def w6m:List CF:=
 []
def an72:Anns:=
 ⟨w6m,ja72,[]⟩
def w7w (p:Prim):(LD×T3)→Option ((LD×T3)⊕(LD×Unit)):=
 fun a=>opt.run _ (
 opt.ask _ (p.cmp .lss a.2.1 a.2.2.1) (
 opt.need _ (bif (p.cmp .geq a.2.2.1 (0:Int)) then (p.cmp .lss a.2.2.1 (p.ofNat (p.len a.1))) else Bool.false)<|
 opt.need _ (p.rowOk a.1 (p.add 0 (p.nat a.2.2.1)) [ci])<|
 opt.need _ (bif (p.cmp .geq a.2.1 (0:Int)) then (p.cmp .lss a.2.1 (p.ofNat (p.len a.1))) else Bool.false)<|
 opt.need _ (p.rowOk a.1 (p.add 0 (p.nat a.2.1)) [ci])<|
 opt.need _ (bif (p.cmp .geq a.2.1 (0:Int)) then (p.cmp .lss a.2.1 (p.ofNat (p.len a.1))) else Bool.false)<|
 opt.need _ (p.rowOk a.1 (p.add 0 (p.nat a.2.1)) [ci])<|
 opt.need _ (bif (p.cmp .geq a.2.2.1 (0:Int)) then (p.cmp .lss a.2.2.1 (p.ofNat (p.len a.1))) else Bool.false)<|
 opt.need _ (p.rowOk (p.set a.1 (p.add 0 (p.nat a.2.1)) [(D.int .i64 (p.rdI a.1 (p.add 0 (p.nat a.2.2.1)) 0))]) (p.add 0 (p.nat a.2.2.1)) [ci])<|
 opt.need _ (p.eqN 0 0)<|
 opt.need _ (p.eqN (p.len a.1) (p.len (p.set (p.set a.1 (p.add 0 (p.nat a.2.1)) [(D.int .i64 (p.rdI a.1 (p.add 0 (p.nat a.2.2.1)) 0))]) (p.add 0 (p.nat a.2.2.1)) [(D.int .i64 (p.rdI a.1 (p.add 0 (p.nat a.2.1)) 0))])))<|
 opt.ret _ (Sum.inl ((p.set (p.set a.1 (p.add 0 (p.nat a.2.1)) [(D.int .i64 (p.rdI a.1 (p.add 0 (p.nat a.2.2.1)) 0))]) (p.add 0 (p.nat a.2.2.1)) [(D.int .i64 (p.rdI a.1 (p.add 0 (p.nat a.2.1)) 0))]),((p.ar .add .i64 a.2.1 (1:Int)),((p.ar .sub .i64 a.2.2.1 (1:Int)),()))))) (
 opt.ret _ (Sum.inr (a.1,()))))
def g72 (it:It):(p:Prim)→(LD×Unit)→Option ((LD×Unit)):=
 fun p x=>
 opt.need _ (p.eqN 0 0)<|
 opt.need _ (p.eqN (p.len x.1) (p.len x.1))<|
 opt.bnd ((LD×Unit)) _ (
 it _ _ (w7w p) (x.1,((0:Int),((p.ar .sub .i64 (p.ofNat (p.len x.1)) (1:Int)),())))) fun a=>
 opt.ret _ (a.1,())
def G72:=g72 it0
theorem ok72:CtrOk PG w2k (G72 std):=okF (a:=an72) (l:=la72) (gN) (by kernel_rfl) fun _ _=>by kernel_rfl
def w2u:Ctr:=
 ⟨37,[.list 1],[],[(.ret,⟨[(0, .tuple [.list 1, .int .i64])],[],1⟩)]⟩
def la37:List LA:=
 [⟨37,[false,true,false,true,true,true,true,true,true,true,true],0,⟨⟨[(4, .vec 0 1),(6, .vec 1 1),(7, .int .i64),(8, .vec 2 1),(9, .int .i64),(10, .int .i64),(29, .vec 1 1),(30, .int .i64),(31, .int .i64)],[.row [ci], .row [ci], .row [(CK.list 1)]],70⟩,[((AX.exit 0),⟨[(8, .vec 0 1)],[.row [(CK.list 1)]],70⟩)]⟩⟩]
def ja37:List JA:=
 [⟨37,[true,true,true,true,false,false,true,true,false,false,true,false,true,true,true,true,true,true,true,true],0,[(AX.normal,⟨[(4, .vec 0 1),(6, .vec 1 1),(7, .int .i64),(8, .vec 2 1),(9, .int .i64),(10, .int .i64),(29, .vec 1 1),(30, .int .i64),(31, .int .i64)],[.row [ci], .row [ci], .row [(CK.list 1)]],70⟩)]⟩]
def w63:List CF:=
 [⟨x9x,G73⟩,⟨w2k,G72⟩,⟨x9y,G71⟩,⟨x6a,G35⟩]
def an37:Anns:=
 ⟨w63,ja37,[⟨37,[false,true,false,true,true,true,true,false,false,true,true,false,false,true,false,true,true,true,true,true,true,true,true],⟨[(4, .vec 0 1),(6, .vec 1 1),(7, .int .i64),(8, .vec 2 1),(10, .int .i64),(13, .int .i64),(14, .list 1),(29, .vec 1 1),(30, .int .i64),(31, .int .i64)],[.row [ci], .row [ci], .row [(CK.list 1)]],70⟩⟩]⟩
def w0a (it:It) (p:Prim):(LD×(LD×(LD×T20)))→Option ((LD×(LD×(LD×T20)))⊕(LD×Unit)):=
 fun a=>opt.run _ (
 opt.ask _ (p.cmp .lss a.2.2.2.2.2.2.2.1 a.2.2.2.2.2.2.1) (
 opt.need _ (bif (p.cmp .geq a.2.2.2.2.2.2.2.1 (0:Int)) then (p.cmp .lss a.2.2.2.2.2.2.2.1 (p.ofNat (p.len a.2.1))) else Bool.false)<|
 opt.need _ (p.rowOk a.2.1 (p.add 0 (p.nat a.2.2.2.2.2.2.2.1)) [ci])<|
 opt.need _ (bif (p.cmp .geq (p.rdI a.2.1 (p.add 0 (p.nat a.2.2.2.2.2.2.2.1)) 0) (0:Int)) then (p.cmp .lss (p.rdI a.2.1 (p.add 0 (p.nat a.2.2.2.2.2.2.2.1)) 0) (p.ofNat (p.len a.1))) else Bool.false)<|
 opt.need _ (p.rowOk a.1 (p.add 0 (p.nat (p.rdI a.2.1 (p.add 0 (p.nat a.2.2.2.2.2.2.2.1)) 0))) [ci])<|
 opt.need _ (p.cmp .neq (2:Int) (0:Int))<|
 opt.bnd ((LD×(LD×(LD×T20)))) _ (
 opt.run ((LD×(LD×(LD×T20)))) (
 opt.ask _ (p.cmp .eql (p.ar .add .i64 a.2.2.2.2.2.1 (p.rdI a.1 (p.add 0 (p.nat (p.rdI a.2.1 (p.add 0 (p.nat a.2.2.2.2.2.2.2.1)) 0))) 0)) (p.ar .add .i64 (p.ar .quo .i64 (p.ar .mul .i64 (p.ar .add .i64 a.2.2.2.2.2.2.2.1 (1:Int)) (p.ar .sub .i64 (p.ar .add .i64 a.2.2.2.2.2.2.2.1 (1:Int)) (1:Int))) (2:Int)) (p.ar .mul .i64 (p.ar .add .i64 a.2.2.2.2.2.2.2.1 (1:Int)) (p.ar .sub .i64 a.2.2.2.1 (p.ar .add .i64 a.2.2.2.2.2.2.2.1 (1:Int)))))) (
 opt.need _ (p.and (p.cmp .geq a.2.2.2.2.1 (0:Int)) (p.and (p.cmp .leq a.2.2.2.2.1 (p.ar .add .i64 a.2.2.2.2.2.2.2.1 (1:Int))) (p.cmp .leq (p.ar .add .i64 a.2.2.2.2.2.2.2.1 (1:Int)) (p.ofNat (p.len a.2.1)))))<|
 opt.bnd ((LD×(LD×T5))) _ (g73 it p (a.2.1,((p.add 0 (p.nat a.2.2.2.2.1)),((p.sub (p.nat (p.ar .add .i64 a.2.2.2.2.2.2.2.1 (1:Int))) (p.nat a.2.2.2.2.1)),())))) fun b=>
 opt.need _ (p.eqN 0 0)<|
 opt.need _ (p.eqN (p.len a.1) (p.len a.1))<|
 opt.need _ (p.eqN 0 0)<|
 opt.need _ (p.eqN (p.len a.2.1) (p.len b.1))<|
 opt.need _ (p.eqN 0 0)<|
 opt.need _ (p.eqN (p.len a.2.2.1) (p.len a.2.2.1))<|
 opt.need _ (p.leN (p.add 0 (p.len b.2.1)) (p.len b.2.1))<|
 opt.need _ (p.eqN 0 0)<|
 opt.need _ (p.eqN (p.len a.2.1) (p.len b.1))<|
 opt.need _ (p.and (p.leN (p.add 0 1) (p.len [[(D.list Bool.false 1 (p.cut b.2.1 0 (p.len b.2.1)))]])) (p.and (p.leN (p.add 0 (p.len a.2.2.1)) (p.len a.2.2.1)) (p.and (p.leN 1 1) (p.leN (p.add (p.len a.2.2.1) 1) 1000000))))<|
 opt.need _ (p.eqN 0 0)<|
 opt.need _ (p.eqN (p.len a.1) (p.len a.1))<|
 opt.need _ (p.eqN 0 0)<|
 opt.need _ (p.eqN (p.len b.1) (p.len b.1))<|
 opt.need _ (p.eqN 0 0)<|
 opt.need _ (p.eqN (p.add (p.len a.2.2.1) 1) (p.len (p.app (p.cut a.2.2.1 0 (p.len a.2.2.1)) (p.cut [[(D.list Bool.false 1 (p.cut b.2.1 0 (p.len b.2.1)))]] 0 1))))<|
 opt.need _ (p.eqN 0 0)<|
 opt.need _ (p.eqN (p.len b.1) (p.len b.1))<|
 opt.ret _ (a.1,(b.1,((p.app (p.cut a.2.2.1 0 (p.len a.2.2.1)) (p.cut [[(D.list Bool.false 1 (p.cut b.2.1 0 (p.len b.2.1)))]] 0 1)),(a.2.2.2.1,((p.ar .add .i64 a.2.2.2.2.2.2.2.1 (1:Int)),((p.ar .add .i64 a.2.2.2.2.2.1 (p.rdI a.1 (p.add 0 (p.nat (p.rdI a.2.1 (p.add 0 (p.nat a.2.2.2.2.2.2.2.1)) 0))) 0)),(a.2.2.2.2.2.2.1,(a.2.2.2.2.2.2.2.1,()))))))))) (
 opt.need _ (p.eqN 0 0)<|
 opt.need _ (p.eqN (p.len a.1) (p.len a.1))<|
 opt.need _ (p.eqN 0 0)<|
 opt.need _ (p.eqN (p.len a.2.1) (p.len a.2.1))<|
 opt.need _ (p.eqN 0 0)<|
 opt.need _ (p.eqN (p.len a.2.2.1) (p.len a.2.2.1))<|
 opt.need _ (p.eqN 0 0)<|
 opt.need _ (p.eqN (p.len a.2.1) (p.len a.2.1))<|
 opt.ret _ (a.1,(a.2.1,(a.2.2.1,(a.2.2.2.1,(a.2.2.2.2.1,((p.ar .add .i64 a.2.2.2.2.2.1 (p.rdI a.1 (p.add 0 (p.nat (p.rdI a.2.1 (p.add 0 (p.nat a.2.2.2.2.2.2.2.1)) 0))) 0)),(a.2.2.2.2.2.2.1,(a.2.2.2.2.2.2.2.1,()))))))))))) fun c=>
 opt.need _ (p.eqN 0 0)<|
 opt.need _ (p.eqN (p.len c.1) (p.len c.1))<|
 opt.need _ (p.eqN 0 0)<|
 opt.need _ (p.eqN (p.len c.2.1) (p.len c.2.1))<|
 opt.need _ (p.eqN 0 0)<|
 opt.need _ (p.eqN (p.len c.2.2.1) (p.len c.2.2.1))<|
 opt.need _ (p.eqN 0 0)<|
 opt.need _ (p.eqN (p.len c.2.1) (p.len c.2.1))<|
 opt.ret _ (Sum.inl (c.1,(c.2.1,(c.2.2.1,(c.2.2.2.1,(c.2.2.2.2.1,(c.2.2.2.2.2.1,(c.2.2.2.2.2.2.1,((p.ar .add .i64 c.2.2.2.2.2.2.2.1 (1:Int)),())))))))))) (
 opt.need _ (p.eqN 0 0)<|
 opt.need _ (p.eqN (p.len a.2.2.1) (p.len a.2.2.1))<|
 opt.ret _ (Sum.inr (a.2.2.1,()))))
def g37 (it:It):(p:Prim)→(LD×Unit)→Option ((LD×T1)):=
 fun p x=>
 opt.bnd ((LD×T1)) _ (g35 it p (x.1,())) fun a=>
 opt.ask _ (p.cmp .neq a.2.1 (0:Int)) (
 opt.ret _ ([],(a.2.1,()))) (
 opt.need _ (p.and (p.leN (p.add 0 (p.len a.1)) (p.len a.1)) Bool.true)<|
 opt.bnd ((LD×Unit)) _ (g71 it p ((p.cut a.1 0 (p.len a.1)),())) fun b=>
 opt.need _ (p.plain b.1)<|
 opt.need _ (p.eqN 0 0)<|
 opt.need _ (p.eqN (p.len b.1) (p.len b.1))<|
 opt.bnd ((LD×Unit)) _ (g72 it p (b.1,())) fun c=>
 opt.need _ (p.eqN 0 0)<|
 opt.need _ (p.eqN (p.len a.1) (p.len a.1))<|
 opt.need _ (p.eqN 0 0)<|
 opt.need _ (p.eqN (p.len b.1) (p.len c.1))<|
 opt.need _ (p.eqN 0 0)<|
 opt.need _ (p.eqN (p.len b.1) (p.len c.1))<|
 opt.bnd ((LD×Unit)) _ (
 it _ _ (w0a it p) (a.1,(c.1,([],((p.ofNat (p.len a.1)),((0:Int),((0:Int),((p.ofNat (p.len b.1)),((0:Int),()))))))))) fun d=>
 opt.need _ (p.leN (p.add 0 (p.len d.1)) (p.len d.1))<|
 opt.ret _ ((p.cut d.1 0 (p.len d.1)),((0:Int),())))
def G37:=g37 it0
theorem ok37:CtrOk PG w2u (G37 std):=okF (a:=an37) (l:=la37) (gC w8t (gC ok72 (gC w8u (gC w43 (gN))))) (by kernel_rfl) fun _ _=>by kernel_rfl
end Go.Am
end
section
namespace Go.Am
open T11
variable {fl:List Int→Bool}
def fz:List Int→Bool:=fun _=>false
end Go.Am
end
section
namespace Go.Am
open Go.ChangeShapes Go.WideShapes Go.ChangeAt
theorem w1r {x:D} (h:DK (.int .i64) x):∃ n:Int,x= .int .i64 n∧(Lit.int IntKind.i64 n).wf=true:=by
 match x,h with
 | .int k n,h=>obtain ⟨rfl,h⟩:=h; exact ⟨n,rfl,h⟩
theorem x2k {x:D} (h:DK (.list [.int .i64]) x):∃ l:List Int,x= .list false 1 (z0x l):=by
 match x,h with
 | .list f z es,h=>
  obtain ⟨rfl,rfl,hl,hr⟩:=h
  rw [z7o] at hr
  clear hl
  have:∃ l:List Int,es=z0x l:=by
   induction es with
   |nil=>exact ⟨[],rfl⟩
   |cons r es ih=>
    obtain ⟨l,rfl⟩:=ih fun r hr'=>hr r (List.mem_cons_of_mem _ hr')
    have h0:=hr r (List.mem_cons_self ..)
    match r,h0 with
    |[y],h0=>
     obtain ⟨n,rfl,w⟩:=w1r h0.1
     exact ⟨n::l,rfl⟩
  obtain ⟨l,rfl⟩:=this
  exact ⟨l,rfl⟩
theorem x44 {x:D} (h:DK (.list [.list [.int .i64]]) x):∃ d:List (List Int),x= .list false 1 (z0o fz d):=by
 match x,h with
 | .list f z es,h=>
  obtain ⟨rfl,rfl,hl,hr⟩:=h
  rw [z7o] at hr
  clear hl
  have:∃ d:List (List Int),es=z0o fz d:=by
   induction es with
   |nil=>exact ⟨[],rfl⟩
   |cons r es ih=>
    obtain ⟨d,rfl⟩:=ih fun r hr'=>hr r (List.mem_cons_of_mem _ hr')
    have h0:=hr r (List.mem_cons_self ..)
    match r,h0 with
    |[y],h0=>
     obtain ⟨l,rfl⟩:=x2k h0.1
     exact ⟨l::d,rfl⟩
  obtain ⟨d,rfl⟩:=this
  exact ⟨d,rfl⟩
end Go.Am
end
section
namespace Go.Am
open Go.Proofs Go.Shelf
structure x38 (P:Program) (f:FuncId) (t:TypeId):Prop where
 shift:∀ (b off n c i vb voff vc:Nat) (cs:List Value) (v:Value) (w:World),i<n→n+1≤c→n+1≤9223372036854775807→vb≠b→cs.length=n→
  (∀ j v,cs[j]?=some v→w.cell? ⟨b,off+j,none⟩=some v)→(∀ j,j<n+1→(w.cell? ⟨b,off+j,none⟩).isSome=true)→(∀ j,j<n+1→w.frozen? ⟨b,off+j,none⟩=false)→
  w.cell? ⟨vb,voff,none⟩=some v→(∀ v∈cs,v.oneCell'=true)→v.oneCell'=true→
  (∀ x,w.frozen? ⟨vb,x,none⟩=false)→(∃ tA kA,w.shape? vb=some (tA,kA))→(∃ tB kB,w.shape? b=some (tB,kB)∧kB≠0)→
  Calls P f #[.slice (some ⟨b,off,none⟩) n c, .int .i64 i, .slice (some ⟨vb,voff,none⟩) 1 vc] w fun e w'=>
   e= .returned (.slice (some ⟨b,off,none⟩) (n+1) c)∧w'=(w.drew.setCells b (off+(i+1)) (cs.drop i)).setCells b (off+i) [v]
 room:∀ (b off n c vb voff vc:Nat) (v:Value) (w:World),n+1≤c→n+1≤9223372036854775807→(w.cell? ⟨b,off+n,none⟩).isSome=true→w.frozen? ⟨b,off+n,none⟩=false→
  w.cell? ⟨vb,voff,none⟩=some v→v.oneCell'=true→
  Calls P f #[.slice (some ⟨b,off,none⟩) n c, .int .i64 n, .slice (some ⟨vb,voff,none⟩) 1 vc] w fun e w'=>
   e= .returned (.slice (some ⟨b,off,none⟩) (n+1) c)∧w'=w.setCells b (off+n) [v]
 last:∀ (base:Option Addr) (n c vb voff vc:Nat) (cs:List Value) (v:Value) (w:World),n≤c→c<n+1→(n+1)*8≤140737488355328→cs.length=n→(base=none→n=0)→
  (∀ a,base=some a→∀ j v,cs[j]?=some v→w.cell? (a.add j)=some v)→w.cell? ⟨vb,voff,none⟩=some v→v.oneCell'=true→
  Calls P f #[.slice base n c, .int .i64 n, .slice (some ⟨vb,voff,none⟩) 1 vc] w fun e w'=>
   e= .returned (.slice (some ⟨w.heap.size,0,none⟩) (n+1) (grownCap w (n+1) c t))∧
   w'=w.drew.alloc (.cells ((cs++[v]).toArray++Builtin.zeroCells (Value.int .i64 0).cells (grownCap w (n+1) c t - (n+1))) t)
 grow:∀ (b off n c i vb voff vc:Nat) (cs:List Value) (v:Value) (w:World),i<n→n≤c→c<n+1→(n+1)*8≤140737488355328→cs.length=n→
  (∀ j v,cs[j]?=some v→w.cell? ⟨b,off+j,none⟩=some v)→w.cell? ⟨vb,voff,none⟩=some v→(∀ v∈cs,v.oneCell'=true)→v.oneCell'=true→
  Calls P f #[.slice (some ⟨b,off,none⟩) n c, .int .i64 i, .slice (some ⟨vb,voff,none⟩) 1 vc] w fun e w'=>
   e= .returned (.slice (some ⟨w.heap.size,0,none⟩) (n+1) (grownCap w (n+1) c t))∧
   w'=(((w.alloc (.cells ((cs.take i).toArray++Builtin.zeroCells (Value.int .i64 0).cells (n+1 - i)++Builtin.zeroCells (Value.int .i64 0).cells (grownCap w (n+1) c t - (n+1))) t)).drew.setCells w.heap.size i [v]).drew).setCells w.heap.size (i+1) (cs.drop i)
 cap:∀ (w:World) (n c:Nat),c<n→n≤1000001→n≤grownCap w n c t
theorem z8o (w:World) (b:Nat) (x y:Obj):World.setObj (World.setObj w b x) b y=World.setObj w b y:=by
 unfold World.setObj
 congr 1
 apply Array.ext_getElem?
 intro i
 simp only [Array.getElem?_setIfInBounds,Array.size_setIfInBounds]
 by_cases h:b=i
 ·subst h; simp
 ·simp [h]
theorem z3e (b:Nat) (t:TypeId):∀ (vs:List Value) (o:Nat) (w:World) (c:Array Value),w.heap[b]?=some (.cells c t (0,0))→o+vs.length≤c.size→
  ∃ c':Array Value,c'.size=c.size∧(∀ j,c'[j]?=if o≤j∧j<o+vs.length then vs[j - o]? else c[j]?)∧w.setCells b o vs=World.setObj w b (.cells c' t (0,0))
 |[],o,w,c,h,hl=>by
  refine ⟨c,rfl,fun j=>by simp; omega,?_⟩
  simp only [World.setCells,World.setObj]
  have hlt:b<w.heap.size:=(Array.getElem?_eq_some_iff.1 h).1
  have:w.heap.setIfInBounds b (.cells c t (0,0))=w.heap:=by
   apply Array.ext_getElem?
   intro i
   rw [Array.getElem?_setIfInBounds]
   by_cases hi:b=i
   ·subst hi; rw [h]; simp [hlt]
   ·simp [hi]
  rw [this]
 |v::vs,o,w,c,h,hl=>by
  have hlt:b<w.heap.size:=(Array.getElem?_eq_some_iff.1 h).1
  have h1:w.setCell ⟨b,o,none⟩ v=World.setObj w b (.cells (c.setIfInBounds o v) t (0,0)):=by
   unfold World.setCell World.setObj
   congr 1
   apply Array.ext_getElem?
   intro i
   rw [Array.getElem?_modify,Array.getElem?_setIfInBounds]
   by_cases hi:b=i
   ·subst hi; rw [h]; simp [hlt]
   ·simp [hi]
  simp only [List.length_cons] at hl
  obtain ⟨c',a1,a2,a3⟩:=z3e b t vs (o+1) (World.setObj w b (.cells (c.setIfInBounds o v) t (0,0))) (c.setIfInBounds o v) (z0l _ _ _ hlt) (by simp; omega)
  refine ⟨c',by rw [a1]; simp,fun j=>?_,by rw [World.setCells,h1,a3,z8o]⟩
  rw [a2 j]
  by_cases hj:o+1≤j∧j<o+1+vs.length
  ·rw [if_pos hj,if_pos (by simp; omega)]
   rw [show j - o=(j - (o+1))+1 by omega]; rfl
  ·rw [if_neg hj,Array.getElem?_setIfInBounds]
   by_cases he:o=j
   ·subst he
    rw [if_pos rfl,if_pos (by omega),if_pos (by simp)]; simp
   ·rw [if_neg he,if_neg (by simp; omega)]
section
variable {P:Program}
theorem y0m {es:List (List D)} {x:D} {i:Nat} (hi:i≤es.length) (k:Nat):(es.take i++[x]::es.drop i)[k]?=if k<i then es[k]? else if k=i then some [x] else es[k - 1]?:=by
 rw [List.getElem?_append]
 have hl:(es.take i).length=i:=by simp; omega
 rw [hl]
 by_cases h1:k<i
 ·rw [if_pos h1,if_pos h1,List.getElem?_take,if_pos h1]
 ·rw [if_neg h1,if_neg h1]
  by_cases h2:k=i
  ·subst h2; simp
  ·rw [if_neg h2,show k - i=(k - i - 1)+1 by omega,List.getElem?_cons_succ,List.getElem?_drop]
   congr 1; omega
theorem x5f {f:FuncId} {t:TypeId} (hS:x38 P f t) {es:List (List D)} {x:D} {i:Nat} (hi:i≤es.length) (hn:es.length≤1000000):
  z8h P f [.slice 0 1 0 es.length none, .d (.int .i64 i), .slice 1 1 0 1 (some 1)] [.row es, .row [[x]]] (.slice 2 1 0 (es.length+1) none) [.dead, .row [[x]], .row (es.take i++[x]::es.drop i)]:=⟨by
 intro ρ vs w cs0 hr hdm har
 obtain ⟨hv1,hv2⟩:=har
 have hs1:vs.size=3:=hv1
 have hnew:ρ 2=none:=by
  cases hq:ρ 2 with
  |none=>rfl
  |some L=>have:=hdm 2 (by rw [hq]; simp); simp at this
 obtain ⟨L1,vc,hL1,hz1,hvs2⟩:∃ L vc,ρ 1=some L∧L.esz=1∧vs.getD 2 undef= .slice (some ⟨L.blk,L.base,none⟩) 1 vc:=by
  have hv:=hv2 2 _ rfl
  generalize hq:vs.getD 2 undef=q at hv
  cases hv with
  |slice _ _ _ _ _ L a c h1 h2 h3 h4 h5=>
   refine ⟨L,c,h1,h2,?_⟩
   rw [h3 (by omega)]; simp
 have hvs1:vs.getD 1 undef= .int .i64 i:=by
  have hv:=hv2 1 _ rfl
  generalize hq:vs.getD 1 undef=q at hv
  cases hv with|d hv=>cases hv; rfl
 obtain ⟨hlt1,ho1⟩:=hr.obj 1 L1 hL1
 obtain ⟨_,c1,t1,hcb1,_,hcell1⟩:=(show z1d P ρ _ w L1 (.row [[x]]) from ho1)
 obtain ⟨v,hv,hvone,hvrel⟩:=hcell1 0 [x] 0 x rfl rfl
 rw [hz1] at hv
 simp only [Nat.zero_mul,Nat.add_zero] at hv
 have hvc:w.cell? ⟨L1.blk,L1.base,none⟩=some v:=z62 hcb1 hv
 have hargs:∀ q,vs.getD 0 undef=q→vs=#[q, .int .i64 i, .slice (some ⟨L1.blk,L1.base,none⟩) 1 vc]:=by
  intro q hq
  apply Array.ext (by simpa using hs1)
  intro k h1 h2
  simp only [Array.getD_eq_getD_getElem?] at hq hvs1 hvs2
  match k,h1,h2 with
  |0,h1,h2=>rw [Array.getElem?_eq_getElem h1] at hq; simpa using hq
  |1,h1,h2=>rw [Array.getElem?_eq_getElem h1] at hvs1; simpa using hvs1
  |2,h1,h2=>rw [Array.getElem?_eq_getElem h1] at hvs2; simpa using hvs2
  |k+3,h1,h2=>simp at h2; omega
 have grown:∀ (c:Nat) (cs:List Value) (cells:Array Value) (d nc:Nat),cs.length=es.length→(∀ (k:Nat) (r:List D),es[k]?=some r→∃ y u,r=[y]∧cs[k]?=some u∧u.oneCell'=true∧z1c (z0e ρ [.row es, .row [[x]]]) w y u)→
   z0p w.drawn d→es.length+1≤nc→(∀ k,k<es.length+1→cells[k]?=if k<i then cs[k]? else if k=i then some v else cs[k - 1]?)→cells.size=nc→
   ∀ fr,Comes P (lone (Frame.enter P f vs .normal) cs0 w) (lone fr cs0 { World.push w (.cells cells t) with drawn:=d }) (.returned (.slice (some ⟨w.heap.size,0,none⟩) (es.length+1) nc))→fr.fn=f→fr.leaving P { World.push w (.cells cells t) with drawn:=d } (.returned (.slice (some ⟨w.heap.size,0,none⟩) (es.length+1) nc))→
   ∃ ρ' v w' fr,Steps P (lone (Frame.enter P f vs .normal) cs0 w) (lone fr cs0 w')∧fr.fn=f∧fr.leaving P w' (.returned v)∧z0n ρ' (z0e ρ' [.dead, .row [[x]], .row (es.take i++[x]::es.drop i)]) w' (.slice 2 1 0 (es.length+1) none) v∧
    z0b P ρ' [.dead, .row [[x]], .row (es.take i++[x]::es.drop i)] w'∧Dom ρ' [.dead, .row [[x]], .row (es.take i++[x]::es.drop i)]∧Ext (· <2) ρ [.row es, .row [[x]]] w ρ' [.dead, .row [[x]], .row (es.take i++[x]::es.drop i)] w':=by
  intro c cs cells d nc hcs hrows hd hnc hcells hsz fr h1 h2 h3
  have hr0:=hr.kill 0
  have hx0:=Ext.kill (· <2) ρ [.row es, .row [[x]]] w 0
  have hk0:=hx0.keep
  have hkp:=z4y hr0 hnew ⟨w.heap.size,0,1⟩ (.row (es.take i++[x]::es.drop i)) (.cells cells t) rfl
  have hobj:z1d P (ρ.put 2 ⟨w.heap.size,0,1⟩) (z0e (ρ.put 2 ⟨w.heap.size,0,1⟩) (z00 [.dead, .row [[x]]] 2 (.row (es.take i++[x]::es.drop i)))) (World.push w (.cells cells t)) ⟨w.heap.size,0,1⟩ (.row (es.take i++[x]::es.drop i)):=by
   refine ⟨Nat.one_pos,cells,t,z2f _ _,fun k r hk=>?_,fun k r j y hk hy=>?_⟩
   ·rw [y0m hi] at hk
    split at hk
    ·obtain ⟨y,_,rfl,_⟩:=hrows k r hk; rfl
    ·split at hk
     ·cases hk; rfl
     ·obtain ⟨y,_,rfl,_⟩:=hrows _ r hk; rfl
   ·have hkl:k<es.length+1:=by
     have:=(List.getElem?_eq_some_iff.1 hk).1
     simp at this; omega
    rw [Nat.mul_one,Nat.zero_add]
    rw [y0m hi] at hk
    have hc:=hcells k hkl
    have fin:∀ (y0:D) (u:Value),r=[y0]→u.oneCell'=true→z1c (z0e ρ [.row es, .row [[x]]]) w y0 u→cells[k]?=some u→∃ v,cells[k+j]?=some v∧v.oneCell'=true∧z1c (z0e (ρ.put 2 ⟨w.heap.size,0,1⟩) (z00 [.dead, .row [[x]]] 2 (.row (es.take i++[x]::es.drop i)))) (World.push w (.cells cells t)) y v:=by
     intro y0 u hr1 hu hrel hcu
     subst hr1
     cases j with
     |succ j=>simp at hy
     |zero=>simp at hy; subst hy; exact ⟨u,hcu,hu,(hrel.keep hk0).keep hkp⟩
    split at hk
    ·rename_i hlt
     obtain ⟨y0,u,hr1,hcu,hu,hrel⟩:=hrows k r hk
     exact fin y0 u hr1 hu hrel (by rw [hc,if_pos hlt]; exact hcu)
    ·rename_i hge
     split at hk
     ·rename_i hki
      cases hk
      exact fin x v rfl hvone hvrel (by rw [hc,if_neg hge,if_pos hki])
     ·rename_i hne
      obtain ⟨y0,u,hr1,hcu,hu,hrel⟩:=hrows _ r hk
      exact fin y0 u hr1 hu hrel (by rw [hc,if_neg hge,if_neg hne]; exact hcu)
  have hnw:=hr0.new hnew 1 _ _ hobj
  have hnw2:=hnw.drawn d hd
  refine ⟨ρ.put 2 ⟨w.heap.size,0,1⟩,_,_,fr,h1,h2,h3,?_,hnw2,?_,?_⟩
  ·refine .slice 2 1 0 _ none ⟨w.heap.size,0,1⟩ _ nc (Rho.put_same _ _ _) rfl (fun _=>by simp) (.inr ⟨rfl,nc,?_,by simp⟩) hnc
   show z04 (World.push w _) _=_
   rw [z0q (z2f _ _),hsz]
  ·intro id hid
   by_cases he:id=2
   ·subst he; simp
   ·rw [Rho.put_ne _ _ _ _ he] at hid
    have:=hdm id hid
    simp at this⊢; omega
  ·exact hx0.trans (((Ext.new hr0 hnew ⟨w.heap.size,0,1⟩ (.row (es.take i++[x]::es.drop i)) (.cells cells t) rfl).trans (Ext.drawn _ _ _ _ d hd)).mono (fun id hid=>by show id≠2; have hid:id<2:=hid; omega))
 have hv0:=hv2 0 _ rfl
 generalize hq0:vs.getD 0 undef=q0 at hv0
 have hva:=hargs q0 hq0
 have key:∀ n,n=es.length→z0n ρ (z0e ρ [.row es, .row [[x]]]) w (.slice 0 1 0 n none) q0→(n=0∧∃ a,q0= .slice a 0 0)∨(∃ L a c,ρ 0=some L∧L.esz=1∧q0= .slice a n c∧n≤c∧(0<c→a=some ⟨L.blk,L.base,none⟩)∧∃ m,z04 w L.blk=some m∧L.base+c≤m):=by
  intro n hn hv
  cases hv with
  |nils _ _ _ _ a _=>exact .inl ⟨rfl,_,rfl⟩
  |slice _ _ _ _ _ L a c h1 h2 h3 h4 h5=>
   rcases h4 with h4|⟨_,m,hm,hle⟩
   ·cases h4
   ·exact .inr ⟨L,a,c,h1,h2,rfl,h5,fun h=>by rw [h3 h]; simp,m,hm,by rw [h2] at hle; omega⟩
 rcases key _ rfl hv0 with ⟨h0,a,rfl⟩|⟨L,a,c,hL,hz,rfl,hnc,haa,m,hm,hroom⟩
 ·
  have hes:es=[]:=List.length_eq_zero_iff.1 h0
  have hi0:i=0:=by omega
  subst hes; subst hi0
  rw [hva] at grown⊢
  obtain ⟨e,w',fr,⟨rfl,hw'⟩,hcm,hfn,hlv⟩:=hS.last a 0 0 L1.blk L1.base vc [] v w (by omega) (by omega) (by omega) rfl (fun _=>rfl) (fun _ _ j u hj=>by simp at hj) hvc hvone cs0
  subst hw'
  have hcp:=hS.cap w 1 0 (by omega) (by omega)
  refine grown 0 [] _ (w.drawn+1) _ rfl (fun k r hk=>by simp at hk) (Nat.le_succ _) hcp (fun k hk=>?_) ?_ fr hcm hfn hlv
  ·have:k=0:=by simp at hk; omega
   subst this
   rw [Array.getElem?_append_left (by simp)]; simp
  ·simp [Builtin.zeroCells,Value.cells]; omega
 ·obtain ⟨hlt,ho⟩:=hr.obj 0 L hL
  obtain ⟨_,c0,t0,hcb,hlen,hcell⟩:=(show z1d P ρ _ w L (.row es) from ho)
  rw [hz] at hlen hcell
  rw [z0q hcb] at hm; cases hm
  have hrow:∀ (k:Nat) (r:List D),es[k]?=some r→∃ y u,r=[y]∧c0[L.base+k]?=some u∧u.oneCell'=true∧z1c (z0e ρ [.row es, .row [[x]]]) w y u:=by
   intro k r hk
   have hl:=hlen k r hk
   match r,hl with
   |[y],_=>
    obtain ⟨u,hu,h1,hrel⟩:=hcell k [y] 0 y hk rfl
    exact ⟨y,u,rfl,by simpa using hu,h1,hrel⟩
  let cs:=(c0.toList.drop L.base).take es.length
  have hcsg:∀ k,k<es.length→cs[k]?=c0[L.base+k]?:=by
   intro k hk
   show ((c0.toList.drop L.base).take es.length)[k]?=_
   rw [List.getElem?_take,if_pos hk,List.getElem?_drop]; simp
  have hcsl:cs.length=es.length:=by
   show ((c0.toList.drop L.base).take es.length).length=_
   rw [List.length_take,List.length_drop]; simp; omega
  have hcs1:∀ u∈cs,u.oneCell'=true:=by
   intro u hu
   obtain ⟨k,hk⟩:=List.getElem?_of_mem hu
   have hkl:k<es.length:=by rw [←hcsl]; exact (List.getElem?_eq_some_iff.1 hk).1
   obtain ⟨y,u',_,h2,h3,_⟩:=hrow k _ (List.getElem?_eq_getElem hkl)
   rw [hcsg k hkl,h2] at hk; cases hk; exact h3
  have hcsc:∀ j u,cs[j]?=some u→w.cell? ⟨L.blk,L.base+j,none⟩=some u:=by
   intro j u hj
   have hjl:j<es.length:=by rw [←hcsl]; exact (List.getElem?_eq_some_iff.1 hj).1
   rw [hcsg j hjl] at hj
   exact z62 hcb hj
  have hrows:∀ (k:Nat) (r:List D),es[k]?=some r→∃ y u,r=[y]∧cs[k]?=some u∧u.oneCell'=true∧z1c (z0e ρ [.row es, .row [[x]]]) w y u:=by
   intro k r hk
   obtain ⟨y,u,h1,h2,h3,h4⟩:=hrow k r hk
   exact ⟨y,u,h1,by rw [hcsg k (List.getElem?_eq_some_iff.1 hk).1]; exact h2,h3,h4⟩
  have hne:L1.blk≠L.blk:=fun e=>by have:=hr.inj 1 0 L1 L hL1 hL rfl rfl e; omega
  have place:∀ (c':Array Value) (d:Nat),c'.size=c0.size→z0p w.drawn d→(∀ k,k<es.length+1→c'[L.base+k]?=if k<i then cs[k]? else if k=i then some v else cs[k - 1]?)→a=some ⟨L.blk,L.base,none⟩→es.length+1≤c→
    ∀ fr,Comes P (lone (Frame.enter P f vs .normal) cs0 w) (lone fr cs0 (World.setObj { w with drawn:=d } L.blk (.cells c' t0 (0,0)))) (.returned (.slice a (es.length+1) c))→fr.fn=f→fr.leaving P (World.setObj { w with drawn:=d } L.blk (.cells c' t0 (0,0))) (.returned (.slice a (es.length+1) c))→
    ∃ ρ' v w' fr,Steps P (lone (Frame.enter P f vs .normal) cs0 w) (lone fr cs0 w')∧fr.fn=f∧fr.leaving P w' (.returned v)∧z0n ρ' (z0e ρ' [.dead, .row [[x]], .row (es.take i++[x]::es.drop i)]) w' (.slice 2 1 0 (es.length+1) none) v∧
     z0b P ρ' [.dead, .row [[x]], .row (es.take i++[x]::es.drop i)] w'∧Dom ρ' [.dead, .row [[x]], .row (es.take i++[x]::es.drop i)]∧Ext (· <2) ρ [.row es, .row [[x]]] w ρ' [.dead, .row [[x]], .row (es.take i++[x]::es.drop i)] w':=by
   intro c' d hsz hd hcells hae hroom1 fr h1 h2 h3
   have hr1:=hr.drawn d hd
   have hx1:Ext (· <2) ρ [.row es, .row [[x]]] w ρ [.row es, .row [[x]]] { w with drawn:=d }:=Ext.drawn _ _ _ _ d hd
   have hbs:∀ k,z04 { w with drawn:=d } L.blk=some k→z04 (World.setObj { w with drawn:=d } L.blk (.cells c' t0 (0,0))) L.blk=some k:=by
    intro k hk
    rw [z0q (w:={ w with drawn:=d }) hcb] at hk; cases hk
    rw [z0q (z0l { w with drawn:=d } L.blk _ hlt),hsz]
   obtain ⟨g1,g2⟩:=hr1.move hL rfl hnew L.base 1 (.row (es.take i++[x]::es.drop i)) rfl (.cells c' t0 (0,0)) hbs (fun kp=>by
    refine ⟨Nat.one_pos,c',t0,z0l _ _ _ hlt,fun k r hk=>?_,fun k r j y hk hy=>?_⟩
    ·rw [y0m hi] at hk
     split at hk
     ·obtain ⟨y,_,rfl,_⟩:=hrows k r hk; rfl
     ·split at hk
      ·cases hk; rfl
      ·obtain ⟨y,_,rfl,_⟩:=hrows _ r hk; rfl
    ·have hkl:k<es.length+1:=by
      have:=(List.getElem?_eq_some_iff.1 hk).1
      simp at this; omega
     rw [Nat.mul_one]
     rw [y0m hi] at hk
     have hc:=hcells k hkl
     have fin:∀ (y0:D) (u:Value),r=[y0]→u.oneCell'=true→z1c (z0e ρ [.row es, .row [[x]]]) w y0 u→c'[L.base+k]?=some u→∃ v,c'[L.base+k+j]?=some v∧v.oneCell'=true∧z1c (z0e (ρ.put 2 ⟨L.blk,L.base,1⟩) (z00 (z00 [.row es, .row [[x]]] 0 .dead) 2 (.row (es.take i++[x]::es.drop i)))) (World.setObj { w with drawn:=d } L.blk (.cells c' t0 (0,0))) y v:=by
      intro y0 u hr1 hu hrel hcu
      subst hr1
      cases j with
      |succ j=>simp at hy
      |zero=>simp at hy; subst hy; exact ⟨u,hcu,hu,(hrel.keep hx1.keep).keep kp⟩
     split at hk
     ·rename_i hlt
      obtain ⟨y0,u,hr1,hcu,hu,hrel⟩:=hrows k r hk
      exact fin y0 u hr1 hu hrel (by rw [hc,if_pos hlt]; exact hcu)
     ·rename_i hge
      split at hk
      ·rename_i hki
       cases hk
       exact fin x v rfl hvone hvrel (by rw [hc,if_neg hge,if_pos hki])
      ·rename_i hne
       obtain ⟨y0,u,hr1,hcu,hu,hrel⟩:=hrows _ r hk
       exact fin y0 u hr1 hu hrel (by rw [hc,if_neg hge,if_neg hne]; exact hcu))
   refine ⟨ρ.put 2 ⟨L.blk,L.base,1⟩,_,_,fr,h1,h2,h3,?_,g1,?_,hx1.trans (g2.mono (fun id hid=>by show id≠2; have hid:id<2:=hid; omega))⟩
   ·refine .slice 2 1 0 _ none ⟨L.blk,L.base,1⟩ _ c (Rho.put_same _ _ _) rfl (fun _=>by rw [hae]; simp) (.inr ⟨rfl,c0.size,?_,by simp; omega⟩) hroom1
    rw [z0q (z0l { w with drawn:=d } L.blk _ hlt),hsz]
   ·intro id hid
    by_cases he:id=2
    ·subst he; simp
    ·rw [Rho.put_ne _ _ _ _ he] at hid
     have:=hdm id hid
     simp at this⊢; omega
  have hin:∀ j,j<c→∃ u,c0[L.base+j]?=some u:=fun j hj=>⟨_,Array.getElem?_eq_getElem (by omega)⟩
  have hsp:∀ j,j<c→(w.cell? ⟨L.blk,L.base+j,none⟩).isSome=true:=fun j hj=>by
   obtain ⟨u,hu⟩:=hin j hj
   rw [z62 hcb hu]; rfl
  have hfz:∀ b ct tt,w.heap[b]?=some (.cells ct tt (0,0))→∀ k,w.frozen? ⟨b,k,none⟩=false:=fun b ct tt hb k=>by
   unfold World.frozen?; simp only [hb]; simp
  by_cases hfit:es.length+1≤c
  ·have hae:=haa (by omega)
   by_cases hlast:i=es.length
   ·
    have hva':vs=#[.slice (some ⟨L.blk,L.base,none⟩) es.length c, .int .i64 es.length, .slice (some ⟨L1.blk,L1.base,none⟩) 1 vc]:=by rw [hva,hae,hlast]
    obtain ⟨e,w',fr,⟨rfl,hw'⟩,hcm,hfn,hlv⟩:=hS.room L.blk L.base es.length c L1.blk L1.base vc v w hfit (by omega) (hsp _ (by omega)) (hfz _ _ _ hcb _) hvc hvone cs0
    rw [←hva'] at hcm
    obtain ⟨c',g1,g2,g3⟩:=z3e L.blk t0 [v] (L.base+es.length) w c0 hcb (by simp; omega)
    rw [g3] at hw'
    subst hw'
    refine place c' w.drawn g1 (z0p.refl _) (fun k hk=>?_) hae hfit fr (by rw [hae]; exact hcm) hfn (by rw [hae]; exact hlv)
    rw [g2]
    by_cases hki:k=es.length
    ·subst hki
     rw [if_pos (by simp),if_neg (by omega),if_pos hlast.symm]; simp
    ·rw [if_neg (by simp; omega),if_pos (by omega),hcsg k (by omega)]
   ·
    have hva':vs=#[.slice (some ⟨L.blk,L.base,none⟩) es.length c, .int .i64 i, .slice (some ⟨L1.blk,L1.base,none⟩) 1 vc]:=by rw [hva,hae]
    obtain ⟨e,w',fr,⟨rfl,hw'⟩,hcm,hfn,hlv⟩:=hS.shift L.blk L.base es.length c i L1.blk L1.base vc cs v w (by omega) hfit (by omega) hne hcsl hcsc (fun j hj=>hsp j (by omega)) (fun j _=>hfz _ _ _ hcb _) hvc hcs1 hvone
     (hfz _ _ _ hcb1) ⟨t1,c1.size,by unfold World.shape?; rw [hcb1]⟩ ⟨t0,c0.size,by unfold World.shape?; rw [hcb],by omega⟩ cs0
    rw [←hva'] at hcm
    have hcbd:w.drew.heap[L.blk]?=some (.cells c0 t0 (0,0)):=hcb
    have hdl:(cs.drop i).length=es.length - i:=by rw [List.length_drop,hcsl]
    obtain ⟨c',g1,g2,g3⟩:=z3e L.blk t0 (cs.drop i) (L.base+(i+1)) w.drew c0 hcbd (by rw [hdl]; omega)
    have hlt':L.blk<w.drew.heap.size:=hlt
    obtain ⟨c2,k1,k2,k3⟩:=z3e L.blk t0 [v] (L.base+i) (World.setObj w.drew L.blk (.cells c' t0 (0,0))) c' (z0l _ _ _ hlt') (by simp; omega)
    rw [g3,k3,z8o] at hw'
    subst hw'
    refine place c2 (w.drawn+1) (k1.trans g1) (Nat.le_succ _) (fun k hk=>?_) hae hfit fr (by rw [hae]; exact hcm) hfn (by rw [hae]; exact hlv)
    rw [k2]
    by_cases hki:k=i
    ·subst hki
     rw [if_pos (by simp),if_neg (by omega),if_pos rfl]; simp
    ·rw [if_neg (by simp; omega),g2]
     by_cases hlt2:k<i
     ·rw [if_neg (by omega),if_pos hlt2,hcsg k (by omega)]
     ·rw [if_pos (by rw [hdl]; omega),if_neg hlt2,if_neg hki,List.getElem?_drop]
      congr 1; omega
  ·have hce:c=es.length:=by omega
   have hcap:=hS.cap w (es.length+1) c (by omega) (by omega)
   by_cases hlast:i=es.length
   ·
    have hva':vs=#[.slice a es.length c, .int .i64 es.length, .slice (some ⟨L1.blk,L1.base,none⟩) 1 vc]:=by rw [hva,hlast]
    obtain ⟨e,w',fr,⟨rfl,hw'⟩,hcm,hfn,hlv⟩:=hS.last a es.length c L1.blk L1.base vc cs v w hnc (by omega) (by omega) hcsl (fun ha=>by
      by_cases h0:0<c
      ·rw [haa h0] at ha; cases ha
      ·omega) (fun a' ha' j u hj=>by
      have hjl:j<es.length:=by rw [←hcsl]; exact (List.getElem?_eq_some_iff.1 hj).1
      rw [haa (by omega)] at ha'
      cases ha'
      rw [z3q]; exact hcsc j u hj) hvc hvone cs0
    rw [←hva'] at hcm
    subst hw'
    refine grown c cs _ (w.drawn+1) _ hcsl hrows (Nat.le_succ _) hcap (fun k hk=>?_) ?_ fr hcm hfn hlv
    ·have hkk:k<(cs++[v]).length:=by simp [hcsl]; omega
     have e1:((cs++[v]).toArray++Builtin.zeroCells (Value.int .i64 0).cells (grownCap w (es.length+1) c t - (es.length+1)))[k]?=(cs++[v])[k]?:=by
      rw [Array.getElem?_append_left (by simpa using hkk)]; simp
     rw [e1,List.getElem?_append,hcsl]
     by_cases hkn:k<es.length
     ·rw [if_pos hkn,if_pos (by omega)]
     ·rw [if_neg hkn,if_neg (by omega),if_pos (by omega),show k - es.length=0 by omega]; rfl
    ·simp [Builtin.zeroCells,Value.cells,hcsl]; omega
   ·
    have hae:=haa (by omega)
    have hva':vs=#[.slice (some ⟨L.blk,L.base,none⟩) es.length c, .int .i64 i, .slice (some ⟨L1.blk,L1.base,none⟩) 1 vc]:=by rw [hva,hae]
    obtain ⟨e,w',fr,⟨rfl,hw'⟩,hcm,hfn,hlv⟩:=hS.grow L.blk L.base es.length c i L1.blk L1.base vc cs v w (by omega) hnc (by omega) (by omega) hcsl hcsc hvc hcs1 hvone cs0
    rw [←hva'] at hcm
    generalize hG:grownCap w (es.length+1) c t=G at hw' hcm hlv hcap
    generalize hROW:(cs.take i).toArray++Builtin.zeroCells (Value.int .i64 0).cells (es.length+1 - i)++Builtin.zeroCells (Value.int .i64 0).cells (G - (es.length+1))=ROW at hw'
    have hRs:ROW.size=G:=by
     rw [←hROW]; simp [Builtin.zeroCells,Value.cells,hcsl]; omega
    have hRg:∀ k,k<i→ROW[k]?=cs[k]?:=by
     intro k hk
     rw [←hROW,Array.append_assoc,Array.getElem?_append_left (by simp [hcsl]; omega)]
     simp [List.getElem?_take,hk]
    have hb0:(w.alloc (.cells ROW t)).drew.heap[w.heap.size]?=some (.cells ROW t (0,0)):=by
     show (w.heap.push _)[w.heap.size]?=_
     simp
    obtain ⟨c',g1,g2,g3⟩:=z3e w.heap.size t [v] i _ ROW hb0 (by simp; omega)
    have hdl:(cs.drop i).length=es.length - i:=by rw [List.length_drop,hcsl]
    have hb1:(World.setObj (w.alloc (.cells ROW t)).drew w.heap.size (.cells c' t (0,0))).drew.heap[w.heap.size]?=some (.cells c' t (0,0)):=by
     show (World.setObj (w.alloc (.cells ROW t)).drew w.heap.size (.cells c' t (0,0))).heap[w.heap.size]?=_
     exact z0l _ _ _ (by show _<(w.heap.push _).size; simp)
    obtain ⟨c2,k1,k2,k3⟩:=z3e w.heap.size t (cs.drop i) (i+1) _ c' hb1 (by rw [hdl,g1]; omega)
    rw [g3,k3] at hw'
    have hwe:World.setObj (World.setObj (w.alloc (.cells ROW t)).drew w.heap.size (.cells c' t (0,0))).drew w.heap.size (.cells c2 t (0,0))={ World.push w (.cells c2 t) with drawn:=w.drawn+2 }:=by
     unfold World.setObj World.drew World.alloc World.push
     simp only
     congr 1
     apply Array.ext_getElem?
     intro k
     simp only [Array.getElem?_setIfInBounds,Array.getElem?_push,Array.size_push,Array.size_setIfInBounds]
     by_cases hk:w.heap.size=k
     ·subst hk; simp
     ·have hk2:¬ k=w.heap.size:=fun e=>hk e.symm
      simp [hk,hk2]
    rw [hwe] at hw'
    subst hw'
    refine grown c cs c2 (w.drawn+2) G hcsl hrows (by show w.drawn≤_; omega) hcap (fun k hk=>?_) (by rw [k1,g1,hRs]) fr hcm hfn hlv
    rw [k2]
    by_cases hgt:i+1≤k
    ·rw [if_pos (by rw [hdl]; omega),if_neg (by omega),if_neg (by omega),List.getElem?_drop]
     congr 1; omega
    ·rw [if_neg (by omega),g2]
     by_cases hki:k=i
     ·subst hki
      rw [if_pos (by simp),if_neg (by omega),if_pos rfl]; simp
     ·rw [if_neg (by simp; omega),if_pos (by omega),hRg k (by omega)]⟩
end
end Go.Am
end
section
namespace Go.Proofs
open Go.Shelf Go.RowKit Go.Lib
def x2g:Go.Shelf.Ren:=⟨fun|39=>72|35=>103|28=>85|27=>84|21=>60|n=>n,fun|0=>0|4=>4|3=>3|22=>26|n=>n,fun|n=>n⟩
theorem y9b : Go.Proofs.Lays2.n21 Try.prog x2g :=
  { mixed := by kernel_rfl,
    f21 := by first | exact ⟨Try.f60.name, by decide, Try.func60.trans (congrArg some (by kernel_rfl))⟩ | exact Try.func60.trans (congrArg some (by kernel_rfl)),
    f27 := by first | exact ⟨Try.f84.name, by decide, Try.func84.trans (congrArg some (by kernel_rfl))⟩ | exact Try.func84.trans (congrArg some (by kernel_rfl)),
    f28 := by first | exact ⟨Try.f85.name, by decide, Try.func85.trans (congrArg some (by kernel_rfl))⟩ | exact Try.func85.trans (congrArg some (by kernel_rfl)),
    f35 := by first | exact ⟨Try.f103.name, by decide, Try.func103.trans (congrArg some (by kernel_rfl))⟩ | exact Try.func103.trans (congrArg some (by kernel_rfl)),
    f39 := by first | exact ⟨Try.f72.name, by decide, Try.func72.trans (congrArg some (by kernel_rfl))⟩ | exact Try.func72.trans (congrArg some (by kernel_rfl)),
    t0 := by exact Try.underlying0,
    a0 := by exact Try.isAgg0,
    z0 := by exact Try.sizeOf0,
    v0 := by exact Try.zeroValue0,
    t3 := by exact Try.underlying3,
    a3 := by exact Try.isAgg3,
    z3 := by exact Try.sizeOf3,
    v3 := by exact Try.zeroValue3,
    t4 := by exact Try.underlying4,
    a4 := by exact Try.isAgg4,
    z4 := by exact Try.sizeOf4,
    v4 := by exact Try.zeroValue4,
    t22 := by exact Try.underlying26,
    a22 := by exact Try.isAgg26,
    z22 := by exact Try.sizeOf26,
    v22 := by exact Try.zeroValue26,
    i3 := by kernel_rfl }
variable {P:Program} {ρ:Ren}
set_option maxHeartbeats 4000000 in
set_option maxRecDepth 100000 in
theorem x2l (L:Lays2.n21 P ρ) (b off n c i vb voff m vc:Nat) (cs vs:List Value) (w:World) (hi:i<n) (hm:0<m) (hroom:n+m≤c) (hc63:n+m≤9223372036854775807) (hvb:vb≠b)
  (hcl:cs.length=n) (hvl:vs.length=m) (hcs:∀ j v,cs[j]?=some v→w.cell? ⟨b,off+j,none⟩=some v) (hsp:∀ j,j<n+m→(w.cell? ⟨b,off+j,none⟩).isSome=true) (hfz:∀ j,j<n+m→w.frozen? ⟨b,off+j,none⟩=false)
  (hvs:∀ j v,vs[j]?=some v→w.cell? ⟨vb,voff+j,none⟩=some v) (h1c:∀ v∈cs,v.oneCell'=true) (h1v:∀ v∈vs,v.oneCell'=true)
  (tA tB:TypeId) (kA kB:Nat) (hsa:w.shape? vb=some (tA,kA)) (hsb:w.shape? b=some (tB,kB)) (hkB:kB≠0) (hfa:w.frozen? ⟨vb,voff,none⟩=false) (hfe:w.frozen? ⟨vb,kA,none⟩=false):
  Calls P (ρ.f 21) #[.slice (some ⟨b,off,none⟩) n c, .int .i64 i, .slice (some ⟨vb,voff,none⟩) m vc] w fun e w'=>
   e= .returned (.slice (some ⟨b,off,none⟩) (n+m) c)∧w'=(w.drew.setCells b (off+(i+m)) (cs.drop i)).setCells b (off+i) vs:=by
 have t0:=L.t0; have a0:=L.a0; have z0:=L.z0; have v0:=L.v0; have t3:=L.t3; have a3:=L.a3; have z3:=L.z3; have v3:=L.v3; have t4:=L.t4; have a4:=L.a4; have z4:=L.z4; have v4:=L.v4; have t22:=L.t22; have a22:=L.a22; have z22:=L.z22; have v22:=L.v22
 have u0:=run_underlying L.t0; have u3:=run_underlying L.t3; have u4:=run_underlying L.t4; have u22:=run_underlying L.t22
 have hz1:¬ ((m:Int)=0):=by omega
 have hz2:¬ ((i:Int)=(n:Int)):=by omega
 have hsz:(P.info? (ρ.t 3)).map (·.size)=some 1:=by
  obtain ⟨i0,hi0,h0,h1,h2⟩:=info_parts L.i3
  rw [hi0]; simp [h1]
 have hov:∀ lb cb,(callFunc (ρ.f 27) #[.slice (some ⟨vb,voff,none⟩) m vc, .slice (some ⟨b,off+(i+m),none⟩) lb cb]).run P w= .ok (.value (.bool false)) w:=fun lb cb=>by
  rw [run_callFunc_extern L.f27 (by kernel_rfl) (by kernel_rfl) (by kernel_rfl) (e:=Extern.SlicesOverlaps.overlaps #[(ρ.t 22),(ρ.t 22)] #[(ρ.t 4)]) (by kernel_rfl),
   Lib.run_overlaps_apart w (ρ.t 22) (ρ.t 4) (ρ.t 3) L.t22 1 L.z3 ⟨vb,voff,none⟩ ⟨b,off+(i+m),none⟩ m vc lb cb hvb tA tB kA kB hsa hsb hkB hfa hfe]
  rfl
 have hdl:(cs.drop i).length=n - i:=by rw [List.length_drop,hcl]
 have mixed:=L.mixed
 have hw1:IntKind.i64.wrap ((i:Int)+(m:Int))=(i:Int)+(m:Int):=by rw [IntKind.wrap_i64]; omega
 have hb1:(0:Int)≤(i:Int)+(m:Int):=by omega
 have hin:i≤n:=by omega
 have htn:((i:Int)+(m:Int)).toNat=i+m:=by omega
 have hb2:¬ (c=i+m):=by omega
 have hb3:(i:Int)≤(n:Int)+(m:Int):=by omega
 have hb4:¬ (c=i):=by omega
 have hcp1:∀ ty dc sc,(Builtin.copy_ #[(ρ.t 22),(ρ.t 22)] ty #[.slice (some ⟨b,off+(i+m),none⟩) (n+m - (i+m)) dc, .slice (some ⟨b,off+i,none⟩) (n+m - i) sc]).run P w.drew= .ok (goInt (cs.drop i).length) (w.drew.setCells b (off+(i+m)) (cs.drop i)):=fun ty dc sc=>
  run_copy_cells w.drew _ _ ty (ρ.t 3) b (off+(i+m)) (n+m - (i+m)) dc ⟨b,off+i,none⟩ (n+m - i) sc (cs.drop i) L.t22 hsz (by rw [hdl]; simp only [Nat.min_def]; split<;>omega)
   (fun j v hj=>by rw [Addr.add_lit,Nat.add_assoc]; exact hcs (i+j) v (by rwa [List.getElem?_drop] at hj))
   (fun j hj=>by rw [Nat.add_assoc]; exact hsp _ (by omega)) (fun j hj=>by rw [Nat.add_assoc]; exact hfz _ (by omega)) (fun v hv=>h1c v (List.mem_of_mem_drop hv))
 obtain ⟨W1,hW1⟩:∃ W1,W1=w.drew.setCells b (off+(i+m)) (cs.drop i):=⟨_,rfl⟩
 have hsp1:∀ k,k<n+m→(W1.cell? ⟨b,off+k,none⟩).isSome=true:=fun k hk=>by
  rw [hW1]
  exact isSome_setCells b _ _ _ (fun j hj=>by rw [Nat.add_assoc]; exact hsp _ (by omega)) _ (hsp k hk)
 have hcp2:∀ (W:World),(∀ x,W.cell? x=W1.cell? x)→(∀ x,W.frozen? x=W1.frozen? x)→∀ ty dc,(Builtin.copy_ #[(ρ.t 22),(ρ.t 22)] ty #[.slice (some ⟨b,off+i,none⟩) (n+m - i) dc, .slice (some ⟨vb,voff,none⟩) m vc]).run P W= .ok (goInt vs.length) (W.setCells b (off+i) vs):=fun W hWc hWf ty dc=>
  run_copy_cells W _ _ ty (ρ.t 3) b (off+i) (n+m - i) dc ⟨vb,voff,none⟩ m vc vs L.t22 hsz (by rw [hvl]; simp only [Nat.min_def]; split<;>omega)
   (fun j v hj=>by
    rw [Addr.add_lit,hWc,hW1,World.cell?_setCells_out b _ _ _ _ (fun h _=>absurd h hvb)]
    exact hvs j v hj)
   (fun j hj=>by rw [hWc,Nat.add_assoc]; exact hsp1 _ (by omega)) (fun j hj=>by rw [hWf,hW1,World.frozen?_setCells,Nat.add_assoc]; exact hfz _ (by omega)) h1v
 rw [←hW1] at hcp1
 go_enter L.f21,Body2.n21_ntmps ρ
 go_wp2_with (simp only [hov])
 go_region_law_o (refine step_copy_runI rfl _ _ (ρ.t 22) (ρ.t 22) rfl _ _ (by simp [Act.eval,Act.put]) (by simp [Act.eval,Act.put]) (hcp1 _ _ _) ?_)
 go_wp2_with (at_builtin; refine wpList_copy_runI _ rfl _ _ (ρ.t 22) (ρ.t 22) rfl _ _ rfl rfl (hcp2 _ (fun _=>rfl) (fun _=>rfl) _ _) ?_)
 go_ret
 first|exact ⟨rfl,rfl⟩|exact ⟨rfl,by rw [hW1]⟩
set_option maxHeartbeats 4000000 in
set_option maxRecDepth 100000 in
theorem x5e (L:Lays2.n21 P ρ) (b off n c vb voff m vc:Nat) (vs:List Value) (w:World) (hm:0<m) (hroom:n+m≤c) (hc63:n+m≤9223372036854775807)
  (hvl:vs.length=m) (hsp:∀ j,j<m→(w.cell? ⟨b,off+n+j,none⟩).isSome=true) (hfz:∀ j,j<m→w.frozen? ⟨b,off+n+j,none⟩=false)
  (hvs:∀ j v,vs[j]?=some v→w.cell? ⟨vb,voff+j,none⟩=some v) (h1v:∀ v∈vs,v.oneCell'=true):
  Calls P (ρ.f 21) #[.slice (some ⟨b,off,none⟩) n c, .int .i64 n, .slice (some ⟨vb,voff,none⟩) m vc] w fun e w'=>
   e= .returned (.slice (some ⟨b,off,none⟩) (n+m) c)∧w'=w.setCells b (off+n) vs:=by
 have t0:=L.t0; have a0:=L.a0; have z0:=L.z0; have v0:=L.v0; have t3:=L.t3; have a3:=L.a3; have z3:=L.z3; have v3:=L.v3; have t4:=L.t4; have a4:=L.a4; have z4:=L.z4; have v4:=L.v4; have t22:=L.t22; have a22:=L.a22; have z22:=L.z22; have v22:=L.v22
 have u0:=run_underlying L.t0; have u3:=run_underlying L.t3; have u4:=run_underlying L.t4; have u22:=run_underlying L.t22
 have mixed:=L.mixed
 have hz1:¬ ((m:Int)=0):=by omega
 have hsrc:Src P 1 (ρ.t 22) (.slice (some ⟨vb,voff,none⟩) m vc) m vs w:=Src.ofSlice w L.t22 ⟨vb,voff,none⟩ m vc vs (by omega) (fun j u hj=>by rw [Addr.add_lit]; exact hvs j u hj) h1v
 go_enter L.f21,Body2.n21_ntmps ρ
 go_wp2_with (at_builtin; refine wpList_append_room1 _ rfl _ _ (ρ.t 22) (ρ.t 22) rfl (ρ.t 3) _ _ L.t22 L.i3 b off n c rfl _ rfl m vs hsrc hroom (by rw [hvl]; exact hsp) (by rw [hvl]; exact hfz) ?_)
 go_ret
 exact ⟨rfl,rfl⟩
end Go.Proofs
namespace Go.Am
open Go.Proofs Go.Shelf
theorem x89:x38 Try.prog 60 3 where
 shift:=fun b off n c i vb voff vc cs v w h1 h2 h3 h4 h5 h6 h7 h8 h9 h10 h11 h12 ⟨tA,kA,h13⟩ ⟨tB,kB,h14,h15⟩=>x2l y9b b off n c i vb voff 1 vc cs [v] w h1 (by omega) h2 h3 h4 h5 rfl h6 h7 h8 (fun j u hj=>by
  cases j with
  |zero=>cases hj; exact h9
  |succ j=>simp at hj) h10 (by simpa using h11) tA tB kA kB h13 h14 h15 (h12 _) (h12 _)
 room:=fun b off n c vb voff vc v w h1 h2 h3 h4 h5 h6=>x5e y9b b off n c vb voff 1 vc [v] w (by omega) h1 h2 rfl (fun j hj=>by
   have:j=0:=by omega
   subst this; exact h3) (fun j hj=>by
   have:j=0:=by omega
   subst this; exact h4) (fun j u hj=>by
   cases j with
   |zero=>cases hj; exact h5
   |succ j=>simp at hj) (by simpa using h6)
 last:=fun base n c vb voff vc cs v w h1 h2 h3 h4 h5 h6 h7 h8=>Any2.slices_Insert_int_end_grow y9b base n c vb voff 1 vc cs [v] w (by omega) h1 h2 h3 h4 rfl h5 h6 (fun j u hj=>by
  cases j with
  |zero=>cases hj; exact h7
  |succ j=>simp at hj) (by simpa using h8)
 grow:=fun b off n c i vb voff vc cs v w h1 h2 h3 h4 h5 h6 h7 h8 h9=>Any2.slices_Insert_int_grow y9b b off n c i vb voff 1 vc cs [v] w h1 (by omega) h2 h3 h4 h5 rfl h6 (fun j u hj=>by
  cases j with
  |zero=>cases hj; exact h7
  |succ j=>simp at hj) h8 (by simpa using h9)
 cap:=fun w n c h1 h2=>by unfold grownCap; simp [Question.cut]
noncomputable def z81:Ctr:=
 ⟨60,[.vec 0 1, .int .i64, .full 1 1],[.row [(Go.Am.CK.int Go.IntKind.i64)], .row [(Go.Am.CK.int Go.IntKind.i64)]],[(.ret,⟨[(0, .vec 2 1)],[.dead, .row [(Go.Am.CK.int Go.IntKind.i64)], .row [(Go.Am.CK.int Go.IntKind.i64)]],1⟩)]⟩
def q60 (x:List (List D)×(List (List D)×(Int×Unit))):Option (List (List D)×(List (List D)×Unit)):=
 match x.2.1 with
 |[[v]]=>bif decide (0≤x.2.2.1)&&(Nat.ble x.2.2.1.toNat x.1.length&&Nat.ble x.1.length 1000000) then some ([[v]],(x.1.take x.2.2.1.toNat++[v]::x.1.drop x.2.2.1.toNat,())) else none
 |_=>none
noncomputable def G60:(p:Prim)→(List (List D)×(List (List D)×(Int×Unit)))→Option (List (List D)×(List (List D)×Unit)):=
 fun p x=>q60 x
noncomputable def F60:Prim→Tup (z81).scs→Option (STup (scss (z81).outs)):=
 fun p x=>G60 p x
theorem x5u:z2d Go.Proofs.Try.prog 60:=enters_auto (b:=_) rfl (by kernel_rfl)
theorem ok60:CtrOk Go.Proofs.Try.prog z81 (F60 std):=by
 have key:∀ (es r:List (List D)) (i:Int) (y:STup (scss (z81).outs)),q60 (es,(r,(i,())))=some y→(y4w std z81 (z97 (z81).scs (es,(r,(i,()))))).2.length≤(z1l std (z81).outs y).2.s.heap.length∧
   z8h Try.prog 60 (y4w std z81 (z97 (z81).scs (es,(r,(i,()))))).1 (y4w std z81 (z97 (z81).scs (es,(r,(i,()))))).2 (z1w (z1l std (z81).outs y).2.s.env 0) (z1l std (z81).outs y).2.s.heap:=by
  intro es r i y hy
  unfold q60 at hy
  simp only at hy
  match r,hy with
  |[[v]],hy=>
   simp only at hy
   cases hb:(decide (0≤i)&&(Nat.ble i.toNat es.length&&Nat.ble es.length 1000000)) with
   |false=>rw [hb] at hy; cases hy
   |true=>
    rw [hb] at hy; cases hy
    simp only [Bool.and_eq_true,decide_eq_true_eq] at hb
    obtain ⟨h0,h1,h2⟩:=hb
    have h1:=Nat.le_of_ble_eq_true h1
    have h2:=Nat.le_of_ble_eq_true h2
    have hi:((i.toNat:Nat):Int)=i:=by omega
    have:=x5f x89 (es:=es) (x:=v) (i:=i.toNat) h1 h2
    have hl:es.length+1=(es.take i.toNat++[v]::es.drop i.toNat).length:=by simp; omega
    rw [hl,hi] at this
    exact ⟨(by show 2≤3; omega),this⟩
 exact ⟨x5u,fun x y hy=>key x.1 x.2.1 x.2.2.1 y hy⟩
end Go.Am
end
noncomputable section
namespace Go.Am
def x92:Ctr:=
 ⟨26,[.list 1],[],[(.ret,⟨[(0, .tuple [.vec 0 1, .int .i64])],[.row [ci]],1⟩)]⟩
def la26:List LA:=
 [⟨26,[false,true,false,true,true,true,true,true],0,⟨⟨[(6, .bptr 0 0),(7, .vec 2 1),(23, .int .i64),(24, .int .i64)],[.box [.clo 57 [.bptr 1 0] []], .row [ci], .row [ci]],37⟩,[((AX.exit 0),⟨[(7, .vec 0 1)],[.row [ci]],37⟩)]⟩⟩,
 ⟨58,[false,true,false,true],4,⟨⟨[(0, .vec 2 1),(1, .clo 59 [] [.bptr 0 0, .bptr 3 0]),(7, .vec 2 1),(8, .int .i64),(9, .int .i64)],[.box [.clo 57 [.bptr 1 0] []], .row [ci], .row [ci], .box [.int .i64]],21⟩,[(AX.ret,⟨[(4, .int .i64)],[.box [.clo 57 [.bptr 1 0] []], .row [ci], .row [ci], .box [.int .i64]],21⟩),((AX.exit 0),⟨[(0, .vec 2 1)],[.box [.clo 57 [.bptr 1 0] []], .row [ci], .row [ci], .box [.int .i64]],21⟩)]⟩⟩]
def ja26:List JA:=
 [⟨26,[false,true,true,false,false,true,false,true,true,true,true,true],0,[(AX.normal,⟨[(6, .bptr 0 0),(7, .vec 1 1),(23, .int .i64),(24, .int .i64)],[.box [.clo 57 [.bptr 2 0] []], .row [ci], .row [ci]],37⟩)]⟩]
def w7c:List CF:=
 [⟨z81,F60⟩,⟨x59,G54⟩]
def an26:Anns:=
 ⟨w7c,ja26,[]⟩
def x08 (p:Prim):(LD×(LD×T4))→Option ((LD×(LD×T4))⊕((LD×(LD×T3))⊕(LD×(LD×T1)))):=
 fun a=>opt.run _ (
 opt.ask _ (p.cmp .lss a.2.2.2.2.1 a.2.2.2.1) (
 opt.need _ (bif (p.cmp .geq a.2.2.2.2.1 (0:Int)) then (p.cmp .lss a.2.2.2.2.1 (p.ofNat (p.len a.2.1))) else Bool.false)<|
 opt.need _ (p.rowOk a.2.1 (p.add 0 (p.nat a.2.2.2.2.1)) [ci])<|
 opt.need _ (bif (p.cmp .geq a.2.2.1 (0:Int)) then (p.cmp .lss a.2.2.1 (p.ofNat 10)) else Bool.false)<|
 opt.need _ (bif (p.cmp .geq (p.rdI a.2.1 (p.add 0 (p.nat a.2.2.2.2.1)) 0) (0:Int)) then (p.cmp .lss (p.rdI a.2.1 (p.add 0 (p.nat a.2.2.2.2.1)) 0) (p.ofNat 10)) else Bool.false)<|
 opt.need _ (p.rowOk a.1 (p.add (p.add 1 (p.mul (p.nat a.2.2.1) 10)) (p.nat (p.rdI a.2.1 (p.add 0 (p.nat a.2.2.2.2.1)) 0))) [ci])<|
 opt.ask _ (p.cmp .eql (p.rdI a.1 (p.add (p.add 1 (p.mul (p.nat a.2.2.1) 10)) (p.nat (p.rdI a.2.1 (p.add 0 (p.nat a.2.2.2.2.1)) 0))) 0) (1:Int)) (
 opt.ret _ (Sum.inr (Sum.inl (a.1,(a.2.1,(a.2.2.1,(a.2.2.2.2.1,()))))))) (
 opt.need _ (p.eqN 0 0)<|
 opt.need _ (p.eqN (p.len a.2.1) (p.len a.2.1))<|
 opt.need _ (p.eqN 0 0)<|
 opt.need _ (p.eqN (p.len a.2.1) (p.len a.2.1))<|
 opt.ret _ (Sum.inl (a.1,(a.2.1,(a.2.2.1,(a.2.2.2.1,((p.ar .add .i64 a.2.2.2.2.1 (1:Int)),())))))))) (
 opt.need _ (p.eqN 0 0)<|
 opt.need _ (p.eqN (p.len a.2.1) (p.len a.2.1))<|
 opt.ret _ (Sum.inr (Sum.inr (a.1,(a.2.1,(a.2.2.1,())))))))
def y6y (it:It) (p:Prim):(LD×(LD×T3))→Option ((LD×(LD×T3))⊕(LD×Unit)):=
 fun a=>opt.run _ (
 opt.ask _ (p.cmp .lss a.2.2.2.1 a.2.2.1) (
 opt.bnd ((LD×(LD×T3))) _ (
 opt.run ((LD×(LD×T3))) (
 opt.need _ (p.eqN 0 0)<|
 opt.need _ (p.eqN (p.len a.2.1) (p.len a.2.1))<|
 opt.need _ (p.eqN 0 0)<|
 opt.need _ (p.eqN (p.len a.2.1) (p.len a.2.1))<|
 opt.alt ((LD×(LD×T3))) ((LD×(LD×T1))) _ (
 it _ _ (x08 p) (a.1,(a.2.1,(a.2.2.2.1,((p.ofNat (p.len a.2.1)),((0:Int),())))))) (fun b=>
 opt.need _ (p.eqN 0 0)<|
 opt.need _ (p.eqN (p.len a.2.1) (p.len b.2.1))<|
 opt.need _ (p.eqN 0 0)<|
 opt.need _ (p.eqN 1 (p.len [[(D.int .i64 b.2.2.1)]]))<|
 opt.need _ (p.eqN 1 (p.len [[(D.int .i64 b.2.2.1)]]))<|
 opt.bnd ((LD×(LD×Unit))) _ (G60 p (b.2.1,([[(D.int .i64 b.2.2.1)]],(b.2.2.2.1,())))) fun c=>
 opt.need _ (p.eqN 0 0)<|
 opt.need _ (p.eqN (p.len c.2.1) (p.len c.2.1))<|
 opt.ret _ (c.2.1,(b.1,(a.2.2.1,(a.2.2.2.1,()))))) (fun d=>
 opt.bnd ((LD×(LD×T1))) _ (some d) fun e=>
 opt.need _ (p.eqN 0 0)<|
 opt.need _ (p.eqN (p.len a.2.1) (p.len e.2.1))<|
 opt.need _ (p.eqN 0 0)<|
 opt.need _ (p.eqN 1 (p.len [[(D.int .i64 e.2.2.1)]]))<|
 opt.need _ (p.eqN 1 (p.len [[(D.int .i64 e.2.2.1)]]))<|
 opt.bnd ((LD×(LD×Unit))) _ (G60 p (e.2.1,([[(D.int .i64 e.2.2.1)]],((p.ofNat (p.len e.2.1)),())))) fun f=>
 opt.need _ (p.eqN 0 0)<|
 opt.need _ (p.eqN (p.len f.2.1) (p.len f.2.1))<|
 opt.ret _ (f.2.1,(e.1,(a.2.2.1,(a.2.2.2.1,()))))))) fun g=>
 opt.need _ (p.eqN 0 0)<|
 opt.need _ (p.eqN (p.len g.1) (p.len g.1))<|
 opt.ret _ (Sum.inl (g.2.1,(g.1,(g.2.2.1,((p.ar .add .i64 g.2.2.2.1 (1:Int)),())))))) (
 opt.need _ (p.eqN 0 0)<|
 opt.need _ (p.eqN (p.len a.2.1) (p.len a.2.1))<|
 opt.ret _ (Sum.inr (a.2.1,()))))
def g26 (it:It):(p:Prim)→(LD×Unit)→Option ((LD×T1)):=
 fun p x=>
 opt.alt T2 ((LD×T1)) _ (g54 it p (x.1,())) (fun a=>
 opt.ask _ (p.cmp .neq a.1 (0:Int)) (
 opt.ret _ ([],(a.1,()))) (
 opt.no _ 41)) (fun b=>
 opt.bnd ((LD×T1)) _ (some b) fun c=>
 opt.ask _ (p.cmp .neq c.2.1 (0:Int)) (
 opt.ret _ ([],(c.2.1,()))) (
 opt.need _ (p.rowOk c.1 0 [ci])<|
 opt.bnd ((LD×Unit)) _ (
 it _ _ (y6y it p) (c.1,([],((p.rdI c.1 0 0),((0:Int),()))))) fun d=>
 opt.need _ (p.eqN 0 0)<|
 opt.need _ (p.eqN (p.len d.1) (p.len d.1))<|
 opt.ret _ (d.1,((0:Int),()))))
def G26:=g26 it0
theorem w8y:CtrOk PG x92 (G26 std):=okF (a:=an26) (l:=la26) (gC ok60 (gC w42 (gN))) (by kernel_rfl) fun _ _=>by kernel_rfl
end Go.Am
end
section
namespace Go.Am
open T11
variable {fl:List Int→Bool}
def y2a (P:Int→Bool):List Int→Nat
 |[]=>0
 |x::l=>bif P x then 0 else y2a P l+1
theorem y1s (P:Int→Bool) (l:List Int):y2a P l≤l.length:=by
 induction l with
 |nil=>exact Nat.le_refl _
 |cons x l ih=>rw [y2a]; cases P x<;>simp<;>omega
theorem y9g (P:Int→Bool) (l:List Int):∀ j,j<y2a P l→P (gI l j)=false:=by
 induction l with
 |nil=>intro j hj; simp [y2a] at hj
 |cons x l ih=>
  intro j hj
  rw [y2a] at hj
  cases hx:P x with
  |true=>rw [hx] at hj; simp at hj
  |false=>
   rw [hx] at hj
   cases j with
   |zero=>exact hx
   |succ j=>exact ih j (by simpa using hj)
theorem y74 (P:Int→Bool) (l:List Int):y2a P l<l.length→P (gI l (y2a P l))=true:=by
 induction l with
 |nil=>intro h; simp at h
 |cons x l ih=>
  intro h
  rw [y2a] at h⊢
  cases hx:P x with
  |true=>exact hx
  |false=>
   rw [hx] at h
   exact ih (by simpa using h)
theorem x9k (P:Int→Bool) (l:List Int) (i:Nat) (hi:i<l.length) (h1:P (gI l i)=true) (h2:∀ j,j<i→P (gI l j)=false):y2a P l=i:=by
 rcases Nat.lt_trichotomy (y2a P l) i with h|h|h
 ·have:=y74 P l (by omega)
  rw [h2 _ h] at this; cases this
 ·exact h
 ·rw [y9g P l i h] at h1; cases h1
theorem x5k (P:Int→Bool) (l:List Int) (h:∀ j,j<l.length→P (gI l j)=false):y2a P l=l.length:=by
 refine Nat.le_antisymm (y1s P l) (Nat.le_of_not_lt fun hlt=>?_)
 have:=y74 P l hlt
 rw [h _ hlt] at this; cases this
def x4v (d:List (List Int)) (i:Nat) (l:List Int):List Int:=l.take (y2a (fun x=>bt d i x.toNat) l)++(i:Int)::l.drop (y2a (fun x=>bt d i x.toNat) l)
def z6l (d:List (List Int)):Nat→List Int
 |0=>[]
 |i+1=>x4v d i (z6l d i)
theorem x4u (d:List (List Int)) (i:Nat) (l:List Int):(x4v d i l).length=l.length+1:=by
 have:=y1s (fun x=>bt d i x.toNat) l
 simp [x4v]; omega
theorem z6d (d:List (List Int)) (n:Nat):(z6l d n).length=n:=by
 induction n with
 |zero=>rfl
 |succ n ih=>rw [z6l,x4u,ih]
theorem y59 (d:List (List Int)) (n:Nat):(z6l d n).Perm (x7u n):=by
 induction n with
 |zero=>exact .refl _
 |succ n ih=>
  rw [z6l,x4v,x35]
  refine List.perm_middle.trans ?_
  rw [List.take_append_drop]
  exact (ih.cons _).trans (List.perm_append_singleton _ _).symm
theorem y4k (d:List (List Int)) (n:Nat) {q:Nat} (hq:q<n):0≤gI (z6l d n) q∧gI (z6l d n) q<n:=
 x6y.1 ((y59 d n).mem_iff.1 (List.mem_of_getElem? (z3s (by rw [z6d]; exact hq))))
theorem x7c (d:List (List Int)) (i:Nat) (l:List Int) (q:Nat):
  gI (x4v d i l) q=if q<y2a (fun x=>bt d i x.toNat) l then gI l q else if q=y2a (fun x=>bt d i x.toNat) l then (i:Int) else gI l (q - 1):=by
 have hle:=y1s (fun x=>bt d i x.toNat) l
 have e:gI (x4v d i l) q=((x4v d i l)[q]?).getD 0:=by rw [gI,List.getD_eq_getElem?_getD]
 rw [e,x4v]
 generalize y2a (fun x=>bt d i x.toNat) l=a at hle⊢
 have hl:(l.take a).length=a:=by rw [List.length_take]; omega
 rw [List.getElem?_append,hl]
 by_cases h1:q<a
 ·rw [if_pos h1,if_pos h1,List.getElem?_take_of_lt h1,gI,List.getD_eq_getElem?_getD]
 ·rw [if_neg h1,if_neg h1]
  by_cases h2:q=a
  ·subst h2; rw [if_pos rfl,Nat.sub_self]; rfl
  ·rw [if_neg h2]
   obtain ⟨m,rfl⟩:∃ m,q=a+m+1:=⟨q - a - 1,by omega⟩
   rw [show a+m+1 - a=m+1 by omega,List.getElem?_cons_succ,List.getElem?_drop,Nat.add_sub_cancel,gI,List.getD_eq_getElem?_getD]
theorem x0h {d:List (List Int)} (ht:w9c (bt d) d.length) (n:Nat) (hn:n≤d.length):∀ j,j+1<n→bt d (gI (z6l d n) j).toNat (gI (z6l d n) (j+1)).toNat=true:=by
 induction n with
 |zero=>intro j hj; omega
 |succ n ih=>
  have ih:=ih (by omega)
  intro j hj
  rw [z6l,x7c,x7c]
  have hn1:=y9g (fun x=>bt d n x.toNat) (z6l d n)
  have hn2:=y74 (fun x=>bt d n x.toNat) (z6l d n)
  have hle:=y1s (fun x=>bt d n x.toNat) (z6l d n)
  rw [z6d] at hn2 hle
  generalize y2a (fun x=>bt d n x.toNat) (z6l d n)=a at hn1 hn2 hle⊢
  by_cases h1:j+1<a
  ·rw [if_pos (by omega),if_pos h1]; exact ih j (by omega)
  ·by_cases h2:j+1=a
   ·rw [if_pos (by omega),if_neg (by omega),if_pos h2]
    have h3:=hn1 j (by omega)
    have hg:=y4k d n (q:=j) (by omega)
    rw [show ((n:Int)).toNat=n by omega,ht.2 _ n (by omega) (by omega) (by omega),h3]; rfl
   ·by_cases h3:j=a
    ·rw [if_neg (by omega),if_pos h3,if_neg (by omega),if_neg (by omega),Nat.add_sub_cancel]
     have:=hn2 (by omega)
     subst h3
     rw [show ((n:Int)).toNat=n by omega]; exact this
    ·rw [if_neg (by omega),if_neg (by omega),if_neg (by omega),if_neg (by omega)]
     have:=ih (j - 1) (by omega)
     rwa [show j - 1+1=j by omega] at this
theorem y7r {d:List (List Int)} (h:z10 d=0):z9h d (z6l d d.length)=0:=by
 have hno:(z6l d d.length).Nodup:=(y59 d d.length).nodup_iff.2 (x1a _)
 rw [z9h,if_pos h,if_pos (z6d d _),if_neg,if_neg]
 ·rintro ⟨i,hi,hb⟩
  have hi:=List.mem_range.1 hi
  rw [x6n,x0h (x3h h) d.length (Nat.le_refl _) i (by omega)] at hb; cases hb
 ·rintro ⟨i,hi,hb⟩
  have hi:=List.mem_range.1 hi
  have hg:=y4k d d.length hi
  rcases hb with hb|hb|⟨k,hk,hb⟩
  ·omega
  ·omega
  ·have hk:=List.mem_range.1 hk
   have hx:=z3s (l:=z6l d d.length) (q:=i) (by rw [z6d]; exact hi)
   have hy:=z3s (l:=z6l d d.length) (q:=k) (by rw [z6d]; omega)
   rw [←hb, ←hx] at hy
   have:=(List.getElem?_inj (by rw [z6d]; omega) hno).1 hy
   omega
theorem x6v (d:List (List Int)) (n:Int) (i:Nat) (l:List Int) (hi:i<10) (hl:l.length≤1000) (hg:∀ q,q<l.length→0≤gI l q∧gI l q<10):
  z54 (x08 std) (fld n (bt d),(z0x l,((i:Int),((l.length:Int),((0:Int),())))))=
   if y2a (fun x=>bt d i x.toNat) l<l.length then some (.inl (fld n (bt d),(z0x l,((i:Int),((y2a (fun x=>bt d i x.toNat) l:Int),()))))) else some (.inr (fld n (bt d),(z0x l,((i:Int),())))):=by
 have key:=z1b (b:=x08 std) l.length (fun j=>(fld n (bt d),(z0x l,((i:Int),((l.length:Int),((j:Int),())))))) (fun j=>bt d i (gI l j).toNat) (fun j=> .inl (fld n (bt d),(z0x l,((i:Int),((j:Int),()))))) (.inr (fld n (bt d),(z0x l,((i:Int),())))) (fun j hj=>by
  have hx:=z3s hj
  have hw:=z1n (i:=j) (by omega)
  have hlt:(j:Int)<l.length:=by omega
  have h0:(0:Int)≤j:=by omega
  have h1:(0:Int)≤i:=by omega
  have h2:(i:Int)<((10:Nat):Int):=by omega
  obtain ⟨a0,a1⟩:=hg j hj
  have a2:gI l j<((10:Nat):Int):=by omega
  have hf:=x7d (d:=d) (n:=n) (i:=i) (k:=(gI l j).toNat) hi (by omega)
  generalize fld n (bt d)=F at hf⊢
  revert hf
  cases bt d i (gI l j).toNat<;>intro hf<;>simp only [x08,z1g,z1h,z0x,z0j,z1m,z7i,x3j,eq_self,not_true,not_false_eq_true,decide_true,decide_false,Bool.not_true,Bool.not_false,Int.reduceLT,Int.reduceNeg,Int.reduceGT,cond_true,cond_false,hx,hlt,h0,h1,h2,a0,a2,hf,ge_iff_le,z0h,hw]<;>rfl) (by
  have hn:¬ (l.length:Int)<l.length:=by omega
  simp only [x08,z1g,z1h,hn,decide_true])
 rcases key with ⟨j,h1,h2,h3,h4⟩|⟨h1,h2⟩
 ·have e:=x9k (fun x=>bt d i x.toNat) l j h1 h2 h3
  rw [e,if_pos h1]; exact h4
 ·have e:=x5k (fun x=>bt d i x.toNat) l h1
  rw [e,if_neg (by omega)]; exact h2
theorem w3m (l:List Int) (v:Int) (a:Nat) (h:a≤l.length) (hl:l.length≤1000):G60 std (z0x l,([[D.int IntKind.i64 v]],((a:Int),())))=some ([[D.int IntKind.i64 v]],(z0x (l.take a++v::l.drop a),())):=by
 have h1:Nat.ble a (z0x l).length=true:=Nat.ble_eq_true_of_le (by rw [z1u]; exact h)
 have h2:Nat.ble (z0x l).length 1000000=true:=Nat.ble_eq_true_of_le (by rw [z1u]; omega)
 have h0:decide ((0:Int)≤(a:Int))=true:=decide_eq_true (by omega)
 have e:((a:Nat):Int).toNat=a:=by omega
 simp only [G60,q60,e,h1,h2,h0,Bool.and_self,cond_true]
 simp [z0x,List.map_take,List.map_drop,eI]
theorem w3o (d:List (List Int)) (hr:∀ l∈d,l.length≤1000000):G26 std (z0o fl d,())=some (if z10 d=0 then (z0x (z6l d d.length),((0:Int),())) else ([],(z10 d,()))):=by
 have h54:g54 it0 std (z0o fl d,())=_:=x7x d hr
 unfold G26
 by_cases h:z10 d=0
 ·rw [if_pos h] at h54⊢
  have hl:=z8z h
  have hf0:(fld d.length (bt d))[0]?=some (eI d.length):=rfl
  have key:=x2h (b:=y6y it0 std) d.length (fun i=>(fld d.length (bt d),(z0x (z6l d i),((d.length:Int),((i:Int),()))))) (z0x (z6l d d.length),()) (fun i hi=>by
   have hw:=z1n (i:=i) (by omega)
   have hlt:(i:Int)<d.length:=by omega
   have hol:=z6d d i
   have h1:it0 _ _ (x08 std) (fld d.length (bt d),(z0x (z6l d i),((i:Int),(((z6l d i).length:Int),((0:Int),())))))=_:=x6v d d.length i (z6l d i) (by omega) (by omega) fun q hq=>by
    have:=y4k d i (q:=q) (by omega); omega
   have hle:=y1s (fun x=>bt d i x.toNat) (z6l d i)
   have h60:=w3m (z6l d i) i _ hle (by omega)
   rw [←x4v] at h60
   have hel:=z1u (z6l d i)
   rw [z6l]
   by_cases c:y2a (fun x=>bt d i x.toNat) (z6l d i)<(z6l d i).length
   ·rw [if_pos c] at h1
    simp only [y6y,z1g,z1h,eq_self,not_true,not_false_eq_true,decide_true,decide_false,Bool.not_true,Bool.not_false,Int.reduceLT,Int.reduceNeg,Int.reduceGT,cond_true,cond_false,hlt,hel,h1,h60,z0h,hw]
   ·have e:y2a (fun x=>bt d i x.toNat) (z6l d i)=(z6l d i).length:=by omega
    rw [if_neg c] at h1
    rw [e] at h60
    simp only [y6y,z1g,z1h,eq_self,not_true,not_false_eq_true,decide_true,decide_false,Bool.not_true,Bool.not_false,Int.reduceLT,Int.reduceNeg,Int.reduceGT,cond_true,cond_false,hlt,hel,h1,h60,z0h,hw]) (by
   have hn:¬ (d.length:Int)<d.length:=by omega
   simp only [y6y,z1g,z1h,eq_self,not_true,not_false_eq_true,decide_true,decide_false,Bool.not_true,Bool.not_false,Int.reduceLT,Int.reduceNeg,Int.reduceGT,cond_true,cond_false,hn])
  have key':it0 _ _ (y6y it0 std) (fld d.length (bt d),([],((d.length:Int),((0:Int),()))))=some (z0x (z6l d d.length),()):=key
  simp only [g26,z1g,z1h,eq_self,not_true,not_false_eq_true,decide_true,decide_false,Bool.not_true,Bool.not_false,Int.reduceLT,Int.reduceNeg,Int.reduceGT,cond_true,cond_false,h54,h,hf0,z0j,z1m,key',ne_eq]
 ·rw [if_neg h] at h54⊢
  simp only [g26,z1g,z1h,eq_self,not_true,not_false_eq_true,decide_true,decide_false,Bool.not_true,Bool.not_false,Int.reduceLT,Int.reduceNeg,Int.reduceGT,cond_true,cond_false,h54,h,ne_eq]
end Go.Am
end
section
namespace Go.Am
noncomputable def x3l:Ctr:=
 ⟨15,[.agg [.int .i64, .int .i64, .int .i64, .list 3]],[],[(.ret,⟨[(0, .tuple [.list 1, .int .i64])],[],1⟩)]⟩
noncomputable def x3k:Ctr:=
 ⟨17,[.agg [.int .i64, .int .i64, .int .i64, .list 3]],[],[(.ret,⟨[(0, .tuple [.list 1, .int .i64])],[],1⟩)]⟩
noncomputable def G15:(p:Prim)→(Int×(Int×(Int×(List (List D)×Unit))))→Option (List (List D)×(Int×Unit)):=
 fun p x=>bodyRun opt std (autoEnvD [] Go.Proofs.Try.prog) (w4k opt) 3000 x3l x
noncomputable def G17:(p:Prim)→(Int×(Int×(Int×(List (List D)×Unit))))→Option (List (List D)×(Int×Unit)):=
 fun p x=>bodyRun opt std (autoEnvD [] Go.Proofs.Try.prog) (w4k opt) 3000 x3k x
noncomputable def F15:Prim→Tup (x3l).scs→Option (STup (scss (x3l).outs)):=fun p x=>G15 p x
noncomputable def F17:Prim→Tup (x3k).scs→Option (STup (scss (x3k).outs)):=fun p x=>G17 p x
theorem x5w:z2d Go.Proofs.Try.prog 15:=enters_auto (b:=_) rfl (by kernel_rfl)
theorem x5v:z2d Go.Proofs.Try.prog 17:=enters_auto (b:=_) rfl (by kernel_rfl)
theorem ok15:CtrOk Go.Proofs.Try.prog x3l (F15 std):=ctr_of_body (autoEnvD_ok follows_mixed) x15 x5w fun x=>rfl
theorem ok17:CtrOk Go.Proofs.Try.prog x3k (F17 std):=ctr_of_body (autoEnvD_ok follows_mixed) x15 x5v fun x=>rfl
end Go.Am
end
noncomputable section
namespace Go.Am
def w2t:Ctr:=
 ⟨41,[],[],[(.ret,⟨[(0, .list 1)],[],1⟩)]⟩
def la41:List LA:=
 []
def ja41:List JA:=
 []
def w60:List CF:=
 []
def an41:Anns:=
 ⟨w60,ja41,[]⟩
def G41:(p:Prim)→Unit→Option ((LD×Unit)):=
 fun p x=>
 opt.need _ (p.leN (p.add 0 4) (p.len [[(D.list Bool.true 1 [[k1k]])],[(D.list Bool.true 1 [[k3k],k4k])],[(D.list Bool.true 1 [k0k,k4k])],[(D.list Bool.true 1 [k0k])]]))<|
 opt.ret _ ((p.cut [[(D.list Bool.true 1 [[k1k]])],[(D.list Bool.true 1 [[k3k],k4k])],[(D.list Bool.true 1 [k0k,k4k])],[(D.list Bool.true 1 [k0k])]] 0 4),())
theorem ok41:CtrOk PG w2t (G41 std):=okF (a:=an41) (l:=la41) (gN) (by kernel_rfl) fun _ _=>by kernel_rfl
def w2s:Ctr:=
 ⟨45,[],[],[(.ret,⟨[(0, .agg [.int .i64, .int .i64, .int .i64, .list 3])],[],1⟩)]⟩
def la45:List LA:=
 []
def ja45:List JA:=
 []
def w6z:List CF:=
 []
def an45:Anns:=
 ⟨w6z,ja45,[]⟩
def G45:(p:Prim)→Unit→Option T23:=
 fun p x=>
 opt.need _ (p.leN (p.add 0 5) (p.len [[k2k,k2k,k1k],[k2k,k1k,k3k],[k2k,k3k,k2k],[k1k,k2k,k1k],[k1k,k1k,k2k]]))<|
 opt.ret _ ((3:Int),((2:Int),((0:Int),((p.cut [[k2k,k2k,k1k],[k2k,k1k,k3k],[k2k,k3k,k2k],[k1k,k2k,k1k],[k1k,k1k,k2k]] 0 5),()))))
theorem ok45:CtrOk PG w2s (G45 std):=okF (a:=an45) (l:=la45) (gN) (by kernel_rfl) fun _ _=>by kernel_rfl
end Go.Am
end
noncomputable section
namespace Go.Am
def x9z:Ctr:=
 ⟨64,[.list 1],[],[(.ret,⟨[(0, .tuple [.list 1, .bool])],[],1⟩)]⟩
def la64:List LA:=
 [⟨64,[false,true,false,true,true,true,true,false,true],0,⟨⟨[(0, .list 1),(4, .vec 0 1),(5, .int .i64),(6, .int .i64),(12, .vec 0 1),(13, .int .i64),(14, .int .i64)],[.row [ci]],58⟩,[((AX.exit 0),⟨[(4, .vec 0 1),(6, .int .i64)],[.row [ci]],58⟩)]⟩⟩]
def ja64:List JA:=
 [⟨64,[false,true,true,true,false,false,true,true,false,false,true,false,true,true,true,true,false,true],0,[(AX.normal,⟨[(0, .list 1),(4, .vec 0 1),(5, .int .i64),(6, .int .i64),(9, .int .i64),(12, .vec 0 1),(13, .int .i64),(14, .int .i64),(48, .bool)],[.row [ci]],58⟩)]⟩]
def w6r:List CF:=
 [⟨x9x,G73⟩,⟨x9y,G71⟩]
def an64:Anns:=
 ⟨w6r,ja64,[]⟩
def w70 (p:Prim):(LD×(LD×T6))→Option ((LD×(LD×T6))⊕(LD×T1)):=
 fun a=>opt.run _ (
 opt.ask _ (p.cmp .lss a.2.2.2.2.2.1 a.2.2.2.2.1) (
 opt.need _ (bif (p.cmp .geq a.2.2.2.2.2.1 (0:Int)) then (p.cmp .lss a.2.2.2.2.2.1 (p.ofNat (p.len a.1))) else Bool.false)<|
 opt.need _ (p.rowOk a.1 (p.add 0 (p.nat a.2.2.2.2.2.1)) [ci])<|
 opt.need _ (p.rowOk a.2.1 (p.nat (p.rdI a.1 (p.add 0 (p.nat a.2.2.2.2.2.1)) 0)) [ci])<|
 opt.need _ (p.cmp .geq (p.rdI a.1 (p.add 0 (p.nat a.2.2.2.2.2.1)) 0) (0:Int))<|
 opt.bnd ((LD×(LD×T33))) _ (
 opt.run ((LD×(LD×T33))) (
 opt.need _ (p.cmp .neq (2:Int) (0:Int))<|
 opt.ask _ (p.cmp .lss (p.ar .add .i64 a.2.2.1 (p.rdI a.2.1 (p.nat (p.rdI a.1 (p.add 0 (p.nat a.2.2.2.2.2.1)) 0)) 0)) (p.ar .quo .i64 (p.ar .mul .i64 (p.ar .add .i64 a.2.2.2.2.2.1 (1:Int)) (p.ar .sub .i64 (p.ar .add .i64 a.2.2.2.2.2.1 (1:Int)) (1:Int))) (2:Int))) (
 opt.need _ (p.eqN 0 0)<|
 opt.need _ (p.eqN (p.len a.1) (p.len a.1))<|
 opt.need _ (p.eqN 0 0)<|
 opt.need _ (p.eqN (p.len a.1) (p.len a.1))<|
 opt.ret _ (a.1,(a.2.1,((p.ar .add .i64 a.2.2.1 (p.rdI a.2.1 (p.nat (p.rdI a.1 (p.add 0 (p.nat a.2.2.2.2.2.1)) 0)) 0)),(a.2.2.2.1,((p.ar .add .i64 a.2.2.2.2.2.1 (1:Int)),(a.2.2.2.2.1,(a.2.2.2.2.2.1,(Bool.true,()))))))))) (
 opt.ask _ (p.cmp .eql (p.ar .add .i64 a.2.2.2.2.2.1 (1:Int)) (p.ofNat (p.len a.1))) (
 opt.need _ (p.cmp .neq (2:Int) (0:Int))<|
 opt.need _ (p.eqN 0 0)<|
 opt.need _ (p.eqN (p.len a.1) (p.len a.1))<|
 opt.need _ (p.eqN 0 0)<|
 opt.need _ (p.eqN (p.len a.1) (p.len a.1))<|
 opt.ret _ (a.1,(a.2.1,((p.ar .add .i64 a.2.2.1 (p.rdI a.2.1 (p.nat (p.rdI a.1 (p.add 0 (p.nat a.2.2.2.2.2.1)) 0)) 0)),(a.2.2.2.1,((p.ar .add .i64 a.2.2.2.2.2.1 (1:Int)),(a.2.2.2.2.1,(a.2.2.2.2.2.1,((p.cmp .neq (p.ar .add .i64 a.2.2.1 (p.rdI a.2.1 (p.nat (p.rdI a.1 (p.add 0 (p.nat a.2.2.2.2.2.1)) 0)) 0)) (p.ar .quo .i64 (p.ar .mul .i64 (p.ar .add .i64 a.2.2.2.2.2.1 (1:Int)) (p.ar .sub .i64 (p.ar .add .i64 a.2.2.2.2.2.1 (1:Int)) (1:Int))) (2:Int))),()))))))))) (
 opt.need _ (p.eqN 0 0)<|
 opt.need _ (p.eqN (p.len a.1) (p.len a.1))<|
 opt.need _ (p.eqN 0 0)<|
 opt.need _ (p.eqN (p.len a.1) (p.len a.1))<|
 opt.ret _ (a.1,(a.2.1,((p.ar .add .i64 a.2.2.1 (p.rdI a.2.1 (p.nat (p.rdI a.1 (p.add 0 (p.nat a.2.2.2.2.2.1)) 0)) 0)),(a.2.2.2.1,((p.ar .add .i64 a.2.2.2.2.2.1 (1:Int)),(a.2.2.2.2.1,(a.2.2.2.2.2.1,(Bool.false,())))))))))))) fun b=>
 opt.ask _ b.2.2.2.2.2.2.2.1 (
 opt.need _ (p.eqN 0 0)<|
 opt.need _ (p.eqN (p.len b.1) (p.len b.1))<|
 opt.ret _ (Sum.inr (b.1,(b.2.2.2.2.1,())))) (
 opt.need _ (p.eqN 0 0)<|
 opt.need _ (p.eqN (p.len b.1) (p.len b.1))<|
 opt.need _ (p.eqN 0 0)<|
 opt.need _ (p.eqN (p.len b.1) (p.len b.1))<|
 opt.ret _ (Sum.inl (b.1,(b.2.1,(b.2.2.1,(b.2.2.2.1,(b.2.2.2.2.2.1,((p.ar .add .i64 b.2.2.2.2.2.2.1 (1:Int)),()))))))))) (
 opt.need _ (p.eqN 0 0)<|
 opt.need _ (p.eqN (p.len a.1) (p.len a.1))<|
 opt.ret _ (Sum.inr (a.1,(a.2.2.2.1,())))))
def g64 (it:It):(p:Prim)→(LD×Unit)→Option ((LD×T7)):=
 fun p x=>
 opt.bnd ((LD×Unit)) _ (g71 it p (x.1,())) fun a=>
 opt.need _ (p.eqN 0 0)<|
 opt.need _ (p.eqN (p.len a.1) (p.len a.1))<|
 opt.need _ (p.eqN 0 0)<|
 opt.need _ (p.eqN (p.len a.1) (p.len a.1))<|
 opt.bnd ((LD×T1)) _ (
 it _ _ (w70 p) (a.1,(x.1,((0:Int),((-1:Int),((p.ofNat (p.len a.1)),((0:Int),()))))))) fun b=>
 opt.ask _ (p.cmp .lss b.2.1 (0:Int)) (
 opt.ret _ ([],(Bool.false,()))) (
 opt.need _ (p.and (p.cmp .geq (0:Int) (0:Int)) (p.and (p.cmp .leq (0:Int) b.2.1) (p.cmp .leq b.2.1 (p.ofNat (p.len b.1)))))<|
 opt.bnd ((LD×(LD×T5))) _ (g73 it p (b.1,((p.add 0 (p.nat (0:Int))),((p.sub (p.nat b.2.1) (p.nat (0:Int))),())))) fun c=>
 opt.need _ (p.leN (p.add 0 (p.len c.2.1)) (p.len c.2.1))<|
 opt.ret _ ((p.cut c.2.1 0 (p.len c.2.1)),(Bool.true,())))
def G64:=g64 it0
theorem w8v:CtrOk PG x9z (G64 std):=okF (a:=an64) (l:=la64) (gC w8t (gC w8u (gN))) (by kernel_rfl) fun _ _=>by kernel_rfl
def w2x:Ctr:=
 ⟨31,[.list 1],[],[(.ret,⟨[(0, .tuple [.list 1, .int .i64])],[],1⟩)]⟩
def la31:List LA:=
 []
def ja31:List JA:=
 []
def w67:List CF:=
 [⟨x9z,G64⟩,⟨x57,G61⟩]
def an31:Anns:=
 ⟨w67,ja31,[]⟩
def g31 (it:It):(p:Prim)→(LD×Unit)→Option ((LD×T1)):=
 fun p x=>
 opt.bnd T2 _ (g61 it p (x.1,())) fun a=>
 opt.ask _ (p.cmp .neq a.1 (0:Int)) (
 opt.ret _ ([],(a.1,()))) (
 opt.bnd ((LD×T7)) _ (g64 it p (x.1,())) fun b=>
 opt.ask _ (bif b.2.1 then Bool.false else Bool.true) (
 opt.ret _ ([],((5:Int),()))) (
 opt.ret _ (b.1,((0:Int),()))))
def G31:=g31 it0
theorem ok31:CtrOk PG w2x (G31 std):=okF (a:=an31) (l:=la31) (gC w8v (gC w4y (gN))) (by kernel_rfl) fun _ _=>by kernel_rfl
def w20:Ctr:=
 ⟨28,[.list 1, .list 1],[],[(.ret,⟨[(0, .int .i64)],[],1⟩)]⟩
def la28:List LA:=
 [⟨28,[false,true,false,true,true,true,true],0,⟨⟨[(0, .list 1),(6, .int .i64),(7, .int .i64),(22, .list 1),(23, .int .i64),(24, .int .i64)],[],57⟩,[((AX.exit 0),⟨[(0, .list 1),(6, .int .i64),(7, .int .i64)],[],57⟩)]⟩⟩]
def ja28:List JA:=
 [⟨28,[false,false,true,true,true,true,true],0,[(AX.normal,⟨[(56, .bool)],[],57⟩)]⟩]
def w7a:List CF:=
 [⟨x58,G56⟩,⟨x57,G61⟩]
def an28:Anns:=
 ⟨w7a,ja28,[]⟩
def w79 (p:Prim):(LD×T9)→Option ((LD×T9)⊕(LD×T3)):=
 fun a=>opt.run _ (
 opt.ask _ (p.cmp .lss a.2.2.2.2.2.1 a.2.2.2.2.1) (
 opt.need _ (p.rowOk a.2.2.2.1 (p.nat a.2.2.2.2.2.1) [ci])<|
 opt.need _ (p.cmp .geq a.2.2.2.2.2.1 (0:Int))<|
 opt.need _ (p.rowOk a.1 (p.nat (p.rdI a.2.2.2.1 (p.nat a.2.2.2.2.2.1) 0)) [ci])<|
 opt.need _ (p.cmp .geq (p.rdI a.2.2.2.1 (p.nat a.2.2.2.2.2.1) 0) (0:Int))<|
 opt.ret _ (Sum.inl (a.1,((p.ar .add .i64 a.2.1 (p.rdI a.1 (p.nat (p.rdI a.2.2.2.1 (p.nat a.2.2.2.2.2.1) 0)) 0)),(a.2.2.1,(a.2.2.2.1,(a.2.2.2.2.1,((p.ar .add .i64 a.2.2.2.2.2.1 (1:Int)),())))))))) (
 opt.ret _ (Sum.inr (a.1,(a.2.1,(a.2.2.1,()))))))
def g28 (it:It):(p:Prim)→(LD×(LD×Unit))→Option T2:=
 fun p x=>
 opt.bnd T2 _ (g61 it p (x.1,())) fun a=>
 opt.ask _ (p.cmp .neq a.1 (0:Int)) (
 opt.ret _ (a.1,())) (
 opt.bnd T0 _ (g56 it p (x.2.1,((p.ofNat (p.len x.1)),()))) fun b=>
 opt.ask _ (bif b.1 then Bool.false else Bool.true) (
 opt.ret _ ((3:Int),())) (
 opt.bnd ((LD×T3)) _ (
 it _ _ (w79 p) (x.1,((0:Int),((p.ofNat (p.len x.2.1)),(x.2.1,((p.ofNat (p.len x.2.1)),((0:Int),()))))))) fun c=>
 opt.bnd T0 _ (
 opt.run T0 (
 opt.need _ (p.cmp .neq (2:Int) (0:Int))<|
 opt.ask _ (p.cmp .lss c.2.1 (p.ar .quo .i64 (p.ar .mul .i64 c.2.2.1 (p.ar .sub .i64 c.2.2.1 (1:Int))) (2:Int))) (
 opt.ret _ (Bool.true,())) (
 opt.ask _ (p.cmp .eql c.2.2.1 (p.ofNat (p.len c.1))) (
 opt.need _ (p.cmp .neq (2:Int) (0:Int))<|
 opt.ret _ ((p.cmp .neq c.2.1 (p.ar .quo .i64 (p.ar .mul .i64 c.2.2.1 (p.ar .sub .i64 c.2.2.1 (1:Int))) (2:Int))),())) (
 opt.ret _ (Bool.false,()))))) fun d=>
 opt.ask _ d.1 (
 opt.ret _ ((0:Int),())) (
 opt.ret _ ((14:Int),()))))
def G28:=g28 it0
theorem ok28:CtrOk PG w20 (G28 std):=okF (a:=an28) (l:=la28) (gC w4z (gC w4y (gN))) (by kernel_rfl) fun _ _=>by kernel_rfl
end Go.Am
end
noncomputable section
namespace Go.Am
def y4x:Ctr:=
 ⟨105,[.sl 0 1, .int .i64, .int .i64, .int .i64, .clo 67 [] [.bptr 1 0]],[.row [ci], .box [.sl 2 1], .row [ci]],[]⟩
def w3u:Prim→Tup (y4x).scs→Option (STup (scss (y4x).outs)):=
 fun _ _=>none
theorem x0x:z2d Go.Proofs.Try.prog 105:=enters_auto (b:=_) rfl (by kernel_rfl)
theorem w01:CtrOk Go.Proofs.Try.prog y4x (w3u std):=⟨x0x,fun x y h=>by cases h⟩
def x3m:Ctr:=
 ⟨104,[.sl 0 1, .int .i64, .int .i64, .clo 67 [] [.bptr 1 0]],[.row [ci], .box [.sl 2 1], .row [ci]],[(.ret,⟨[(0, .tuple [])],[.row [ci], .box [.sl 2 1], .row [ci]],1⟩)]⟩
def w1n:List LA:=
 [⟨104,[false,true],3,⟨⟨[(0, .sl 0 1),(1, .int .i64),(2, .int .i64),(3, .clo 67 [] [.bptr 1 0]),(8, .int .i64)],[.row [ci], .box [.sl 2 1], .row [ci]],53⟩,[((AX.exit 0),⟨[],[.row [ci], .box [.sl 2 1], .row [ci]],53⟩)]⟩⟩,
 ⟨104,[false,true,false,false,true,false,false,true],3,⟨⟨[(0, .sl 0 1),(1, .int .i64),(2, .int .i64),(3, .clo 67 [] [.bptr 1 0]),(8, .int .i64),(9, .int .i64)],[.row [ci], .box [.sl 2 1], .row [ci]],53⟩,[((AX.exit 2),⟨[(0, .sl 0 1),(1, .int .i64),(2, .int .i64),(3, .clo 67 [] [.bptr 1 0]),(8, .int .i64)],[.row [ci], .box [.sl 2 1], .row [ci]],53⟩)]⟩⟩]
def w1o:List JA:=
 [⟨68,[true,false,true,true,true],3,[(AX.ret,⟨[(4, .int .i64)],[.row [ci], .box [.sl 2 1], .row [ci]],20⟩),(AX.normal,⟨[(0, .int .i64),(1, .int .i64),(6, .bool)],[.row [ci], .box [.sl 2 1], .row [ci]],20⟩)]⟩]
def x9g:List CF:=
 []
def w3j:Anns:=
 ⟨x9g,w1o,[]⟩
def w0g (p:Prim):(LD×(LD×T12))→Option ((LD×(LD×T12))⊕(LD×(LD×T10))):=
 fun a=>opt.run _ (
 opt.ask _ (p.cmp .gtr a.2.2.2.2.2.2.2.2.2.1 a.2.2.2.2.2.2.1) (
 opt.need _ (bif (p.cmp .geq a.2.2.2.2.2.2.2.2.2.1 (0:Int)) then (p.cmp .lss a.2.2.2.2.2.2.2.2.2.1 (p.ofNat a.2.2.2.2.2.1)) else Bool.false)<|
 opt.need _ (p.rowOk a.1 (p.add a.2.2.2.2.1 (p.nat a.2.2.2.2.2.2.2.2.2.1)) [ci])<|
 opt.need _ (bif (p.cmp .geq (p.ar .sub .i64 a.2.2.2.2.2.2.2.2.2.1 (1:Int)) (0:Int)) then (p.cmp .lss (p.ar .sub .i64 a.2.2.2.2.2.2.2.2.2.1 (1:Int)) (p.ofNat a.2.2.2.2.2.1)) else Bool.false)<|
 opt.need _ (p.rowOk a.1 (p.add a.2.2.2.2.1 (p.nat (p.ar .sub .i64 a.2.2.2.2.2.2.2.2.2.1 (1:Int)))) [ci])<|
 opt.need _ (bif (p.cmp .geq (p.rdI a.1 (p.add a.2.2.2.2.1 (p.nat a.2.2.2.2.2.2.2.2.2.1)) 0) (0:Int)) then (p.cmp .lss (p.rdI a.1 (p.add a.2.2.2.2.1 (p.nat a.2.2.2.2.2.2.2.2.2.1)) 0) (p.ofNat a.2.2.2.1)) else Bool.false)<|
 opt.need _ (p.rowOk a.2.1 (p.add a.2.2.1 (p.nat (p.rdI a.1 (p.add a.2.2.2.2.1 (p.nat a.2.2.2.2.2.2.2.2.2.1)) 0))) [ci])<|
 opt.need _ (bif (p.cmp .geq (p.rdI a.1 (p.add a.2.2.2.2.1 (p.nat (p.ar .sub .i64 a.2.2.2.2.2.2.2.2.2.1 (1:Int)))) 0) (0:Int)) then (p.cmp .lss (p.rdI a.1 (p.add a.2.2.2.2.1 (p.nat (p.ar .sub .i64 a.2.2.2.2.2.2.2.2.2.1 (1:Int)))) 0) (p.ofNat a.2.2.2.1)) else Bool.false)<|
 opt.need _ (p.rowOk a.2.1 (p.add a.2.2.1 (p.nat (p.rdI a.1 (p.add a.2.2.2.2.1 (p.nat (p.ar .sub .i64 a.2.2.2.2.2.2.2.2.2.1 (1:Int)))) 0))) [ci])<|
 opt.alt ((LD×(LD×(Nat×(Nat×(Int×Unit)))))) ((LD×(LD×T24))) _ (
 opt.run (((LD×(LD×(Nat×(Nat×(Int×Unit)))))⊕(LD×(LD×T24)))) (
 opt.ask _ (p.cmp .neq (p.rdI a.2.1 (p.add a.2.2.1 (p.nat (p.rdI a.1 (p.add a.2.2.2.2.1 (p.nat a.2.2.2.2.2.2.2.2.2.1)) 0))) 0) (p.rdI a.2.1 (p.add a.2.2.1 (p.nat (p.rdI a.1 (p.add a.2.2.2.2.1 (p.nat a.2.2.2.2.2.2.2.2.2.1)) 0))) 0)) (
 opt.ask _ (p.cmp .neq (p.rdI a.2.1 (p.add a.2.2.1 (p.nat (p.rdI a.1 (p.add a.2.2.2.2.1 (p.nat (p.ar .sub .i64 a.2.2.2.2.2.2.2.2.2.1 (1:Int)))) 0))) 0) (p.rdI a.2.1 (p.add a.2.2.1 (p.nat (p.rdI a.1 (p.add a.2.2.2.2.1 (p.nat (p.ar .sub .i64 a.2.2.2.2.2.2.2.2.2.1 (1:Int)))) 0))) 0)) (
 opt.ret _ (Sum.inl (a.1,(a.2.1,(a.2.2.1,(a.2.2.2.1,((0:Int),()))))))) (
 opt.ret _ (Sum.inl (a.1,(a.2.1,(a.2.2.1,(a.2.2.2.1,((-1:Int),())))))))) (
 opt.ret _ (Sum.inr (a.1,(a.2.1,(a.2.2.1,(a.2.2.2.1,((p.rdI a.2.1 (p.add a.2.2.1 (p.nat (p.rdI a.1 (p.add a.2.2.2.2.1 (p.nat a.2.2.2.2.2.2.2.2.2.1)) 0))) 0),((p.rdI a.2.1 (p.add a.2.2.1 (p.nat (p.rdI a.1 (p.add a.2.2.2.2.1 (p.nat (p.ar .sub .i64 a.2.2.2.2.2.2.2.2.2.1 (1:Int)))) 0))) 0),((p.cmp .neq (p.rdI a.2.1 (p.add a.2.2.1 (p.nat (p.rdI a.1 (p.add a.2.2.2.2.1 (p.nat (p.ar .sub .i64 a.2.2.2.2.2.2.2.2.2.1 (1:Int)))) 0))) 0) (p.rdI a.2.1 (p.add a.2.2.1 (p.nat (p.rdI a.1 (p.add a.2.2.2.2.1 (p.nat (p.ar .sub .i64 a.2.2.2.2.2.2.2.2.2.1 (1:Int)))) 0))) 0)),()))))))))))) (fun b=>
 opt.ask _ (p.cmp .lss b.2.2.2.2.1 (0:Int)) (
 opt.need _ (bif (p.cmp .geq (p.ar .sub .i64 a.2.2.2.2.2.2.2.2.2.1 (1:Int)) (0:Int)) then (p.cmp .lss (p.ar .sub .i64 a.2.2.2.2.2.2.2.2.2.1 (1:Int)) (p.ofNat a.2.2.2.2.2.1)) else Bool.false)<|
 opt.need _ (p.rowOk b.1 (p.add a.2.2.2.2.1 (p.nat (p.ar .sub .i64 a.2.2.2.2.2.2.2.2.2.1 (1:Int)))) [ci])<|
 opt.need _ (bif (p.cmp .geq a.2.2.2.2.2.2.2.2.2.1 (0:Int)) then (p.cmp .lss a.2.2.2.2.2.2.2.2.2.1 (p.ofNat a.2.2.2.2.2.1)) else Bool.false)<|
 opt.need _ (p.rowOk b.1 (p.add a.2.2.2.2.1 (p.nat a.2.2.2.2.2.2.2.2.2.1)) [ci])<|
 opt.need _ (bif (p.cmp .geq a.2.2.2.2.2.2.2.2.2.1 (0:Int)) then (p.cmp .lss a.2.2.2.2.2.2.2.2.2.1 (p.ofNat a.2.2.2.2.2.1)) else Bool.false)<|
 opt.need _ (p.rowOk b.1 (p.add a.2.2.2.2.1 (p.nat a.2.2.2.2.2.2.2.2.2.1)) [ci])<|
 opt.need _ (bif (p.cmp .geq (p.ar .sub .i64 a.2.2.2.2.2.2.2.2.2.1 (1:Int)) (0:Int)) then (p.cmp .lss (p.ar .sub .i64 a.2.2.2.2.2.2.2.2.2.1 (1:Int)) (p.ofNat a.2.2.2.2.2.1)) else Bool.false)<|
 opt.need _ (p.rowOk (p.set b.1 (p.add a.2.2.2.2.1 (p.nat a.2.2.2.2.2.2.2.2.2.1)) [(D.int .i64 (p.rdI b.1 (p.add a.2.2.2.2.1 (p.nat (p.ar .sub .i64 a.2.2.2.2.2.2.2.2.2.1 (1:Int)))) 0))]) (p.add a.2.2.2.2.1 (p.nat (p.ar .sub .i64 a.2.2.2.2.2.2.2.2.2.1 (1:Int)))) [ci])<|
 opt.ret _ (Sum.inl ((p.set (p.set b.1 (p.add a.2.2.2.2.1 (p.nat a.2.2.2.2.2.2.2.2.2.1)) [(D.int .i64 (p.rdI b.1 (p.add a.2.2.2.2.1 (p.nat (p.ar .sub .i64 a.2.2.2.2.2.2.2.2.2.1 (1:Int)))) 0))]) (p.add a.2.2.2.2.1 (p.nat (p.ar .sub .i64 a.2.2.2.2.2.2.2.2.2.1 (1:Int)))) [(D.int .i64 (p.rdI b.1 (p.add a.2.2.2.2.1 (p.nat a.2.2.2.2.2.2.2.2.2.1)) 0))]),(b.2.1,(b.2.2.1,(b.2.2.2.1,(a.2.2.2.2.1,(a.2.2.2.2.2.1,(a.2.2.2.2.2.2.1,(a.2.2.2.2.2.2.2.1,(a.2.2.2.2.2.2.2.2.1,((p.ar .sub .i64 a.2.2.2.2.2.2.2.2.2.1 (1:Int)),())))))))))))) (
 opt.ret _ (Sum.inr (b.1,(b.2.1,(b.2.2.1,(b.2.2.2.1,(a.2.2.2.2.1,(a.2.2.2.2.2.1,(a.2.2.2.2.2.2.1,(a.2.2.2.2.2.2.2.1,(a.2.2.2.2.2.2.2.2.1,())))))))))))) (fun c=>
 opt.bnd ((LD×(LD×T24))) _ (some c) fun d=>
 opt.ask _ d.2.2.2.2.2.2.1 (
 opt.ask _ (p.cmp .lss (1:Int) (0:Int)) (
 opt.need _ (bif (p.cmp .geq (p.ar .sub .i64 a.2.2.2.2.2.2.2.2.2.1 (1:Int)) (0:Int)) then (p.cmp .lss (p.ar .sub .i64 a.2.2.2.2.2.2.2.2.2.1 (1:Int)) (p.ofNat a.2.2.2.2.2.1)) else Bool.false)<|
 opt.need _ (p.rowOk d.1 (p.add a.2.2.2.2.1 (p.nat (p.ar .sub .i64 a.2.2.2.2.2.2.2.2.2.1 (1:Int)))) [ci])<|
 opt.need _ (bif (p.cmp .geq a.2.2.2.2.2.2.2.2.2.1 (0:Int)) then (p.cmp .lss a.2.2.2.2.2.2.2.2.2.1 (p.ofNat a.2.2.2.2.2.1)) else Bool.false)<|
 opt.need _ (p.rowOk d.1 (p.add a.2.2.2.2.1 (p.nat a.2.2.2.2.2.2.2.2.2.1)) [ci])<|
 opt.need _ (bif (p.cmp .geq a.2.2.2.2.2.2.2.2.2.1 (0:Int)) then (p.cmp .lss a.2.2.2.2.2.2.2.2.2.1 (p.ofNat a.2.2.2.2.2.1)) else Bool.false)<|
 opt.need _ (p.rowOk d.1 (p.add a.2.2.2.2.1 (p.nat a.2.2.2.2.2.2.2.2.2.1)) [ci])<|
 opt.need _ (bif (p.cmp .geq (p.ar .sub .i64 a.2.2.2.2.2.2.2.2.2.1 (1:Int)) (0:Int)) then (p.cmp .lss (p.ar .sub .i64 a.2.2.2.2.2.2.2.2.2.1 (1:Int)) (p.ofNat a.2.2.2.2.2.1)) else Bool.false)<|
 opt.need _ (p.rowOk (p.set d.1 (p.add a.2.2.2.2.1 (p.nat a.2.2.2.2.2.2.2.2.2.1)) [(D.int .i64 (p.rdI d.1 (p.add a.2.2.2.2.1 (p.nat (p.ar .sub .i64 a.2.2.2.2.2.2.2.2.2.1 (1:Int)))) 0))]) (p.add a.2.2.2.2.1 (p.nat (p.ar .sub .i64 a.2.2.2.2.2.2.2.2.2.1 (1:Int)))) [ci])<|
 opt.ret _ (Sum.inl ((p.set (p.set d.1 (p.add a.2.2.2.2.1 (p.nat a.2.2.2.2.2.2.2.2.2.1)) [(D.int .i64 (p.rdI d.1 (p.add a.2.2.2.2.1 (p.nat (p.ar .sub .i64 a.2.2.2.2.2.2.2.2.2.1 (1:Int)))) 0))]) (p.add a.2.2.2.2.1 (p.nat (p.ar .sub .i64 a.2.2.2.2.2.2.2.2.2.1 (1:Int)))) [(D.int .i64 (p.rdI d.1 (p.add a.2.2.2.2.1 (p.nat a.2.2.2.2.2.2.2.2.2.1)) 0))]),(d.2.1,(d.2.2.1,(d.2.2.2.1,(a.2.2.2.2.1,(a.2.2.2.2.2.1,(a.2.2.2.2.2.2.1,(a.2.2.2.2.2.2.2.1,(a.2.2.2.2.2.2.2.2.1,((p.ar .sub .i64 a.2.2.2.2.2.2.2.2.2.1 (1:Int)),())))))))))))) (
 opt.ret _ (Sum.inr (d.1,(d.2.1,(d.2.2.1,(d.2.2.2.1,(a.2.2.2.2.1,(a.2.2.2.2.2.1,(a.2.2.2.2.2.2.1,(a.2.2.2.2.2.2.2.1,(a.2.2.2.2.2.2.2.2.1,())))))))))))) (
 opt.ask _ (p.cmp .lss d.2.2.2.2.1 d.2.2.2.2.2.1) (
 opt.ask _ (p.cmp .lss (-1:Int) (0:Int)) (
 opt.need _ (bif (p.cmp .geq (p.ar .sub .i64 a.2.2.2.2.2.2.2.2.2.1 (1:Int)) (0:Int)) then (p.cmp .lss (p.ar .sub .i64 a.2.2.2.2.2.2.2.2.2.1 (1:Int)) (p.ofNat a.2.2.2.2.2.1)) else Bool.false)<|
 opt.need _ (p.rowOk d.1 (p.add a.2.2.2.2.1 (p.nat (p.ar .sub .i64 a.2.2.2.2.2.2.2.2.2.1 (1:Int)))) [ci])<|
 opt.need _ (bif (p.cmp .geq a.2.2.2.2.2.2.2.2.2.1 (0:Int)) then (p.cmp .lss a.2.2.2.2.2.2.2.2.2.1 (p.ofNat a.2.2.2.2.2.1)) else Bool.false)<|
 opt.need _ (p.rowOk d.1 (p.add a.2.2.2.2.1 (p.nat a.2.2.2.2.2.2.2.2.2.1)) [ci])<|
 opt.need _ (bif (p.cmp .geq a.2.2.2.2.2.2.2.2.2.1 (0:Int)) then (p.cmp .lss a.2.2.2.2.2.2.2.2.2.1 (p.ofNat a.2.2.2.2.2.1)) else Bool.false)<|
 opt.need _ (p.rowOk d.1 (p.add a.2.2.2.2.1 (p.nat a.2.2.2.2.2.2.2.2.2.1)) [ci])<|
 opt.need _ (bif (p.cmp .geq (p.ar .sub .i64 a.2.2.2.2.2.2.2.2.2.1 (1:Int)) (0:Int)) then (p.cmp .lss (p.ar .sub .i64 a.2.2.2.2.2.2.2.2.2.1 (1:Int)) (p.ofNat a.2.2.2.2.2.1)) else Bool.false)<|
 opt.need _ (p.rowOk (p.set d.1 (p.add a.2.2.2.2.1 (p.nat a.2.2.2.2.2.2.2.2.2.1)) [(D.int .i64 (p.rdI d.1 (p.add a.2.2.2.2.1 (p.nat (p.ar .sub .i64 a.2.2.2.2.2.2.2.2.2.1 (1:Int)))) 0))]) (p.add a.2.2.2.2.1 (p.nat (p.ar .sub .i64 a.2.2.2.2.2.2.2.2.2.1 (1:Int)))) [ci])<|
 opt.ret _ (Sum.inl ((p.set (p.set d.1 (p.add a.2.2.2.2.1 (p.nat a.2.2.2.2.2.2.2.2.2.1)) [(D.int .i64 (p.rdI d.1 (p.add a.2.2.2.2.1 (p.nat (p.ar .sub .i64 a.2.2.2.2.2.2.2.2.2.1 (1:Int)))) 0))]) (p.add a.2.2.2.2.1 (p.nat (p.ar .sub .i64 a.2.2.2.2.2.2.2.2.2.1 (1:Int)))) [(D.int .i64 (p.rdI d.1 (p.add a.2.2.2.2.1 (p.nat a.2.2.2.2.2.2.2.2.2.1)) 0))]),(d.2.1,(d.2.2.1,(d.2.2.2.1,(a.2.2.2.2.1,(a.2.2.2.2.2.1,(a.2.2.2.2.2.2.1,(a.2.2.2.2.2.2.2.1,(a.2.2.2.2.2.2.2.2.1,((p.ar .sub .i64 a.2.2.2.2.2.2.2.2.2.1 (1:Int)),())))))))))))) (
 opt.ret _ (Sum.inr (d.1,(d.2.1,(d.2.2.1,(d.2.2.2.1,(a.2.2.2.2.1,(a.2.2.2.2.2.1,(a.2.2.2.2.2.2.1,(a.2.2.2.2.2.2.2.1,(a.2.2.2.2.2.2.2.2.1,())))))))))))) (
 opt.ask _ (p.cmp .gtr d.2.2.2.2.1 d.2.2.2.2.2.1) (
 opt.ask _ (p.cmp .lss (1:Int) (0:Int)) (
 opt.need _ (bif (p.cmp .geq (p.ar .sub .i64 a.2.2.2.2.2.2.2.2.2.1 (1:Int)) (0:Int)) then (p.cmp .lss (p.ar .sub .i64 a.2.2.2.2.2.2.2.2.2.1 (1:Int)) (p.ofNat a.2.2.2.2.2.1)) else Bool.false)<|
 opt.need _ (p.rowOk d.1 (p.add a.2.2.2.2.1 (p.nat (p.ar .sub .i64 a.2.2.2.2.2.2.2.2.2.1 (1:Int)))) [ci])<|
 opt.need _ (bif (p.cmp .geq a.2.2.2.2.2.2.2.2.2.1 (0:Int)) then (p.cmp .lss a.2.2.2.2.2.2.2.2.2.1 (p.ofNat a.2.2.2.2.2.1)) else Bool.false)<|
 opt.need _ (p.rowOk d.1 (p.add a.2.2.2.2.1 (p.nat a.2.2.2.2.2.2.2.2.2.1)) [ci])<|
 opt.need _ (bif (p.cmp .geq a.2.2.2.2.2.2.2.2.2.1 (0:Int)) then (p.cmp .lss a.2.2.2.2.2.2.2.2.2.1 (p.ofNat a.2.2.2.2.2.1)) else Bool.false)<|
 opt.need _ (p.rowOk d.1 (p.add a.2.2.2.2.1 (p.nat a.2.2.2.2.2.2.2.2.2.1)) [ci])<|
 opt.need _ (bif (p.cmp .geq (p.ar .sub .i64 a.2.2.2.2.2.2.2.2.2.1 (1:Int)) (0:Int)) then (p.cmp .lss (p.ar .sub .i64 a.2.2.2.2.2.2.2.2.2.1 (1:Int)) (p.ofNat a.2.2.2.2.2.1)) else Bool.false)<|
 opt.need _ (p.rowOk (p.set d.1 (p.add a.2.2.2.2.1 (p.nat a.2.2.2.2.2.2.2.2.2.1)) [(D.int .i64 (p.rdI d.1 (p.add a.2.2.2.2.1 (p.nat (p.ar .sub .i64 a.2.2.2.2.2.2.2.2.2.1 (1:Int)))) 0))]) (p.add a.2.2.2.2.1 (p.nat (p.ar .sub .i64 a.2.2.2.2.2.2.2.2.2.1 (1:Int)))) [ci])<|
 opt.ret _ (Sum.inl ((p.set (p.set d.1 (p.add a.2.2.2.2.1 (p.nat a.2.2.2.2.2.2.2.2.2.1)) [(D.int .i64 (p.rdI d.1 (p.add a.2.2.2.2.1 (p.nat (p.ar .sub .i64 a.2.2.2.2.2.2.2.2.2.1 (1:Int)))) 0))]) (p.add a.2.2.2.2.1 (p.nat (p.ar .sub .i64 a.2.2.2.2.2.2.2.2.2.1 (1:Int)))) [(D.int .i64 (p.rdI d.1 (p.add a.2.2.2.2.1 (p.nat a.2.2.2.2.2.2.2.2.2.1)) 0))]),(d.2.1,(d.2.2.1,(d.2.2.2.1,(a.2.2.2.2.1,(a.2.2.2.2.2.1,(a.2.2.2.2.2.2.1,(a.2.2.2.2.2.2.2.1,(a.2.2.2.2.2.2.2.2.1,((p.ar .sub .i64 a.2.2.2.2.2.2.2.2.2.1 (1:Int)),())))))))))))) (
 opt.ret _ (Sum.inr (d.1,(d.2.1,(d.2.2.1,(d.2.2.2.1,(a.2.2.2.2.1,(a.2.2.2.2.2.1,(a.2.2.2.2.2.2.1,(a.2.2.2.2.2.2.2.1,(a.2.2.2.2.2.2.2.2.1,())))))))))))) (
 opt.ask _ (p.cmp .lss (0:Int) (0:Int)) (
 opt.need _ (bif (p.cmp .geq (p.ar .sub .i64 a.2.2.2.2.2.2.2.2.2.1 (1:Int)) (0:Int)) then (p.cmp .lss (p.ar .sub .i64 a.2.2.2.2.2.2.2.2.2.1 (1:Int)) (p.ofNat a.2.2.2.2.2.1)) else Bool.false)<|
 opt.need _ (p.rowOk d.1 (p.add a.2.2.2.2.1 (p.nat (p.ar .sub .i64 a.2.2.2.2.2.2.2.2.2.1 (1:Int)))) [ci])<|
 opt.need _ (bif (p.cmp .geq a.2.2.2.2.2.2.2.2.2.1 (0:Int)) then (p.cmp .lss a.2.2.2.2.2.2.2.2.2.1 (p.ofNat a.2.2.2.2.2.1)) else Bool.false)<|
 opt.need _ (p.rowOk d.1 (p.add a.2.2.2.2.1 (p.nat a.2.2.2.2.2.2.2.2.2.1)) [ci])<|
 opt.need _ (bif (p.cmp .geq a.2.2.2.2.2.2.2.2.2.1 (0:Int)) then (p.cmp .lss a.2.2.2.2.2.2.2.2.2.1 (p.ofNat a.2.2.2.2.2.1)) else Bool.false)<|
 opt.need _ (p.rowOk d.1 (p.add a.2.2.2.2.1 (p.nat a.2.2.2.2.2.2.2.2.2.1)) [ci])<|
 opt.need _ (bif (p.cmp .geq (p.ar .sub .i64 a.2.2.2.2.2.2.2.2.2.1 (1:Int)) (0:Int)) then (p.cmp .lss (p.ar .sub .i64 a.2.2.2.2.2.2.2.2.2.1 (1:Int)) (p.ofNat a.2.2.2.2.2.1)) else Bool.false)<|
 opt.need _ (p.rowOk (p.set d.1 (p.add a.2.2.2.2.1 (p.nat a.2.2.2.2.2.2.2.2.2.1)) [(D.int .i64 (p.rdI d.1 (p.add a.2.2.2.2.1 (p.nat (p.ar .sub .i64 a.2.2.2.2.2.2.2.2.2.1 (1:Int)))) 0))]) (p.add a.2.2.2.2.1 (p.nat (p.ar .sub .i64 a.2.2.2.2.2.2.2.2.2.1 (1:Int)))) [ci])<|
 opt.ret _ (Sum.inl ((p.set (p.set d.1 (p.add a.2.2.2.2.1 (p.nat a.2.2.2.2.2.2.2.2.2.1)) [(D.int .i64 (p.rdI d.1 (p.add a.2.2.2.2.1 (p.nat (p.ar .sub .i64 a.2.2.2.2.2.2.2.2.2.1 (1:Int)))) 0))]) (p.add a.2.2.2.2.1 (p.nat (p.ar .sub .i64 a.2.2.2.2.2.2.2.2.2.1 (1:Int)))) [(D.int .i64 (p.rdI d.1 (p.add a.2.2.2.2.1 (p.nat a.2.2.2.2.2.2.2.2.2.1)) 0))]),(d.2.1,(d.2.2.1,(d.2.2.2.1,(a.2.2.2.2.1,(a.2.2.2.2.2.1,(a.2.2.2.2.2.2.1,(a.2.2.2.2.2.2.2.1,(a.2.2.2.2.2.2.2.2.1,((p.ar .sub .i64 a.2.2.2.2.2.2.2.2.2.1 (1:Int)),())))))))))))) (
 opt.ret _ (Sum.inr (d.1,(d.2.1,(d.2.2.1,(d.2.2.2.1,(a.2.2.2.2.1,(a.2.2.2.2.2.1,(a.2.2.2.2.2.2.1,(a.2.2.2.2.2.2.2.1,(a.2.2.2.2.2.2.2.2.1,())))))))))))))))) (
 opt.ret _ (Sum.inr (a.1,(a.2.1,(a.2.2.1,(a.2.2.2.1,(a.2.2.2.2.1,(a.2.2.2.2.2.1,(a.2.2.2.2.2.2.1,(a.2.2.2.2.2.2.2.1,(a.2.2.2.2.2.2.2.2.1,()))))))))))))
def y8d (it:It) (p:Prim):(LD×(LD×T10))→Option ((LD×(LD×T10))⊕(LD×(LD×T5))):=
 fun a=>opt.run _ (
 opt.ask _ (p.cmp .lss a.2.2.2.2.2.2.2.2.1 a.2.2.2.2.2.2.2.1) (
 opt.bnd ((LD×(LD×T10))) _ (
 it _ _ (w0g p) (a.1,(a.2.1,(a.2.2.1,(a.2.2.2.1,(a.2.2.2.2.1,(a.2.2.2.2.2.1,(a.2.2.2.2.2.2.1,(a.2.2.2.2.2.2.2.1,(a.2.2.2.2.2.2.2.2.1,(a.2.2.2.2.2.2.2.2.1,()))))))))))) fun b=>
 opt.ret _ (Sum.inl (b.1,(b.2.1,(b.2.2.1,(b.2.2.2.1,(b.2.2.2.2.1,(b.2.2.2.2.2.1,(b.2.2.2.2.2.2.1,(b.2.2.2.2.2.2.2.1,((p.ar .add .i64 b.2.2.2.2.2.2.2.2.1 (1:Int)),()))))))))))) (
 opt.ret _ (Sum.inr (a.1,(a.2.1,(a.2.2.1,(a.2.2.2.1,())))))))
def x2u (it:It):(p:Prim)→(LD×(LD×T16))→Option ((LD×(LD×T5))):=
 fun p x=>
 opt.bnd ((LD×(LD×T5))) _ (
 it _ _ (y8d it p) (x.1,(x.2.1,(x.2.2.1,(x.2.2.2.1,(x.2.2.2.2.1,(x.2.2.2.2.2.1,(x.2.2.2.2.2.2.1,(x.2.2.2.2.2.2.2.1,((p.ar .add .i64 x.2.2.2.2.2.2.1 (1:Int)),())))))))))) fun a=>
 opt.ret _ (a.1,(a.2.1,(a.2.2.1,(a.2.2.2.1,()))))
def w3s:=x2u it0
theorem w02:CtrOk PG x3m (w3s std):=okF (a:=w3j) (l:=w1n) (gN) (by kernel_rfl) fun _ _=>by kernel_rfl
def x7i:Ctr:=
 ⟨86,[.sl 0 1, .int .i64, .clo 67 [] [.bptr 1 0]],[.row [ci], .box [.sl 2 1], .row [ci]],[(.ret,⟨[(0, .tuple [])],[.row [ci], .box [.sl 2 1], .row [ci]],1⟩)]⟩
def w5r:List LA:=
 [⟨86,[false,false,true,true],3,⟨⟨[(0, .sl 0 1),(1, .int .i64),(2, .clo 67 [] [.bptr 1 0]),(6, .int .i64),(7, .int .i64),(8, .int .i64)],[.row [ci], .box [.sl 2 1], .row [ci]],63⟩,[((AX.exit 0),⟨[(0, .sl 0 1),(1, .int .i64),(2, .clo 67 [] [.bptr 1 0]),(6, .int .i64),(7, .int .i64)],[.row [ci], .box [.sl 2 1], .row [ci]],63⟩)]⟩⟩,
 ⟨86,[false,true,true,true,true],3,⟨⟨[(0, .sl 0 1),(1, .int .i64),(2, .clo 67 [] [.bptr 1 0]),(6, .int .i64)],[.row [ci], .box [.sl 2 1], .row [ci]],63⟩,[((AX.exit 2),⟨[],[.row [ci], .box [.sl 2 1], .row [ci]],63⟩)]⟩⟩,
 ⟨86,[false,false,true,false,true,false,false,true,true,true,true],3,⟨⟨[(0, .sl 0 1),(1, .int .i64),(2, .clo 67 [] [.bptr 1 0]),(6, .int .i64),(7, .int .i64),(8, .int .i64)],[.row [ci], .box [.sl 2 1], .row [ci]],63⟩,[((AX.exit 4),⟨[(0, .sl 0 1),(1, .int .i64),(2, .clo 67 [] [.bptr 1 0]),(6, .int .i64),(7, .int .i64)],[.row [ci], .box [.sl 2 1], .row [ci]],63⟩)]⟩⟩]
def w52:List JA:=
 []
def w1u:List CF:=
 [⟨y4x,w3u⟩,⟨x3m,w3s⟩]
def w8e:Anns:=
 ⟨w1u,w52,[]⟩
def w3f (p:Prim):(LD×(LD×T12))→Option ((LD×(LD×T12))⊕(LD×(LD×T10))):=
 fun a=>opt.run _ (
 opt.ask _ (p.cmp .leq a.2.2.2.2.2.2.2.2.2.1 a.2.2.2.2.2.2.1) (
 opt.no _ 81) (
 opt.ret _ (Sum.inr (a.1,(a.2.1,(a.2.2.1,(a.2.2.2.1,(a.2.2.2.2.1,(a.2.2.2.2.2.1,(a.2.2.2.2.2.2.1,(a.2.2.2.2.2.2.2.1,(a.2.2.2.2.2.2.2.2.1,()))))))))))))
def x3x (it:It) (p:Prim):(LD×(LD×T16))→Option ((LD×(LD×T16))⊕(LD×(LD×T5))):=
 fun a=>opt.run _ (
 opt.ask _ (p.cmp .lss a.2.2.2.2.2.2.2.1 a.2.2.2.2.2.2.1) (
 opt.bnd ((LD×(LD×T10))) _ (
 it _ _ (w3f p) (a.1,(a.2.1,(a.2.2.1,(a.2.2.2.1,(a.2.2.2.2.1,(a.2.2.2.2.2.1,(a.2.2.2.2.2.2.1,(a.2.2.2.2.2.2.2.1,((0:Int),((p.ar .mul .i64 (2:Int) a.2.2.2.2.2.2.2.1),()))))))))))) fun b=>
 opt.ask _ (p.cmp .lss (p.ar .add .i64 b.2.2.2.2.2.2.2.2.1 b.2.2.2.2.2.2.2.1) b.2.2.2.2.2.2.1) (
 opt.no _ 81) (
 opt.ret _ (Sum.inl (b.1,(b.2.1,(b.2.2.1,(b.2.2.2.1,(b.2.2.2.2.1,(b.2.2.2.2.2.1,(b.2.2.2.2.2.2.1,((p.ar .mul .i64 b.2.2.2.2.2.2.2.1 (2:Int)),()))))))))))) (
 opt.ret _ (Sum.inr (a.1,(a.2.1,(a.2.2.1,(a.2.2.2.1,())))))))
def x3y (it:It) (p:Prim):(LD×(LD×T12))→Option ((LD×(LD×T12))⊕(LD×(LD×T10))):=
 fun a=>opt.run _ (
 opt.ask _ (p.cmp .leq a.2.2.2.2.2.2.2.2.2.1 a.2.2.2.2.2.2.1) (
 opt.bnd ((LD×(LD×T5))) _ (x2u it p (a.1,(a.2.1,(a.2.2.1,(a.2.2.2.1,(a.2.2.2.2.1,(a.2.2.2.2.2.1,(a.2.2.2.2.2.2.2.2.1,(a.2.2.2.2.2.2.2.2.2.1,()))))))))) fun b=>
 opt.ret _ (Sum.inl (b.1,(b.2.1,(b.2.2.1,(b.2.2.2.1,(a.2.2.2.2.1,(a.2.2.2.2.2.1,(a.2.2.2.2.2.2.1,(a.2.2.2.2.2.2.2.1,(a.2.2.2.2.2.2.2.2.2.1,((p.ar .add .i64 a.2.2.2.2.2.2.2.2.2.1 a.2.2.2.2.2.2.2.1),())))))))))))) (
 opt.ret _ (Sum.inr (a.1,(a.2.1,(a.2.2.1,(a.2.2.2.1,(a.2.2.2.2.1,(a.2.2.2.2.2.1,(a.2.2.2.2.2.2.1,(a.2.2.2.2.2.2.2.1,(a.2.2.2.2.2.2.2.2.1,()))))))))))))
def w39 (it:It):(p:Prim)→(LD×(LD×(Nat×(Nat×(Nat×(Nat×(Int×Unit)))))))→Option ((LD×(LD×T5))):=
 fun p x=>
 opt.bnd ((LD×(LD×T10))) _ (
 it _ _ (x3y it p) (x.1,(x.2.1,(x.2.2.1,(x.2.2.2.1,(x.2.2.2.2.1,(x.2.2.2.2.2.1,(x.2.2.2.2.2.2.1,((20:Int),((0:Int),((20:Int),()))))))))))) fun a=>
 opt.bnd ((LD×(LD×T5))) _ (x2u it p (a.1,(a.2.1,(a.2.2.1,(a.2.2.2.1,(a.2.2.2.2.1,(a.2.2.2.2.2.1,(a.2.2.2.2.2.2.2.2.1,(a.2.2.2.2.2.2.1,()))))))))) fun b=>
 opt.bnd ((LD×(LD×T5))) _ (
 it _ _ (x3x it p) (b.1,(b.2.1,(b.2.2.1,(b.2.2.2.1,(a.2.2.2.2.1,(a.2.2.2.2.2.1,(a.2.2.2.2.2.2.1,(a.2.2.2.2.2.2.2.1,()))))))))) fun c=>
 opt.ret _ (c.1,(c.2.1,(c.2.2.1,(c.2.2.2.1,()))))
def w9g:=w39 it0
theorem w4u:CtrOk PG x7i (w9g std):=okF (a:=w8e) (l:=w5r) (gC w01 (gC w02 (gN))) (by kernel_rfl) fun _ _=>by kernel_rfl
def x7l:Ctr:=
 ⟨66,[.sl 0 1, .clo 67 [] [.bptr 1 0]],[.row [ci], .box [.sl 2 1], .row [ci]],[(.ret,⟨[(0, .tuple [])],[.row [ci], .box [.sl 2 1], .row [ci]],1⟩)]⟩
def w5u:List LA:=
 []
def w55:List JA:=
 []
def w1x:List CF:=
 [⟨x7i,w9g⟩]
def w8h:Anns:=
 ⟨w1x,w55,[]⟩
def w4b (it:It):(p:Prim)→(LD×(LD×T17))→Option ((LD×(LD×T5))):=
 fun p x=>
 opt.bnd ((LD×(LD×T5))) _ (w39 it p (x.1,(x.2.1,(x.2.2.1,(x.2.2.2.1,(x.2.2.2.2.1,(x.2.2.2.2.2.1,((p.ofNat x.2.2.2.2.2.1),())))))))) fun a=>
 opt.ret _ (a.1,(a.2.1,(a.2.2.1,(a.2.2.2.1,()))))
def w9j:=w4b it0
theorem w4x:CtrOk PG x7l (w9j std):=okF (a:=w8h) (l:=w5u) (gC w4u (gN)) (by kernel_rfl) fun _ _=>by kernel_rfl
end Go.Am
end
noncomputable section
namespace Go.Am
def w2r:Ctr:=
 ⟨49,[.bptr 0 0],[.row [ci]],[(.ret,⟨[(0, .list 1)],[.row [ci]],1⟩)]⟩
def la49:List LA:=
 [⟨49,[false,true,false,true,true,true],1,⟨⟨[(0, .bptr 0 0),(3, .full 1 1),(4, .bptr 2 0),(14, .int .i64),(15, .int .i64)],[.row [ci], .row [(CK.list 1)], .box [.int .i64, .int .i64, .int .i64, .int .i64, .int .i64, .int .i64, .int .i64, .int .i64, .int .i64, .int .i64]],65⟩,[((AX.exit 0),⟨[(3, .full 1 1)],[.row [ci], .row [(CK.list 1)]],65⟩)]⟩⟩,
 ⟨49,[false,true,true,true,false,false,true,true,false,false,true,false,true,true,true],1,⟨⟨[(0, .bptr 0 0),(3, .full 1 1),(4, .bptr 2 0),(5, .int .i64),(14, .int .i64),(15, .int .i64),(33, .int .i64),(34, .int .i64)],[.row [ci], .row [(CK.list 1)], .box [.int .i64, .int .i64, .int .i64, .int .i64, .int .i64, .int .i64, .int .i64, .int .i64, .int .i64, .int .i64]],65⟩,[((AX.exit 2),⟨[(0, .bptr 0 0),(3, .full 1 1),(4, .bptr 2 0),(14, .int .i64),(15, .int .i64)],[.row [ci], .row [(CK.list 1)], .box [.int .i64, .int .i64, .int .i64, .int .i64, .int .i64, .int .i64, .int .i64, .int .i64, .int .i64, .int .i64]],65⟩)]⟩⟩]
def ja49:List JA:=
 [⟨49,[true,true,false,false,true,true,false,false,true,true,true,false,false,true,true,false,false,true,false,true,true,true],1,[(AX.normal,⟨[(0, .bptr 0 0),(3, .full 1 1),(4, .bptr 2 0),(5, .int .i64),(14, .int .i64),(15, .int .i64),(33, .int .i64),(34, .int .i64)],[.row [ci], .row [(CK.list 1)], .box [.int .i64, .int .i64, .int .i64, .int .i64, .int .i64, .int .i64, .int .i64, .int .i64, .int .i64, .int .i64]],65⟩)]⟩,
 ⟨49,[false,true,true,false,false,true,false,true,true,true],1,[(AX.normal,⟨[(0, .bptr 0 0),(3, .full 1 1),(4, .bptr 2 0),(14, .int .i64),(15, .int .i64)],[.row [ci], .row [(CK.list 1)], .box [.int .i64, .int .i64, .int .i64, .int .i64, .int .i64, .int .i64, .int .i64, .int .i64, .int .i64, .int .i64]],65⟩)]⟩]
def w6y:List CF:=
 []
def an49:Anns:=
 ⟨w6y,ja49,[]⟩
def w74 (p:Prim):(LD×(LD×T21))→Option ((LD×(LD×T21))⊕(LD×(LD×T13))):=
 fun a=>opt.run _ (
 opt.ask _ (p.cmp .lss a.2.2.2.2.2.2.2.2.2.2.2.2.2.2.2.2.1 a.2.2.2.2.2.2.2.2.2.2.2.2.2.2.2.1) (
 opt.need _ (bif (p.cmp .geq a.2.2.2.2.2.2.2.2.2.2.2.2.1 (0:Int)) then (p.cmp .lss a.2.2.2.2.2.2.2.2.2.2.2.2.1 (p.ofNat 10)) else Bool.false)<|
 opt.need _ (bif (p.cmp .geq a.2.2.2.2.2.2.2.2.2.2.2.2.2.2.2.2.1 (0:Int)) then (p.cmp .lss a.2.2.2.2.2.2.2.2.2.2.2.2.2.2.2.2.1 (p.ofNat 10)) else Bool.false)<|
 opt.need _ (p.rowOk a.1 (p.add (p.add 1 (p.mul (p.nat a.2.2.2.2.2.2.2.2.2.2.2.2.1) 10)) (p.nat a.2.2.2.2.2.2.2.2.2.2.2.2.2.2.2.2.1)) [ci])<|
 opt.bnd ((LD×(LD×T21))) _ (
 opt.run ((LD×(LD×T21))) (
 opt.ask _ (p.cmp .eql (p.rdI a.1 (p.add (p.add 1 (p.mul (p.nat a.2.2.2.2.2.2.2.2.2.2.2.2.1) 10)) (p.nat a.2.2.2.2.2.2.2.2.2.2.2.2.2.2.2.2.1)) 0) (1:Int)) (
 opt.need _ (bif (p.cmp .geq a.2.2.2.2.2.2.2.2.2.2.2.2.1 (0:Int)) then (p.cmp .lss a.2.2.2.2.2.2.2.2.2.2.2.2.1 (p.ofNat (p.len a.2.1))) else Bool.false)<|
 opt.need _ (p.rowOk a.2.1 (p.add 0 (p.nat a.2.2.2.2.2.2.2.2.2.2.2.2.1)) [(CK.list 1)])<|
 opt.need _ (bif (p.cmp .geq a.2.2.2.2.2.2.2.2.2.2.2.2.1 (0:Int)) then (p.cmp .lss a.2.2.2.2.2.2.2.2.2.2.2.2.1 (p.ofNat (p.len a.2.1))) else Bool.false)<|
 opt.need _ (p.rowOk a.2.1 (p.add 0 (p.nat a.2.2.2.2.2.2.2.2.2.2.2.2.1)) [(CK.list 1)])<|
 opt.need _ (bif (p.cmp .geq a.2.2.2.2.2.2.2.2.2.2.2.2.1 (0:Int)) then (p.cmp .lss a.2.2.2.2.2.2.2.2.2.2.2.2.1 (p.ofNat (p.len a.2.1))) else Bool.false)<|
 opt.need _ (p.rowOk a.2.1 (p.add 0 (p.nat a.2.2.2.2.2.2.2.2.2.2.2.2.1)) [(CK.list 1)])<|
 opt.need _ (p.and (p.cmp .geq (0:Int) (0:Int)) (p.and (p.cmp .leq (0:Int) (p.ofNat (p.len (p.rdL a.2.1 (p.add 0 (p.nat a.2.2.2.2.2.2.2.2.2.2.2.2.1)) 0)))) (p.and (p.cmp .leq (p.ofNat (p.len (p.rdL a.2.1 (p.add 0 (p.nat a.2.2.2.2.2.2.2.2.2.2.2.2.1)) 0))) (p.ofNat (p.len (p.rdL a.2.1 (p.add 0 (p.nat a.2.2.2.2.2.2.2.2.2.2.2.2.1)) 0)))) (p.cmp .leq (p.ofNat (p.len (p.rdL a.2.1 (p.add 0 (p.nat a.2.2.2.2.2.2.2.2.2.2.2.2.1)) 0))) (p.ofNat (p.len (p.rdL a.2.1 (p.add 0 (p.nat a.2.2.2.2.2.2.2.2.2.2.2.2.1)) 0)))))))<|
 opt.ask _ (p.cmp .eql (p.ofNat (p.len (p.rdL a.2.1 (p.add 0 (p.nat a.2.2.2.2.2.2.2.2.2.2.2.2.1)) 0))) (p.ofNat (p.len (p.rdL a.2.1 (p.add 0 (p.nat a.2.2.2.2.2.2.2.2.2.2.2.2.1)) 0)))) (
 opt.need _ (p.and (p.leN (p.add 0 1) (p.len [[(D.int .i64 a.2.2.2.2.2.2.2.2.2.2.2.2.2.2.2.2.1)]])) (p.and (p.leN 1 1) (p.leN (p.add (p.len (p.cut (p.rdL a.2.1 (p.add 0 (p.nat a.2.2.2.2.2.2.2.2.2.2.2.2.1)) 0) (p.nat (0:Int)) (p.sub (p.nat (p.ofNat (p.len (p.rdL a.2.1 (p.add 0 (p.nat a.2.2.2.2.2.2.2.2.2.2.2.2.1)) 0)))) (p.nat (0:Int))))) 1) 1000000)))<|
 opt.need _ (bif (p.cmp .geq a.2.2.2.2.2.2.2.2.2.2.2.2.1 (0:Int)) then (p.cmp .lss a.2.2.2.2.2.2.2.2.2.2.2.2.1 (p.ofNat (p.len a.2.1))) else Bool.false)<|
 opt.need _ (p.rowOk a.2.1 (p.add 0 (p.nat a.2.2.2.2.2.2.2.2.2.2.2.2.1)) [(CK.list 1)])<|
 opt.need _ (p.eqN 0 0)<|
 opt.need _ (p.eqN (p.len a.2.1) (p.len (p.set a.2.1 (p.add 0 (p.nat a.2.2.2.2.2.2.2.2.2.2.2.2.1)) [(D.list Bool.false 1 (p.app (p.cut (p.rdL a.2.1 (p.add 0 (p.nat a.2.2.2.2.2.2.2.2.2.2.2.2.1)) 0) (p.nat (0:Int)) (p.sub (p.nat (p.ofNat (p.len (p.rdL a.2.1 (p.add 0 (p.nat a.2.2.2.2.2.2.2.2.2.2.2.2.1)) 0)))) (p.nat (0:Int)))) (p.cut [[(D.int .i64 a.2.2.2.2.2.2.2.2.2.2.2.2.2.2.2.2.1)]] 0 1)))])))<|
 opt.need _ (p.eqN (p.len a.2.1) (p.len (p.set a.2.1 (p.add 0 (p.nat a.2.2.2.2.2.2.2.2.2.2.2.2.1)) [(D.list Bool.false 1 (p.app (p.cut (p.rdL a.2.1 (p.add 0 (p.nat a.2.2.2.2.2.2.2.2.2.2.2.2.1)) 0) (p.nat (0:Int)) (p.sub (p.nat (p.ofNat (p.len (p.rdL a.2.1 (p.add 0 (p.nat a.2.2.2.2.2.2.2.2.2.2.2.2.1)) 0)))) (p.nat (0:Int)))) (p.cut [[(D.int .i64 a.2.2.2.2.2.2.2.2.2.2.2.2.2.2.2.2.1)]] 0 1)))])))<|
 opt.ret _ (a.1,((p.set a.2.1 (p.add 0 (p.nat a.2.2.2.2.2.2.2.2.2.2.2.2.1)) [(D.list Bool.false 1 (p.app (p.cut (p.rdL a.2.1 (p.add 0 (p.nat a.2.2.2.2.2.2.2.2.2.2.2.2.1)) 0) (p.nat (0:Int)) (p.sub (p.nat (p.ofNat (p.len (p.rdL a.2.1 (p.add 0 (p.nat a.2.2.2.2.2.2.2.2.2.2.2.2.1)) 0)))) (p.nat (0:Int)))) (p.cut [[(D.int .i64 a.2.2.2.2.2.2.2.2.2.2.2.2.2.2.2.2.1)]] 0 1)))]),(a.2.2.1,(a.2.2.2.1,(a.2.2.2.2.1,(a.2.2.2.2.2.1,(a.2.2.2.2.2.2.1,(a.2.2.2.2.2.2.2.1,(a.2.2.2.2.2.2.2.2.1,(a.2.2.2.2.2.2.2.2.2.1,(a.2.2.2.2.2.2.2.2.2.2.1,(a.2.2.2.2.2.2.2.2.2.2.2.1,(a.2.2.2.2.2.2.2.2.2.2.2.2.1,(a.2.2.2.2.2.2.2.2.2.2.2.2.2.1,(a.2.2.2.2.2.2.2.2.2.2.2.2.2.2.1,(a.2.2.2.2.2.2.2.2.2.2.2.2.2.2.2.1,(a.2.2.2.2.2.2.2.2.2.2.2.2.2.2.2.2.1,())))))))))))))))))) (
 opt.no _ 41)) (
 opt.need _ (p.eqN 0 0)<|
 opt.need _ (p.eqN (p.len a.2.1) (p.len a.2.1))<|
 opt.need _ (p.eqN (p.len a.2.1) (p.len a.2.1))<|
 opt.ret _ (a.1,(a.2.1,(a.2.2.1,(a.2.2.2.1,(a.2.2.2.2.1,(a.2.2.2.2.2.1,(a.2.2.2.2.2.2.1,(a.2.2.2.2.2.2.2.1,(a.2.2.2.2.2.2.2.2.1,(a.2.2.2.2.2.2.2.2.2.1,(a.2.2.2.2.2.2.2.2.2.2.1,(a.2.2.2.2.2.2.2.2.2.2.2.1,(a.2.2.2.2.2.2.2.2.2.2.2.2.1,(a.2.2.2.2.2.2.2.2.2.2.2.2.2.1,(a.2.2.2.2.2.2.2.2.2.2.2.2.2.2.1,(a.2.2.2.2.2.2.2.2.2.2.2.2.2.2.2.1,(a.2.2.2.2.2.2.2.2.2.2.2.2.2.2.2.2.1,())))))))))))))))))))) fun b=>
 opt.need _ (p.eqN 0 0)<|
 opt.need _ (p.eqN (p.len b.2.1) (p.len b.2.1))<|
 opt.need _ (p.eqN (p.len b.2.1) (p.len b.2.1))<|
 opt.ret _ (Sum.inl (b.1,(b.2.1,(b.2.2.1,(b.2.2.2.1,(b.2.2.2.2.1,(b.2.2.2.2.2.1,(b.2.2.2.2.2.2.1,(b.2.2.2.2.2.2.2.1,(b.2.2.2.2.2.2.2.2.1,(b.2.2.2.2.2.2.2.2.2.1,(b.2.2.2.2.2.2.2.2.2.2.1,(b.2.2.2.2.2.2.2.2.2.2.2.1,(b.2.2.2.2.2.2.2.2.2.2.2.2.1,(b.2.2.2.2.2.2.2.2.2.2.2.2.2.1,(b.2.2.2.2.2.2.2.2.2.2.2.2.2.2.1,(b.2.2.2.2.2.2.2.2.2.2.2.2.2.2.2.1,((p.ar .add .i64 b.2.2.2.2.2.2.2.2.2.2.2.2.2.2.2.2.1 (1:Int)),()))))))))))))))))))) (
 opt.need _ (p.eqN 0 0)<|
 opt.need _ (p.eqN (p.len a.2.1) (p.len a.2.1))<|
 opt.need _ (p.eqN (p.len a.2.1) (p.len a.2.1))<|
 opt.ret _ (Sum.inr (a.1,(a.2.1,(a.2.2.1,(a.2.2.2.1,(a.2.2.2.2.1,(a.2.2.2.2.2.1,(a.2.2.2.2.2.2.1,(a.2.2.2.2.2.2.2.1,(a.2.2.2.2.2.2.2.2.1,(a.2.2.2.2.2.2.2.2.2.1,(a.2.2.2.2.2.2.2.2.2.2.1,(a.2.2.2.2.2.2.2.2.2.2.2.1,(a.2.2.2.2.2.2.2.2.2.2.2.2.2.1,(a.2.2.2.2.2.2.2.2.2.2.2.2.2.2.1,())))))))))))))))))
def x99 (it:It) (p:Prim):(LD×(LD×T13))→Option ((LD×(LD×T13))⊕(LD×(LD×Unit))):=
 fun a=>opt.run _ (
 opt.ask _ (p.cmp .lss a.2.2.2.2.2.2.2.2.2.2.2.2.2.1 a.2.2.2.2.2.2.2.2.2.2.2.2.1) (
 opt.bnd ((LD×(LD×T13))) _ (
 opt.run ((LD×(LD×T13))) (
 opt.need _ (bif (p.cmp .geq a.2.2.2.2.2.2.2.2.2.2.2.2.2.1 (0:Int)) then (p.cmp .lss a.2.2.2.2.2.2.2.2.2.2.2.2.2.1 (p.ofNat 10)) else Bool.false)<|
 opt.need _ (p.rowOk a.1 (p.add 1 (p.mul (p.nat a.2.2.2.2.2.2.2.2.2.2.2.2.2.1) 10)) [ci])<|
 opt.need _ (p.rowOk a.1 (p.add (p.add 1 (p.mul (p.nat a.2.2.2.2.2.2.2.2.2.2.2.2.2.1) 10)) 1) [ci])<|
 opt.need _ (p.rowOk a.1 (p.add (p.add 1 (p.mul (p.nat a.2.2.2.2.2.2.2.2.2.2.2.2.2.1) 10)) 2) [ci])<|
 opt.need _ (p.rowOk a.1 (p.add (p.add 1 (p.mul (p.nat a.2.2.2.2.2.2.2.2.2.2.2.2.2.1) 10)) 3) [ci])<|
 opt.need _ (p.rowOk a.1 (p.add (p.add 1 (p.mul (p.nat a.2.2.2.2.2.2.2.2.2.2.2.2.2.1) 10)) 4) [ci])<|
 opt.need _ (p.rowOk a.1 (p.add (p.add 1 (p.mul (p.nat a.2.2.2.2.2.2.2.2.2.2.2.2.2.1) 10)) 5) [ci])<|
 opt.need _ (p.rowOk a.1 (p.add (p.add 1 (p.mul (p.nat a.2.2.2.2.2.2.2.2.2.2.2.2.2.1) 10)) 6) [ci])<|
 opt.need _ (p.rowOk a.1 (p.add (p.add 1 (p.mul (p.nat a.2.2.2.2.2.2.2.2.2.2.2.2.2.1) 10)) 7) [ci])<|
 opt.need _ (p.rowOk a.1 (p.add (p.add 1 (p.mul (p.nat a.2.2.2.2.2.2.2.2.2.2.2.2.2.1) 10)) 8) [ci])<|
 opt.need _ (p.rowOk a.1 (p.add (p.add 1 (p.mul (p.nat a.2.2.2.2.2.2.2.2.2.2.2.2.2.1) 10)) 9) [ci])<|
 opt.ask _ (bif (p.cmp .eql (p.rdI a.1 (p.add 1 (p.mul (p.nat a.2.2.2.2.2.2.2.2.2.2.2.2.2.1) 10)) 0) a.2.2.1) then (bif (p.cmp .eql (p.rdI a.1 (p.add (p.add 1 (p.mul (p.nat a.2.2.2.2.2.2.2.2.2.2.2.2.2.1) 10)) 1) 0) a.2.2.2.1) then (bif (p.cmp .eql (p.rdI a.1 (p.add (p.add 1 (p.mul (p.nat a.2.2.2.2.2.2.2.2.2.2.2.2.2.1) 10)) 2) 0) a.2.2.2.2.1) then (bif (p.cmp .eql (p.rdI a.1 (p.add (p.add 1 (p.mul (p.nat a.2.2.2.2.2.2.2.2.2.2.2.2.2.1) 10)) 3) 0) a.2.2.2.2.2.1) then (bif (p.cmp .eql (p.rdI a.1 (p.add (p.add 1 (p.mul (p.nat a.2.2.2.2.2.2.2.2.2.2.2.2.2.1) 10)) 4) 0) a.2.2.2.2.2.2.1) then (bif (p.cmp .eql (p.rdI a.1 (p.add (p.add 1 (p.mul (p.nat a.2.2.2.2.2.2.2.2.2.2.2.2.2.1) 10)) 5) 0) a.2.2.2.2.2.2.2.1) then (bif (p.cmp .eql (p.rdI a.1 (p.add (p.add 1 (p.mul (p.nat a.2.2.2.2.2.2.2.2.2.2.2.2.2.1) 10)) 6) 0) a.2.2.2.2.2.2.2.2.1) then (bif (p.cmp .eql (p.rdI a.1 (p.add (p.add 1 (p.mul (p.nat a.2.2.2.2.2.2.2.2.2.2.2.2.2.1) 10)) 7) 0) a.2.2.2.2.2.2.2.2.2.1) then (bif (p.cmp .eql (p.rdI a.1 (p.add (p.add 1 (p.mul (p.nat a.2.2.2.2.2.2.2.2.2.2.2.2.2.1) 10)) 8) 0) a.2.2.2.2.2.2.2.2.2.2.1) then (bif (p.cmp .eql (p.rdI a.1 (p.add (p.add 1 (p.mul (p.nat a.2.2.2.2.2.2.2.2.2.2.2.2.2.1) 10)) 9) 0) a.2.2.2.2.2.2.2.2.2.2.2.1) then Bool.true else Bool.false) else Bool.false) else Bool.false) else Bool.false) else Bool.false) else Bool.false) else Bool.false) else Bool.false) else Bool.false) else Bool.false) (
 opt.need _ (bif (p.cmp .geq a.2.2.2.2.2.2.2.2.2.2.2.2.2.1 (0:Int)) then (p.cmp .lss a.2.2.2.2.2.2.2.2.2.2.2.2.2.1 (p.ofNat (p.len a.2.1))) else Bool.false)<|
 opt.need _ (p.rowOk a.2.1 (p.add 0 (p.nat a.2.2.2.2.2.2.2.2.2.2.2.2.2.1)) [(CK.list 1)])<|
 opt.need _ (p.eqN 0 0)<|
 opt.need _ (p.eqN (p.len a.2.1) (p.len (p.set a.2.1 (p.add 0 (p.nat a.2.2.2.2.2.2.2.2.2.2.2.2.2.1)) [(D.list Bool.true 1 [])])))<|
 opt.need _ (p.eqN (p.len a.2.1) (p.len (p.set a.2.1 (p.add 0 (p.nat a.2.2.2.2.2.2.2.2.2.2.2.2.2.1)) [(D.list Bool.true 1 [])])))<|
 opt.ret _ (a.1,((p.set a.2.1 (p.add 0 (p.nat a.2.2.2.2.2.2.2.2.2.2.2.2.2.1)) [(D.list Bool.true 1 [])]),(a.2.2.1,(a.2.2.2.1,(a.2.2.2.2.1,(a.2.2.2.2.2.1,(a.2.2.2.2.2.2.1,(a.2.2.2.2.2.2.2.1,(a.2.2.2.2.2.2.2.2.1,(a.2.2.2.2.2.2.2.2.2.1,(a.2.2.2.2.2.2.2.2.2.2.1,(a.2.2.2.2.2.2.2.2.2.2.2.1,(a.2.2.2.2.2.2.2.2.2.2.2.2.1,(a.2.2.2.2.2.2.2.2.2.2.2.2.2.1,()))))))))))))))) (
 opt.need _ (p.rowOk a.1 0 [ci])<|
 opt.need _ (p.eqN 0 0)<|
 opt.need _ (p.eqN (p.len a.2.1) (p.len a.2.1))<|
 opt.need _ (p.eqN (p.len a.2.1) (p.len a.2.1))<|
 opt.bnd ((LD×(LD×T13))) _ (
 it _ _ (w74 p) (a.1,(a.2.1,(a.2.2.1,(a.2.2.2.1,(a.2.2.2.2.1,(a.2.2.2.2.2.1,(a.2.2.2.2.2.2.1,(a.2.2.2.2.2.2.2.1,(a.2.2.2.2.2.2.2.2.1,(a.2.2.2.2.2.2.2.2.2.1,(a.2.2.2.2.2.2.2.2.2.2.1,(a.2.2.2.2.2.2.2.2.2.2.2.1,(a.2.2.2.2.2.2.2.2.2.2.2.2.2.1,(a.2.2.2.2.2.2.2.2.2.2.2.2.1,(a.2.2.2.2.2.2.2.2.2.2.2.2.2.1,((p.rdI a.1 0 0),((0:Int),())))))))))))))))))) fun b=>
 opt.need _ (p.eqN 0 0)<|
 opt.need _ (p.eqN (p.len b.2.1) (p.len b.2.1))<|
 opt.need _ (p.eqN (p.len b.2.1) (p.len b.2.1))<|
 opt.ret _ (b.1,(b.2.1,(b.2.2.1,(b.2.2.2.1,(b.2.2.2.2.1,(b.2.2.2.2.2.1,(b.2.2.2.2.2.2.1,(b.2.2.2.2.2.2.2.1,(b.2.2.2.2.2.2.2.2.1,(b.2.2.2.2.2.2.2.2.2.1,(b.2.2.2.2.2.2.2.2.2.2.1,(b.2.2.2.2.2.2.2.2.2.2.2.1,(b.2.2.2.2.2.2.2.2.2.2.2.2.1,(b.2.2.2.2.2.2.2.2.2.2.2.2.2.1,()))))))))))))))))) fun c=>
 opt.need _ (p.eqN 0 0)<|
 opt.need _ (p.eqN (p.len c.2.1) (p.len c.2.1))<|
 opt.need _ (p.eqN (p.len c.2.1) (p.len c.2.1))<|
 opt.ret _ (Sum.inl (c.1,(c.2.1,(c.2.2.1,(c.2.2.2.1,(c.2.2.2.2.1,(c.2.2.2.2.2.1,(c.2.2.2.2.2.2.1,(c.2.2.2.2.2.2.2.1,(c.2.2.2.2.2.2.2.2.1,(c.2.2.2.2.2.2.2.2.2.1,(c.2.2.2.2.2.2.2.2.2.2.1,(c.2.2.2.2.2.2.2.2.2.2.2.1,(c.2.2.2.2.2.2.2.2.2.2.2.2.1,((p.ar .add .i64 c.2.2.2.2.2.2.2.2.2.2.2.2.2.1 (1:Int)),())))))))))))))))) (
 opt.need _ (p.eqN 0 0)<|
 opt.need _ (p.eqN (p.len a.2.1) (p.len a.2.1))<|
 opt.need _ (p.eqN (p.len a.2.1) (p.len a.2.1))<|
 opt.ret _ (Sum.inr (a.1,(a.2.1,())))))
def g49 (it:It):(p:Prim)→(LD×Unit)→Option ((LD×(LD×Unit))):=
 fun p x=>
 opt.need _ (p.rowOk x.1 0 [ci])<|
 opt.need _ (p.and (p.cmp .geq (p.rdI x.1 0 0) (0:Int)) (p.and (p.cmp .leq (p.rdI x.1 0 0) (p.rdI x.1 0 0)) (p.cmp .leq (p.rdI x.1 0 0) (1000000:Int))))<|
 opt.need _ (p.eqN 0 0)<|
 opt.need _ (p.eqN (p.nat (p.rdI x.1 0 0)) (p.len (p.rep (p.nat (p.rdI x.1 0 0)) [(D.list Bool.true 0 [])])))<|
 opt.need _ (p.eqN (p.nat (p.rdI x.1 0 0)) (p.len (p.rep (p.nat (p.rdI x.1 0 0)) [(D.list Bool.true 0 [])])))<|
 opt.bnd ((LD×(LD×Unit))) _ (
 it _ _ (x99 it p) (x.1,((p.rep (p.nat (p.rdI x.1 0 0)) [(D.list Bool.true 0 [])]),((0:Int),((0:Int),((0:Int),((0:Int),((0:Int),((0:Int),((0:Int),((0:Int),((0:Int),((0:Int),((p.ofNat (p.nat (p.rdI x.1 0 0))),((0:Int),()))))))))))))))) fun a=>
 opt.need _ (p.leN (p.add 0 (p.len a.2.1)) (p.len a.2.1))<|
 opt.ret _ (a.1,((p.cut a.2.1 0 (p.len a.2.1)),()))
def G49:=g49 it0
theorem ok49:CtrOk PG w2r (G49 std):=okF (a:=an49) (l:=la49) (gN) (by kernel_rfl) fun _ _=>by kernel_rfl
def w2y:Ctr:=
 ⟨30,[.list 1],[],[(.ret,⟨[(0, .tuple [.list 1, .int .i64])],[],1⟩)]⟩
def la30:List LA:=
 [⟨30,[false,true,false,true,true,true,true,true,true],0,⟨⟨[(7, .bptr 0 0),(8, .bptr 1 0),(9, .vec 3 1),(31, .int .i64),(32, .int .i64)],[.row [ci], .box [.sl 2 1], .row [ci], .row [ci]],82⟩,[((AX.exit 0),⟨[(7, .bptr 0 0),(8, .bptr 1 0),(9, .vec 2 1)],[.row [ci], .box [.sl 3 1], .row [ci], .row [ci]],82⟩)]⟩⟩,
 ⟨30,[false,false,true,true,true,true,true,true,true],0,⟨⟨[(7, .bptr 0 0),(8, .bptr 1 0),(9, .sl 2 1)],[.row [ci], .box [.sl 3 1], .row [ci], .row [ci]],82⟩,[((AX.exit 2),⟨[(7, .bptr 0 0)],[.row [ci]],82⟩)]⟩⟩,
 ⟨30,[false,true,true,true,true,false,true,false,false,false,true,true,true,true,true,true,true],0,⟨⟨[(7, .bptr 0 0),(8, .bptr 1 0),(9, .sl 2 1),(11, .int .i64),(51, .sl 2 1),(52, .int .i64),(53, .int .i64)],[.row [ci], .box [.sl 3 1], .row [ci], .row [ci]],82⟩,[((AX.exit 4),⟨[(7, .bptr 0 0),(8, .bptr 1 0),(9, .sl 2 1)],[.row [ci], .box [.sl 3 1], .row [ci], .row [ci]],82⟩)]⟩⟩]
def ja30:List JA:=
 [⟨30,[true,true,false,false,true,true,false,false,true,true,true,true,false,true,false,false,false,true,true,true,true,true,true,true],0,[(AX.normal,⟨[(7, .bptr 0 0),(8, .bptr 1 0),(9, .sl 2 1),(11, .int .i64),(51, .sl 2 1),(52, .int .i64),(53, .int .i64)],[.row [ci], .box [.sl 3 1], .row [ci], .row [ci]],82⟩)]⟩]
def w68:List CF:=
 [⟨w2r,G49⟩,⟨x7l,w9j⟩,⟨w2n,G65⟩,⟨x9z,G64⟩,⟨x57,G61⟩]
def an30:Anns:=
 ⟨w68,ja30,[]⟩
def w77 (p:Prim):(LD×(LD×(LD×T22)))→Option ((LD×(LD×(LD×T22)))⊕(LD×(LD×(LD×T17)))):=
 fun a=>opt.run _ (
 opt.ask _ (p.cmp .lss a.2.2.2.2.2.2.2.2.2.2.2.1 a.2.2.2.2.2.2.2.2.2.2.1) (
 opt.need _ (bif (p.cmp .geq a.2.2.2.2.2.2.2.2.2.2.2.1 (0:Int)) then (p.cmp .lss a.2.2.2.2.2.2.2.2.2.2.2.1 (p.ofNat a.2.2.2.2.2.2.2.2.2.1)) else Bool.false)<|
 opt.need _ (p.rowOk a.2.1 (p.add a.2.2.2.2.2.2.2.2.1 (p.nat a.2.2.2.2.2.2.2.2.2.2.2.1)) [ci])<|
 opt.need _ (bif (p.cmp .geq a.2.2.2.2.2.2.2.1 (0:Int)) then (p.cmp .lss a.2.2.2.2.2.2.2.1 (p.ofNat a.2.2.2.2.1)) else Bool.false)<|
 opt.need _ (p.rowOk a.2.2.1 (p.add a.2.2.2.1 (p.nat a.2.2.2.2.2.2.2.1)) [ci])<|
 opt.bnd ((LD×(LD×(LD×T22)))) _ (
 opt.run ((LD×(LD×(LD×T22)))) (
 opt.ask _ (p.cmp .lss a.2.2.2.2.2.2.2.2.2.2.2.1 (p.rdI a.2.2.1 (p.add a.2.2.2.1 (p.nat a.2.2.2.2.2.2.2.1)) 0)) (
 opt.need _ (bif (p.cmp .geq a.2.2.2.2.2.2.2.1 (0:Int)) then (p.cmp .lss a.2.2.2.2.2.2.2.1 (p.ofNat 10)) else Bool.false)<|
 opt.need _ (bif (p.cmp .geq (p.rdI a.2.1 (p.add a.2.2.2.2.2.2.2.2.1 (p.nat a.2.2.2.2.2.2.2.2.2.2.2.1)) 0) (0:Int)) then (p.cmp .lss (p.rdI a.2.1 (p.add a.2.2.2.2.2.2.2.2.1 (p.nat a.2.2.2.2.2.2.2.2.2.2.2.1)) 0) (p.ofNat 10)) else Bool.false)<|
 opt.need _ (p.rowOk a.1 (p.add (p.add 1 (p.mul (p.nat a.2.2.2.2.2.2.2.1) 10)) (p.nat (p.rdI a.2.1 (p.add a.2.2.2.2.2.2.2.2.1 (p.nat a.2.2.2.2.2.2.2.2.2.2.2.1)) 0))) [ci])<|
 opt.ret _ ((p.set a.1 (p.add (p.add 1 (p.mul (p.nat a.2.2.2.2.2.2.2.1) 10)) (p.nat (p.rdI a.2.1 (p.add a.2.2.2.2.2.2.2.2.1 (p.nat a.2.2.2.2.2.2.2.2.2.2.2.1)) 0))) [k1k]),(a.2.1,(a.2.2.1,(a.2.2.2.1,(a.2.2.2.2.1,(a.2.2.2.2.2.1,(a.2.2.2.2.2.2.1,(a.2.2.2.2.2.2.2.1,(a.2.2.2.2.2.2.2.2.1,(a.2.2.2.2.2.2.2.2.2.1,(a.2.2.2.2.2.2.2.2.2.2.1,(a.2.2.2.2.2.2.2.2.2.2.2.1,()))))))))))))) (
 opt.need _ (bif (p.cmp .geq (p.rdI a.2.1 (p.add a.2.2.2.2.2.2.2.2.1 (p.nat a.2.2.2.2.2.2.2.2.2.2.2.1)) 0) (0:Int)) then (p.cmp .lss (p.rdI a.2.1 (p.add a.2.2.2.2.2.2.2.2.1 (p.nat a.2.2.2.2.2.2.2.2.2.2.2.1)) 0) (p.ofNat 10)) else Bool.false)<|
 opt.need _ (bif (p.cmp .geq a.2.2.2.2.2.2.2.1 (0:Int)) then (p.cmp .lss a.2.2.2.2.2.2.2.1 (p.ofNat 10)) else Bool.false)<|
 opt.need _ (p.rowOk a.1 (p.add (p.add 1 (p.mul (p.nat (p.rdI a.2.1 (p.add a.2.2.2.2.2.2.2.2.1 (p.nat a.2.2.2.2.2.2.2.2.2.2.2.1)) 0)) 10)) (p.nat a.2.2.2.2.2.2.2.1)) [ci])<|
 opt.need _ (bif (p.cmp .geq (p.rdI a.2.1 (p.add a.2.2.2.2.2.2.2.2.1 (p.nat a.2.2.2.2.2.2.2.2.2.2.2.1)) 0) (0:Int)) then (p.cmp .lss (p.rdI a.2.1 (p.add a.2.2.2.2.2.2.2.2.1 (p.nat a.2.2.2.2.2.2.2.2.2.2.2.1)) 0) (p.ofNat a.2.2.2.2.1)) else Bool.false)<|
 opt.need _ (p.rowOk a.2.2.1 (p.add a.2.2.2.1 (p.nat (p.rdI a.2.1 (p.add a.2.2.2.2.2.2.2.2.1 (p.nat a.2.2.2.2.2.2.2.2.2.2.2.1)) 0))) [ci])<|
 opt.need _ (bif (p.cmp .geq (p.rdI a.2.1 (p.add a.2.2.2.2.2.2.2.2.1 (p.nat a.2.2.2.2.2.2.2.2.2.2.2.1)) 0) (0:Int)) then (p.cmp .lss (p.rdI a.2.1 (p.add a.2.2.2.2.2.2.2.2.1 (p.nat a.2.2.2.2.2.2.2.2.2.2.2.1)) 0) (p.ofNat a.2.2.2.2.1)) else Bool.false)<|
 opt.need _ (p.rowOk a.2.2.1 (p.add a.2.2.2.1 (p.nat (p.rdI a.2.1 (p.add a.2.2.2.2.2.2.2.2.1 (p.nat a.2.2.2.2.2.2.2.2.2.2.2.1)) 0))) [ci])<|
 opt.ret _ ((p.set a.1 (p.add (p.add 1 (p.mul (p.nat (p.rdI a.2.1 (p.add a.2.2.2.2.2.2.2.2.1 (p.nat a.2.2.2.2.2.2.2.2.2.2.2.1)) 0)) 10)) (p.nat a.2.2.2.2.2.2.2.1)) [k1k]),(a.2.1,((p.set a.2.2.1 (p.add a.2.2.2.1 (p.nat (p.rdI a.2.1 (p.add a.2.2.2.2.2.2.2.2.1 (p.nat a.2.2.2.2.2.2.2.2.2.2.2.1)) 0))) [(D.int .i64 (p.ar .sub .i64 (p.rdI a.2.2.1 (p.add a.2.2.2.1 (p.nat (p.rdI a.2.1 (p.add a.2.2.2.2.2.2.2.2.1 (p.nat a.2.2.2.2.2.2.2.2.2.2.2.1)) 0))) 0) (1:Int)))]),(a.2.2.2.1,(a.2.2.2.2.1,(a.2.2.2.2.2.1,(a.2.2.2.2.2.2.1,(a.2.2.2.2.2.2.2.1,(a.2.2.2.2.2.2.2.2.1,(a.2.2.2.2.2.2.2.2.2.1,(a.2.2.2.2.2.2.2.2.2.2.1,(a.2.2.2.2.2.2.2.2.2.2.2.1,()))))))))))))))) fun b=>
 opt.ret _ (Sum.inl (b.1,(b.2.1,(b.2.2.1,(b.2.2.2.1,(b.2.2.2.2.1,(b.2.2.2.2.2.1,(b.2.2.2.2.2.2.1,(b.2.2.2.2.2.2.2.1,(b.2.2.2.2.2.2.2.2.1,(b.2.2.2.2.2.2.2.2.2.1,(b.2.2.2.2.2.2.2.2.2.2.1,((p.ar .add .i64 b.2.2.2.2.2.2.2.2.2.2.2.1 (1:Int)),())))))))))))))) (
 opt.ret _ (Sum.inr (a.1,(a.2.1,(a.2.2.1,(a.2.2.2.1,(a.2.2.2.2.1,(a.2.2.2.2.2.1,(a.2.2.2.2.2.2.1,()))))))))))
def w0c (it:It) (p:Prim):(LD×(LD×(LD×T17)))→Option ((LD×(LD×(LD×T17)))⊕(LD×Unit)):=
 fun a=>opt.run _ (
 opt.ask _ (p.cmp .gtr (p.ofNat a.2.2.2.2.2.2.1) (0:Int)) (
 opt.need _ (bif (p.cmp .geq (0:Int) (0:Int)) then (p.cmp .lss (0:Int) (p.ofNat a.2.2.2.2.2.2.1)) else Bool.false)<|
 opt.need _ (p.rowOk a.2.1 (p.add a.2.2.2.2.2.1 (p.nat (0:Int))) [ci])<|
 opt.need _ (p.and (p.cmp .geq (1:Int) (0:Int)) (p.and (p.cmp .leq (1:Int) (p.ofNat a.2.2.2.2.2.2.1)) (p.cmp .leq (p.ofNat a.2.2.2.2.2.2.1) (p.ofNat a.2.2.2.2.2.2.1))))<|
 opt.bnd ((LD×(LD×T5))) _ (w4b it p (a.2.1,(a.2.2.1,(a.2.2.2.1,(a.2.2.2.2.1,((p.add a.2.2.2.2.2.1 (p.nat (1:Int))),((p.sub (p.nat (p.ofNat a.2.2.2.2.2.2.1)) (p.nat (1:Int))),()))))))) fun b=>
 opt.bnd ((LD×(LD×(LD×T17)))) _ (
 it _ _ (w77 p) (a.1,(b.1,(b.2.1,(b.2.2.1,(b.2.2.2.1,((p.add a.2.2.2.2.2.1 (p.nat (1:Int))),((p.sub (p.nat (p.ofNat a.2.2.2.2.2.2.1)) (p.nat (1:Int))),((p.rdI a.2.1 (p.add a.2.2.2.2.2.1 (p.nat (0:Int))) 0),((p.add a.2.2.2.2.2.1 (p.nat (1:Int))),((p.sub (p.nat (p.ofNat a.2.2.2.2.2.2.1)) (p.nat (1:Int))),((p.ofNat (p.sub (p.nat (p.ofNat a.2.2.2.2.2.2.1)) (p.nat (1:Int)))),((0:Int),()))))))))))))) fun c=>
 opt.ret _ (Sum.inl (c.1,(c.2.1,(c.2.2.1,(c.2.2.2.1,(c.2.2.2.2.1,(c.2.2.2.2.2.1,(c.2.2.2.2.2.2.1,()))))))))) (
 opt.ret _ (Sum.inr (a.1,()))))
def w78 (p:Prim):(LD×(LD×(LD×T34)))→Option ((LD×(LD×(LD×T34)))⊕(LD×(LD×(LD×T5)))):=
 fun a=>opt.run _ (
 opt.ask _ (p.cmp .lss a.2.2.2.2.2.2.1 a.2.2.2.2.2.1) (
 opt.need _ (p.and (p.leN (p.add 0 1) (p.len [[(D.int .i64 a.2.2.2.2.2.2.1)]])) (p.and (p.leN (p.add 0 (p.len a.2.2.1)) (p.len a.2.2.1)) (p.and (p.leN 1 1) (p.leN (p.add (p.len a.2.2.1) 1) 1000000))))<|
 opt.need _ (p.eqN 0 0)<|
 opt.need _ (p.eqN (p.add (p.len a.2.2.1) 1) (p.len (p.app (p.cut a.2.2.1 0 (p.len a.2.2.1)) (p.cut [[(D.int .i64 a.2.2.2.2.2.2.1)]] 0 1))))<|
 opt.ret _ (Sum.inl (a.1,(a.2.1,((p.app (p.cut a.2.2.1 0 (p.len a.2.2.1)) (p.cut [[(D.int .i64 a.2.2.2.2.2.2.1)]] 0 1)),(a.2.2.2.1,(a.2.2.2.2.1,(a.2.2.2.2.2.1,((p.ar .add .i64 a.2.2.2.2.2.2.1 (1:Int)),()))))))))) (
 opt.need _ (p.eqN 0 0)<|
 opt.need _ (p.eqN (p.len a.2.2.1) (p.len a.2.2.1))<|
 opt.ret _ (Sum.inr (a.1,(a.2.2.1,(a.2.1,(a.2.2.2.1,(a.2.2.2.2.1,()))))))))
def g30 (it:It):(p:Prim)→(LD×Unit)→Option ((LD×T1)):=
 fun p x=>
 opt.bnd T2 _ (g61 it p (x.1,())) fun a=>
 opt.ask _ (p.cmp .neq a.1 (0:Int)) (
 opt.ret _ ([],(a.1,()))) (
 opt.bnd ((LD×T7)) _ (g64 it p (x.1,())) fun b=>
 opt.ask _ b.2.1 (
 opt.ret _ ([],((13:Int),()))) (
 opt.need _ (p.rowOk (p.rep 101 k0k) 0 [ci])<|
 opt.need _ (p.leN (p.add 0 101) (p.len (p.rep 101 k0k)))<|
 opt.bnd ((LD×T5)) _ (G65 p (x.1,())) fun c=>
 opt.bnd ((LD×(LD×(LD×T5)))) _ (
 it _ _ (w78 p) ((p.splice (p.rep 101 k0k) 0 [[(D.int .i64 (p.ofNat (p.len x.1)))],k0k,k0k,k0k,k0k,k0k,k0k,k0k,k0k,k0k,k0k,k0k,k0k,k0k,k0k,k0k,k0k,k0k,k0k,k0k,k0k,k0k,k0k,k0k,k0k,k0k,k0k,k0k,k0k,k0k,k0k,k0k,k0k,k0k,k0k,k0k,k0k,k0k,k0k,k0k,k0k,k0k,k0k,k0k,k0k,k0k,k0k,k0k,k0k,k0k,k0k,k0k,k0k,k0k,k0k,k0k,k0k,k0k,k0k,k0k,k0k,k0k,k0k,k0k,k0k,k0k,k0k,k0k,k0k,k0k,k0k,k0k,k0k,k0k,k0k,k0k,k0k,k0k,k0k,k0k,k0k,k0k,k0k,k0k,k0k,k0k,k0k,k0k,k0k,k0k,k0k,k0k,k0k,k0k,k0k,k0k,k0k,k0k,k0k,k0k,k0k]),(c.1,([],(c.2.1,(c.2.2.1,((p.ofNat (p.len x.1)),((0:Int),())))))))) fun d=>
 opt.bnd ((LD×Unit)) _ (
 it _ _ (w0c it p) (d.1,(d.2.1,(d.2.2.1,(d.2.2.2.1,(d.2.2.2.2.1,(0,((p.len d.2.1),())))))))) fun e=>
 opt.bnd ((LD×(LD×Unit))) _ (g49 it p (e.1,())) fun f=>
 opt.ret _ (f.2.1,((0:Int),()))))
def G30:=g30 it0
theorem ok30:CtrOk PG w2y (G30 std):=okF (a:=an30) (l:=la30) (gC ok49 (gC w4x (gC ok65 (gC w8v (gC w4y (gN)))))) (by kernel_rfl) fun _ _=>by kernel_rfl
end Go.Am
end
noncomputable section
namespace Go.Am
def w23:Ctr:=
 ⟨14,[],[],[(.ret,⟨[(0, .bool)],[],1⟩)]⟩
def la14:List LA:=
 []
def ja14:List JA:=
 [⟨14,[false,false,true,true,true,true,true,true,true,true,true,true,true,true],0,[(AX.normal,⟨[(1, .list 1),(3, .list 1),(5, .vec 0 1),(7, .int .i64),(10, .vec 1 1),(12, .list 1),(14, .list 1),(18, .list 1),(115, .bool)],[.row [ci], .row [ci]],168⟩)]⟩,
 ⟨14,[false,true,true,true,true,true,true,true,true,true,true,true,true,true,true],0,[(AX.normal,⟨[(0, .bool)],[],168⟩)]⟩]
def w7i:List CF:=
 [⟨w2z,G29⟩,⟨x93,G25⟩,⟨w22,G22⟩,⟨x95,G21⟩,⟨w2w,G33⟩,⟨w20,G28⟩,⟨w2x,G31⟩,⟨w2y,G30⟩,⟨w2u,G37⟩,⟨x92,G26⟩,⟨x94,G24⟩,⟨w2v,G36⟩,⟨x6a,G35⟩,⟨w2t,G41⟩,⟨x3k,F17⟩,⟨x3l,F15⟩,⟨w2s,G45⟩]
def an14:Anns:=
 ⟨w7i,ja14,[]⟩
def g14 (it:It):(p:Prim)→Unit→Option T0:=
 fun p x=>
 opt.bnd T23 _ (G45 p ()) fun a=>
 opt.bnd ((LD×T1)) _ (G15 p (a.1,(a.2.1,(a.2.2.1,(a.2.2.2.1,()))))) fun b=>
 opt.bnd T23 _ (G45 p ()) fun c=>
 opt.bnd ((LD×T1)) _ (G17 p (c.1,(c.2.1,(c.2.2.1,(c.2.2.2.1,()))))) fun d=>
 opt.bnd ((LD×Unit)) _ (G41 p ()) fun e=>
 opt.bnd ((LD×T1)) _ (g35 it p (e.1,())) fun f=>
 opt.bnd ((LD×Unit)) _ (G41 p ()) fun g=>
 opt.bnd T8 _ (g36 it p (g.1,())) fun h=>
 opt.bnd ((LD×Unit)) _ (G41 p ()) fun i=>
 opt.bnd T2 _ (g24 it p (i.1,([k0k,[k1k],[k3k],k4k],()))) fun j=>
 opt.bnd ((LD×Unit)) _ (G41 p ()) fun k=>
 opt.bnd ((LD×T1)) _ (g26 it p (k.1,())) fun l=>
 opt.bnd ((LD×Unit)) _ (G41 p ()) fun m=>
 opt.bnd ((LD×T1)) _ (g37 it p (m.1,())) fun n=>
 opt.bnd ((LD×T1)) _ (g30 it p ([[k1k],[k1k],[k1k]],())) fun o=>
 opt.bnd ((LD×T1)) _ (g30 it p ([k0k,k0k,k4k],())) fun q=>
 opt.bnd ((LD×T1)) _ (g31 it p ([k0k,k0k,k4k],())) fun r=>
 opt.bnd T2 _ (g28 it p ([k0k,k0k,k4k],([k0k,[k1k]],()))) fun t=>
 opt.bnd ((LD×(LD×(LD×(LD×T35))))) _ (
 opt.run ((LD×(LD×(LD×(LD×T35))))) (
 opt.ask _ (p.cmp .neq b.2.1 (0:Int)) (
 opt.need _ (p.eqN 0 0)<|
 opt.need _ (p.eqN (p.len f.1) (p.len f.1))<|
 opt.need _ (p.eqN 0 0)<|
 opt.need _ (p.eqN (p.len l.1) (p.len l.1))<|
 opt.ret _ (f.1,(l.1,(b.1,(d.1,(h.1,(n.1,(o.1,(r.1,(Bool.true,())))))))))) (
 opt.ask _ (p.cmp .neq d.2.1 (0:Int)) (
 opt.need _ (p.eqN 0 0)<|
 opt.need _ (p.eqN (p.len f.1) (p.len f.1))<|
 opt.need _ (p.eqN 0 0)<|
 opt.need _ (p.eqN (p.len l.1) (p.len l.1))<|
 opt.ret _ (f.1,(l.1,(b.1,(d.1,(h.1,(n.1,(o.1,(r.1,(Bool.true,())))))))))) (
 opt.ask _ (p.cmp .neq f.2.1 (0:Int)) (
 opt.need _ (p.eqN 0 0)<|
 opt.need _ (p.eqN (p.len f.1) (p.len f.1))<|
 opt.need _ (p.eqN 0 0)<|
 opt.need _ (p.eqN (p.len l.1) (p.len l.1))<|
 opt.ret _ (f.1,(l.1,(b.1,(d.1,(h.1,(n.1,(o.1,(r.1,(Bool.true,())))))))))) (
 opt.ask _ (p.cmp .neq h.2.1 (0:Int)) (
 opt.need _ (p.eqN 0 0)<|
 opt.need _ (p.eqN (p.len f.1) (p.len f.1))<|
 opt.need _ (p.eqN 0 0)<|
 opt.need _ (p.eqN (p.len l.1) (p.len l.1))<|
 opt.ret _ (f.1,(l.1,(b.1,(d.1,(h.1,(n.1,(o.1,(r.1,(Bool.true,())))))))))) (
 opt.ask _ (p.cmp .neq j.1 (0:Int)) (
 opt.need _ (p.eqN 0 0)<|
 opt.need _ (p.eqN (p.len f.1) (p.len f.1))<|
 opt.need _ (p.eqN 0 0)<|
 opt.need _ (p.eqN (p.len l.1) (p.len l.1))<|
 opt.ret _ (f.1,(l.1,(b.1,(d.1,(h.1,(n.1,(o.1,(r.1,(Bool.true,())))))))))) (
 opt.ask _ (p.cmp .neq l.2.1 (0:Int)) (
 opt.need _ (p.eqN 0 0)<|
 opt.need _ (p.eqN (p.len f.1) (p.len f.1))<|
 opt.need _ (p.eqN 0 0)<|
 opt.need _ (p.eqN (p.len l.1) (p.len l.1))<|
 opt.ret _ (f.1,(l.1,(b.1,(d.1,(h.1,(n.1,(o.1,(r.1,(Bool.true,())))))))))) (
 opt.ask _ (p.cmp .neq n.2.1 (0:Int)) (
 opt.need _ (p.eqN 0 0)<|
 opt.need _ (p.eqN (p.len f.1) (p.len f.1))<|
 opt.need _ (p.eqN 0 0)<|
 opt.need _ (p.eqN (p.len l.1) (p.len l.1))<|
 opt.ret _ (f.1,(l.1,(b.1,(d.1,(h.1,(n.1,(o.1,(r.1,(Bool.true,())))))))))) (
 opt.ask _ (p.cmp .neq o.2.1 (0:Int)) (
 opt.need _ (p.eqN 0 0)<|
 opt.need _ (p.eqN (p.len f.1) (p.len f.1))<|
 opt.need _ (p.eqN 0 0)<|
 opt.need _ (p.eqN (p.len l.1) (p.len l.1))<|
 opt.ret _ (f.1,(l.1,(b.1,(d.1,(h.1,(n.1,(o.1,(r.1,(Bool.true,())))))))))) (
 opt.ask _ (p.cmp .neq q.2.1 (13:Int)) (
 opt.need _ (p.eqN 0 0)<|
 opt.need _ (p.eqN (p.len f.1) (p.len f.1))<|
 opt.need _ (p.eqN 0 0)<|
 opt.need _ (p.eqN (p.len l.1) (p.len l.1))<|
 opt.ret _ (f.1,(l.1,(b.1,(d.1,(h.1,(n.1,(o.1,(r.1,(Bool.true,())))))))))) (
 opt.ask _ (p.cmp .neq r.2.1 (0:Int)) (
 opt.need _ (p.eqN 0 0)<|
 opt.need _ (p.eqN (p.len f.1) (p.len f.1))<|
 opt.need _ (p.eqN 0 0)<|
 opt.need _ (p.eqN (p.len l.1) (p.len l.1))<|
 opt.ret _ (f.1,(l.1,(b.1,(d.1,(h.1,(n.1,(o.1,(r.1,(Bool.true,())))))))))) (
 opt.need _ (p.eqN 0 0)<|
 opt.need _ (p.eqN (p.len f.1) (p.len f.1))<|
 opt.need _ (p.eqN 0 0)<|
 opt.need _ (p.eqN (p.len l.1) (p.len l.1))<|
 opt.ret _ (f.1,(l.1,(b.1,(d.1,(h.1,(n.1,(o.1,(r.1,((p.cmp .neq t.1 (0:Int)),()))))))))))))))))))))) fun u=>
 opt.ask _ u.2.2.2.2.2.2.2.2.1 (
 opt.ret _ (Bool.false,())) (
 opt.bnd ((LD×T1)) _ (g33 it p (u.2.2.2.2.2.2.1,())) fun v=>
 opt.bnd T0 _ (
 opt.run T0 (
 opt.ask _ (p.cmp .eql v.2.1 (0:Int)) (
 opt.need _ (p.and (p.leN (p.add 0 (p.len v.1)) (p.len v.1)) (p.and Bool.true Bool.true))<|
 opt.bnd T0 _ (g21 it p ((p.cut v.1 0 (p.len v.1)),([[k1k],[k1k],[k1k]],()))) fun w=>
 opt.ask _ w.1 (
 opt.bnd T0 _ (g21 it p (u.2.2.1,([k0k,[k1k]],()))) fun z=>
 opt.ask _ z.1 (
 opt.bnd T0 _ (g22 it p (u.2.2.2.1,([[(D.list Bool.true 1 [[k1k]])],[(D.list Bool.true 1 [[k3k]])],[(D.list Bool.true 1 [k0k])]],()))) fun a1=>
 opt.ask _ a1.1 (
 opt.need _ (p.and (p.leN (p.add 0 (p.len u.1)) (p.len u.1)) (p.and Bool.true Bool.true))<|
 opt.bnd T0 _ (g21 it p ((p.cut u.1 0 (p.len u.1)),([[k1k],[k3k],[k3k],[k1k]],()))) fun b1=>
 opt.ask _ b1.1 (
 opt.ask _ (p.cmp .eql u.2.2.2.2.1 (2:Int)) (
 opt.bnd ((LD×Unit)) _ (G41 p ()) fun c1=>
 opt.need _ (p.and Bool.true (p.and (p.leN (p.add 0 (p.len u.2.1)) (p.len u.2.1)) Bool.true))<|
 opt.bnd T2 _ (g25 it p (c1.1,((p.cut u.2.1 0 (p.len u.2.1)),()))) fun d1=>
 opt.ask _ (p.cmp .eql d1.1 (0:Int)) (
 opt.bnd T0 _ (g22 it p (u.2.2.2.2.2.1,([[(D.list Bool.true 1 [k0k,[k1k],[k3k],k4k])]],()))) fun e1=>
 opt.ask _ e1.1 (
 opt.bnd T2 _ (g29 it p ([k0k,k0k,k4k],(u.2.2.2.2.2.2.2.1,()))) fun f1=>
 opt.ret _ ((p.cmp .eql f1.1 (0:Int)),())) (
 opt.ret _ (Bool.false,()))) (
 opt.ret _ (Bool.false,()))) (
 opt.ret _ (Bool.false,()))) (
 opt.ret _ (Bool.false,()))) (
 opt.ret _ (Bool.false,()))) (
 opt.ret _ (Bool.false,()))) (
 opt.ret _ (Bool.false,()))) (
 opt.ret _ (Bool.false,())))) fun g1=>
 opt.ret _ (g1.1,()))
def G14:=g14 it0
theorem ok14:CtrOk PG w23 (G14 std):=okF (a:=an14) (l:=la14) (gC ok29 (gC w8z (gC ok22 (gC w81 (gC ok33 (gC ok28 (gC ok31 (gC ok30 (gC ok37 (gC w8y (gC w80 (gC ok36 (gC w43 (gC ok41 (gC ok17 (gC ok15 (gC ok45 (gN)))))))))))))))))) (by kernel_rfl) fun _ _=>by kernel_rfl
end Go.Am
end
section
namespace Go.Am
theorem w36 {i j:It} (h:i.Le j):∀ s,le (g21 i std s) (g21 j std s):=fun _=>z0u (le_refl _) (z15 (h _ _ _ _ _ (fun _=>le_refl _)) (fun _=>le_refl _) (fun _=>le_refl _))
theorem w1k {i j:It} (h:i.Le j):∀ s,le (w0d i std s) (w0d j std s):=fun _=>z1v (z0u (z0a (z0a (z0a (z0a (z0c (w36 h _) (fun _=>le_refl _)))))) (le_refl _))
theorem w88 {i j:It} (h:i.Le j):∀ s,le (g22 i std s) (g22 j std s):=fun _=>z0u (le_refl _) (z15 (h _ _ _ _ _ (w1k h)) (fun _=>le_refl _) (fun _=>le_refl _))
theorem w86 {i j:It} (h:i.Le j):∀ s,le (g38 i std s) (g38 j std s):=fun _=>z15 (h _ _ _ _ _ (fun _=>le_refl _)) (fun _=>le_refl _) (fun _=>le_refl _)
theorem w34 {i j:It} (h:i.Le j):∀ s,le (g40 i std s) (g40 j std s):=fun _=>z15 (h _ _ _ _ _ (fun _=>le_refl _)) (fun _=>le_refl _) (fun _=>le_refl _)
theorem w1e {i j:It} (h:i.Le j):∀ s,le (y6x i std s) (y6x j std s):=fun _=>z1v (z0u (z0c (w34 h _) (fun _=>z0c (w34 h _) (fun _=>le_refl _))) (le_refl _))
theorem w1f {i j:It} (h:i.Le j):∀ s,le (y2p i std s) (y2p j std s):=fun _=>z1v (z0u (z15 (z1v (z0c (w34 h _) (fun _=>z0u (le_refl _) (z15 (h _ _ _ _ _ (w1e h)) (fun _=>le_refl _) (fun _=>le_refl _))))) (fun _=>le_refl _) (fun _=>le_refl _)) (le_refl _))
theorem w1g {i j:It} (h:i.Le j):∀ s,le (y45 i std s) (y45 j std s):=fun _=>z1v (z0u (z0a (z0a (z0c (w86 h _) (fun _=>le_refl _)))) (le_refl _))
theorem w35 {i j:It} (h:i.Le j):∀ s,le (g27 i std s) (g27 j std s):=fun _=>z0c (le_refl _) (fun _=>z0u (le_refl _) (z15 (h _ _ _ _ _ (w1g h)) (fun _=>le_refl _) (fun _=>z0c (le_refl _) (fun _=>z15 (h _ _ _ _ _ (w1f h)) (fun _=>le_refl _) (fun _=>le_refl _)))))
theorem mg33 {i j:It} (h:i.Le j):∀ s,le (g33 i std s) (g33 j std s):=fun _=>z0c (w35 h _) (fun _=>z0u (z0c (w35 h _) (fun _=>le_refl _)) (z0c (h _ _ _ _ _ (fun _=>le_refl _)) (fun _=>le_refl _)))
theorem w1i {i j:It} (h:i.Le j):∀ s,le (y46 i std s) (y46 j std s):=fun _=>z1v (z0u (z0a (z0a (z0a (z0a (z0c (w34 h _) (fun _=>le_refl _)))))) (le_refl _))
theorem w1j {i j:It} (h:i.Le j):∀ s,le (y11 i std s) (y11 j std s):=fun _=>z1v (z0u (z15 (z1v (z0c (le_refl _) (fun _=>z0u (le_refl _) (z15 (h _ _ _ _ _ (fun _=>le_refl _)) (fun _=>le_refl _) (fun _=>le_refl _))))) (fun _=>le_refl _) (fun _=>le_refl _)) (le_refl _))
theorem mg25 {i j:It} (h:i.Le j):∀ s,le (g25 i std s) (g25 j std s):=fun _=>z0c (w35 h _) (fun _=>z0u (z0c (w35 h _) (fun _=>le_refl _)) (z0u (le_refl _) (z15 (h _ _ _ _ _ (w1j h)) (fun _=>le_refl _) (fun _=>z0c (le_refl _) (fun _=>z15 (h _ _ _ _ _ (w1i h)) (fun _=>le_refl _) (fun _=>le_refl _))))))
theorem w85 {i j:It} (h:i.Le j):∀ s,le (g62 i std s) (g62 j std s):=fun _=>z0c (le_refl _) (fun _=>z0u (le_refl _) (z15 (h _ _ _ _ _ (fun _=>le_refl _)) (fun _=>le_refl _) (fun _=>le_refl _)))
theorem mg63 {i j:It} (h:i.Le j):∀ s,le (g63 i std s) (g63 j std s):=fun _=>z0c (h _ _ _ _ _ (fun _=>le_refl _)) (fun _=>le_refl _)
theorem mg29 {i j:It} (h:i.Le j):∀ s,le (g29 i std s) (g29 j std s):=fun _=>z0c (w85 h _) (fun _=>z0u (z0c (w85 h _) (fun _=>le_refl _)) (z0c (w86 h _) (fun _=>z0u (le_refl _) (z0c (mg63 h _) (fun _=>le_refl _)))))
theorem mg52 {i j:It} (h:i.Le j):∀ s,le (g52 i std s) (g52 j std s):=fun _=>z15 (h _ _ _ _ _ (fun _=>le_refl _)) (fun _=>le_refl _) (fun _=>le_refl _)
theorem w33 {i j:It} (h:i.Le j):∀ s,le (g56 i std s) (g56 j std s):=fun _=>z15 (h _ _ _ _ _ (fun _=>le_refl _)) (fun _=>le_refl _) (fun _=>le_refl _)
theorem mg70 {i j:It} (h:i.Le j):∀ s,le (g70 i std s) (g70 j std s):=fun _=>z0c (h _ _ _ _ _ (fun _=>le_refl _)) (fun _=>le_refl _)
theorem w5i {i j:It} (h:i.Le j):∀ s,le (g61 i std s) (g61 j std s):=fun _=>z0c (le_refl _) (fun _=>z15 (z1v (z0u (le_refl _) (z0c (mg52 h _) (fun _=>le_refl _)))) (fun _=>le_refl _) (fun _=>le_refl _))
theorem w08 {i j:It} (h:i.Le j):∀ s,le (y43 i std s) (y43 j std s):=fun _=>z1v (z0u (z15 (h _ _ _ _ _ (fun _=>le_refl _)) (fun _=>le_refl _) (fun _=>le_refl _)) (le_refl _))
theorem w09 {i j:It} (h:i.Le j):∀ s,le (y44 i std s) (y44 j std s):=fun _=>z1v (z0u (z0a (z0a (z0c (w33 h _) (fun _=>z0u (le_refl _) (z0c (h _ _ _ _ _ (fun _=>le_refl _)) (fun _=>le_refl _)))))) (le_refl _))
theorem w5k {i j:It} (h:i.Le j):∀ s,le (g54 i std s) (g54 j std s):=fun _=>z0c (le_refl _) (fun _=>z0u (le_refl _) (z15 (h _ _ _ _ _ (w09 h)) (fun _=>le_refl _) (fun _=>z0c (le_refl _) (fun _=>z15 (h _ _ _ _ _ (fun _=>le_refl _)) (fun _=>le_refl _) (fun _=>z0c (le_refl _) (fun _=>z0a (z15 (h _ _ _ _ _ (w08 h)) (fun _=>le_refl _) (fun _=>le_refl _))))))))
theorem w1c {i j:It} (h:i.Le j):∀ s,le (w0b i std s) (w0b j std s):=fun _=>z1v (z0u (z0a (z0a (z0a (z0c (mg70 h _) (fun _=>le_refl _))))) (le_refl _))
theorem w5l {i j:It} (h:i.Le j):∀ s,le (g35 i std s) (g35 j std s):=fun _=>z15 (w5k h _) (fun _=>le_refl _) (fun _=>z0c (le_refl _) (fun _=>z0u (le_refl _) (z0a (z0a (z0a (z0a (z0a (z0c (h _ _ _ _ _ (w1c h)) (fun _=>le_refl _)))))))))
theorem mg36 {i j:It} (h:i.Le j):∀ s,le (g36 i std s) (g36 j std s):=fun _=>z0c (w5l h _) (fun _=>z0u (le_refl _) (z0a (z0a (z0a (z0c (h _ _ _ _ _ (fun _=>le_refl _)) (fun _=>le_refl _))))))
theorem x8t {i j:It} (h:i.Le j):∀ s,le (z6m i std s) (z6m j std s):=fun _=>z1v (z0u (z0a (z0a (z0a (z0c (h _ _ _ _ _ (fun _=>le_refl _)) (fun _=>le_refl _))))) (le_refl _))
theorem w5d {i j:It} (h:i.Le j):∀ s,le (x9i i std s) (x9i j std s):=fun _=>z0a (z0a (z0a (z0c (h _ _ _ _ _ (x8t h)) (fun _=>le_refl _))))
theorem x8x {i j:It} (h:i.Le j):∀ s,le (y6w i std s) (y6w j std s):=fun _=>z1v (z0u (z0a (z0a (z0a (z0c (w5d h _) (fun _=>le_refl _))))) (le_refl _))
theorem w5g {i j:It} (h:i.Le j):∀ s,le (w13 i std s) (w13 j std s):=fun _=>z0a (z0a (z0a (z0c (h _ _ _ _ _ (x8x h)) (fun _=>le_refl _))))
theorem w04 {i j:It} (h:i.Le j):∀ s,le (x9j i std s) (x9j j std s):=fun _=>z0c (le_refl _) (fun _=>z0a (z0a (z0a (z0c (w5g h _) (fun _=>le_refl _)))))
theorem x8s {i j:It} (h:i.Le j):∀ s,le (x3v i std s) (x3v j std s):=fun _=>z1v (z0u (z0a (z0a (z0c (h _ _ _ _ _ (fun _=>le_refl _)) (fun _=>le_refl _)))) (le_refl _))
theorem w5c {i j:It} (h:i.Le j):∀ s,le (w38 i std s) (w38 j std s):=fun _=>z0a (z0a (z0c (h _ _ _ _ _ (x8s h)) (fun _=>le_refl _)))
theorem x8w {i j:It} (h:i.Le j):∀ s,le (x3z i std s) (x3z j std s):=fun _=>z1v (z0u (z0a (z0a (z0c (w5c h _) (fun _=>le_refl _)))) (le_refl _))
theorem w5f {i j:It} (h:i.Le j):∀ s,le (w4a i std s) (w4a j std s):=fun _=>z0a (z0a (z0c (h _ _ _ _ _ (x8w h)) (fun _=>le_refl _)))
theorem w5j {i j:It} (h:i.Le j):∀ s,le (w4c i std s) (w4c j std s):=fun _=>z0c (le_refl _) (fun _=>z0a (z0a (z0c (w5f h _) (fun _=>le_refl _))))
theorem x8y {i j:It} (h:i.Le j):∀ s,le (x30 i std s) (x30 j std s):=fun _=>z1v (z0u (z0a (z0a (z0c (h _ _ _ _ _ (fun _=>le_refl _)) (fun _=>le_refl _)))) (le_refl _))
theorem w05 {i j:It} (h:i.Le j):∀ s,le (w16 i std s) (w16 j std s):=fun _=>z0a (z0a (z0c (h _ _ _ _ _ (x8y h)) (fun _=>le_refl _)))
theorem w06 {i j:It} (h:i.Le j):∀ s,le (x97 i std s) (x97 j std s):=fun _=>z1v (z0u (z0a (z0a (z0c (h _ _ _ _ _ (fun _=>le_refl _)) (fun _=>le_refl _)))) (le_refl _))
theorem w07 {i j:It} (h:i.Le j):∀ s,le (x98 i std s) (x98 j std s):=fun _=>z1v (z0u (z0a (z0a (z0c (w05 h _) (fun _=>le_refl _)))) (le_refl _))
theorem mg86 {i j:It} (h:i.Le j):∀ s,le (g86 i std s) (g86 j std s):=fun _=>z0a (z0a (z0c (h _ _ _ _ _ (w07 h)) (fun _=>z0a (z0a (z0c (w05 h _) (fun _=>z0a (z0a (z0c (h _ _ _ _ _ (w06 h)) (fun _=>le_refl _)))))))))
theorem mg66 {i j:It} (h:i.Le j):∀ s,le (g66 i std s) (g66 j std s):=fun _=>z0a (z0a (z0c (mg86 h _) (fun _=>le_refl _)))
theorem w83 {i j:It} (h:i.Le j):∀ s,le (g71 i std s) (g71 j std s):=fun _=>z0c (h _ _ _ _ _ (fun _=>le_refl _)) (fun _=>z0a (z0a (z0c (mg66 h _) (fun _=>le_refl _))))
theorem x42 {i j:It} (h:i.Le j):∀ s,le (y8d i std s) (y8d j std s):=fun _=>z1v (z0u (z0c (h _ _ _ _ _ (fun _=>le_refl _)) (fun _=>le_refl _)) (le_refl _))
theorem x69 {i j:It} (h:i.Le j):∀ s,le (x2u i std s) (x2u j std s):=fun _=>z0c (h _ _ _ _ _ (x42 h)) (fun _=>le_refl _)
theorem x8u {i j:It} (h:i.Le j):∀ s,le (x3x i std s) (x3x j std s):=fun _=>z1v (z0u (z0c (h _ _ _ _ _ (fun _=>le_refl _)) (fun _=>le_refl _)) (le_refl _))
theorem x8v {i j:It} (h:i.Le j):∀ s,le (x3y i std s) (x3y j std s):=fun _=>z1v (z0u (z0c (x69 h _) (fun _=>le_refl _)) (le_refl _))
theorem w5e {i j:It} (h:i.Le j):∀ s,le (w39 i std s) (w39 j std s):=fun _=>z0c (h _ _ _ _ _ (x8v h)) (fun _=>z0c (x69 h _) (fun _=>z0c (h _ _ _ _ _ (x8u h)) (fun _=>le_refl _)))
theorem w5h {i j:It} (h:i.Le j):∀ s,le (w4b i std s) (w4b j std s):=fun _=>z0c (w5e h _) (fun _=>le_refl _)
theorem mg24 {i j:It} (h:i.Le j):∀ s,le (g24 i std s) (g24 j std s):=fun _=>z15 (w5k h _) (fun _=>z15 (le_refl _) (fun _=>le_refl _) (fun _=>z0c (le_refl _) (fun _=>z0a (z0a (z0a (z0a (z0a (z0c (w04 h _) (fun _=>z0a (z0a (z0c (w33 h _) (fun _=>z0u (le_refl _) (z15 (h _ _ _ _ _ (fun _=>le_refl _)) (fun _=>le_refl _) (fun _=>le_refl _)))))))))))))) (fun _=>z0c (le_refl _) (fun _=>z15 (le_refl _) (fun _=>le_refl _) (fun _=>z0c (le_refl _) (fun _=>z0a (z0a (z0a (z0a (z0a (z0c (w04 h _) (fun _=>z0a (z0a (z0c (w33 h _) (fun _=>z0u (le_refl _) (z15 (h _ _ _ _ _ (fun _=>le_refl _)) (fun _=>le_refl _) (fun _=>le_refl _)))))))))))))))
theorem w82 {i j:It} (h:i.Le j):∀ s,le (g73 i std s) (g73 j std s):=fun _=>z0c (h _ _ _ _ _ (fun _=>le_refl _)) (fun _=>z0a (z0a (z0c (w5j h _) (fun _=>le_refl _))))
theorem w1h {i j:It} (h:i.Le j):∀ s,le (y6y i std s) (y6y j std s):=fun _=>z1v (z0u (z0c (z1v (z0a (z0a (z0a (z0a (z15 (h _ _ _ _ _ (fun _=>le_refl _)) (fun _=>le_refl _) (fun _=>le_refl _))))))) (fun _=>le_refl _)) (le_refl _))
theorem mg26 {i j:It} (h:i.Le j):∀ s,le (g26 i std s) (g26 j std s):=fun _=>z15 (w5k h _) (fun _=>le_refl _) (fun _=>z0c (le_refl _) (fun _=>z0u (le_refl _) (z0a (z0c (h _ _ _ _ _ (w1h h)) (fun _=>le_refl _)))))
theorem mg72 {i j:It} (h:i.Le j):∀ s,le (g72 i std s) (g72 j std s):=fun _=>z0a (z0a (z0c (h _ _ _ _ _ (fun _=>le_refl _)) (fun _=>le_refl _)))
theorem w1b {i j:It} (h:i.Le j):∀ s,le (w0a i std s) (w0a j std s):=fun _=>z1v (z0u (z0a (z0a (z0a (z0a (z0a (z0c (z1v (z0u (z0a (z0c (w82 h _) (fun _=>le_refl _))) (le_refl _))) (fun _=>le_refl _))))))) (le_refl _))
theorem mg37 {i j:It} (h:i.Le j):∀ s,le (g37 i std s) (g37 j std s):=fun _=>z0c (w5l h _) (fun _=>z0u (le_refl _) (z0a (z0c (w83 h _) (fun _=>z0a (z0a (z0a (z0c (mg72 h _) (fun _=>z0a (z0a (z0a (z0a (z0a (z0a (z0c (h _ _ _ _ _ (w1b h)) (fun _=>le_refl _)))))))))))))))
theorem w84 {i j:It} (h:i.Le j):∀ s,le (g64 i std s) (g64 j std s):=fun _=>z0c (w83 h _) (fun _=>z0a (z0a (z0a (z0a (z0c (h _ _ _ _ _ (fun _=>le_refl _)) (fun _=>z0u (le_refl _) (z0a (z0c (w82 h _) (fun _=>le_refl _)))))))))
theorem mg31 {i j:It} (h:i.Le j):∀ s,le (g31 i std s) (g31 j std s):=fun _=>z0c (w5i h _) (fun _=>z0u (le_refl _) (z0c (w84 h _) (fun _=>le_refl _)))
theorem mg28 {i j:It} (h:i.Le j):∀ s,le (g28 i std s) (g28 j std s):=fun _=>z0c (w5i h _) (fun _=>z0u (le_refl _) (z0c (w33 h _) (fun _=>z0u (le_refl _) (z0c (h _ _ _ _ _ (fun _=>le_refl _)) (fun _=>le_refl _)))))
theorem w1a {i j:It} (h:i.Le j):∀ s,le (x99 i std s) (x99 j std s):=fun _=>z1v (z0u (z0c (z1v (z0a (z0a (z0a (z0a (z0a (z0a (z0a (z0a (z0a (z0a (z0a (z0u (le_refl _) (z0a (z0a (z0a (z0a (z0c (h _ _ _ _ _ (fun _=>le_refl _)) (fun _=>le_refl _))))))))))))))))))) (fun _=>le_refl _)) (le_refl _))
theorem mg49 {i j:It} (h:i.Le j):∀ s,le (g49 i std s) (g49 j std s):=fun _=>z0a (z0a (z0a (z0a (z0a (z0c (h _ _ _ _ _ (w1a h)) (fun _=>le_refl _))))))
theorem w1d {i j:It} (h:i.Le j):∀ s,le (w0c i std s) (w0c j std s):=fun _=>z1v (z0u (z0a (z0a (z0a (z0c (w5h h _) (fun _=>z0c (h _ _ _ _ _ (fun _=>le_refl _)) (fun _=>le_refl _)))))) (le_refl _))
theorem w87 {i j:It} (h:i.Le j):∀ s,le (g30 i std s) (g30 j std s):=fun _=>z0c (w5i h _) (fun _=>z0u (le_refl _) (z0c (w84 h _) (fun _=>z0u (le_refl _) (z0a (z0a (z0c (le_refl _) (fun _=>z0c (h _ _ _ _ _ (fun _=>le_refl _)) (fun _=>z0c (h _ _ _ _ _ (w1d h)) (fun _=>z0c (mg49 h _) (fun _=>le_refl _))))))))))
theorem mg14 {i j:It} (h:i.Le j):∀ s,le (g14 i std s) (g14 j std s):=fun _=>z0c (le_refl _) (fun _=>z0c (le_refl _) (fun _=>z0c (le_refl _) (fun _=>z0c (le_refl _) (fun _=>z0c (le_refl _) (fun _=>z0c (w5l h _) (fun _=>z0c (le_refl _) (fun _=>z0c (mg36 h _) (fun _=>z0c (le_refl _) (fun _=>z0c (mg24 h _) (fun _=>z0c (le_refl _) (fun _=>z0c (mg26 h _) (fun _=>z0c (le_refl _) (fun _=>z0c (mg37 h _) (fun _=>z0c (w87 h _) (fun _=>z0c (w87 h _) (fun _=>z0c (mg31 h _) (fun _=>z0c (mg28 h _) (fun _=>z0c (le_refl _) (fun _=>z0u (le_refl _) (z0c (mg33 h _) (fun _=>z0c (z1v (z0u (z0a (z0c (w36 h _) (fun _=>z0u (z0c (w36 h _) (fun _=>z0u (z0c (w88 h _) (fun _=>z0u (z0a (z0c (w36 h _) (fun _=>z0u (z0u (z0c (le_refl _) (fun _=>z0a (z0c (mg25 h _) (fun _=>z0u (z0c (w88 h _) (fun _=>z0u (z0c (mg29 h _) (fun _=>le_refl _)) (le_refl _))) (le_refl _))))) (le_refl _)) (le_refl _)))) (le_refl _))) (le_refl _))) (le_refl _)))) (le_refl _))) (fun _=>le_refl _))))))))))))))))))))))
end Go.Am
end
section
namespace Go.Am
theorem w15:g14 (itN 400) std ()=some (true,()):=by kernel_rfl
theorem w3r:G14 std ()=some (true,()):=mg14 (w1q 400) () _ w15
end Go.Am
end
noncomputable section
namespace Go.Am
def ctr4:Ctr:=
 ⟨4,[.list 1, .list 1],[],[(.ret,⟨[(0, .bool)],[],1⟩)]⟩
def la4:List LA:=
 []
def ja4:List JA:=
 [⟨4,[false,true,true,true,true],0,[(AX.normal,⟨[(4, .bool)],[],64⟩)]⟩,
 ⟨4,[false,false,true,false,true],0,[(AX.normal,⟨[(4, .bool)],[],64⟩)]⟩,
 ⟨4,[false,false,true],0,[(AX.normal,⟨[(0, .list 1),(1, .list 1),(22, .bool)],[],64⟩)]⟩,
 ⟨4,[false,false,true,false,true,true,true],0,[(AX.normal,⟨[(4, .bool)],[],64⟩)]⟩]
def gam4:List CF:=
 [⟨x6b,G27⟩,⟨x92,G26⟩,⟨w23,G14⟩,⟨x93,G25⟩,⟨x94,G24⟩,⟨w21,G23⟩]
def an4:Anns:=
 ⟨gam4,ja4,[]⟩
def g4 (it:It):(p:Prim)→(LD×(LD×Unit))→Option T0:=
 fun p x=>
 opt.bnd ((LD×(LD×T7))) _ (
 opt.run ((LD×(LD×T7))) (
 opt.bnd T0 _ (g23 it p (x.1,())) fun a=>
 opt.ask _ a.1 (
 opt.ret _ (x.1,(x.2.1,(Bool.true,())))) (
 opt.ask _ (p.cmp .gtr (p.ofNat (p.len x.2.1)) (14:Int)) (
 opt.ret _ (x.1,(x.2.1,(Bool.true,())))) (
 opt.bnd T2 _ (g24 it p (x.1,(x.2.1,()))) fun b=>
 opt.bnd T2 _ (g25 it p (x.1,(x.2.1,()))) fun c=>
 opt.ret _ (x.1,(x.2.1,((p.cmp .neq b.1 c.1),()))))))) fun d=>
 opt.ask _ d.2.2.1 (
 opt.bnd T0 _ (
 opt.run T0 (
 opt.bnd T0 _ (g23 it p (d.1,())) fun e=>
 opt.ask _ e.1 (
 opt.bnd T0 _ (g14 it p ()) fun f=>
 opt.ret _ (f.1,())) (
 opt.ask _ (p.cmp .gtr (p.ofNat (p.len d.2.1)) (14:Int)) (
 opt.bnd T0 _ (g14 it p ()) fun g=>
 opt.ret _ (g.1,())) (
 opt.ret _ (Bool.false,()))))) fun h=>
 opt.ret _ (h.1,())) (
 opt.bnd ((LD×T1)) _ (g26 it p (d.1,())) fun i=>
 opt.bnd T2 _ (g27 it p (d.1,())) fun j=>
 opt.ask _ (p.cmp .neq j.1 (0:Int)) (
 opt.bnd T0 _ (
 opt.run T0 (
 opt.bnd T2 _ (g27 it p (d.1,())) fun k=>
 opt.ask _ (p.cmp .eql i.2.1 k.1) (
 opt.ask _ (p.cmp .eql (p.ofNat (p.len i.1)) (0:Int)) (
 opt.bnd T0 _ (g14 it p ()) fun l=>
 opt.ret _ (l.1,())) (
 opt.ret _ (Bool.false,()))) (
 opt.ret _ (Bool.false,())))) fun m=>
 opt.ret _ (m.1,())) (
 opt.bnd T0 _ (
 opt.run T0 (
 opt.ask _ (p.cmp .eql i.2.1 (0:Int)) (
 opt.need _ (p.and Bool.true (p.and (p.leN (p.add 0 (p.len i.1)) (p.len i.1)) Bool.true))<|
 opt.bnd T2 _ (g25 it p (d.1,((p.cut i.1 0 (p.len i.1)),()))) fun n=>
 opt.ask _ (p.cmp .eql n.1 (0:Int)) (
 opt.bnd T0 _ (g14 it p ()) fun o=>
 opt.ret _ (o.1,())) (
 opt.ret _ (Bool.false,()))) (
 opt.ret _ (Bool.false,())))) fun q=>
 opt.ret _ (q.1,())))
def G4:=g4 it0
theorem ok4:CtrOk PG ctr4 (G4 std):=okF (a:=an4) (l:=la4) (gC w44 (gC w8y (gC ok14 (gC w8z (gC w80 (gC ok23 (gN))))))) (by kernel_rfl) fun _ _=>by kernel_rfl
def g5 (it:It):(p:Prim)→(LD×(LD×Unit))→Option T0:=
 fun p x=>
 opt.bnd ((LD×(LD×T7))) _ (
 opt.run ((LD×(LD×T7))) (
 opt.ask _ (p.cmp .gtr (p.ofNat (p.len x.1)) (14:Int)) (
 opt.ret _ (x.1,(x.2.1,(Bool.true,())))) (
 opt.ret _ (x.1,(x.2.1,((p.cmp .gtr (p.ofNat (p.len x.2.1)) (14:Int)),())))))) fun a=>
 opt.ask _ a.2.2.1 (
 opt.bnd T0 _ (g14 it p ()) fun b=>
 opt.ret _ (b.1,())) (
 opt.bnd T2 _ (g28 it p (a.1,(a.2.1,()))) fun c=>
 opt.bnd T2 _ (g29 it p (a.1,(a.2.1,()))) fun d=>
 opt.ask _ (p.cmp .neq c.1 d.1) (
 opt.ret _ (Bool.false,())) (
 opt.bnd ((LD×T1)) _ (g30 it p (a.1,())) fun e=>
 opt.bnd ((LD×T1)) _ (g31 it p (a.1,())) fun f=>
 opt.bnd T2 _ (g32 it p (a.1,())) fun g=>
 opt.ask _ (p.cmp .neq e.2.1 g.1) (
 opt.ret _ (Bool.false,())) (
 opt.ask _ (p.cmp .eql g.1 (0:Int)) (
 opt.bnd ((LD×T1)) _ (g33 it p (e.1,())) fun h=>
 opt.bnd T0 _ (
 opt.run T0 (
 opt.ask _ (p.cmp .eql h.2.1 (0:Int)) (
 opt.need _ (p.and (p.leN (p.add 0 (p.len h.1)) (p.len h.1)) (p.and Bool.true Bool.true))<|
 opt.bnd T0 _ (g21 it p ((p.cut h.1 0 (p.len h.1)),(a.1,()))) fun i=>
 opt.ask _ i.1 (
 opt.ask _ (p.cmp .eql f.2.1 (5:Int)) (
 opt.ask _ (p.cmp .eql (p.ofNat (p.len f.1)) (0:Int)) (
 opt.bnd T0 _ (g14 it p ()) fun j=>
 opt.ret _ (j.1,())) (
 opt.ret _ (Bool.false,()))) (
 opt.ret _ (Bool.false,()))) (
 opt.ret _ (Bool.false,()))) (
 opt.ret _ (Bool.false,())))) fun k=>
 opt.ret _ (k.1,())) (
 opt.ask _ (p.cmp .eql g.1 (13:Int)) (
 opt.bnd T0 _ (
 opt.run T0 (
 opt.ask _ (p.cmp .eql (p.ofNat (p.len e.1)) (0:Int)) (
 opt.ask _ (p.cmp .eql f.2.1 (0:Int)) (
 opt.bnd T2 _ (g29 it p (a.1,(f.1,()))) fun l=>
 opt.ask _ (p.cmp .eql l.1 (0:Int)) (
 opt.bnd T0 _ (g14 it p ()) fun m=>
 opt.ret _ (m.1,())) (
 opt.ret _ (Bool.false,()))) (
 opt.ret _ (Bool.false,()))) (
 opt.ret _ (Bool.false,())))) fun n=>
 opt.ret _ (n.1,())) (
 opt.bnd T0 _ (
 opt.run T0 (
 opt.ask _ (p.cmp .eql (p.ofNat (p.len e.1)) (0:Int)) (
 opt.ask _ (p.cmp .eql f.2.1 g.1) (
 opt.ask _ (p.cmp .eql (p.ofNat (p.len f.1)) (0:Int)) (
 opt.bnd T0 _ (g14 it p ()) fun o=>
 opt.ret _ (o.1,())) (
 opt.ret _ (Bool.false,()))) (
 opt.ret _ (Bool.false,()))) (
 opt.ret _ (Bool.false,())))) fun q=>
 opt.ret _ (q.1,()))))))
end Go.Am
end
section
namespace Go.Am
open T11
variable {fl:List Int→Bool}
theorem x5j:g14 it0 std ()=some (true,()):=w3r
theorem y73 {d:List (List Int)} (h:¬ z90 d):∀ l∈d,l.length≤1000000:=fun l hl=>by
 have:¬ 14<l.length:=fun hlt=>h (.inr ⟨l,hl,hlt⟩)
 omega
theorem w8m (d:List (List Int)) (o:List Int):G4 std (z0o fl d,(z0x o,()))=some (true,()):=by
 have h23:g23 it0 std (z0o fl d,())=_:=w3q d
 have hg:=x5j
 unfold G4
 by_cases a:z90 d
 ·simp only [g4,z1g,z1h,eq_self,not_true,not_false_eq_true,decide_true,decide_false,Bool.not_true,Bool.not_false,Int.reduceLT,Int.reduceNeg,Int.reduceGT,cond_true,cond_false,Int.reduceEq,h23,a,hg]
 ·by_cases b:14<o.length
  ·have b':((o.length:Nat):Int)>14:=by omega
   simp only [g4,z1g,z1h,eq_self,not_true,not_false_eq_true,decide_true,decide_false,Bool.not_true,Bool.not_false,Int.reduceLT,Int.reduceNeg,Int.reduceGT,cond_true,cond_false,Int.reduceEq,h23,a,z1u,b',hg]
  ·have b':¬ ((o.length:Nat):Int)>14:=by omega
   have hr:=y73 a
   have h24:g24 it0 std (z0o fl d,(z0x o,()))=_:=w3p d hr o
   have h25:g25 it0 std (z0o fl d,(z0x o,()))=_:=x7z d hr o
   have h26:g26 it0 std (z0o fl d,())=_:=w3o d hr
   have h27:g27 it0 std (z0o fl d,())=_:=x7y d hr
   by_cases h:z10 d=0
   ·rw [if_pos h] at h26
    have h25':g25 it0 std (z0o fl d,(z0x (z6l d d.length),()))=_:=x7z d hr (z6l d d.length)
    rw [y7r h] at h25'
    have ht:(z0x (z6l d d.length)).take (z0x (z6l d d.length)).length=z0x (z6l d d.length):=List.take_length
    simp only [g4,z1g,z1h,eq_self,not_true,not_false_eq_true,decide_true,decide_false,Bool.not_true,Bool.not_false,Int.reduceLT,Int.reduceNeg,Int.reduceGT,cond_true,cond_false,Int.reduceEq,h23,a,z1u,b',h24,h25,h26,h27,h,ne_eq,Nat.le_refl,Bool.and_true,List.drop_zero]
    rw [z1u] at ht
    simp only [ht,h25',z1g,z1h,eq_self,not_true,not_false_eq_true,decide_true,decide_false,Bool.not_true,Bool.not_false,Int.reduceLT,Int.reduceNeg,Int.reduceGT,cond_true,cond_false,Int.reduceEq,hg]
   ·rw [if_neg h] at h26
    simp only [g4,z1g,z1h,eq_self,not_true,not_false_eq_true,decide_true,decide_false,Bool.not_true,Bool.not_false,Int.reduceLT,Int.reduceNeg,Int.reduceGT,cond_true,cond_false,Int.reduceEq,h23,a,z1u,b',h24,h25,h26,h27,h,ne_eq,hg,Int.natCast_zero]
end Go.Am
end
section
namespace Go.Proofs.Ytjlhhpjkmgediaa
open Go.ChangeShapes Go.WideShapes Go.ChangeAt Go.RowKit Go.Am
theorem w4g {e0:List (List D)} {e1:List (List D)} (h:G4 std (e0,e1,())=some (true,())):∃ h',z8h Try.prog 4 (toA [.list false 1 e0, .list false 1 e1]) [] (.d (.bool true)) h':=by
 have:=(ok4.2 (e0,e1,()) (true,()) h).2
 exact ⟨_,this⟩
theorem shp4:x8b Try.prog 6 Try.f4.params.toList=true:=by kernel_rfl
theorem rt4:Try.f4.resultTypes=#[Try.f4.resultTypes.getD 0 0]:=by kernel_rfl
theorem rb4:Try.prog.underlying (Try.f4.resultTypes.getD 0 0)=some .bool:=by kernel_rfl
theorem w29:Try.f4.params.toList.all (fun t=>decide (t<Try.prog.types.size))=true:=by kernel_rfl
set_option maxRecDepth 100000 in
theorem x3s (H:Type) (enc:TypeId×Value→H) (W:World) (base:Nat) (args:Array Value) (ds gs:List (DataW H)) (before:List MemPlace)
  (hval:∀ (j:Nat) t v,Try.f4.params[j]?=some t→args[j]?=some v→Value.okWide Try.prog W .any base t v)
  (hW:DataW.Whole enc Try.prog Try.f4.params.toList Rows.panelOrdersSpec.vars false W args.toList ds gs before):
  Calls Try.prog 4 args W fun e W'=>∃ v,e= .returned v∧Rows.panelOrdersSpec.post enc Try.prog Try.f4 false true false false W args v W':=by
 have hW':=hW
 obtain ⟨p,q,hA0,hV,rfl,hfz,hnd⟩:=hW
 have hA:DataW.TrodAll enc Try.prog W 0 (fun _=>true) true Try.f4.params.toList args.toList ds p:=hA0
 obtain ⟨xs,h1,h2,h3⟩:=x33 (O:=fun _=>False) (fun _ h=>h) shp4 (x2q hval) hA
 have hd:∃ x0 x1,xs=[x0,x1]∧(DK (.list [.list [.int .i64]]) x0)∧(DK (.list [.int .i64]) x1):=by
  match xs,h1 with
  |[x0,x1],h1=>exact ⟨x0,x1,rfl,h1.1,h1.2.1⟩
 obtain ⟨x0,x1,rfl,k0,k1⟩:=hd
 obtain ⟨d0,rfl⟩:=x44 k0
 obtain ⟨l1,rfl⟩:=x2k k1
 obtain ⟨h',hr⟩:=w4g (w8m d0 l1)
 exact (y41 hr h2 h3).mono fun e W' ⟨he,hs⟩=>⟨_,he,x49 laid rowed sized w29 rfl rt4 rb4 (fun ds hd=>by
  match ds,hd with
  |[d0,d1],_=>exact ⟨rfl,rfl,rfl⟩) hW' hs⟩
set_option maxRecDepth 100000 in
theorem x80 (os:Os) (started:os.Started) (H:Type) (enc:TypeId×Value→H):
  ReturnsInHanded {} Try.checked os 4 .any (Rows.panelOrdersSpec.pre6 enc Try.prog Try.f4 Rows.panelOrdersRow.domain false) (Rows.panelOrdersSpec.post enc Try.prog Try.f4 false true false false):=by
 refine returnsInHanded_of_change (C:=Try.checked) own started (by kernel_rfl) Try.func4
  (ChangeSpec.witness6 (enc:=enc) (C:=Try.checked) false ⟨#[],#[.slice none 0 0, .slice none 0 0],[]⟩ 8 (by kernel_rfl) (by kernel_rfl) (by kernel_rfl) (by kernel_rfl)) ?_
 intro W base args ds gs before hval hW _ _
 exact x3s H enc W base args ds gs before hval hW
set_option maxRecDepth 100000 in
theorem y0d:Rows.panelOrdersRow.holds Try.pinned (OpenSpec.ofChange Rows.panelOrdersSpec):=
 OpenClaim.holds_of_wide 4 Try.f4 rfl rfl rfl rfl rfl rfl rfl ⟨rfl,rfl,rfl,rfl,rfl⟩ rfl rfl rfl rfl rfl (by kernel_rfl) Try.func4 (by kernel_rfl)
  (of_decide_eq_true (by kernel_rfl)) (by unfold Func.isWrapper; first|(rw [if_pos (by decide+kernel)]; kernel_rfl)|(rw [if_neg (by decide+kernel)]; exact ⟨rfl,rfl⟩))
  (fun os started H enc _=>x80 os started H enc)
theorem panelOrders_holds:Rows.PanelOrdersSaid:=y0d
end Go.Proofs.Ytjlhhpjkmgediaa
end
