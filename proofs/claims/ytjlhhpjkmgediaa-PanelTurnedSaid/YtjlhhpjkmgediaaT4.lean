/- Texts of this claim. -/
import Derived.Test.YtjlhhpjkmgediaaT3
import Derived.Test.YtjlhhpjkmgediaaProg
import Derived.KernelRfl
set_option linter.unusedVariables false
set_option linter.unusedSimpArgs false
set_option linter.unusedSectionVars false
set_option maxRecDepth 100000
set_option maxHeartbeats 0
noncomputable section
namespace Go.Am
def w9m:Ctr:=
 ⟨52,[.int .i64, .int .i64, .list 1],[],[(.ret,⟨[(0, .bool)],[],1⟩)]⟩
def la52:List LA:=
 [⟨91,[false,true,false,true],2,⟨⟨[(0, .list 1),(1, .clo 80 [] [.bptr 0 0, .bptr 1 0]),(7, .int .i64),(8, .int .i64)],[.box [.int .i64], .box [.int .i64]],19⟩,[(AX.ret,⟨[(4, .int .i64)],[.box [.int .i64], .box [.int .i64]],19⟩),((AX.exit 0),⟨[],[.box [.int .i64], .box [.int .i64]],19⟩)]⟩⟩]
def ja52:List JA:=
 [⟨80,[false,true],2,[(AX.normal,⟨[(4, .bool)],[.box [.int .i64], .box [.int .i64]],13⟩)]⟩]
def v4a:List CF:=
 []
def an52:Anns:=
 ⟨v4a,ja52,[]⟩
def v5q (p:Prim):T9→Option ((Int×(Int×(LD×(Int×(Int×Unit)))))⊕((Int×(Int×(Int×Unit)))⊕(Int×(Int×Unit)))):=
 fun a=>opt.run _ (
 opt.ask _ (p.cmp .lss a.2.2.2.2.1 a.2.2.2.1) (
 opt.need _ (p.rowOk a.2.2.1 (p.nat a.2.2.2.2.1) [ci])<|
 opt.need _ (p.cmp .geq a.2.2.2.2.1 (0:Int))<|
 opt.bnd T28 _ (
 opt.run T28 (
 opt.ask _ (p.cmp .lss (p.rdI a.2.2.1 (p.nat a.2.2.2.2.1) 0) a.1) (
 opt.ret _ (a.1,(a.2.1,(Bool.true,())))) (
 opt.ret _ (a.1,(a.2.1,((p.cmp .gtr (p.rdI a.2.2.1 (p.nat a.2.2.2.2.1) 0) a.2.1),())))))) fun b=>
 opt.ask _ b.2.2.1 (
 opt.ret _ (Sum.inr (Sum.inl (b.1,(b.2.1,(a.2.2.2.2.1,())))))) (
 opt.ret _ (Sum.inl (b.1,(b.2.1,(a.2.2.1,(a.2.2.2.1,((p.ar .add .i64 a.2.2.2.2.1 (1:Int)),())))))))) (
 opt.ret _ (Sum.inr (Sum.inr (a.1,(a.2.1,()))))))
def g52 (it:It):(p:Prim)→(Int×(Int×(LD×Unit)))→Option T0:=
 fun p x=>
 opt.alt ((Int×(Int×(Int×Unit)))) T6 _ (
 it _ _ (v5q p) (x.1,(x.2.1,(x.2.2.1,((p.ofNat (p.len x.2.2.1)),((0:Int),())))))) (fun a=>
 opt.ret _ ((bif (p.cmp .geq a.2.2.1 (0:Int)) then Bool.false else Bool.true),())) (fun b=>
 opt.bnd T6 _ (some b) fun c=>
 opt.ret _ ((bif (p.cmp .geq (-1:Int) (0:Int)) then Bool.false else Bool.true),()))
def G52:=g52 it0
theorem ok52:CtrOk PG w9m (G52 std):=okF (a:=an52) (l:=la52) (gN) (by kernel_rfl) fun _ _=>by kernel_rfl
def w1j:Ctr:=
 ⟨56,[.list 1, .int .i64],[],[(.ret,⟨[(0, .bool)],[],1⟩)]⟩
def la56:List LA:=
 [⟨56,[false,true,false,true,true],0,⟨⟨[(1, .int .i64),(5, .int .i64),(8, .list 1),(9, .int .i64),(10, .int .i64)],[],24⟩,[(AX.ret,⟨[(4, .bool)],[],24⟩),((AX.exit 0),⟨[],[],24⟩)]⟩⟩]
def ja56:List JA:=
 [⟨56,[false,false,true,false,false,true,true,false,false,true,false,true,true],0,[(AX.normal,⟨[(1, .int .i64),(7, .int .i64),(8, .list 1),(9, .int .i64),(10, .int .i64),(21, .bool)],[],24⟩)]⟩]
def v38:List CF:=
 []
def an56:Anns:=
 ⟨v38,ja56,[]⟩
def y9n (p:Prim):T9→Option ((Int×(Int×(LD×(Int×(Int×Unit)))))⊕((Bool×Unit)⊕Unit)):=
 fun a=>opt.run _ (
 opt.ask _ (p.cmp .lss a.2.2.2.2.1 a.2.2.2.1) (
 opt.need _ (p.rowOk a.2.2.1 (p.nat a.2.2.2.2.1) [ci])<|
 opt.need _ (p.cmp .geq a.2.2.2.2.1 (0:Int))<|
 opt.bnd T29 _ (
 opt.run T29 (
 opt.ask _ (p.cmp .leq (p.rdI a.2.2.1 (p.nat a.2.2.2.2.1) 0) a.2.1) (
 opt.ret _ (a.1,((p.rdI a.2.2.1 (p.nat a.2.2.2.2.1) 0),(a.2.2.1,(a.2.2.2.1,(a.2.2.2.2.1,(Bool.true,()))))))) (
 opt.ret _ (a.1,((p.rdI a.2.2.1 (p.nat a.2.2.2.2.1) 0),(a.2.2.1,(a.2.2.2.1,(a.2.2.2.2.1,((p.cmp .geq (p.rdI a.2.2.1 (p.nat a.2.2.2.2.1) 0) a.1),()))))))))) fun b=>
 opt.ask _ b.2.2.2.2.2.1 (
 opt.ret _ (Sum.inr (Sum.inl (Bool.false,())))) (
 opt.ret _ (Sum.inl (b.1,(b.2.1,(b.2.2.1,(b.2.2.2.1,((p.ar .add .i64 b.2.2.2.2.1 (1:Int)),())))))))) (
 opt.ret _ (Sum.inr (Sum.inr ()))))
def g56 (it:It):(p:Prim)→(LD×T1)→Option T0:=
 fun p x=>
 opt.alt T0 (Unit) _ (
 it _ _ (y9n p) (x.2.1,((-1:Int),(x.1,((p.ofNat (p.len x.1)),((0:Int),())))))) (fun a=>
 opt.ret _ (a.1,())) (fun b=>
 opt.bnd (Unit) _ (some b) fun c=>
 opt.ret _ (Bool.true,()))
def G56:=g56 it0
theorem v18:CtrOk PG w1j (G56 std):=okF (a:=an56) (l:=la56) (gN) (by kernel_rfl) fun _ _=>by kernel_rfl
def w9h:Ctr:=
 ⟨70,[.list 1],[],[(.ret,⟨[(0, .int .i64)],[],1⟩)]⟩
def la70:List LA:=
 [⟨70,[false,true,false,true,true],0,⟨⟨[(3, .int .i64),(6, .list 1),(7, .int .i64),(8, .int .i64)],[],17⟩,[((AX.exit 0),⟨[(3, .int .i64)],[],17⟩)]⟩⟩]
def ja70:List JA:=
 []
def v31:List CF:=
 []
def an70:Anns:=
 ⟨v31,ja70,[]⟩
def x8s (p:Prim):(Int×(LD×(Int×(Int×Unit))))→Option ((Int×(LD×(Int×(Int×Unit))))⊕(Int×Unit)):=
 fun a=>opt.run _ (
 opt.ask _ (p.cmp .lss a.2.2.2.1 a.2.2.1) (
 opt.need _ (p.rowOk a.2.1 (p.nat a.2.2.2.1) [ci])<|
 opt.need _ (p.cmp .geq a.2.2.2.1 (0:Int))<|
 opt.ret _ (Sum.inl ((p.ar .add .i64 a.1 (p.rdI a.2.1 (p.nat a.2.2.2.1) 0)),(a.2.1,(a.2.2.1,((p.ar .add .i64 a.2.2.2.1 (1:Int)),())))))) (
 opt.ret _ (Sum.inr (a.1,()))))
def g70 (it:It):(p:Prim)→(LD×Unit)→Option T2:=
 fun p x=>
 opt.bnd T2 _ (
 it _ _ (x8s p) ((0:Int),(x.1,((p.ofNat (p.len x.1)),((0:Int),()))))) fun a=>
 opt.ret _ (a.1,())
def G70:=g70 it0
theorem ok70:CtrOk PG w9h (G70 std):=okF (a:=an70) (l:=la70) (gN) (by kernel_rfl) fun _ _=>by kernel_rfl
def w1i:Ctr:=
 ⟨61,[.list 1],[],[(.ret,⟨[(0, .int .i64)],[],1⟩)]⟩
def la61:List LA:=
 []
def ja61:List JA:=
 [⟨61,[false,false,false,true],0,[(AX.normal,⟨[(0, .list 1),(3, .bool)],[],16⟩)]⟩,
 ⟨61,[true,false,false,true],0,[(AX.ret,⟨[(2, .int .i64)],[],16⟩),(AX.normal,⟨[],[],16⟩)]⟩]
def v37:List CF:=
 [⟨w9m,G52⟩]
def an61:Anns:=
 ⟨v37,ja61,[]⟩
def g61 (it:It):(p:Prim)→(LD×Unit)→Option T2:=
 fun p x=>
 opt.bnd ((LD×T8)) _ (
 opt.run ((LD×T8)) (
 opt.ask _ (p.cmp .eql (p.ofNat (p.len x.1)) (0:Int)) (
 opt.ret _ (x.1,(Bool.true,()))) (
 opt.ret _ (x.1,((p.cmp .gtr (p.ofNat (p.len x.1)) (10:Int)),()))))) fun a=>
 opt.alt T2 (Unit) _ (
 opt.run (((Int×Unit)⊕Unit)) (
 opt.ask _ a.2.1 (
 opt.ret _ (Sum.inl ((6:Int),()))) (
 opt.bnd T0 _ (g52 it p ((0:Int),((9:Int),(a.1,())))) fun b=>
 opt.ask _ (bif b.1 then Bool.false else Bool.true) (
 opt.ret _ (Sum.inl ((3:Int),()))) (
 opt.ret _ (Sum.inr ()))))) (fun c=>
 opt.ret _ (c.1,())) (fun d=>
 opt.bnd (Unit) _ (some d) fun e=>
 opt.ret _ ((0:Int),()))
def G61:=g61 it0
theorem v17:CtrOk PG w1i (G61 std):=okF (a:=an61) (l:=la61) (gC ok52 (gN)) (by kernel_rfl) fun _ _=>by kernel_rfl
def w3b:Ctr:=
 ⟨102,[.int .u64],[],[(.ret,⟨[(0, .int .i64)],[],1⟩)]⟩
def v29:List LA:=
 []
def v3l:List JA:=
 [⟨102,[true,false,true,true,true],0,[(AX.normal,⟨[(0, .int .u64),(2, .int .i64)],[],25⟩)]⟩,
 ⟨102,[true,false,true],0,[(AX.normal,⟨[(0, .int .u64),(2, .int .i64)],[],25⟩)]⟩,
 ⟨102,[true,false,true,true],0,[(AX.normal,⟨[(0, .int .u64),(2, .int .i64)],[],25⟩)]⟩]
def w8y:List CF:=
 []
def v6a:Anns:=
 ⟨w8y,v3l,[]⟩
def v6c:(p:Prim)→T1→Option T2:=
 fun p x=>
 opt.bnd T6 _ (
 opt.run T6 (
 opt.ask _ (p.cmp .geq x.1 (4294967296:Int)) (
 opt.need _ (p.cmp .geq (32:Int) (0:Int))<|
 opt.ret _ ((p.ar .shr .u64 x.1 (32:Int)),((32:Int),()))) (
 opt.ret _ (x.1,((0:Int),()))))) fun a=>
 opt.bnd T6 _ (
 opt.run T6 (
 opt.ask _ (p.cmp .geq a.1 (65536:Int)) (
 opt.need _ (p.cmp .geq (16:Int) (0:Int))<|
 opt.ret _ ((p.ar .shr .u64 a.1 (16:Int)),((p.ar .add .i64 a.2.1 (16:Int)),()))) (
 opt.ret _ (a.1,(a.2.1,()))))) fun b=>
 opt.bnd T6 _ (
 opt.run T6 (
 opt.ask _ (p.cmp .geq b.1 (256:Int)) (
 opt.need _ (p.cmp .geq (8:Int) (0:Int))<|
 opt.ret _ ((p.ar .shr .u64 b.1 (8:Int)),((p.ar .add .i64 b.2.1 (8:Int)),()))) (
 opt.ret _ (b.1,(b.2.1,()))))) fun c=>
 opt.need _ (bif (p.cmp .geq (p.cvt .u8 c.1) (0:Int)) then (p.cmp .lss (p.cvt .u8 c.1) (p.ofNat 256)) else Bool.false)<|
 opt.ret _ ((p.ar .add .i64 c.2.1 (p.cvt .i64 (p.byte (ByteArray.mk #[0,1,2,2,3,3,3,3,4,4,4,4,4,4,4,4,5,5,5,5,5,5,5,5,5,5,5,5,5,5,5,5,6,6,6,6,6,6,6,6,6,6,6,6,6,6,6,6,6,6,6,6,6,6,6,6,6,6,6,6,6,6,6,6,7,7,7,7,7,7,7,7,7,7,7,7,7,7,7,7,7,7,7,7,7,7,7,7,7,7,7,7,7,7,7,7,7,7,7,7,7,7,7,7,7,7,7,7,7,7,7,7,7,7,7,7,7,7,7,7,7,7,7,7,7,7,7,7,8,8,8,8,8,8,8,8,8,8,8,8,8,8,8,8,8,8,8,8,8,8,8,8,8,8,8,8,8,8,8,8,8,8,8,8,8,8,8,8,8,8,8,8,8,8,8,8,8,8,8,8,8,8,8,8,8,8,8,8,8,8,8,8,8,8,8,8,8,8,8,8,8,8,8,8,8,8,8,8,8,8,8,8,8,8,8,8,8,8,8,8,8,8,8,8,8,8,8,8,8,8,8,8,8,8,8,8,8,8,8,8,8,8,8,8,8,8,8,8,8,8,8,8,8,8,8,8]) (p.cvt .u8 c.1)))),())
theorem v2f:CtrOk PG w3b (v6c std):=okF (a:=v6a) (l:=v29) (gN) (by kernel_rfl) fun _ _=>by kernel_rfl
def w57:Ctr:=
 ⟨83,[.int .u64],[],[(.ret,⟨[(0, .int .i64)],[],1⟩)]⟩
def la83:List LA:=
 []
def ja83:List JA:=
 []
def v3x:List CF:=
 [⟨w3b,v6c⟩]
def an83:Anns:=
 ⟨v3x,ja83,[]⟩
def G83:(p:Prim)→T1→Option T2:=
 fun p x=>
 opt.bnd T2 _ (v6c p (x.1,())) fun a=>
 opt.ret _ (a.1,())
theorem v6h:CtrOk PG w57 (G83 std):=okF (a:=an83) (l:=la83) (gC v2f (gN)) (by kernel_rfl) fun _ _=>by kernel_rfl
def w56:Ctr:=
 ⟨98,[.int .i64, .int .i64],[],[(.ret,⟨[(0, .bool)],[],1⟩)]⟩
def la98:List LA:=
 []
def ja98:List JA:=
 [⟨98,[false,true],0,[(AX.normal,⟨[(4, .bool)],[],17⟩)]⟩]
def v3v:List CF:=
 []
def an98:Anns:=
 ⟨v3v,ja98,[]⟩
def G98:(p:Prim)→T3→Option T0:=
 fun p x=>
 opt.bnd T0 _ (
 opt.run T0 (
 opt.ask _ (p.cmp .neq x.1 x.1) (
 opt.ask _ (bif (p.cmp .neq x.2.1 x.2.1) then Bool.false else Bool.true) (
 opt.ret _ (Bool.true,())) (
 opt.ret _ ((p.cmp .lss x.1 x.2.1),()))) (
 opt.ret _ ((p.cmp .lss x.1 x.2.1),())))) fun a=>
 opt.ret _ (a.1,())
theorem v6g:CtrOk PG w56 (G98 std):=okF (a:=an98) (l:=la98) (gN) (by kernel_rfl) fun _ _=>by kernel_rfl
def w9j:Ctr:=
 ⟨65,[.list 1],[],[(.ret,⟨[(0, .sl 0 1)],[.row [ci]],1⟩)]⟩
def la65:List LA:=
 []
def ja65:List JA:=
 []
def v33:List CF:=
 []
def an65:Anns:=
 ⟨v33,ja65,[]⟩
def G65:(p:Prim)→(LD×Unit)→Option ((LD×T5)):=
 fun p x=>
 opt.need _ (p.leN 1 (p.len x.1))<|
 opt.ask _ (p.leN (p.add 0 (p.len x.1)) 0) (
 opt.need _ (p.and Bool.true (p.and (p.leN (p.add 0 0) (p.len [])) (p.and (p.leN 1 (p.len x.1)) (p.leN (p.add 0 0) (p.len [])))))<|
 opt.need _ (p.leN (p.add 0 0) (p.len (p.splice [] (p.add 0 0) x.1)))<|
 opt.ret _ ((p.splice [] (p.add 0 0) x.1),(0,((p.add 0 (p.len x.1)),())))) (
 opt.need _ (p.and Bool.true (p.and (p.leN (p.add 0 0) (p.len [])) (p.and (p.leN 1 (p.len x.1)) (p.leN (p.add 0 (p.len x.1)) 1000000))))<|
 opt.ret _ ((p.app (p.cut [] 0 0) x.1),(0,((p.add 0 (p.len x.1)),()))))
theorem ok65:CtrOk PG w9j (G65 std):=okF (a:=an65) (l:=la65) (gN) (by kernel_rfl) fun _ _=>by kernel_rfl
def w1k:Ctr:=
 ⟨54,[.list 1],[],[(.ret,⟨[(0, .tuple [.nilp, .int .i64])],[],1⟩),(.ret,⟨[(0, .tuple [.bptr 0 0, .int .i64])],[.row [ci]],1⟩)]⟩
def la54:List LA:=
 [⟨54,[false,true,false,true,true,true,true],0,⟨⟨[(2, .bptr 0 0),(3, .bptr 1 0),(4, .int .i64),(5, .bptr 2 0),(23, .list 1),(24, .int .i64),(25, .int .i64)],[.box [.nilp], .box [.int .i64], .box [.bptr 3 0], .row [ci]],75⟩,[(AX.ret,⟨[(2, .bptr 0 0),(3, .bptr 1 0)],[.box [.nilp], .box [.int .i64]],75⟩),((AX.exit 0),⟨[(2, .bptr 0 0),(3, .bptr 1 0),(4, .int .i64),(5, .bptr 2 0)],[.box [.nilp], .box [.int .i64], .box [.bptr 3 0], .row [ci]],75⟩)]⟩⟩,
 ⟨54,[false,true,true,true,false,false,true,true,false,false,true,false,true,true,true,true],0,⟨⟨[(2, .bptr 0 0),(3, .bptr 1 0),(4, .int .i64),(5, .bptr 2 0),(6, .int .i64),(23, .list 1),(24, .int .i64),(25, .int .i64),(34, .list 1),(35, .int .i64),(36, .int .i64)],[.box [.nilp], .box [.int .i64], .box [.bptr 3 0], .row [ci]],75⟩,[((AX.exit 2),⟨[(2, .bptr 0 0),(3, .bptr 1 0),(4, .int .i64),(5, .bptr 2 0),(23, .list 1),(24, .int .i64),(25, .int .i64)],[.box [.nilp], .box [.int .i64], .box [.bptr 3 0], .row [ci]],75⟩)]⟩⟩,
 ⟨54,[false,true,false,true,true,true,true,true],0,⟨⟨[(2, .bptr 0 0),(3, .bptr 1 0),(5, .bptr 2 0),(49, .int .i64),(50, .int .i64)],[.box [.nilp], .box [.int .i64], .box [.bptr 3 0], .row [ci]],75⟩,[(AX.ret,⟨[(2, .bptr 0 0),(3, .bptr 1 0)],[.box [.nilp], .box [.int .i64]],75⟩),((AX.exit 4),⟨[(2, .bptr 0 0),(3, .bptr 1 0),(5, .bptr 2 0)],[.box [.nilp], .box [.int .i64], .box [.bptr 3 0], .row [ci]],75⟩)]⟩⟩,
 ⟨78,[false,true],6,⟨⟨[(0, .yld 5),(8, .int .i64),(9, .int .i64)],[.box [.nilp], .box [.int .i64], .box [.bptr 3 0], .row [ci], .box [.bptr 3 0], .loop Go.LoopState.ready Option.none 54 [Bool.false,Bool.true,Bool.false,Bool.true,Bool.true,Bool.true,Bool.true,Bool.true,Bool.true] 75 [(59, .clo 78 [] [.bptr 4 0]),(2, .bptr 0 0),(3, .bptr 1 0),(5, .bptr 2 0)]],24⟩,[(AX.ret,⟨[],[.box [.nilp], .box [.int .i64], .box [.bptr 3 0], .row [ci], .box [.bptr 3 0], .loop Go.LoopState.done (Option.some Go.Code.ret) 54 [Bool.false,Bool.true,Bool.false,Bool.true,Bool.true,Bool.true,Bool.true,Bool.true,Bool.true] 75 [(59, .clo 78 [] [.bptr 4 0]),(2, .bptr 0 0),(3, .bptr 1 0),(5, .bptr 2 0)]],24⟩),((AX.exit 0),⟨[],[.box [.nilp], .box [.int .i64], .box [.bptr 3 0], .row [ci], .box [.bptr 3 0], .loop Go.LoopState.ready Option.none 54 [Bool.false,Bool.true,Bool.false,Bool.true,Bool.true,Bool.true,Bool.true,Bool.true,Bool.true] 75 [(59, .clo 78 [] [.bptr 4 0]),(2, .bptr 0 0),(3, .bptr 1 0),(5, .bptr 2 0)]],24⟩)]⟩⟩,
 ⟨78,[false,true,true,false,false,true,true,false,false,true],6,⟨⟨[(0, .yld 5),(3, .int .i64),(8, .int .i64),(9, .int .i64),(12, .int .i64),(13, .int .i64)],[.box [.nilp], .box [.int .i64], .box [.bptr 3 0], .row [ci], .box [.bptr 3 0], .loop Go.LoopState.ready Option.none 54 [Bool.false,Bool.true,Bool.false,Bool.true,Bool.true,Bool.true,Bool.true,Bool.true,Bool.true] 75 [(59, .clo 78 [] [.bptr 4 0]),(2, .bptr 0 0),(3, .bptr 1 0),(5, .bptr 2 0)]],24⟩,[(AX.ret,⟨[],[.box [.nilp], .box [.int .i64], .box [.bptr 3 0], .row [ci], .box [.bptr 3 0], .loop Go.LoopState.done (Option.some Go.Code.ret) 54 [Bool.false,Bool.true,Bool.false,Bool.true,Bool.true,Bool.true,Bool.true,Bool.true,Bool.true] 75 [(59, .clo 78 [] [.bptr 4 0]),(2, .bptr 0 0),(3, .bptr 1 0),(5, .bptr 2 0)]],24⟩),((AX.exit 2),⟨[(0, .yld 5),(8, .int .i64),(9, .int .i64)],[.box [.nilp], .box [.int .i64], .box [.bptr 3 0], .row [ci], .box [.bptr 3 0], .loop Go.LoopState.ready Option.none 54 [Bool.false,Bool.true,Bool.false,Bool.true,Bool.true,Bool.true,Bool.true,Bool.true,Bool.true] 75 [(59, .clo 78 [] [.bptr 4 0]),(2, .bptr 0 0),(3, .bptr 1 0),(5, .bptr 2 0)]],24⟩)]⟩⟩]
def ja54:List JA:=
 [⟨54,[false,false,true,true],0,[(AX.normal,⟨[(0, .list 1),(2, .bptr 0 0),(3, .bptr 1 0),(4, .int .i64),(19, .bool)],[.box [.nilp], .box [.int .i64]],75⟩)]⟩]
def v39:List CF:=
 [⟨w1j,G56⟩]
def an54:Anns:=
 ⟨v39,ja54,[]⟩
def x4z (p:Prim):(LD×T30)→Option ((LD×T30)⊕((LD×T1)⊕(LD×T4))):=
 fun a=>opt.run _ (
 opt.ask _ (p.cmp .lss a.2.2.2.2.2.2.1 a.2.2.2.2.2.1) (
 opt.need _ (p.and Bool.true (p.and Bool.true (p.and Bool.true Bool.true)))<|
 opt.need _ (bif (p.cmp .geq a.2.2.2.2.2.2.1 (0:Int)) then (p.cmp .lss a.2.2.2.2.2.2.1 (p.ofNat 10)) else Bool.false)<|
 opt.need _ (bif (p.cmp .geq a.2.2.1 (0:Int)) then (p.cmp .lss a.2.2.1 (p.ofNat 10)) else Bool.false)<|
 opt.need _ (p.rowOk a.1 (p.add (p.add 1 (p.mul (p.nat a.2.2.2.2.2.2.1) 10)) (p.nat a.2.2.1)) [ci])<|
 opt.need _ (bif (p.cmp .geq a.2.2.1 (0:Int)) then (p.cmp .lss a.2.2.1 (p.ofNat 10)) else Bool.false)<|
 opt.need _ (bif (p.cmp .geq a.2.2.2.2.2.2.1 (0:Int)) then (p.cmp .lss a.2.2.2.2.2.2.1 (p.ofNat 10)) else Bool.false)<|
 opt.need _ (p.rowOk a.1 (p.add (p.add 1 (p.mul (p.nat a.2.2.1) 10)) (p.nat a.2.2.2.2.2.2.1)) [ci])<|
 opt.ask _ (bif (p.bEq (p.cmp .eql (p.rdI a.1 (p.add (p.add 1 (p.mul (p.nat a.2.2.2.2.2.2.1) 10)) (p.nat a.2.2.1)) 0) (1:Int)) (p.cmp .eql (p.rdI a.1 (p.add (p.add 1 (p.mul (p.nat a.2.2.1) 10)) (p.nat a.2.2.2.2.2.2.1)) 0) (1:Int))) then Bool.true else Bool.false) (
 opt.ret _ (Sum.inr (Sum.inl (a.1,((16:Int),()))))) (
 opt.ret _ (Sum.inl (a.1,(a.2.1,(a.2.2.1,(a.2.2.2.1,(a.2.2.2.2.1,(a.2.2.2.2.2.1,((p.ar .add .i64 a.2.2.2.2.2.2.1 (1:Int)),())))))))))) (
 opt.ret _ (Sum.inr (Sum.inr (a.1,(a.2.1,(a.2.2.2.1,(a.2.2.2.2.1,()))))))))
def y69 (it:It) (p:Prim):(LD×T4)→Option ((LD×T4)⊕((LD×T1)⊕(LD×T1))):=
 fun a=>opt.run _ (
 opt.ask _ (p.cmp .lss a.2.2.2.1 a.2.2.1) (
 opt.alt ((LD×T1)) ((LD×T4)) _ (
 it _ _ (x4z p) (a.1,(a.2.1,(a.2.2.2.1,(a.2.2.1,(a.2.2.2.1,(a.2.2.2.1,((0:Int),())))))))) (fun b=>
 opt.ret _ (Sum.inr (Sum.inl (b.1,(b.2.1,()))))) (fun c=>
 opt.bnd ((LD×T4)) _ (some c) fun d=>
 opt.ret _ (Sum.inl (d.1,(d.2.1,(d.2.2.1,((p.ar .add .i64 d.2.2.2.1 (1:Int)),()))))))) (
 opt.ret _ (Sum.inr (Sum.inr (a.1,(a.2.1,()))))))
def x40 (p:Prim):(LD×T4)→Option ((LD×T4)⊕T27):=
 fun a=>opt.run _ (
 opt.ask _ (p.cmp .lss a.2.2.2.1 a.2.2.1) (
 opt.need _ (bif (p.cmp .geq a.2.2.2.1 (0:Int)) then (p.cmp .lss a.2.2.2.1 (p.ofNat 10)) else Bool.false)<|
 opt.need _ (bif (p.cmp .geq a.2.2.2.1 (0:Int)) then (p.cmp .lss a.2.2.2.1 (p.ofNat 10)) else Bool.false)<|
 opt.need _ (p.rowOk a.1 (p.add (p.add 1 (p.mul (p.nat a.2.2.2.1) 10)) (p.nat a.2.2.2.1)) [ci])<|
 opt.ask _ (p.cmp .eql (p.rdI a.1 (p.add (p.add 1 (p.mul (p.nat a.2.2.2.1) 10)) (p.nat a.2.2.2.1)) 0) (1:Int)) (
 opt.ret _ (Sum.inr (Sum.inl ((16:Int),())))) (
 opt.ret _ (Sum.inl (a.1,(a.2.1,(a.2.2.1,((p.ar .add .i64 a.2.2.2.1 (1:Int)),()))))))) (
 opt.ret _ (Sum.inr (Sum.inr (a.1,(a.2.1,()))))))
def x41 (p:Prim):(LD×T31)→Option ((LD×T31)⊕(LD×T9)):=
 fun a=>opt.run _ (
 opt.ask _ (p.cmp .lss a.2.2.2.2.2.2.2.2.2.1 a.2.2.2.2.2.2.2.2.1) (
 opt.need _ (p.rowOk a.2.2.2.2.2.2.2.1 (p.nat a.2.2.2.2.2.2.2.2.2.1) [ci])<|
 opt.need _ (p.cmp .geq a.2.2.2.2.2.2.2.2.2.1 (0:Int))<|
 opt.need _ (bif (p.cmp .geq a.2.2.2.1 (0:Int)) then (p.cmp .lss a.2.2.2.1 (p.ofNat 10)) else Bool.false)<|
 opt.need _ (bif (p.cmp .geq (p.rdI a.2.2.2.2.2.2.2.1 (p.nat a.2.2.2.2.2.2.2.2.2.1) 0) (0:Int)) then (p.cmp .lss (p.rdI a.2.2.2.2.2.2.2.1 (p.nat a.2.2.2.2.2.2.2.2.2.1) 0) (p.ofNat 10)) else Bool.false)<|
 opt.need _ (p.rowOk a.1 (p.add (p.add 1 (p.mul (p.nat a.2.2.2.1) 10)) (p.nat (p.rdI a.2.2.2.2.2.2.2.1 (p.nat a.2.2.2.2.2.2.2.2.2.1) 0))) [ci])<|
 opt.ret _ (Sum.inl ((p.set a.1 (p.add (p.add 1 (p.mul (p.nat a.2.2.2.1) 10)) (p.nat (p.rdI a.2.2.2.2.2.2.2.1 (p.nat a.2.2.2.2.2.2.2.2.2.1) 0))) [k1k]),(a.2.1,(a.2.2.1,(a.2.2.2.1,(a.2.2.2.2.1,(a.2.2.2.2.2.1,(a.2.2.2.2.2.2.1,(a.2.2.2.2.2.2.2.1,(a.2.2.2.2.2.2.2.2.1,((p.ar .add .i64 a.2.2.2.2.2.2.2.2.2.1 (1:Int)),())))))))))))) (
 opt.ret _ (Sum.inr (a.1,(a.2.1,(a.2.2.1,(a.2.2.2.2.1,(a.2.2.2.2.2.1,(a.2.2.2.2.2.2.1,())))))))))
def y7a (it:It) (p:Prim):(LD×T9)→Option ((LD×T9)⊕T26):=
 fun a=>opt.run _ (
 opt.ask _ (p.cmp .lss a.2.2.2.2.2.1 a.2.2.2.2.1) (
 opt.need _ (p.rowOk a.2.2.2.1 (p.nat a.2.2.2.2.2.1) [(CK.list 1)])<|
 opt.need _ (p.cmp .geq a.2.2.2.2.2.1 (0:Int))<|
 opt.bnd T0 _ (g56 it p ((p.rdL a.2.2.2.1 (p.nat a.2.2.2.2.2.1) 0),(a.2.2.1,()))) fun b=>
 opt.ask _ (bif b.1 then Bool.false else Bool.true) (
 opt.ret _ (Sum.inr (Sum.inl ((3:Int),())))) (
 opt.bnd ((LD×T9)) _ (
 it _ _ (x41 p) (a.1,(a.2.1,(a.2.2.1,(a.2.2.2.2.2.1,(a.2.2.2.1,(a.2.2.2.2.1,(a.2.2.2.2.2.1,((p.rdL a.2.2.2.1 (p.nat a.2.2.2.2.2.1) 0),((p.ofNat (p.len (p.rdL a.2.2.2.1 (p.nat a.2.2.2.2.2.1) 0))),((0:Int),()))))))))))) fun c=>
 opt.ret _ (Sum.inl (c.1,(c.2.1,(c.2.2.1,(c.2.2.2.1,(c.2.2.2.2.1,((p.ar .add .i64 c.2.2.2.2.2.1 (1:Int)),()))))))))) (
 opt.ret _ (Sum.inr (Sum.inr (a.1,(a.2.1,(a.2.2.1,())))))))
def g54 (it:It):(p:Prim)→(LD×Unit)→Option (((Int×Unit)⊕(LD×(Int×Unit)))):=
 fun p x=>
 opt.bnd T32 _ (
 opt.run T32 (
 opt.ask _ (p.cmp .eql (p.ofNat (p.len x.1)) (0:Int)) (
 opt.ret _ ((0:Int),(x.1,((p.ofNat (p.len x.1)),(Bool.true,()))))) (
 opt.ret _ ((0:Int),(x.1,((p.ofNat (p.len x.1)),((p.cmp .gtr (p.ofNat (p.len x.1)) (10:Int)),()))))))) fun a=>
 opt.ask _ a.2.2.2.1 (
 opt.ret _ (Sum.inl ((6:Int),()))) (
 opt.alt T2 ((LD×T3)) _ (
 it _ _ (y7a it p) ([[(D.int .i64 a.2.2.1)],k0k,k0k,k0k,k0k,k0k,k0k,k0k,k0k,k0k,k0k,k0k,k0k,k0k,k0k,k0k,k0k,k0k,k0k,k0k,k0k,k0k,k0k,k0k,k0k,k0k,k0k,k0k,k0k,k0k,k0k,k0k,k0k,k0k,k0k,k0k,k0k,k0k,k0k,k0k,k0k,k0k,k0k,k0k,k0k,k0k,k0k,k0k,k0k,k0k,k0k,k0k,k0k,k0k,k0k,k0k,k0k,k0k,k0k,k0k,k0k,k0k,k0k,k0k,k0k,k0k,k0k,k0k,k0k,k0k,k0k,k0k,k0k,k0k,k0k,k0k,k0k,k0k,k0k,k0k,k0k,k0k,k0k,k0k,k0k,k0k,k0k,k0k,k0k,k0k,k0k,k0k,k0k,k0k,k0k,k0k,k0k,k0k,k0k,k0k,k0k],(a.1,(a.2.2.1,(a.2.1,((p.ofNat (p.len a.2.1)),((0:Int),()))))))) (fun b=>
 opt.ret _ (Sum.inl (b.1,()))) (fun c=>
 opt.bnd ((LD×T3)) _ (some c) fun d=>
 opt.alt T2 ((LD×T1)) _ (
 it _ _ (x40 p) (d.1,(d.2.1,(d.2.2.1,((0:Int),()))))) (fun e=>
 opt.ret _ (Sum.inl (e.1,()))) (fun f=>
 opt.bnd ((LD×T1)) _ (some f) fun g=>
 opt.need _ (p.rowOk g.1 0 [ci])<|
 opt.alt ((LD×T1)) ((LD×T1)) _ (
 it _ _ (y69 it p) (g.1,(g.2.1,((p.rdI g.1 0 0),((0:Int),()))))) (fun h=>
 opt.ret _ (Sum.inl (h.2.1,()))) (fun i=>
 opt.bnd ((LD×T1)) _ (some i) fun j=>
 opt.ret _ (Sum.inr (j.1,((0:Int),())))))))
def G54:=g54 it0
theorem v2b:CtrOk PG w1k (G54 std):=okF (a:=an54) (l:=la54) (gC v18 (gN)) (by kernel_rfl) fun _ _=>by kernel_rfl
def x7z:Ctr:=
 ⟨35,[.list 1],[],[(.ret,⟨[(0, .tuple [.vec 0 1, .int .i64])],[.row [ci]],1⟩)]⟩
def la35:List LA:=
 [⟨35,[false,true,false,true,true,true,true],0,⟨⟨[(4, .bptr 0 0),(6, .full 1 1),(22, .int .i64),(23, .int .i64)],[.row [ci], .row [ci]],38⟩,[((AX.exit 0),⟨[(6, .full 0 1)],[.row [ci]],38⟩)]⟩⟩]
def ja35:List JA:=
 []
def v4i:List CF:=
 [⟨w9h,G70⟩,⟨w1k,G54⟩]
def an35:Anns:=
 ⟨v4i,ja35,[]⟩
def x07 (it:It) (p:Prim):(LD×(LD×T3))→Option ((LD×(LD×T3))⊕(LD×Unit)):=
 fun a=>opt.run _ (
 opt.ask _ (p.cmp .lss a.2.2.2.1 a.2.2.1) (
 opt.need _ (bif (p.cmp .geq a.2.2.2.1 (0:Int)) then (p.cmp .lss a.2.2.2.1 (p.ofNat 10)) else Bool.false)<|
 opt.need _ (p.rowOk a.1 (p.add 1 (p.mul (p.nat a.2.2.2.1) 10)) [ci])<|
 opt.need _ (p.and (p.leN (p.add (p.add 1 (p.mul (p.nat a.2.2.2.1) 10)) 10) (p.len a.1)) Bool.true)<|
 opt.bnd T2 _ (g70 it p ((p.cut a.1 (p.add 1 (p.mul (p.nat a.2.2.2.1) 10)) 10),())) fun b=>
 opt.need _ (bif (p.cmp .geq a.2.2.2.1 (0:Int)) then (p.cmp .lss a.2.2.2.1 (p.ofNat (p.len a.2.1))) else Bool.false)<|
 opt.need _ (p.rowOk a.2.1 (p.add 0 (p.nat a.2.2.2.1)) [ci])<|
 opt.need _ (p.eqN 0 0)<|
 opt.need _ (p.eqN (p.len a.2.1) (p.len (p.set a.2.1 (p.add 0 (p.nat a.2.2.2.1)) [(D.int .i64 b.1)])))<|
 opt.need _ (p.eqN (p.len a.2.1) (p.len (p.set a.2.1 (p.add 0 (p.nat a.2.2.2.1)) [(D.int .i64 b.1)])))<|
 opt.ret _ (Sum.inl (a.1,((p.set a.2.1 (p.add 0 (p.nat a.2.2.2.1)) [(D.int .i64 b.1)]),(a.2.2.1,((p.ar .add .i64 a.2.2.2.1 (1:Int)),())))))) (
 opt.need _ (p.eqN 0 0)<|
 opt.need _ (p.eqN (p.len a.2.1) (p.len a.2.1))<|
 opt.need _ (p.eqN (p.len a.2.1) (p.len a.2.1))<|
 opt.ret _ (Sum.inr (a.2.1,()))))
def g35 (it:It):(p:Prim)→(LD×Unit)→Option ((LD×T1)):=
 fun p x=>
 opt.alt T2 ((LD×T1)) _ (g54 it p (x.1,())) (fun a=>
 opt.ask _ (p.cmp .neq a.1 (0:Int)) (
 opt.ret _ ([],(a.1,()))) (
 opt.no _ 41)) (fun b=>
 opt.bnd ((LD×T1)) _ (some b) fun c=>
 opt.ask _ (p.cmp .neq c.2.1 (0:Int)) (
 opt.ret _ ([],(c.2.1,()))) (
 opt.need _ (p.rowOk c.1 0 [ci])<|
 opt.need _ (p.and (p.cmp .geq (p.rdI c.1 0 0) (0:Int)) (p.and (p.cmp .leq (p.rdI c.1 0 0) (p.rdI c.1 0 0)) (p.cmp .leq (p.rdI c.1 0 0) (1000000:Int))))<|
 opt.need _ (p.eqN 0 0)<|
 opt.need _ (p.eqN (p.nat (p.rdI c.1 0 0)) (p.len (p.rep (p.nat (p.rdI c.1 0 0)) k0k)))<|
 opt.need _ (p.eqN (p.nat (p.rdI c.1 0 0)) (p.len (p.rep (p.nat (p.rdI c.1 0 0)) k0k)))<|
 opt.bnd ((LD×Unit)) _ (
 it _ _ (x07 it p) (c.1,((p.rep (p.nat (p.rdI c.1 0 0)) k0k),((p.ofNat (p.nat (p.rdI c.1 0 0))),((0:Int),()))))) fun d=>
 opt.need _ (p.eqN 0 0)<|
 opt.need _ (p.eqN (p.len d.1) (p.len d.1))<|
 opt.need _ (p.leN (p.add 0 (p.len d.1)) (p.len d.1))<|
 opt.ret _ (d.1,((0:Int),()))))
def G35:=g35 it0
theorem v03:CtrOk PG x7z (G35 std):=okF (a:=an35) (l:=la35) (gC ok70 (gC v2b (gN))) (by kernel_rfl) fun _ _=>by kernel_rfl
def w6e:Ctr:=
 ⟨36,[.list 1],[],[(.ret,⟨[(0, .tuple [.int .i64, .int .i64])],[],1⟩)]⟩
def la36:List LA:=
 [⟨36,[false,true,false,true,true,true,true,true],0,⟨⟨[(7, .int .i64),(28, .vec 0 1),(29, .int .i64),(30, .int .i64)],[.row [ci]],43⟩,[((AX.exit 0),⟨[(7, .int .i64)],[],43⟩)]⟩⟩]
def ja36:List JA:=
 []
def v4h:List CF:=
 [⟨x7z,G35⟩]
def an36:Anns:=
 ⟨v4h,ja36,[]⟩
def x8t (p:Prim):(LD×T4)→Option ((LD×T4)⊕T1):=
 fun a=>opt.run _ (
 opt.ask _ (p.cmp .lss a.2.2.2.1 a.2.2.1) (
 opt.need _ (bif (p.cmp .geq a.2.2.2.1 (0:Int)) then (p.cmp .lss a.2.2.2.1 (p.ofNat (p.len a.1))) else Bool.false)<|
 opt.need _ (p.rowOk a.1 (p.add 0 (p.nat a.2.2.2.1)) [ci])<|
 opt.need _ (p.cmp .neq (2:Int) (0:Int))<|
 opt.need _ (p.eqN 0 0)<|
 opt.need _ (p.eqN (p.len a.1) (p.len a.1))<|
 opt.ret _ (Sum.inl (a.1,((p.ar .sub .i64 a.2.1 (p.ar .quo .i64 (p.ar .mul .i64 (p.rdI a.1 (p.add 0 (p.nat a.2.2.2.1)) 0) (p.ar .sub .i64 (p.rdI a.1 (p.add 0 (p.nat a.2.2.2.1)) 0) (1:Int))) (2:Int))),(a.2.2.1,((p.ar .add .i64 a.2.2.2.1 (1:Int)),())))))) (
 opt.ret _ (Sum.inr (a.2.1,()))))
def g36 (it:It):(p:Prim)→(LD×Unit)→Option T6:=
 fun p x=>
 opt.bnd ((LD×T1)) _ (g35 it p (x.1,())) fun a=>
 opt.ask _ (p.cmp .neq a.2.1 (0:Int)) (
 opt.ret _ ((0:Int),(a.2.1,()))) (
 opt.need _ (p.cmp .neq (6:Int) (0:Int))<|
 opt.need _ (p.eqN 0 0)<|
 opt.need _ (p.eqN (p.len a.1) (p.len a.1))<|
 opt.bnd T2 _ (
 it _ _ (x8t p) (a.1,((p.ar .quo .i64 (p.ar .mul .i64 (p.ar .mul .i64 (p.ofNat (p.len a.1)) (p.ar .sub .i64 (p.ofNat (p.len a.1)) (1:Int))) (p.ar .sub .i64 (p.ofNat (p.len a.1)) (2:Int))) (6:Int)),((p.ofNat (p.len a.1)),((0:Int),()))))) fun b=>
 opt.ret _ (b.1,((0:Int),())))
def G36:=g36 it0
theorem v6o:CtrOk PG w6e (G36 std):=okF (a:=an36) (l:=la36) (gC v03 (gN)) (by kernel_rfl) fun _ _=>by kernel_rfl
end Go.Am
end
section
namespace Go.Am
variable {fl:List Int→Bool}
def y0h (l:List Int):Nat→Int
 |0=> -1
 |i+1=>l.getD i 0
def z8z (l:List Int) (n:Int) (i:Nat):Prop:=l.getD i 0≤y0h l i∨n≤l.getD i 0
instance (l:List Int) (n:Int) (i:Nat):Decidable (z8z l n i):=by unfold z8z; infer_instance
theorem y4w (l:List Int) (n:Int):z20 l n↔∀ i,i<l.length→¬ z8z l n i:=by
 constructor
 ·intro h i hi
  obtain ⟨h1,h2,h3⟩:=h i hi
  cases i with
  |zero=>rw [z8z,y0h]; omega
  |succ i=>
   have:=h3 (by omega)
   rw [z8z,y0h]
   rw [Nat.add_sub_cancel] at this
   omega
 ·intro h
  have h0:∀ i,i<l.length→0≤l.getD i 0:=by
   intro i
   induction i with
   |zero=>
    intro hi
    have:=h 0 hi
    rw [z8z,y0h] at this; omega
   |succ i ih=>
    intro hi
    have:=h (i+1) hi
    have:=ih (by omega)
    rw [z8z,y0h] at*; omega
  intro i hi
  have hf:=h i hi
  refine ⟨h0 i hi,?_,fun h1=>?_⟩
  ·rw [z8z] at hf; omega
  ·cases i with
   |zero=>omega
   |succ i=>
    rw [z8z,y0h] at hf
    rw [Nat.add_sub_cancel]
    omega
theorem w3n (l:List Int) (n:Int) (hL:l.length≤1000000):G56 std (z0f l,(n,()))=some (decide (z20 l n),()):=by
 unfold G56
 have key:=z34 (b:=y9n std) l.length (fun i=>(n,(y0h l i,(z0f l,((l.length:Int),((i:Int),())))))) (fun i=>decide (z8z l n i)) (fun i=> .inl (false,())) (.inr ()) (fun i hi=>by
  obtain ⟨m,hm⟩:=z15 hi
  have hw:=z06 (i:=i) (by omega)
  have hlt:(i:Int)<l.length:=by omega
  have h0:(0:Int)≤i:=by omega
  have hla:y0h l (i+1)=m:=z5l hm
  by_cases h1:m≤y0h l i
  ·have hr:z8z l n i:=by rw [z8z,z5l hm]; exact .inl h1
   simp only [hr,y9n,z1m,z1n,z0f,z0r,z2u,z5u,z1e,z0x,hm,hlt,h0,ge_iff_le,z0j,hw,h1,hla,decide_true]
  ·by_cases h2:n≤m
   ·have hr:z8z l n i:=by rw [z8z,z5l hm]; exact .inr h2
    simp only [hr,y9n,z1m,z1n,z0f,z0r,z2u,z5u,z1e,z0x,hm,hlt,h0,ge_iff_le,z0j,hw,h1,h2,hla,decide_true]
   ·have hr:¬ z8z l n i:=by rw [z8z,z5l hm]; omega
    simp only [hr,y9n,z1m,z1n,z0f,z0r,z2u,z5u,z1e,z0x,hm,hlt,h0,ge_iff_le,z0j,hw,h1,h2,hla,decide_false]) (by
  have hn:¬ (l.length:Int)<l.length:=by omega
  simp only [y9n,z1m,z1n,z0f,z0r,z2u,z5u,z1e,z0x,hn])
 have e:∀ {r:(Bool×Unit)⊕Unit},z46 (y9n std) (n,((-1:Int),(z0f l,((l.length:Int),((0:Int),())))))=some r→g56 it0 std (z0f l,(n,()))=some (match r with| .inl y=>y| .inr _=>(true,())):=by
  intro r hr
  have hr':it0 _ _ (y9n std) (n,((-1:Int),(z0f l,((l.length:Int),((0:Int),())))))=some r:=hr
  simp only [g56,z1m,z1n,z0t,hr']
  rcases r with ⟨y,u⟩|u<;>rfl
 rcases key with ⟨i,h1,h2,_,h4⟩|⟨h1,h2⟩
 ·have:¬ z20 l n:=fun h=>(y4w l n).1 h i h1 (by simpa using h2)
  rw [e h4]
  simp [this]
 ·have:z20 l n:=(y4w l n).2 fun i hi=>by simpa using h1 i hi
  rw [e h2]
  simp [this]
end Go.Am
end
section
namespace Go.Am
variable {fl:List Int→Bool}
def eC (b:Bool):List D:=eI (bif b then 1 else 0)
def fld (n:Int) (f:Nat→Nat→Bool):List (List D):=eI n::(List.range 100).map fun j=>eC (f (j / 10) (j % 10))
theorem w5t (n:Int) (f:Nat→Nat→Bool):(fld n f).length=101:=by simp [fld]
theorem w0t (n:Int):fld n (fun _ _=>false)=eI n::List.replicate 100 (eI 0):=rfl
theorem z9p (n:Int) (f:Nat→Nat→Bool) (i k:Nat) (hi:i<10) (hk:k<10):(fld n f)[1+i*10+k]?=some (eC (f i k)):=by
 have h:1+i*10+k=(i*10+k)+1:=by omega
 have h1:(i*10+k) / 10=i:=by omega
 have h2:(i*10+k) % 10=k:=by omega
 rw [h,fld,List.getElem?_cons_succ,List.getElem?_map,List.getElem?_range (by omega)]
 simp only [Option.map_some,h1,h2]
theorem w5r (n:Int) (f:Nat→Nat→Bool) (i k:Nat) (hi:i<10) (hk:k<10):(fld n f).set (1+i*10+k) (eI 1)=fld n (fun a b=>f a b||(decide (a=i)&&decide (b=k))):=by
 have h:1+i*10+k=(i*10+k)+1:=by omega
 rw [h,fld,fld,List.set_cons_succ]
 congr 1
 apply List.ext_getElem?
 intro j
 rw [List.getElem?_set,List.getElem?_map,List.getElem?_map,List.length_map,List.length_range]
 by_cases hj:i*10+k=j
 ·subst hj
  rw [if_pos rfl,if_pos (by omega),List.getElem?_range (by omega)]
  have h1:(i*10+k) / 10=i:=by omega
  have h2:(i*10+k) % 10=k:=by omega
  simp [h1,h2,eC]
 ·rw [if_neg hj]
  by_cases hl:j<100
  ·rw [List.getElem?_range hl]
   have:¬ (j / 10=i∧j % 10=k):=by omega
   have:(decide (j / 10=i)&&decide (j % 10=k))=false:=by
    cases h:(decide (j / 10=i)&&decide (j % 10=k)) with
    |false=>rfl
    |true=>simp at h; exact absurd h this
   simp [this]
  ·rw [List.getElem?_eq_none (by simp; omega)]; rfl
theorem z7k (b:Bool):z5q [CK.int IntKind.i64] (eC b)=true:=rfl
theorem x7v (b:Bool):dI ((eC b)[0]?.getD D.nilp)=bif b then 1 else 0:=rfl
theorem w17 (d:List (List Int)) (n:Int) (i:Nat) (l:List Int) (hi:i<10) (hL:l.length≤1000000) (hg:∀ x∈l,0≤x∧x<10) (f:Nat→Nat→Bool):
  z46 (x41 std) (fld n f,((0:Int),(n,((i:Int),(z0x fl d,(n,((i:Int),(z0f l,((l.length:Int),((0:Int),()))))))))))=
   some (fld n (fun a b=>f a b||(decide (a=i)&&decide ((b:Int)∈l))),((0:Int),(n,(z0x fl d,(n,((i:Int),())))))):=by
 have key:=z40 (b:=x41 std) l.length (fun j=>(fld n (fun a b=>f a b||(decide (a=i)&&decide ((b:Int)∈l.take j))),((0:Int),(n,((i:Int),(z0x fl d,(n,((i:Int),(z0f l,((l.length:Int),((j:Int),()))))))))))) (fld n (fun a b=>f a b||(decide (a=i)&&decide ((b:Int)∈l))),((0:Int),(n,(z0x fl d,(n,((i:Int),())))))) (fun j hj=>by
  obtain ⟨m,hm⟩:=z15 hj
  have hw:=z06 (i:=j) (by omega)
  have hlt:(j:Int)<l.length:=by omega
  have h0:(0:Int)≤j:=by omega
  obtain ⟨hm0,hm1⟩:=hg m (List.mem_of_getElem? hm)
  obtain ⟨k,rfl⟩:∃ k:Nat,m=(k:Int):=⟨m.toNat,by omega⟩
  have hk:k<10:=by omega
  have hi0:(0:Int)≤i:=by omega
  have hi1:(i:Int)<((10:Nat):Int):=by omega
  have hk1:(k:Int)<((10:Nat):Int):=by omega
  have ht:l.take (j+1)=l.take j++[(k:Int)]:=by
   obtain ⟨h1,h2⟩:=List.getElem?_eq_some_iff.1 hm
   rw [List.take_succ_eq_append_getElem h1,h2]
  have hfe:(fun a b=>f a b||(decide (a=i)&&decide ((b:Int)∈l.take (j+1))))=(fun a b=>(f a b||(decide (a=i)&&decide ((b:Int)∈l.take j)))||(decide (a=i)&&decide (b=k))):=by
   funext a b
   have:decide ((b:Int)∈l.take (j+1))=(decide ((b:Int)∈l.take j)||decide (b=k)):=by
    rw [ht]
    by_cases x:(b:Int)∈l.take j<;>by_cases y:b=k<;>simp [x,y]<;>omega
   rw [this]
   cases f a b<;>cases decide (a=i)<;>rfl
  rw [hfe, ←w5r _ _ _ _ hi hk]
  have hg':=z9p n (fun a b=>f a b||(decide (a=i)&&decide ((b:Int)∈l.take j))) i k hi hk
  generalize fld n (fun a b=>f a b||(decide (a=i)&&decide ((b:Int)∈l.take j)))=F at hg'⊢
  simp only [x41,z1m,z1n,z0f,z0r,z2u,z5u,z1e,z0x,hm,hlt,h0,hi0,hi1,hm0,hk1,ge_iff_le,z0j,hw,hg',z7k,show [D.int IntKind.i64 (1:Int)]=eI 1 from rfl]) (by
  have hn:¬ (l.length:Int)<l.length:=by omega
  simp only [x41,z1m,z1n,z0f,z0r,z2u,z5u,z1e,z0x,hn,List.take_length])
 simpa using key
theorem w3g {d:List (List Int)} {i:Nat} {m:List Int} (hm:d[i]?=some m) (k:Nat):bt d i k=decide ((k:Int)∈m):=by rw [bt,z5l hm]
theorem w3h {d:List (List Int)} {i:Nat} (h:d.length≤i) (k:Nat):bt d i k=false:=by
 rw [bt,List.getD_eq_getElem?_getD,List.getElem?_eq_none h]; simp
theorem w1t (d:List (List Int)) (hr:∀ l∈d,l.length≤1000000) (hl:d.length≤10):
  z46 (y7a it0 std) (fld d.length (fun _ _=>false),((0:Int),((d.length:Int),(z0x fl d,((d.length:Int),((0:Int),()))))))=
   if ∃ i∈List.range d.length,¬ z20 (d.getD i []) d.length then some (.inl (3,())) else some (.inr (fld d.length (bt d),((0:Int),((d.length:Int),())))):=by
 have hz:(fun (_ _:Nat)=>false)=(fun a b=>decide (a<0)&&bt d a b):=by
  funext a b; simp
 have hz':bt d=(fun a b=>decide (a<d.length)&&bt d a b):=by
  funext a b
  by_cases h:a<d.length
  ·simp [h]
  ·rw [w3h (by omega)]; simp
 have key:=z34 (b:=y7a it0 std) d.length (fun i=>(fld d.length (fun a b=>decide (a<i)&&bt d a b),((0:Int),((d.length:Int),(z0x fl d,((d.length:Int),((i:Int),()))))))) (fun i=>decide (¬ z20 (d.getD i []) d.length)) (fun i=> .inl (3,())) (.inr (fld d.length (bt d),((0:Int),((d.length:Int),())))) (fun i hi=>by
  obtain ⟨m,hm⟩:=z15 hi
  have hw:=z06 (i:=i) (by omega)
  have hlt:(i:Int)<d.length:=by omega
  have h0:(0:Int)≤i:=by omega
  have h1:g56 it0 std (z0f m,((d.length:Int),()))=some (decide (z20 m d.length),()):=w3n m d.length (hr m (List.mem_of_getElem? hm))
  simp only [z0f] at h1
  by_cases a:z20 m d.length
  ·have hg:∀ x∈m,0≤x∧x<10:=fun x hx=>by
    obtain ⟨j,hj⟩:=List.getElem?_of_mem hx
    obtain ⟨q1,q2,_⟩:=a j (List.getElem?_eq_some_iff.1 hj).1
    rw [z5l hj] at q1 q2
    omega
   have h2:it0 _ _ (x41 std) (fld d.length (fun a b=>decide (a<i)&&bt d a b),((0:Int),((d.length:Int),((i:Int),(z0x fl d,((d.length:Int),((i:Int),(z0f m,((m.length:Int),((0:Int),()))))))))))=_:=
    w17 d d.length i m (by omega) (hr m (List.mem_of_getElem? hm)) hg _
   have hfe:(fun x b=>(decide (x<i)&&bt d x b)||(decide (x=i)&&decide ((b:Int)∈m)))=(fun x b=>decide (x<i+1)&&bt d x b):=by
    funext x b
    by_cases e:x=i
    ·subst e; simp [w3g hm]
    ·have:decide (x<i+1)=decide (x<i):=by
      by_cases q:x<i
      ·simp [q]; omega
      ·simp [q]; omega
     simp [e,this]
   rw [hfe] at h2
   simp only [z0x,z0f] at h2
   simp only [z5l hm,y7a,z1m,z1n,z0f,z0r,z2u,z5u,z1e,z0x,hm,hlt,h0,ge_iff_le,z0j,hw,h1,h2,a,List.length_map,decide_true,not_true,decide_false]
  ·simp only [z5l hm,y7a,z1m,z1n,z0f,z0r,z2u,z5u,z1e,z0x,hm,hlt,h0,ge_iff_le,z0j,hw,h1,a,decide_true,not_false_eq_true,decide_false]) (by
  have hn:¬ (d.length:Int)<d.length:=by omega
  rw [←hz']
  simp only [y7a,z1m,z1n,z0f,z0r,z2u,z5u,z1e,z0x,hn])
 rw [←hz] at key
 rcases key with ⟨k,h1,h2,_,h4⟩|⟨h1,h2⟩
 ·rw [if_pos ⟨k,List.mem_range.2 h1,of_decide_eq_true h2⟩]
  exact h4
 ·rw [if_neg]
  ·exact h2
  ·rintro ⟨k,hk,h⟩
   exact of_decide_eq_false (h1 k (List.mem_range.1 hk)) h
theorem w16 (d:List (List Int)) (hl:d.length≤10) (f:Nat→Nat→Bool):
  z46 (x40 std) (fld d.length f,((0:Int),((d.length:Int),((0:Int),()))))=
   if ∃ i∈List.range d.length,f i i=true then some (.inl (16,())) else some (.inr (fld d.length f,((0:Int),()))):=by
 have key:=z34 (b:=x40 std) d.length (fun i=>(fld d.length f,((0:Int),((d.length:Int),((i:Int),()))))) (fun i=>f i i) (fun i=> .inl (16,())) (.inr (fld d.length f,((0:Int),()))) (fun i hi=>by
  have hw:=z06 (i:=i) (by omega)
  have hlt:(i:Int)<d.length:=by omega
  have h0:(0:Int)≤i:=by omega
  have hi1:(i:Int)<((10:Nat):Int):=by omega
  have hg:=z9p d.length f i i (by omega) (by omega)
  generalize fld d.length f=F at hg⊢
  revert hg
  cases f i i<;>intro hg<;>simp only [x40,z1m,z1n,hlt,h0,hi1,ge_iff_le,z0j,hw,hg,z7k,x7v,cond_true,cond_false]<;>rfl) (by
  have hn:¬ (d.length:Int)<d.length:=by omega
  simp only [x40,z1m,z1n,hn])
 rcases key with ⟨k,h1,h2,_,h4⟩|⟨h1,h2⟩
 ·rw [if_pos ⟨k,List.mem_range.2 h1,h2⟩]
  exact h4
 ·rw [if_neg]
  ·exact h2
  ·rintro ⟨k,hk,h⟩
   rw [h1 k (List.mem_range.1 hk)] at h
   exact Bool.noConfusion h
theorem w15 (n:Int) (N k:Nat) (hk:k<10) (f:Nat→Nat→Bool):
  z46 (x4z std) (fld n f,((0:Int),((k:Int),((N:Int),((k:Int),((k:Int),((0:Int),())))))))=
   if ∃ i∈List.range k,f i k=f k i then some (.inl (fld n f,(16,()))) else some (.inr (fld n f,((0:Int),((N:Int),((k:Int),()))))):=by
 have key:=z34 (b:=x4z std) k (fun i=>(fld n f,((0:Int),((k:Int),((N:Int),((k:Int),((k:Int),((i:Int),())))))))) (fun i=>f i k==f k i) (fun i=> .inl (fld n f,(16,()))) (.inr (fld n f,((0:Int),((N:Int),((k:Int),()))))) (fun i hi=>by
  have hw:=z06 (i:=i) (by omega)
  have hlt:(i:Int)<k:=by omega
  have h0:(0:Int)≤i:=by omega
  have h0':(0:Int)≤k:=by omega
  have hi1:(i:Int)<((10:Nat):Int):=by omega
  have hk1:(k:Int)<((10:Nat):Int):=by omega
  have hg:=z9p n f i k (by omega) (by omega)
  have hg':=z9p n f k i (by omega) (by omega)
  generalize fld n f=F at hg hg'⊢
  revert hg hg'
  cases f i k<;>cases f k i<;>intro hg hg'<;>simp only [x4z,z1m,z1n,hlt,h0,h0',hi1,hk1,ge_iff_le,z0j,hw,hg,hg',z7k,x7v,cond_true,cond_false]<;>rfl) (by
  have hn:¬ (k:Int)<k:=by omega
  simp only [x4z,z1m,z1n,hn])
 rcases key with ⟨i,h1,h2,_,h4⟩|⟨h1,h2⟩
 ·rw [if_pos ⟨i,List.mem_range.2 h1,by simpa using h2⟩]
  exact h4
 ·rw [if_neg]
  ·exact h2
  ·rintro ⟨i,hi,h⟩
   have:=h1 i (List.mem_range.1 hi)
   simp [h] at this
theorem w1s (n:Int) (N:Nat) (hN:N≤10) (f:Nat→Nat→Bool):
  z46 (y69 it0 std) (fld n f,((0:Int),((N:Int),((0:Int),()))))=
   if ∃ k∈List.range N,∃ i∈List.range k,f i k=f k i then some (.inl (fld n f,(16,()))) else some (.inr (fld n f,((0:Int),()))):=by
 have key:=z34 (b:=y69 it0 std) N (fun k=>(fld n f,((0:Int),((N:Int),((k:Int),()))))) (fun k=>decide (∃ i∈List.range k,f i k=f k i)) (fun k=> .inl (fld n f,(16,()))) (.inr (fld n f,((0:Int),()))) (fun k hk=>by
  have hw:=z06 (i:=k) (by omega)
  have hlt:(k:Int)<N:=by omega
  have h1:it0 _ _ (x4z std) (fld n f,((0:Int),((k:Int),((N:Int),((k:Int),((k:Int),((0:Int),())))))))=_:=w15 n N k (by omega) f
  by_cases a:∃ i∈List.range k,f i k=f k i
  ·rw [if_pos a] at h1
   simp only [y69,z1m,z1n,hlt,z0j,hw,h1,a,decide_true]
  ·rw [if_neg a] at h1
   simp only [y69,z1m,z1n,hlt,z0j,hw,h1,a,decide_false]) (by
  have hn:¬ (N:Int)<N:=by omega
  simp only [y69,z1m,z1n,hn])
 rcases key with ⟨i,h1,h2,_,h4⟩|⟨h1,h2⟩
 ·rw [if_pos ⟨i,List.mem_range.2 h1,of_decide_eq_true h2⟩]
  exact h4
 ·rw [if_neg]
  ·exact h2
  ·rintro ⟨i,hi,h⟩
   exact of_decide_eq_false (h1 i (List.mem_range.1 hi)) h
theorem x86 (d:List (List Int)) (hr:∀ l∈d,l.length≤1000000):G54 std (z0x fl d,())=some (if z02 d=0 then .inr (fld d.length (bt d),((0:Int),())) else .inl (z02 d,())):=by
 unfold G54
 by_cases h1:d.length=0
 ·have h1':((d.length:Nat):Int)=0:=by omega
  have hd:z02 d=6:=by rw [z02,if_pos (.inl (by omega))]
  rw [hd]
  simp only [g54,z1m,z1n,z3o,h1']
  rfl
 ·have h1':¬ ((d.length:Nat):Int)=0:=by omega
  by_cases h2:10<d.length
  ·have h2':((d.length:Nat):Int)>10:=by omega
   have hd:z02 d=6:=by rw [z02,if_pos (.inr h2)]
   rw [hd]
   simp only [g54,z1m,z1n,z3o,h1',h2']
   rfl
  ·have h2':¬ ((d.length:Nat):Int)>10:=by omega
   have e1:it0 _ _ (y7a it0 std) (fld d.length (fun _ _=>false),((0:Int),((d.length:Int),(z0x fl d,((d.length:Int),((0:Int),()))))))=_:=w1t d hr (by omega)
   have e2:it0 _ _ (x40 std) (fld d.length (bt d),((0:Int),((d.length:Int),((0:Int),()))))=_:=w16 d (by omega) (bt d)
   have e3:it0 _ _ (y69 it0 std) (fld d.length (bt d),((0:Int),((d.length:Int),((0:Int),()))))=_:=w1s d.length d.length (by omega) (bt d)
   have hf0:(fld d.length (bt d))[0]?=some (eI d.length):=rfl
   rw [w0t] at e1
   simp only [List.replicate_succ,List.replicate_zero] at e1
   have hd:z02 d=if ∃ i∈List.range d.length,¬ z20 (d.getD i []) d.length then 3 else if ∃ i∈List.range d.length,y7e d i then 16 else 0:=by
    rw [z02,if_neg (by omega)]
   rw [hd]
   simp only [eI] at e1
   by_cases a:∃ i∈List.range d.length,¬ z20 (d.getD i []) d.length
   ·rw [if_pos a] at e1⊢
    simp only [g54,z1m,z1n,z3o,h1',h2',e1]
    rfl
   ·rw [if_neg a] at e1⊢
    by_cases b:∃ i∈List.range d.length,bt d i i=true
    ·rw [if_pos b] at e2
     have hb:∃ i∈List.range d.length,y7e d i:=by
      obtain ⟨i,hi,h⟩:=b
      exact ⟨i,hi, .inl (by rw [bt] at h; exact of_decide_eq_true h)⟩
     rw [if_pos hb]
     simp only [g54,z1m,z1n,z3o,h1',h2',e1,e2]
     rfl
    ·rw [if_neg b] at e2
     by_cases c:∃ k∈List.range d.length,∃ i∈List.range k,bt d i k=bt d k i
     ·rw [if_pos c] at e3
      have hb:∃ i∈List.range d.length,y7e d i:=by
       obtain ⟨k,hk,i,hi,h⟩:=c
       exact ⟨k,hk, .inr ⟨i,hi,h⟩⟩
      rw [if_pos hb]
      simp only [g54,z1m,z1n,z3o,h1',h2',e1,e2,e3,hf0,z0r,z2u]
      rfl
     ·rw [if_neg c] at e3
      have hb:¬ ∃ i∈List.range d.length,y7e d i:=by
       rintro ⟨k,hk,h|⟨i,hi,h⟩⟩
       ·exact b ⟨k,hk,by rw [bt]; exact decide_eq_true h⟩
       ·exact c ⟨k,hk,i,hi,h⟩
      rw [if_neg hb]
      simp only [g54,z1m,z1n,z3o,h1',h2',e1,e2,e3,hf0,z0r,z2u]
end Go.Am
end
section
namespace Go.Am
variable {fl:List Int→Bool}
theorem w30 {l:List Int} (h:∀ x∈l,0≤x∧x≤100):0≤l.sum∧l.sum≤100*l.length:=by
 induction l with
 |nil=>simp
 |cons a l ih=>
  have h1:=h a (List.mem_cons_self ..)
  have h2:=ih fun x hx=>h x (List.mem_cons_of_mem _ hx)
  rw [List.sum_cons,List.length_cons]
  omega
theorem v0n (l:List Int) (hL:l.length≤1000) (h:∀ x∈l,0≤x∧x≤100):G70 std (z0f l,())=some (l.sum,()):=by
 unfold G70
 have key:it0 _ _ (x8s std) ((0:Int),(z0f l,((l.length:Int),((0:Int),()))))=some (l.sum,()):=by
  have:=z40 (b:=x8s std) l.length (fun i=>((l.take i).sum,(z0f l,((l.length:Int),((i:Int),()))))) (l.sum,()) (fun i hi=>by
   obtain ⟨m,hm⟩:=z15 hi
   have hw:=z06 (i:=i) (by omega)
   have hlt:(i:Int)<l.length:=by omega
   have h0:(0:Int)≤i:=by omega
   have ht:(l.take (i+1)).sum=(l.take i).sum+m:=by
    obtain ⟨h1,h2⟩:=List.getElem?_eq_some_iff.1 hm
    rw [List.take_succ_eq_append_getElem h1,h2,List.sum_append]
    simp
   have hb:=w30 (l:=l.take (i+1)) fun x hx=>h x (List.mem_of_mem_take hx)
   rw [ht,List.length_take] at hb
   have hw':IntKind.i64.wrap ((l.take i).sum+m)=(l.take i).sum+m:=y9y _ (by omega) (by omega)
   rw [ht]
   simp only [x8s,z1m,z1n,z0f,z0r,z2u,z5u,z1e,z0x,hm,hlt,h0,ge_iff_le,z0j,hw,hw']) (by
   have hn:¬ (l.length:Int)<l.length:=by omega
   simp only [x8s,z1m,z1n,z0f,z0r,z2u,z5u,z1e,z0x,hn,List.take_length])
  exact this
 simp only [g70,z1m,z1n,z0t,key]
end Go.Am
end
section
namespace Go.Am.T11
def o1 (b:Bool):Nat:=bif b then 1 else 0
def sm (n:Nat) (f:Nat→Nat):Nat:=
 match n with
 |0=>0
 |n+1=>sm n f+f n
def cnt (n:Nat) (p:Nat→Bool):Nat:=sm n fun i=>o1 (p i)
theorem z2l (n:Nat) (f:Nat→Nat):sm (n+1) f=sm n f+f n:=rfl
theorem z2m {n:Nat} {f g:Nat→Nat} (h:∀ i,i<n→f i=g i):sm n f=sm n g:=by
 induction n with
 |zero=>rfl
 |succ n ih=>rw [z2l,z2l,ih fun i hi=>h i (by omega),h n (by omega)]
theorem x5v {n:Nat} {f g:Nat→Nat} (h:∀ i,i<n→f i≤g i):sm n f≤sm n g:=by
 induction n with
 |zero=>exact Nat.le_refl _
 |succ n ih=>
  have:=ih fun i hi=>h i (by omega)
  have:=h n (by omega)
  rw [z2l,z2l]; omega
theorem z82 (n:Nat) (f g:Nat→Nat):sm n (fun i=>f i+g i)=sm n f+sm n g:=by
 induction n with
 |zero=>rfl
 |succ n ih=>rw [z2l,z2l,z2l,ih]; omega
theorem x5t (n:Nat):sm n (fun _=>0)=0:=by
 induction n with
 |zero=>rfl
 |succ n ih=>rw [z2l,ih]
theorem z5y (n c:Nat):sm n (fun _=>c)=n*c:=by
 induction n with
 |zero=>simp [sm]
 |succ n ih=>rw [z2l,ih,Nat.succ_mul]
theorem y2a {n:Nat} {f g:Nat→Nat} (h:∀ i,i<n→f i≤g i) (he:sm n f=sm n g):∀ i,i<n→f i=g i:=by
 induction n with
 |zero=>intro i hi; omega
 |succ n ih=>
  intro i hi
  have h1:=x5v (n:=n) fun i hi=>h i (by omega)
  have h2:=h n (by omega)
  rw [z2l,z2l] at he
  by_cases e:i=n
  ·subst e; omega
  ·exact ih (fun i hi=>h i (by omega)) (by omega) i (by omega)
theorem x1l (n k:Nat) (f:Nat→Nat):sm (n+k) f=sm n f+sm k fun i=>f (n+i):=by
 induction k with
 |zero=>rfl
 |succ k ih=>rw [←Nat.add_assoc,z2l,z2l,ih]; omega
theorem w70 (b:Bool):o1 b≤1:=by cases b<;>simp [o1]
theorem z54 (n:Nat) (p:Nat→Bool):cnt (n+1) p=cnt n p+o1 (p n):=rfl
theorem z3k {n:Nat} {p q:Nat→Bool} (h:∀ i,i<n→p i=q i):cnt n p=cnt n q:=z2m fun i hi=>by rw [h i hi]
theorem y3y (n:Nat) (p:Nat→Bool):cnt n p≤n:=by
 have:=x5v (n:=n) (f:=fun i=>o1 (p i)) (g:=fun _=>1) fun i _=>w70 _
 rw [z5y] at this; rw [cnt]; omega
theorem z55 {n:Nat} {p q:Nat→Bool} (h:∀ i,i<n→p i=true→q i=true):cnt n p≤cnt n q:=
 x5v fun i hi=>by
  have:=h i hi
  cases hp:p i with
  |false=>simp [o1]
  |true=>rw [this hp]; exact Nat.le_refl _
theorem y62 (n:Nat):cnt n (fun _=>true)=n:=by
 rw [cnt]
 have:=z5y n 1
 simpa [o1] using this
theorem z77 (n:Nat):cnt n (fun _=>false)=0:=x5t n
theorem y64 (n:Nat) (p:Nat→Bool):cnt n p+cnt n (fun i=>!p i)=n:=by
 rw [cnt,cnt, ←z82]
 rw [z2m (g:=fun _=>1) fun i _=>by cases p i<;>rfl,z5y,Nat.mul_one]
theorem w1q {n:Nat} {p:Nat→Bool} (h:cnt n p=n):∀ i,i<n→p i=true:=by
 intro i hi
 have:=y2a (n:=n) (f:=fun i=>o1 (p i)) (g:=fun _=>1) (fun i _=>w70 _) (by rw [z5y,Nat.mul_one]; exact h) i hi
 cases hp:p i with
 |true=>rfl
 |false=>simp [hp,o1] at this
theorem w1p {n:Nat} {p:Nat→Bool} (h:cnt n p=0):∀ i,i<n→p i=false:=by
 intro i hi
 have:=y2a (n:=n) (f:=fun _=>0) (g:=fun i=>o1 (p i)) (fun i _=>Nat.zero_le _) (by rw [x5t]; exact h.symm) i hi
 cases hp:p i with
 |false=>rfl
 |true=>simp [hp,o1] at this
theorem y63 {n:Nat} {p:Nat→Bool} {i:Nat} (hi:i<n) (h:p i=true):0<cnt n p:=by
 refine Nat.pos_of_ne_zero fun h0=>?_
 rw [w1p h0 i hi] at h; cases h
def c2:Nat→Nat
 |0=>0
 |n+1=>c2 n+n
def c3:Nat→Nat
 |0=>0
 |n+1=>c3 n+c2 n
theorem w6n (n:Nat):2*c2 n=n*(n - 1):=by
 induction n with
 |zero=>rfl
 |succ n ih=>
  rw [c2,Nat.mul_add,ih,Nat.add_sub_cancel]
  cases n with
  |zero=>rfl
  |succ n=>rw [Nat.add_sub_cancel,Nat.mul_comm (n+1) n, ←Nat.add_mul]
theorem x8h (w:Nat) (b:Bool):c2 (w+o1 b)=c2 w+o1 b*w:=by
 cases b<;>simp [o1,c2]
section
variable (b:Nat→Nat→Bool)
def tri (i k m:Nat):Bool:=b i k&&b k m&&b m i||b k i&&b m k&&b i m
def Tr3 (i k n:Nat):Nat:=cnt n (tri b i k)
def Tr2 (i n:Nat):Nat:=sm n fun k=>Tr3 b i k k
def Tr1 (n:Nat):Nat:=sm n fun i=>Tr2 b i i
def z9y (n:Nat):Prop:=(∀ i,i<n→b i i=false)∧∀ i k,i<n→k<n→i≠k→b i k=!b k i
end
variable {b:Nat→Nat→Bool} {N:Nat}
theorem x78 (n:Nat) (x:Bool) (p:Nat→Bool):cnt n (fun i=>x&&p i)=o1 x*cnt n p:=by
 cases x with
 |false=>simp only [Bool.false_and,z77,o1,cond_false,Nat.zero_mul]
 |true=>simp only [Bool.true_and,o1,cond_true,Nat.one_mul]
theorem v3n (h:z9y b N) (v k n:Nat) (hv:v<N) (hk:k<v) (hn:n≤k):
  n=Tr3 b v k n+(o1 (b k v)*cnt n (b k)+cnt n (fun m=>b m v&&b m k)+o1 (b v k)*cnt n (b v)):=by
 rw [←x78, ←x78,Tr3]
 simp only [cnt]
 rw [←z82, ←z82, ←z82]
 have:n=sm n (fun _=>1):=by rw [z5y]; omega
 refine this.trans (z2m fun m hm=>?_)
 have h1:=h.2 k v (by omega) hv (by omega)
 have h2:=h.2 m v (by omega) hv (by omega)
 have h3:=h.2 m k (by omega) (by omega) (by omega)
 unfold tri
 rw [h1,h2,h3]
 cases b v k<;>cases b v m<;>cases b k m<;>rfl
theorem v1t (h:z9y b N) (v n:Nat) (hv:v<N) (hn:n≤v):
  c2 n=Tr2 b v n+(sm n (fun i=>o1 (b i v)*cnt n (b i))+c2 (cnt n (b v))):=by
 induction n with
 |zero=>rfl
 |succ n ih=>
  have h1:=ih (by omega)
  have h2:=v3n h v n n hv (by omega) (Nat.le_refl _)
  have e1:sm (n+1) (fun i=>o1 (b i v)*cnt (n+1) (b i))=sm n (fun i=>o1 (b i v)*cnt n (b i))+cnt n (fun m=>b m v&&b m n)+o1 (b n v)*cnt n (b n):=by
   rw [z2l]
   simp only [z54]
   rw [h.1 n (by omega)]
   have:sm n (fun i=>o1 (b i v)*(cnt n (b i)+o1 (b i n)))=sm n (fun i=>o1 (b i v)*cnt n (b i))+cnt n (fun m=>b m v&&b m n):=by
    rw [cnt, ←z82]
    refine z2m fun i hi=>?_
    rw [Nat.mul_add]
    congr 1
    cases b i v<;>cases b i n<;>rfl
   rw [this]
   rfl
  have e2:Tr2 b v (n+1)=Tr2 b v n+Tr3 b v n n:=rfl
  rw [c2,e1,e2,z54,x8h]
  omega
theorem w6k (h:z9y b N) (n:Nat) (hn:n≤N):c3 n=Tr1 b n+sm n fun i=>c2 (cnt n (b i)):=by
 induction n with
 |zero=>rfl
 |succ n ih=>
  have h1:=ih (by omega)
  have h2:=v1t h n n (by omega) (Nat.le_refl _)
  have e1:sm (n+1) (fun i=>c2 (cnt (n+1) (b i)))=sm n (fun i=>c2 (cnt n (b i)))+sm n (fun i=>o1 (b i n)*cnt n (b i))+c2 (cnt n (b n)):=by
   rw [z2l]
   simp only [z54]
   rw [h.1 n (by omega), ←z82]
   congr 1
   refine z2m fun i hi=>?_
   rw [x8h]
  have e2:Tr1 b (n+1)=Tr1 b n+Tr2 b n n:=rfl
  rw [c3,e1,e2]
  omega
end Go.Am.T11
end
section
namespace Go.Am.T11
variable {b:Nat→Nat→Bool} {N n:Nat}
theorem x9l (h:z9y b N) (k:Nat) (hk:k≤N):sm k (fun q=>cnt k (b q))=c2 k:=by
 induction k with
 |zero=>rfl
 |succ k ih=>
  rw [z2l,c2]
  simp only [z54]
  rw [z82,ih (by omega),h.1 k (by omega)]
  have:sm k (fun i=>o1 (b i k))+cnt k (b k)=k:=by
   have:=y64 k (b k)
   have e:sm k (fun i=>o1 (b i k))=cnt k fun i=>!b k i:=z2m fun i hi=>by rw [h.2 i k (by omega) (by omega) (by omega)]
   rw [e]; omega
  simp only [o1,cond_false] at this⊢
  omega
theorem z76 (k m:Nat) (p:Nat→Bool):cnt (k+m) p=cnt k p+cnt m fun j=>p (k+j):=x1l k m _
def cut (b:Nat→Nat→Bool) (n k:Nat):Prop:=sm k (fun q=>cnt n (b q))=c2 k+k*(n - k)
instance (b:Nat→Nat→Bool) (n k:Nat):Decidable (cut b n k):=by unfold cut; infer_instance
theorem w1h (b:Nat→Nat→Bool) (n:Nat):cut b n 0:=by simp [cut,sm,c2]
theorem y60 (h:z9y b n) {k:Nat} (hk:k≤n):cut b n k↔∀ q r,q<k→k≤r→r<n→b q r=true:=by
 have e:sm k (fun q=>cnt n (b q))=c2 k+sm k (fun q=>cnt (n - k) fun j=>b q (k+j)):=by
  rw [←x9l h k hk, ←z82]
  refine z2m fun q hq=>?_
  rw [←z76]; congr 1; omega
 rw [cut,e]
 have e2:k*(n - k)=sm k (fun _=>n - k):=(z5y _ _).symm
 rw [e2]
 constructor
 ·intro he q r hq hr hrn
  have:=y2a (n:=k) (f:=fun q=>cnt (n - k) fun j=>b q (k+j)) (g:=fun _=>n - k) (fun i _=>y3y _ _) (by omega) q hq
  have:=w1q this (r - k) (by omega)
  rwa [show k+(r - k)=r by omega] at this
 ·intro hall
  congr 1
  refine z2m fun q hq=>?_
  have:cnt (n - k) (fun j=>b q (k+j))=cnt (n - k) (fun _=>true):=z3k fun j hj=>hall q (k+j) hq (by omega) (by omega)
  rw [this,y62]
theorem w54 (h:z9y b n):cut b n n:=(y60 h (Nat.le_refl _)).2 fun q r _ h1 h2=>by omega
theorem x3z (S:Nat→Bool) (n:Nat) (h:∀ q r,q<n→r<q→S q=true→S r=true):∀ q,q<n→S q=decide (q<cnt n S):=by
 induction n with
 |zero=>intro q hq; omega
 |succ n ih=>
  intro q hq
  have ih':=ih fun q r hq=>h q r (by omega)
  rw [z54]
  cases hn:S n with
  |true=>
   have hall:∀ i,i<n→S i=true:=fun i hi=>h n i (by omega) hi hn
   have hc:cnt n S=n:=by
    rw [z3k (q:=fun _=>true) hall,y62]
   rw [hc]
   simp only [o1,cond_true]
   by_cases e:q=n
   ·subst e; simp [hn]
   ·rw [hall q (by omega)]; exact (decide_eq_true (by omega)).symm
  |false=>
   simp only [o1,cond_false,Nat.add_zero]
   by_cases e:q=n
   ·subst e
    have:=y3y q S
    rw [hn]; exact (decide_eq_false (by omega)).symm
   ·exact ih' q (by omega)
theorem x4o (h:z9y b n) (hw:∀ q r,q≤r→r<n→cnt n (b r)≤cnt n (b q)) (S:Nat→Bool)
  (hd:∀ q r,q<n→r<n→S q=true→S r=false→b q r=true):(∀ q,q<n→S q=decide (q<cnt n S))∧cut b n (cnt n S):=by
 have hin:∀ q,q<n→S q=true→cnt n (fun i=>!S i)≤cnt n (b q):=fun q hq hs=>z55 fun i hi hi'=>hd q i hq hi hs (by simpa using hi')
 have hout:∀ r,r<n→S r=false→cnt n (b r)+1≤cnt n (fun i=>!S i):=by
  intro r hr hs
  have h1:cnt n (fun i=>b r i||decide (i=r))≤cnt n (fun i=>!S i):=z55 fun i hi hi'=>by
   by_cases e:i=r
   ·subst e; simp [hs]
   ·cases hS:S i with
    |false=>rfl
    |true=>
     have:=hd i r hi hr hS hs
     have h2:=h.2 r i hr hi (Ne.symm e)
     rw [this] at h2
     simp [e,h2] at hi'
  have h2:cnt n (fun i=>b r i||decide (i=r))=cnt n (b r)+cnt n (fun i=>decide (i=r)):=by
   rw [cnt,cnt,cnt, ←z82]
   refine z2m fun i hi=>?_
   by_cases e:i=r
   ·subst e; simp [h.1 i hi,o1]
   ·simp [e,o1]
  have:=y63 (n:=n) (p:=fun i=>decide (i=r)) hr (by simp)
  omega
 have hp:=x3z S n fun q r hq hr hs=>by
  cases hS:S r with
  |true=>rfl
  |false=>
   have h1:=hin q hq hs
   have h2:=hout r (by omega) hS
   have h3:=hw r q (by omega) hq
   omega
 refine ⟨hp,(y60 h (y3y _ _)).2 fun q r hq hr hrn=>hd q r (by omega) hrn ?_ ?_⟩
 ·rw [hp q (by omega)]; simpa using hq
 ·rw [hp r hrn]; simp; omega
def z88 (b:Nat→Nat→Bool) (n:Nat) (R:Nat→Bool):Prop:=∀ i k,i<n→k<n→R i=true→b i k=true→R k=true
def Rch (b:Nat→Nat→Bool) (n i:Nat) (R:Nat→Bool):Prop:=R i=true∧z88 b n R∧∀ C,z88 b n C→C i=true→∀ k,k<n→R k=true→C k=true
theorem x9z (h:z9y b n) (hw:∀ q r,q≤r→r<n→cnt n (b r)≤cnt n (b q)) {p:Nat} (hp:p<n) {R:Nat→Bool} (hR:Rch b n p R):
  ∃ m,m≤p∧cut b n m∧cnt n R=n - m∧(∀ q,q<n→R q=decide (m≤q))∧∀ k,k≤p→cut b n k→k≤m:=by
 obtain ⟨h1,h2,h3⟩:=hR
 obtain ⟨e1,e2⟩:=x4o h hw (fun i=>!R i) fun q r hq hr hs hs'=>by
  have hRr:R r=true:=by simpa using hs'
  have hRq:R q=false:=by simpa using hs
  have hne:q≠r:=by rintro rfl; rw [hRq] at hRr; cases hRr
  rw [h.2 q r hq hr hne]
  cases hb:b r q with
  |false=>rfl
  |true=>
   have:=h2 r q hr hq hRr hb
   rw [hRq] at this; cases this
 have hc:=y64 n R
 refine ⟨cnt n (fun i=>!R i),?_,e2,by omega,fun q hq=>?_,fun k hk hcut=>?_⟩
 ·have:=e1 p hp
  rw [h1] at this
  simp at this
  exact this
 ·have:=e1 q hq
  cases hRq:R q with
  |true=>rw [hRq] at this; simp at this; exact (decide_eq_true this).symm
  |false=>rw [hRq] at this; simp at this; exact (decide_eq_false (by omega)).symm
 ·have hcl:z88 b n (fun q=>decide (k≤q)):=fun i j hi hj hik hb=>by
   simp only [decide_eq_true_eq] at hik⊢
   refine Nat.le_of_not_lt fun hlt=>?_
   have h4:=(y60 h (by omega)).1 hcut j i hlt hik hi
   have h5:=h.2 i j hi hj (by omega)
   rw [hb,h4] at h5; cases h5
  have h6:=h3 _ hcl (by simpa using hk)
  have h7:cnt n R≤cnt n (fun q=>decide (k≤q)):=z55 h6
  have h8:cnt n (fun q=>decide (k≤q))=n - k:=by
   have e:n=k+(n - k):=by omega
   have:=z76 k (n - k) (fun q=>decide (k≤q))
   rw [←e] at this
   rw [this,z3k (n:=k) (q:=fun _=>false) fun i hi=>by simp; omega,z77,z3k (n:=n - k) (q:=fun _=>true) fun i hi=>by simp,y62]
   omega
  omega
def at_ (s:List Nat) (q:Nat):Nat:=s.getD q 0
theorem x5u (l:List Nat) (f:Nat→Nat):sm l.length (fun q=>f (at_ l q))=(l.map f).sum:=by
 induction l with
 |nil=>rfl
 |cons a l ih=>
  rw [List.length_cons,Nat.add_comm,x1l,List.map_cons,List.sum_cons, ←ih]
  congr 1
  ·simp [sm,at_]
  ·refine z2m fun i hi=>?_
   simp [at_,Nat.add_comm 1 i]
theorem x9r (n:Nat) (f:Nat→Nat):sm n f=((List.range n).map f).sum:=by
 have:=x5u (List.range n) f
 rw [List.length_range] at this
 rw [←this]
 refine z2m fun i hi=>?_
 rw [at_,List.getD_eq_getElem?_getD,List.getElem?_range hi]; rfl
def y4o (n:Nat) (s:List Nat):Prop:=s.Perm (List.range n)
variable {s:List Nat}
theorem y4o.len (h:y4o n s):s.length=n:=by rw [h.length_eq,List.length_range]
theorem y4o.sum (h:y4o n s) (f:Nat→Nat):sm n (fun q=>f (at_ s q))=sm n f:=by
 have:=x5u s f
 rw [h.len] at this
 rw [this,x9r]
 exact (h.map f).sum_nat
theorem y4o.count (h:y4o n s) (p:Nat→Bool):cnt n (fun q=>p (at_ s q))=cnt n p:=h.sum fun i=>o1 (p i)
theorem y4o.get (h:y4o n s) {q:Nat} (hq:q<n):s[q]?=some (at_ s q):=by
 rw [at_,List.getD_eq_getElem?_getD,List.getElem?_eq_getElem (by rw [h.len]; exact hq)]; rfl
theorem y4o.lt (h:y4o n s) {q:Nat} (hq:q<n):at_ s q<n:=List.mem_range.1 (h.mem_iff.1 (List.mem_of_getElem? (h.get hq)))
theorem y4o.nodup (h:y4o n s):s.Nodup:=h.nodup_iff.2 List.nodup_range
theorem y4o.inj (h:y4o n s) {q r:Nat} (hq:q<n) (hr:r<n) (he:at_ s q=at_ s r):q=r:=by
 have h1:=h.get hq
 have h2:=h.get hr
 rw [←he] at h2
 exact (List.getElem?_inj (by rw [h.len]; exact hq) h.nodup).1 (h1.trans h2.symm)
theorem y4o.ex (h:y4o n s) {i:Nat} (hi:i<n):∃ q,q<n∧at_ s q=i:=by
 have:=h.mem_iff.2 (List.mem_range.2 hi)
 obtain ⟨q,hq⟩:=List.getElem?_of_mem this
 have hl:q<n:=by rw [←h.len]; exact (List.getElem?_eq_some_iff.1 hq).1
 refine ⟨q,hl,?_⟩
 have:=h.get hl
 rw [hq] at this; cases this; rfl
def byR (b:Nat→Nat→Bool) (s:List Nat) (q r:Nat):Bool:=b (at_ s q) (at_ s r)
theorem y7c (h:z9y b n) (hs:y4o n s):z9y (byR b s) n:=
 ⟨fun i hi=>h.1 _ (hs.lt hi),fun i k hi hk hne=>h.2 _ _ (hs.lt hi) (hs.lt hk) fun e=>hne (hs.inj hi hk e)⟩
theorem x1a (hs:y4o n s) (q:Nat):cnt n (byR b s q)=cnt n (b (at_ s q)):=hs.count (b (at_ s q))
theorem x59 (hs:y4o n s) {p:Nat} (hp:p<n) {R:Nat→Bool} (hR:Rch b n (at_ s p) R):Rch (byR b s) n p (fun q=>R (at_ s q)):=by
 obtain ⟨h1,h2,h3⟩:=hR
 refine ⟨h1,fun i k hi hk hRi hb=>h2 _ _ (hs.lt hi) (hs.lt hk) hRi hb,fun C hC hCp k hk hRk=>?_⟩
 have key:=h3 (fun i=>decide (∃ q∈List.range n,at_ s q=i∧C q=true)) (fun i k hi hk hCi hb=>by
  simp only [decide_eq_true_eq] at hCi⊢
  obtain ⟨q,hq,rfl,hCq⟩:=hCi
  obtain ⟨r,hr,rfl⟩:=hs.ex hk
  exact ⟨r,List.mem_range.2 hr,rfl,hC q r (List.mem_range.1 hq) hr hCq hb⟩) (by
  simp only [decide_eq_true_eq]
  exact ⟨p,List.mem_range.2 hp,rfl,hCp⟩) (at_ s k) (hs.lt hk) hRk
 simp only [decide_eq_true_eq] at key
 obtain ⟨q,hq,he,hCq⟩:=key
 rw [←hs.inj (List.mem_range.1 hq) hk he]; exact hCq
def x47 (b:Nat→Nat→Bool) (n:Nat) (s:List Nat):Prop:=y4o n s∧∀ q r,q≤r→r<n→cnt n (b (at_ s r))≤cnt n (b (at_ s q))
theorem x3x (h:z9y b n) (hs:x47 b n s) {p:Nat} (hp:p<n) {R:Nat→Bool} (hR:Rch b n (at_ s p) R):
  ∃ m,m≤p∧cut (byR b s) n m∧cnt n R=n - m∧(∀ q,q<n→R (at_ s q)=decide (m≤q))∧∀ k,k≤p→cut (byR b s) n k→k≤m:=by
 obtain ⟨m,h1,h2,h3,h4,h5⟩:=x9z (y7c h hs.1) (fun q r hq hr=>by rw [x1a hs.1,x1a hs.1]; exact hs.2 q r hq hr) hp (x59 hs.1 hp hR)
 refine ⟨m,h1,h2,?_,h4,h5⟩
 rw [←hs.1.count R]; exact h3
theorem w2l {l l':List Nat} (h:l.Pairwise (· < ·)) (h':l'.Pairwise (· < ·)) (he:∀ x,x∈l↔x∈l'):l=l':=by
 induction l generalizing l' with
 |nil=>cases l' with
  |nil=>rfl
  |cons a l'=>exact absurd ((he a).2 (List.mem_cons_self ..)) (by simp)
 |cons a l ih=>cases l' with
  |nil=>exact absurd ((he a).1 (List.mem_cons_self ..)) (by simp)
  |cons a' l'=>
   rw [List.pairwise_cons] at h h'
   have e:a=a':=by
    have h1:=(he a).1 (List.mem_cons_self ..)
    have h2:=(he a').2 (List.mem_cons_self ..)
    rcases List.mem_cons.1 h1 with h1|h1
    ·exact h1
    ·rcases List.mem_cons.1 h2 with h2|h2
     ·exact h2.symm
     ·have:=h.1 _ h2; have:=h'.1 _ h1; omega
   subst e
   rw [ih h.2 h'.2 fun x=>?_]
   have:=he x
   simp only [List.mem_cons] at this
   constructor
   ·intro hx
    rcases this.1 (.inr hx) with rfl|h1
    ·have:=h.1 _ hx; omega
    ·exact h1
   ·intro hx
    rcases this.2 (.inr hx) with rfl|h1
    ·have:=h'.1 _ hx; omega
    ·exact h1
def lG (rc:Nat→Nat) (n j:Nat):List Nat:=(List.range n).filter fun i=>rc i==n - j
def RG (rc:Nat→Nat) (n:Nat):Nat→List (List Nat)
 |0=>[]
 |j+1=>bif (lG rc n j).isEmpty then RG rc n j else RG rc n j++[lG rc n j]
theorem v3b (rc:Nat→Nat) (n j:Nat):(lG rc n j).Pairwise (· < ·):=List.Pairwise.filter _ List.pairwise_lt_range
theorem y3j {rc:Nat→Nat} {j i:Nat}:i∈lG rc n j↔i<n∧rc i=n - j:=by simp [lG]
def RC (b:Nat→Nat→Bool) (n:Nat) (rc:Nat→Nat):Prop:=∀ i,i<n→∃ R,Rch b n i R∧rc i=cnt n R
variable {rc:Nat→Nat}
theorem y05 (h:z9y b n) (hs:x47 b n s) (hrc:RC b n rc) {p:Nat} (hp:p<n):
  ∃ m,m≤p∧cut (byR b s) n m∧rc (at_ s p)=n - m∧∀ k,k≤p→cut (byR b s) n k→k≤m:=by
 obtain ⟨R,h1,h2⟩:=hrc _ (hs.1.lt hp)
 obtain ⟨m,h3,h4,h5,_,h6⟩:=x3x h hs hp h1
 exact ⟨m,h3,h4,h2.trans h5,h6⟩
theorem x6s (h:z9y b n) (hs:x47 b n s) (hrc:RC b n rc) {j:Nat} (hj:j<n) (hc:¬ cut (byR b s) n j):lG rc n j=[]:=by
 refine List.eq_nil_iff_forall_not_mem.2 fun i hi=>?_
 obtain ⟨h1,h2⟩:=y3j.1 hi
 obtain ⟨p,hp,rfl⟩:=hs.1.ex h1
 obtain ⟨m,h3,h4,h5,_⟩:=y05 h hs hrc hp
 have:m=j:=by omega
 subst this; exact hc h4
theorem w2q (h:z9y b n) (hs:x47 b n s) (hrc:RC b n rc) {j k:Nat} (hj:j<k) (hk:k≤n) (hc:cut (byR b s) n j) (hck:cut (byR b s) n k)
  (hno:∀ m,j<m→m<k→¬ cut (byR b s) n m) (i:Nat):i∈lG rc n j↔i∈(s.drop j).take (k - j):=by
 have hmem:i∈(s.drop j).take (k - j)↔∃ q,j≤q∧q<k∧at_ s q=i:=by
  constructor
  ·intro hi
   obtain ⟨q,hq⟩:=List.getElem?_of_mem hi
   have hlt:q<k - j:=by
    have:=(List.getElem?_eq_some_iff.1 hq).1
    rw [List.length_take] at this; omega
   rw [List.getElem?_take_of_lt hlt,List.getElem?_drop,hs.1.get (by omega)] at hq
   cases hq
   exact ⟨j+q,by omega,by omega,rfl⟩
  ·rintro ⟨q,h1,h2,rfl⟩
   refine List.mem_of_getElem? (i:=q - j) ?_
   rw [List.getElem?_take_of_lt (by omega),List.getElem?_drop,show j+(q - j)=q by omega,hs.1.get (by omega)]
 rw [hmem,y3j]
 constructor
 ·rintro ⟨h1,h2⟩
  obtain ⟨p,hp,rfl⟩:=hs.1.ex h1
  obtain ⟨m,h3,h4,h5,h6⟩:=y05 h hs hrc hp
  have:m=j:=by omega
  subst this
  refine ⟨p,h3,Nat.lt_of_not_le fun hge=>?_,rfl⟩
  have:=h6 k hge hck
  omega
 ·rintro ⟨q,h1,h2,rfl⟩
  refine ⟨hs.1.lt (by omega),?_⟩
  obtain ⟨m,h3,h4,h5,h6⟩:=y05 h hs hrc (p:=q) (by omega)
  have h7:=h6 j h1 hc
  have:m=j:=by
   refine Nat.le_antisymm (Nat.le_of_not_lt fun hlt=>hno m hlt (by omega) h4) h7
  rw [h5,this]
theorem w62 (h:z9y b n) (hs:x47 b n s) (hrc:RC b n rc) {j k:Nat} (hj:j≤k) (hk:k≤n) (hno:∀ m,j≤m→m<k→¬ cut (byR b s) n m):RG rc n k=RG rc n j:=by
 induction k with
 |zero=>rw [show j=0 by omega]
 |succ k ih=>
  by_cases e:j=k+1
  ·rw [e]
  ·rw [RG,x6s h hs hrc (by omega) (hno k (by omega) (by omega))]
   exact ih (by omega) (by omega) fun m h1 h2=>hno m h1 (by omega)
theorem v0i (h:z9y b n) (hs:x47 b n s) (hrc:RC b n rc) {j k:Nat} (hj:j<k) (hk:k≤n) (hc:cut (byR b s) n j) (hck:cut (byR b s) n k)
  (hno:∀ m,j<m→m<k→¬ cut (byR b s) n m):RG rc n k=RG rc n j++[lG rc n j]:=by
 rw [w62 h hs hrc (j:=j+1) (by omega) hk fun m h1 h2=>hno m (by omega) h2,RG]
 have:(lG rc n j).isEmpty=false:=by
  rw [List.isEmpty_eq_false_iff]
  intro e
  have:=(w2q h hs hrc hj hk hc hck hno (at_ s j)).2 (by
   refine List.mem_of_getElem? (i:=0) ?_
   rw [List.getElem?_take_of_lt (by omega),List.getElem?_drop,Nat.add_zero,hs.1.get (by omega)])
  rw [e] at this; cases this
 rw [this]; rfl
end Go.Am.T11
end
section
namespace Go.Am.T11
def Lan (L:List Int):Prop:=(∀ T:List Int,T.Sublist L→(c2 T.length:Int)≤T.sum)∧L.sum=c2 L.length
theorem y50 {L L':List Int} (h:L.Perm L'):L.sum=L'.sum:=by
 induction h with
 |nil=>rfl
 |cons a _ ih=>simp [ih]
 |swap a b l=>simp; omega
 |trans _ _ h1 h2=>exact h1.trans h2
theorem Lan.perm {L L':List Int} (h:Lan L) (hp:L.Perm L'):Lan L':=by
 refine ⟨fun T hT=>?_,?_⟩
 ·obtain ⟨T',h1,h2⟩:=List.exists_perm_sublist hT hp.symm
  have:=h.1 T' h2
  rw [h1.length_eq,y50 h1] at this
  exact this
 ·rw [←y50 hp,h.2,hp.length_eq]
theorem x97 {T K:List Int} (h:T.Sublist K) (hne:T≠K):∃ (y:Int) (K1:List Int),y∈K∧K1.Sublist K∧K1.Perm (y::T):=by
 induction h with
 |slnil=>exact absurd rfl hne
 |cons a hs ih=>exact ⟨a,a::_,List.mem_cons_self .., .cons_cons a hs, .refl _⟩
 |cons_cons a hs ih=>
  obtain ⟨y,K1,h1,h2,h3⟩:=ih fun e=>hne (by rw [e])
  exact ⟨y,a::K1,List.mem_cons_of_mem _ h1, .cons_cons a h2,(h3.cons a).trans (.swap _ _ _)⟩
theorem x5j (L:List Int):(L.map (· - 1)).sum=L.sum - L.length:=by
 induction L with
 |nil=>rfl
 |cons a L ih=>simp [ih]; omega
theorem Lan.step {v:Int} {L:List Int} (h:Lan (v::L)) (hs:L.Pairwise (· ≤ ·)):
  0≤v∧v≤L.length∧Lan (L.take v.toNat++(L.drop v.toNat).map (· - 1)):=by
 have h0:0≤v:=by
  have:=h.1 [v] (.cons_cons v (List.nil_sublist _))
  simpa [c2] using this
 have htot:=h.2
 rw [List.sum_cons,List.length_cons,c2] at htot
 have h1:v≤L.length:=by
  have:=h.1 L (.cons v (List.Sublist.refl _))
  omega
 refine ⟨h0,h1,?_,?_⟩
 ·intro T hT
  obtain ⟨T1,T2',rfl,hT1,hT2'⟩:=List.sublist_append_iff.1 hT
  obtain ⟨T2,hT2,rfl⟩:=List.sublist_map_iff.1 hT2'
  rw [List.length_append,List.length_map,List.sum_append,x5j]
  have hKD:∀ y∈L.take v.toNat,∀ z∈L.drop v.toNat,y≤z:=by
   intro y hy z hz
   have:=hs
   rw [←List.take_append_drop v.toNat L,List.pairwise_append] at this
   exact this.2.2 y hy z hz
  have hKl:(L.take v.toNat).length=v.toNat:=by rw [List.length_take]; omega
  have hDl:(L.drop v.toNat).length=L.length - v.toNat:=List.length_drop ..
  have hall:∀ T1 T2:List Int,T1.Sublist (L.take v.toNat)→T2.Sublist (L.drop v.toNat)→(T1++T2).Sublist L:=fun T1 T2 a b=>by
   have:=a.append b
   rwa [List.take_append_drop] at this
  have key:∀ m:Nat,∀ T1 T2:List Int,T1.Sublist (L.take v.toNat)→T2.Sublist (L.drop v.toNat)→
    (T1.sum+T2.sum - T2.length - c2 (T1.length+T2.length)+L.length).toNat*(L.length+1)+(T1.length+T2.length)≤m→
    (c2 (T1.length+T2.length):Int)≤T1.sum+(T2.sum - T2.length):=by
   intro m
   induction m with
   |zero=>
    intro T1 T2 a b hm
    have e1:T1.length+T2.length=0:=by omega
    have e2:T1=[]:=List.length_eq_zero_iff.1 (by omega)
    have e3:T2=[]:=List.length_eq_zero_iff.1 (by omega)
    subst e2 e3; simp [c2]
   |succ m ih=>
    intro T1 T2 a b hm
    have hsub:=h.1 (T1++T2) (.cons v (hall T1 T2 a b))
    rw [List.length_append,List.sum_append] at hsub
    have hl1:=a.length_le
    have hl2:=b.length_le
    refine Int.not_lt.1 fun hneg=>?_
    match T2,b with
    |[],_=>simp at hneg hsub; omega
    |z::T2,b=>
     rw [List.length_cons,List.sum_cons] at*
     have hz:z∈L.drop v.toNat:=b.subset (List.mem_cons_self ..)
     by_cases hK:T1=L.take v.toNat
     ·have:=h.1 (v::(T1++(z::T2))) (.cons_cons v (hall T1 (z::T2) a b))
      rw [List.length_cons,List.sum_cons,List.length_append,List.sum_append,c2,List.length_cons,List.sum_cons] at this
      have hTl:T1.length=v.toNat:=by rw [hK,hKl]
      push_cast at*
      omega
     ·obtain ⟨y,K1,hy,hK1,hp⟩:=x97 a hK
      have hyz:=hKD y hy z hz
      have hv1:=List.length_pos_of_mem hy
      rw [hKl] at hv1
      rw [hDl] at hl2
      have hKl1:=hp.length_eq
      have hKs:=y50 hp
      rw [List.length_cons] at hKl1
      rw [List.sum_cons] at hKs
      by_cases hyk:y<(T1.length+(T2.length+1):Nat)
      ·have:=ih K1 (z::T2) hK1 b (by
        rw [List.length_cons,List.sum_cons,hKl1,hKs,show T1.length+1+(T2.length+1)=T1.length+(T2.length+1)+1 by omega,c2]
        generalize c2 (T1.length+(T2.length+1))=C at*
        have hd:(y+T1.sum+(z+T2.sum) - ((T2.length+1:Nat):Int) - ((C+(T1.length+(T2.length+1)):Nat):Int)+(L.length:Int)).toNat+1≤
          (T1.sum+(z+T2.sum) - ((T2.length+1:Nat):Int) - (C:Int)+(L.length:Int)).toNat:=by omega
        have hmul:=Nat.mul_le_mul_right (L.length+1) hd
        rw [Nat.add_mul,Nat.one_mul] at hmul
        have:0<L.length:=by
         have:=List.length_pos_of_mem hz
         omega
        omega)
       rw [List.length_cons,List.sum_cons,hKl1,hKs,show T1.length+1+(T2.length+1)=T1.length+(T2.length+1)+1 by omega,c2] at this
       push_cast at*
       omega
      ·have b':T2.Sublist (L.drop v.toNat):=(List.sublist_cons_self z T2).trans b
       have e1:T1.length+(T2.length+1)=T1.length+T2.length+1:=by omega
       have hc2:c2 (T1.length+(T2.length+1))=c2 (T1.length+T2.length)+(T1.length+T2.length):=by rw [e1,c2]
       rw [hc2] at hneg hm hsub
       have hsub':=h.1 (T1++T2) (.cons v (hall T1 T2 a b'))
       rw [List.length_append,List.sum_append] at hsub'
       have:=ih T1 T2 a b' (by
        generalize c2 (T1.length+T2.length)=C at*
        have hd:(T1.sum+T2.sum - ((T2.length:Nat):Int) - (C:Int)+(L.length:Int)).toNat≤
          (T1.sum+(z+T2.sum) - ((T2.length+1:Nat):Int) - ((C+(T1.length+T2.length):Nat):Int)+(L.length:Int)).toNat:=by omega
        have hmul:=Nat.mul_le_mul_right (L.length+1) hd
        omega)
       push_cast at*
       omega
  exact key _ T1 T2 hT1 hT2 (Nat.le_refl _)
 ·have hl:(L.take v.toNat++(L.drop v.toNat).map (· - 1)).length=L.length:=by
   rw [List.length_append,List.length_map, ←List.length_append,List.take_append_drop]
  have hsum:(L.take v.toNat).sum+(L.drop v.toNat).sum=L.sum:=by
   rw [←List.sum_append,List.take_append_drop]
  rw [hl,List.sum_append,x5j,List.length_drop]
  push_cast at*
  omega
def w2j (n k:Nat) (sum:Int):Prop:=sum<c2 k∨k=n∧sum≠c2 k
instance (n k:Nat) (sum:Int):Decidable (w2j n k sum):=by unfold w2j; infer_instance
end Go.Am.T11
end
section
namespace Go.Am.T11
def gI (l:List Int) (q:Nat):Int:=l.getD q 0
def sw (l:List Int) (j:Nat):List Int:=(l.set (j+1) (gI l j)).set j (gI l (j+1))
def y3l (κ:Int→Int):Nat→List Int→List Int
 |0,l=>l
 |j+1,l=>if κ (gI l (j+1))<κ (gI l j) then y3l κ j (sw l j) else l
def y8s (κ:Int→Int):Nat→Nat→List Int→List Int
 |0,_,l=>l
 |k+1,i,l=>y8s κ k (i+1) (y3l κ i l)
def z1o (κ:Int→Int) (l:List Int):List Int:=y8s κ (l.length - 1) 1 l
theorem z6l (l:List Int) (j:Nat):(sw l j).length=l.length:=by simp [sw]
theorem x4j {l:List Int} {j:Nat} (hj:j+1<l.length) (q:Nat):gI (sw l j) q=if q=j then gI l (j+1) else if q=j+1 then gI l j else gI l q:=by
 have e:gI (sw l j) q=((sw l j)[q]?).getD 0:=by rw [gI,List.getD_eq_getElem?_getD]
 rw [e,sw,List.getElem?_set,List.getElem?_set,List.length_set]
 by_cases h1:q=j
 ·subst h1; rw [if_pos rfl,if_pos (by omega),if_pos rfl]; rfl
 ·by_cases h2:q=j+1
  ·subst h2; rw [if_neg (by omega),if_pos rfl,if_pos hj,if_neg h1,if_pos rfl]; rfl
  ·rw [if_neg (by omega),if_neg (by omega),if_neg h1,if_neg h2,gI,List.getD_eq_getElem?_getD]
theorem y8y {l l':List Int} (hl:l.length=l'.length) (h:∀ q,q<l.length→gI l q=gI l' q):l=l':=by
 apply List.ext_getElem hl
 intro i h1 h2
 have:=h i h1
 simpa [gI,List.getD_eq_getElem?_getD,h1,h2] using this
theorem w3z {l:List Int} {j:Nat} (hj:j+1<l.length):(sw l j).Perm l:=by
 have e:l=l.take j++(gI l j::gI l (j+1)::l.drop (j+2)):=by
  conv=>lhs; rw [←List.take_append_drop j l]
  congr 1
  rw [List.drop_eq_getElem_cons (by omega),List.drop_eq_getElem_cons (by omega)]
  simp [gI,List.getD_eq_getElem?_getD,show j<l.length by omega,hj]
 have e2:sw l j=l.take j++(gI l (j+1)::gI l j::l.drop (j+2)):=by
  apply y8y
  ·simp only [z6l,List.length_append,List.length_take,List.length_cons,List.length_drop]; omega
  ·intro q hq
   rw [z6l] at hq
   rw [x4j hj]
   have hlt:(l.take j).length=j:=by rw [List.length_take]; omega
   have hR:gI (l.take j++(gI l (j+1)::gI l j::l.drop (j+2))) q=((l.take j++(gI l (j+1)::gI l j::l.drop (j+2)))[q]?).getD 0:=by rw [gI,List.getD_eq_getElem?_getD]
   rw [hR,List.getElem?_append,hlt]
   by_cases h1:q<j
   ·rw [if_neg (by omega),if_neg (by omega),if_pos h1,List.getElem?_take_of_lt h1,gI,List.getD_eq_getElem?_getD]
   ·rw [if_neg h1]
    by_cases h2:q=j
    ·subst h2; rw [if_pos rfl,Nat.sub_self]; rfl
    ·by_cases h3:q=j+1
     ·subst h3; rw [if_neg h2,if_pos rfl,show j+1 - j=1 by omega]; rfl
     ·rw [if_neg h2,if_neg h3]
      obtain ⟨m,rfl⟩:∃ m,q=j+2+m:=⟨q - (j+2),by omega⟩
      rw [show j+2+m - j=m+2 by omega,List.getElem?_cons_succ,List.getElem?_cons_succ,List.getElem?_drop,gI,List.getD_eq_getElem?_getD]
 rw [e2]
 conv=>rhs; rw [e]
 exact List.Perm.append_left _ (.swap _ _ _)
theorem z8n (κ:Int→Int) (j:Nat) (l:List Int):(y3l κ j l).length=l.length:=by
 induction j generalizing l with
 |zero=>rfl
 |succ j ih=>
  rw [y3l]
  split
  ·rw [ih,z6l]
  ·rfl
theorem w0p (κ:Int→Int) (k i:Nat) (l:List Int):(y8s κ k i l).length=l.length:=by
 induction k generalizing i l with
 |zero=>rfl
 |succ k ih=>rw [y8s,ih,z8n]
theorem x6x (κ:Int→Int) (j:Nat) (l:List Int) (hj:j<l.length):(y3l κ j l).Perm l:=by
 induction j generalizing l with
 |zero=>exact .refl _
 |succ j ih=>
  rw [y3l]
  split
  ·exact (ih _ (by rw [z6l]; omega)).trans (w3z hj)
  ·exact .refl _
theorem x6w (κ:Int→Int) (k i:Nat) (l:List Int) (h:i+k≤l.length):(y8s κ k i l).Perm l:=by
 induction k generalizing i l with
 |zero=>exact .refl _
 |succ k ih=>
  rw [y8s]
  exact (ih _ _ (by rw [z8n]; omega)).trans (x6x κ i l (by omega))
def w4h (κ:Int→Int) (l:List Int) (i:Nat):Prop:=∀ p q,p<q→q≤i→κ (gI l p)≤κ (gI l q)
theorem w0q (κ:Int→Int) (i j:Nat) (l:List Int) (hj:j≤i) (hi:i<l.length)
  (h1:∀ p q,p<q→q≤i→p≠j→q≠j→κ (gI l p)≤κ (gI l q)) (h2:∀ q,j<q→q≤i→κ (gI l j)≤κ (gI l q)):w4h κ (y3l κ j l) i:=by
 induction j generalizing l with
 |zero=>
  intro p q hpq hq
  by_cases hp:p=0
  ·subst hp; exact h2 q hpq hq
  ·exact h1 p q hpq hq hp (by omega)
 |succ j ih=>
  rw [y3l]
  split
  ·rename_i hlt
   refine ih _ (by omega) (by rw [z6l]; exact hi) (fun p q hpq hq hp hqj=>?_) (fun q hjq hq=>?_)
   ·rw [x4j (by omega),x4j (by omega),if_neg hp,if_neg hqj]
    by_cases e:p=j+1
    ·rw [if_pos e,if_neg (by omega)]
     exact h1 j q (by omega) hq (by omega) (by omega)
    ·rw [if_neg e]
     by_cases e2:q=j+1
     ·rw [if_pos e2]
      exact h1 p j (by omega) (by omega) e (by omega)
     ·rw [if_neg e2]
      exact h1 p q hpq hq e e2
   ·rw [x4j (by omega),x4j (by omega),if_pos rfl,if_neg (by omega)]
    by_cases e2:q=j+1
    ·rw [if_pos e2]; omega
    ·rw [if_neg e2]; exact h2 q (by omega) hq
  ·rename_i hge
   intro p q hpq hq
   by_cases e:q=j+1
   ·subst e
    by_cases e2:p=j
    ·subst e2; omega
    ·have:=h1 p j (by omega) (by omega) (by omega) (by omega)
     omega
   ·by_cases e2:p=j+1
    ·subst e2; exact h2 q hpq hq
    ·exact h1 p q hpq hq e2 e
theorem w0o (κ:Int→Int) (k i:Nat) (l:List Int) (hi:1≤i) (h:i+k≤l.length) (ho:w4h κ l (i - 1)):w4h κ (y8s κ k i l) (i+k - 1):=by
 induction k generalizing i l with
 |zero=>exact ho
 |succ k ih=>
  rw [y8s]
  have:=ih (i+1) (y3l κ i l) (by omega) (by rw [z8n]; omega) (by
   rw [Nat.add_sub_cancel]
   exact w0q κ i i l (Nat.le_refl _) (by omega) (fun p q hpq hq hp hqi=>ho p q hpq (by omega)) (fun q h1 h2=>by omega))
  rwa [show i+1+k - 1=i+(k+1) - 1 by omega] at this
theorem z25 (κ:Int→Int) (l:List Int):(z1o κ l).length=l.length:=w0p ..
theorem z6m (κ:Int→Int) (l:List Int):(z1o κ l).Perm l:=by
 cases hl:l.length with
 |zero=>
  have:l=[]:=List.length_eq_zero_iff.1 hl
  subst this; exact .refl _
 |succ n=>exact x6w κ _ _ _ (by omega)
theorem y24 (κ:Int→Int) (l:List Int):∀ p q,p≤q→q<l.length→κ (gI (z1o κ l) p)≤κ (gI (z1o κ l) q):=by
 intro p q hpq hq
 by_cases e:p=q
 ·subst e; exact Int.le_refl _
 ·exact w0o κ (l.length - 1) 1 l (Nat.le_refl _) (by omega) (fun p q h1 h2=>by omega) p q (by omega) (by omega)
theorem x1k (κ:Int→Int) (l:List Int):(z1o κ l).Pairwise fun a b=>κ a≤κ b:=by
 rw [List.pairwise_iff_getElem]
 intro i j hi hj hij
 have:=y24 κ l i j (by omega) (by rw [z25] at hj; exact hj)
 simpa [gI,List.getD_eq_getElem?_getD,hi,hj] using this
end Go.Am.T11
end
noncomputable section
namespace Go.Am
def x2z:Ctr:=
 ⟨93,[.full 0 1, .int .i64, .int .i64],[.row [ci]],[]⟩
def v7i:Prim→Tup (x2z).scs→Option (STup (scss (x2z).outs)):=
 fun _ _=>none
theorem x7p:z2h Go.Proofs.Try.prog 93:=enters_auto (b:=_) rfl (by kernel_rfl)
theorem v10:CtrOk Go.Proofs.Try.prog x2z (v7i std):=⟨x7p,fun x y h=>by cases h⟩
def x2x:Ctr:=
 ⟨94,[.full 0 1, .int .i64, .int .i64],[.row [ci]],[]⟩
def v7g:Prim→Tup (x2x).scs→Option (STup (scss (x2x).outs)):=
 fun _ _=>none
theorem x7n:z2h Go.Proofs.Try.prog 94:=enters_auto (b:=_) rfl (by kernel_rfl)
theorem v1y:CtrOk Go.Proofs.Try.prog x2x (v7g std):=⟨x7n,fun x y h=>by cases h⟩
def x2v:Ctr:=
 ⟨95,[.full 0 1, .int .i64, .int .i64],[.row [ci]],[]⟩
def v7e:Prim→Tup (x2v).scs→Option (STup (scss (x2v).outs)):=
 fun _ _=>none
theorem x7l:z2h Go.Proofs.Try.prog 95:=enters_auto (b:=_) rfl (by kernel_rfl)
theorem v1w:CtrOk Go.Proofs.Try.prog x2v (v7e std):=⟨x7l,fun x y h=>by cases h⟩
def w23:Ctr:=
 ⟨92,[.full 0 1, .int .i64, .int .i64],[.row [ci]],[(.ret,⟨[(0, .tuple [])],[.row [ci]],1⟩)]⟩
def v20:List LA:=
 [⟨92,[false,true],1,⟨⟨[(0, .full 0 1),(1, .int .i64),(2, .int .i64),(6, .int .i64)],[.row [ci]],49⟩,[((AX.exit 0),⟨[],[.row [ci]],49⟩)]⟩⟩,
 ⟨92,[false,true,false,false,true,false,false,true],1,⟨⟨[(0, .full 0 1),(1, .int .i64),(2, .int .i64),(6, .int .i64),(7, .int .i64)],[.row [ci]],49⟩,[((AX.exit 2),⟨[(0, .full 0 1),(1, .int .i64),(2, .int .i64),(6, .int .i64)],[.row [ci]],49⟩)]⟩⟩]
def v3d:List JA:=
 []
def w8q:List CF:=
 [⟨w56,G98⟩]
def v52:Anns:=
 ⟨w8q,v3d,[]⟩
def y0q (p:Prim):(LD×T7)→Option ((LD×T7)⊕(LD×T4)):=
 fun a=>opt.run _ (
 opt.ask _ (p.cmp .gtr a.2.2.2.2.1 a.2.1) (
 opt.need _ (bif (p.cmp .geq a.2.2.2.2.1 (0:Int)) then (p.cmp .lss a.2.2.2.2.1 (p.ofNat (p.len a.1))) else Bool.false)<|
 opt.need _ (p.rowOk a.1 (p.add 0 (p.nat a.2.2.2.2.1)) [ci])<|
 opt.need _ (bif (p.cmp .geq (p.ar .sub .i64 a.2.2.2.2.1 (1:Int)) (0:Int)) then (p.cmp .lss (p.ar .sub .i64 a.2.2.2.2.1 (1:Int)) (p.ofNat (p.len a.1))) else Bool.false)<|
 opt.need _ (p.rowOk a.1 (p.add 0 (p.nat (p.ar .sub .i64 a.2.2.2.2.1 (1:Int)))) [ci])<|
 opt.bnd T0 _ (G98 p ((p.rdI a.1 (p.add 0 (p.nat a.2.2.2.2.1)) 0),((p.rdI a.1 (p.add 0 (p.nat (p.ar .sub .i64 a.2.2.2.2.1 (1:Int)))) 0),()))) fun b=>
 opt.ask _ b.1 (
 opt.need _ (bif (p.cmp .geq (p.ar .sub .i64 a.2.2.2.2.1 (1:Int)) (0:Int)) then (p.cmp .lss (p.ar .sub .i64 a.2.2.2.2.1 (1:Int)) (p.ofNat (p.len a.1))) else Bool.false)<|
 opt.need _ (p.rowOk a.1 (p.add 0 (p.nat (p.ar .sub .i64 a.2.2.2.2.1 (1:Int)))) [ci])<|
 opt.need _ (bif (p.cmp .geq a.2.2.2.2.1 (0:Int)) then (p.cmp .lss a.2.2.2.2.1 (p.ofNat (p.len a.1))) else Bool.false)<|
 opt.need _ (p.rowOk a.1 (p.add 0 (p.nat a.2.2.2.2.1)) [ci])<|
 opt.need _ (bif (p.cmp .geq a.2.2.2.2.1 (0:Int)) then (p.cmp .lss a.2.2.2.2.1 (p.ofNat (p.len a.1))) else Bool.false)<|
 opt.need _ (p.rowOk a.1 (p.add 0 (p.nat a.2.2.2.2.1)) [ci])<|
 opt.need _ (bif (p.cmp .geq (p.ar .sub .i64 a.2.2.2.2.1 (1:Int)) (0:Int)) then (p.cmp .lss (p.ar .sub .i64 a.2.2.2.2.1 (1:Int)) (p.ofNat (p.len a.1))) else Bool.false)<|
 opt.need _ (p.rowOk (p.set a.1 (p.add 0 (p.nat a.2.2.2.2.1)) [(D.int .i64 (p.rdI a.1 (p.add 0 (p.nat (p.ar .sub .i64 a.2.2.2.2.1 (1:Int)))) 0))]) (p.add 0 (p.nat (p.ar .sub .i64 a.2.2.2.2.1 (1:Int)))) [ci])<|
 opt.need _ (p.eqN 0 0)<|
 opt.need _ (p.eqN (p.len a.1) (p.len (p.set (p.set a.1 (p.add 0 (p.nat a.2.2.2.2.1)) [(D.int .i64 (p.rdI a.1 (p.add 0 (p.nat (p.ar .sub .i64 a.2.2.2.2.1 (1:Int)))) 0))]) (p.add 0 (p.nat (p.ar .sub .i64 a.2.2.2.2.1 (1:Int)))) [(D.int .i64 (p.rdI a.1 (p.add 0 (p.nat a.2.2.2.2.1)) 0))])))<|
 opt.need _ (p.eqN (p.len a.1) (p.len (p.set (p.set a.1 (p.add 0 (p.nat a.2.2.2.2.1)) [(D.int .i64 (p.rdI a.1 (p.add 0 (p.nat (p.ar .sub .i64 a.2.2.2.2.1 (1:Int)))) 0))]) (p.add 0 (p.nat (p.ar .sub .i64 a.2.2.2.2.1 (1:Int)))) [(D.int .i64 (p.rdI a.1 (p.add 0 (p.nat a.2.2.2.2.1)) 0))])))<|
 opt.ret _ (Sum.inl ((p.set (p.set a.1 (p.add 0 (p.nat a.2.2.2.2.1)) [(D.int .i64 (p.rdI a.1 (p.add 0 (p.nat (p.ar .sub .i64 a.2.2.2.2.1 (1:Int)))) 0))]) (p.add 0 (p.nat (p.ar .sub .i64 a.2.2.2.2.1 (1:Int)))) [(D.int .i64 (p.rdI a.1 (p.add 0 (p.nat a.2.2.2.2.1)) 0))]),(a.2.1,(a.2.2.1,(a.2.2.2.1,((p.ar .sub .i64 a.2.2.2.2.1 (1:Int)),()))))))) (
 opt.need _ (p.eqN 0 0)<|
 opt.need _ (p.eqN (p.len a.1) (p.len a.1))<|
 opt.need _ (p.eqN (p.len a.1) (p.len a.1))<|
 opt.ret _ (Sum.inr (a.1,(a.2.1,(a.2.2.1,(a.2.2.2.1,()))))))) (
 opt.need _ (p.eqN 0 0)<|
 opt.need _ (p.eqN (p.len a.1) (p.len a.1))<|
 opt.need _ (p.eqN (p.len a.1) (p.len a.1))<|
 opt.ret _ (Sum.inr (a.1,(a.2.1,(a.2.2.1,(a.2.2.2.1,())))))))
def z7o (it:It) (p:Prim):(LD×T4)→Option ((LD×T4)⊕(LD×Unit)):=
 fun a=>opt.run _ (
 opt.ask _ (p.cmp .lss a.2.2.2.1 a.2.2.1) (
 opt.need _ (p.eqN 0 0)<|
 opt.need _ (p.eqN (p.len a.1) (p.len a.1))<|
 opt.need _ (p.eqN (p.len a.1) (p.len a.1))<|
 opt.bnd ((LD×T4)) _ (
 it _ _ (y0q p) (a.1,(a.2.1,(a.2.2.1,(a.2.2.2.1,(a.2.2.2.1,())))))) fun b=>
 opt.need _ (p.eqN 0 0)<|
 opt.need _ (p.eqN (p.len b.1) (p.len b.1))<|
 opt.need _ (p.eqN (p.len b.1) (p.len b.1))<|
 opt.ret _ (Sum.inl (b.1,(b.2.1,(b.2.2.1,((p.ar .add .i64 b.2.2.2.1 (1:Int)),())))))) (
 opt.ret _ (Sum.inr (a.1,()))))
def w5m (it:It):(p:Prim)→(LD×T3)→Option ((LD×Unit)):=
 fun p x=>
 opt.need _ (p.eqN 0 0)<|
 opt.need _ (p.eqN (p.len x.1) (p.len x.1))<|
 opt.need _ (p.eqN (p.len x.1) (p.len x.1))<|
 opt.bnd ((LD×Unit)) _ (
 it _ _ (z7o it p) (x.1,(x.2.1,(x.2.2.1,((p.ar .add .i64 x.2.1 (1:Int)),()))))) fun a=>
 opt.ret _ (a.1,())
def v67:=w5m it0
theorem v12:CtrOk PG w23 (v67 std):=okF (a:=v52) (l:=v20) (gC v6g (gN)) (by kernel_rfl) fun _ _=>by kernel_rfl
def w26:Ctr:=
 ⟨82,[.full 0 1, .int .i64, .int .i64, .int .i64],[.row [ci]],[(.ret,⟨[(0, .tuple [])],[.row [ci]],1⟩)]⟩
def v24:List LA:=
 [⟨82,[false,true,true],1,⟨⟨[(0, .full 0 1),(1, .int .i64),(2, .int .i64),(3, .int .i64),(8, .bool),(9, .bool)],[.row [ci]],134⟩,[(AX.ret,⟨[],[.row [ci]],134⟩)]⟩⟩]
def v3g:List JA:=
 []
def w8t:List CF:=
 [⟨x2v,v7e⟩,⟨x2x,v7g⟩,⟨x2z,v7i⟩,⟨w23,v67⟩]
def v55:Anns:=
 ⟨w8t,v3g,[]⟩
def y9i (it:It) (p:Prim):(LD×T19)→Option ((LD×T19)⊕(LD×Unit)):=
 fun a=>opt.run _ (
 opt.ask _ (p.cmp .leq (p.ar .sub .i64 a.2.2.1 a.2.1) (12:Int)) (
 opt.need _ (p.eqN 0 0)<|
 opt.need _ (p.eqN (p.len a.1) (p.len a.1))<|
 opt.need _ (p.eqN (p.len a.1) (p.len a.1))<|
 opt.bnd ((LD×Unit)) _ (w5m it p (a.1,(a.2.1,(a.2.2.1,())))) fun b=>
 opt.ret _ (Sum.inr (b.1,()))) (
 opt.ask _ (p.cmp .eql a.2.2.2.1 (0:Int)) (
 opt.need _ (p.eqN 0 0)<|
 opt.need _ (p.eqN (p.len a.1) (p.len a.1))<|
 opt.need _ (p.eqN (p.len a.1) (p.len a.1))<|
 opt.no _ 81) (
 opt.ask _ (bif a.2.2.2.2.1 then Bool.false else Bool.true) (
 opt.need _ (p.eqN 0 0)<|
 opt.need _ (p.eqN (p.len a.1) (p.len a.1))<|
 opt.need _ (p.eqN (p.len a.1) (p.len a.1))<|
 opt.no _ 81) (
 opt.need _ (p.eqN 0 0)<|
 opt.need _ (p.eqN (p.len a.1) (p.len a.1))<|
 opt.need _ (p.eqN (p.len a.1) (p.len a.1))<|
 opt.no _ 81))))
def w80 (it:It):(p:Prim)→(LD×T4)→Option ((LD×Unit)):=
 fun p x=>
 opt.need _ (p.eqN 0 0)<|
 opt.need _ (p.eqN (p.len x.1) (p.len x.1))<|
 opt.need _ (p.eqN (p.len x.1) (p.len x.1))<|
 opt.bnd ((LD×Unit)) _ (
 it _ _ (y9i it p) (x.1,(x.2.1,(x.2.2.1,(x.2.2.2.1,(Bool.true,(Bool.true,()))))))) fun a=>
 opt.ret _ (a.1,())
def v7a:=w80 it0
theorem v15:CtrOk PG w26 (v7a std):=okF (a:=v55) (l:=v24) (gC v1w (gC v1y (gC v10 (gC v12 (gN))))) (by kernel_rfl) fun _ _=>by kernel_rfl
def w29:Ctr:=
 ⟨55,[.full 0 1],[.row [ci]],[(.ret,⟨[(0, .tuple [])],[.row [ci]],1⟩)]⟩
def v27:List LA:=
 []
def v3j:List JA:=
 []
def w8w:List CF:=
 [⟨w26,v7a⟩,⟨w57,G83⟩]
def v58:Anns:=
 ⟨w8w,v3j,[]⟩
def w5n (it:It):(p:Prim)→(LD×Unit)→Option ((LD×Unit)):=
 fun p x=>
 opt.bnd T2 _ (G83 p ((p.cvt .u64 (p.ofNat (p.len x.1))),())) fun a=>
 opt.need _ (p.eqN 0 0)<|
 opt.need _ (p.eqN (p.len x.1) (p.len x.1))<|
 opt.need _ (p.eqN (p.len x.1) (p.len x.1))<|
 opt.bnd ((LD×Unit)) _ (w80 it p (x.1,((0:Int),((p.ofNat (p.len x.1)),(a.1,()))))) fun b=>
 opt.ret _ (b.1,())
def v1g:=w5n it0
theorem v2a:CtrOk PG w29 (v1g std):=okF (a:=v58) (l:=v27) (gC v15 (gC v6h (gN))) (by kernel_rfl) fun _ _=>by kernel_rfl
end Go.Am
end
noncomputable section
namespace Go.Am
def x2y:Ctr:=
 ⟨93,[.vec 0 1, .int .i64, .int .i64],[.row [ci]],[]⟩
def v7h:Prim→Tup (x2y).scs→Option (STup (scss (x2y).outs)):=
 fun _ _=>none
theorem x7o:z2h Go.Proofs.Try.prog 93:=enters_auto (b:=_) rfl (by kernel_rfl)
theorem v1z:CtrOk Go.Proofs.Try.prog x2y (v7h std):=⟨x7o,fun x y h=>by cases h⟩
def x2w:Ctr:=
 ⟨94,[.vec 0 1, .int .i64, .int .i64],[.row [ci]],[]⟩
def v7f:Prim→Tup (x2w).scs→Option (STup (scss (x2w).outs)):=
 fun _ _=>none
theorem x7m:z2h Go.Proofs.Try.prog 94:=enters_auto (b:=_) rfl (by kernel_rfl)
theorem v1x:CtrOk Go.Proofs.Try.prog x2w (v7f std):=⟨x7m,fun x y h=>by cases h⟩
def x2u:Ctr:=
 ⟨95,[.vec 0 1, .int .i64, .int .i64],[.row [ci]],[]⟩
def v7d:Prim→Tup (x2u).scs→Option (STup (scss (x2u).outs)):=
 fun _ _=>none
theorem x7k:z2h Go.Proofs.Try.prog 95:=enters_auto (b:=_) rfl (by kernel_rfl)
theorem v1v:CtrOk Go.Proofs.Try.prog x2u (v7d std):=⟨x7k,fun x y h=>by cases h⟩
def w22:Ctr:=
 ⟨92,[.vec 0 1, .int .i64, .int .i64],[.row [ci]],[(.ret,⟨[(0, .tuple [])],[.row [ci]],1⟩)]⟩
def v2z:List LA:=
 [⟨92,[false,true],1,⟨⟨[(0, .vec 0 1),(1, .int .i64),(2, .int .i64),(6, .int .i64)],[.row [ci]],49⟩,[((AX.exit 0),⟨[],[.row [ci]],49⟩)]⟩⟩,
 ⟨92,[false,true,false,false,true,false,false,true],1,⟨⟨[(0, .vec 0 1),(1, .int .i64),(2, .int .i64),(6, .int .i64),(7, .int .i64)],[.row [ci]],49⟩,[((AX.exit 2),⟨[(0, .vec 0 1),(1, .int .i64),(2, .int .i64),(6, .int .i64)],[.row [ci]],49⟩)]⟩⟩]
def v3c:List JA:=
 []
def w8p:List CF:=
 [⟨w56,G98⟩]
def v51:Anns:=
 ⟨w8p,v3c,[]⟩
def y0p (p:Prim):(LD×T7)→Option ((LD×T7)⊕(LD×T4)):=
 fun a=>opt.run _ (
 opt.ask _ (p.cmp .gtr a.2.2.2.2.1 a.2.1) (
 opt.need _ (bif (p.cmp .geq a.2.2.2.2.1 (0:Int)) then (p.cmp .lss a.2.2.2.2.1 (p.ofNat (p.len a.1))) else Bool.false)<|
 opt.need _ (p.rowOk a.1 (p.add 0 (p.nat a.2.2.2.2.1)) [ci])<|
 opt.need _ (bif (p.cmp .geq (p.ar .sub .i64 a.2.2.2.2.1 (1:Int)) (0:Int)) then (p.cmp .lss (p.ar .sub .i64 a.2.2.2.2.1 (1:Int)) (p.ofNat (p.len a.1))) else Bool.false)<|
 opt.need _ (p.rowOk a.1 (p.add 0 (p.nat (p.ar .sub .i64 a.2.2.2.2.1 (1:Int)))) [ci])<|
 opt.bnd T0 _ (G98 p ((p.rdI a.1 (p.add 0 (p.nat a.2.2.2.2.1)) 0),((p.rdI a.1 (p.add 0 (p.nat (p.ar .sub .i64 a.2.2.2.2.1 (1:Int)))) 0),()))) fun b=>
 opt.ask _ b.1 (
 opt.need _ (bif (p.cmp .geq (p.ar .sub .i64 a.2.2.2.2.1 (1:Int)) (0:Int)) then (p.cmp .lss (p.ar .sub .i64 a.2.2.2.2.1 (1:Int)) (p.ofNat (p.len a.1))) else Bool.false)<|
 opt.need _ (p.rowOk a.1 (p.add 0 (p.nat (p.ar .sub .i64 a.2.2.2.2.1 (1:Int)))) [ci])<|
 opt.need _ (bif (p.cmp .geq a.2.2.2.2.1 (0:Int)) then (p.cmp .lss a.2.2.2.2.1 (p.ofNat (p.len a.1))) else Bool.false)<|
 opt.need _ (p.rowOk a.1 (p.add 0 (p.nat a.2.2.2.2.1)) [ci])<|
 opt.need _ (bif (p.cmp .geq a.2.2.2.2.1 (0:Int)) then (p.cmp .lss a.2.2.2.2.1 (p.ofNat (p.len a.1))) else Bool.false)<|
 opt.need _ (p.rowOk a.1 (p.add 0 (p.nat a.2.2.2.2.1)) [ci])<|
 opt.need _ (bif (p.cmp .geq (p.ar .sub .i64 a.2.2.2.2.1 (1:Int)) (0:Int)) then (p.cmp .lss (p.ar .sub .i64 a.2.2.2.2.1 (1:Int)) (p.ofNat (p.len a.1))) else Bool.false)<|
 opt.need _ (p.rowOk (p.set a.1 (p.add 0 (p.nat a.2.2.2.2.1)) [(D.int .i64 (p.rdI a.1 (p.add 0 (p.nat (p.ar .sub .i64 a.2.2.2.2.1 (1:Int)))) 0))]) (p.add 0 (p.nat (p.ar .sub .i64 a.2.2.2.2.1 (1:Int)))) [ci])<|
 opt.need _ (p.eqN 0 0)<|
 opt.need _ (p.eqN (p.len a.1) (p.len (p.set (p.set a.1 (p.add 0 (p.nat a.2.2.2.2.1)) [(D.int .i64 (p.rdI a.1 (p.add 0 (p.nat (p.ar .sub .i64 a.2.2.2.2.1 (1:Int)))) 0))]) (p.add 0 (p.nat (p.ar .sub .i64 a.2.2.2.2.1 (1:Int)))) [(D.int .i64 (p.rdI a.1 (p.add 0 (p.nat a.2.2.2.2.1)) 0))])))<|
 opt.ret _ (Sum.inl ((p.set (p.set a.1 (p.add 0 (p.nat a.2.2.2.2.1)) [(D.int .i64 (p.rdI a.1 (p.add 0 (p.nat (p.ar .sub .i64 a.2.2.2.2.1 (1:Int)))) 0))]) (p.add 0 (p.nat (p.ar .sub .i64 a.2.2.2.2.1 (1:Int)))) [(D.int .i64 (p.rdI a.1 (p.add 0 (p.nat a.2.2.2.2.1)) 0))]),(a.2.1,(a.2.2.1,(a.2.2.2.1,((p.ar .sub .i64 a.2.2.2.2.1 (1:Int)),()))))))) (
 opt.need _ (p.eqN 0 0)<|
 opt.need _ (p.eqN (p.len a.1) (p.len a.1))<|
 opt.ret _ (Sum.inr (a.1,(a.2.1,(a.2.2.1,(a.2.2.2.1,()))))))) (
 opt.need _ (p.eqN 0 0)<|
 opt.need _ (p.eqN (p.len a.1) (p.len a.1))<|
 opt.ret _ (Sum.inr (a.1,(a.2.1,(a.2.2.1,(a.2.2.2.1,())))))))
def z7n (it:It) (p:Prim):(LD×T4)→Option ((LD×T4)⊕(LD×Unit)):=
 fun a=>opt.run _ (
 opt.ask _ (p.cmp .lss a.2.2.2.1 a.2.2.1) (
 opt.need _ (p.eqN 0 0)<|
 opt.need _ (p.eqN (p.len a.1) (p.len a.1))<|
 opt.bnd ((LD×T4)) _ (
 it _ _ (y0p p) (a.1,(a.2.1,(a.2.2.1,(a.2.2.2.1,(a.2.2.2.1,())))))) fun b=>
 opt.need _ (p.eqN 0 0)<|
 opt.need _ (p.eqN (p.len b.1) (p.len b.1))<|
 opt.ret _ (Sum.inl (b.1,(b.2.1,(b.2.2.1,((p.ar .add .i64 b.2.2.2.1 (1:Int)),())))))) (
 opt.ret _ (Sum.inr (a.1,()))))
def w5k (it:It):(p:Prim)→(LD×T3)→Option ((LD×Unit)):=
 fun p x=>
 opt.need _ (p.eqN 0 0)<|
 opt.need _ (p.eqN (p.len x.1) (p.len x.1))<|
 opt.bnd ((LD×Unit)) _ (
 it _ _ (z7n it p) (x.1,(x.2.1,(x.2.2.1,((p.ar .add .i64 x.2.1 (1:Int)),()))))) fun a=>
 opt.ret _ (a.1,())
def v66:=w5k it0
theorem v11:CtrOk PG w22 (v66 std):=okF (a:=v51) (l:=v2z) (gC v6g (gN)) (by kernel_rfl) fun _ _=>by kernel_rfl
def w25:Ctr:=
 ⟨82,[.vec 0 1, .int .i64, .int .i64, .int .i64],[.row [ci]],[(.ret,⟨[(0, .tuple [])],[.row [ci]],1⟩)]⟩
def v23:List LA:=
 [⟨82,[false,true,true],1,⟨⟨[(0, .vec 0 1),(1, .int .i64),(2, .int .i64),(3, .int .i64),(8, .bool),(9, .bool)],[.row [ci]],134⟩,[(AX.ret,⟨[],[.row [ci]],134⟩)]⟩⟩]
def v3f:List JA:=
 []
def w8s:List CF:=
 [⟨x2u,v7d⟩,⟨x2w,v7f⟩,⟨x2y,v7h⟩,⟨w22,v66⟩]
def v54:Anns:=
 ⟨w8s,v3f,[]⟩
def y9h (it:It) (p:Prim):(LD×T19)→Option ((LD×T19)⊕(LD×Unit)):=
 fun a=>opt.run _ (
 opt.ask _ (p.cmp .leq (p.ar .sub .i64 a.2.2.1 a.2.1) (12:Int)) (
 opt.need _ (p.eqN 0 0)<|
 opt.need _ (p.eqN (p.len a.1) (p.len a.1))<|
 opt.bnd ((LD×Unit)) _ (w5k it p (a.1,(a.2.1,(a.2.2.1,())))) fun b=>
 opt.ret _ (Sum.inr (b.1,()))) (
 opt.ask _ (p.cmp .eql a.2.2.2.1 (0:Int)) (
 opt.need _ (p.eqN 0 0)<|
 opt.need _ (p.eqN (p.len a.1) (p.len a.1))<|
 opt.no _ 81) (
 opt.ask _ (bif a.2.2.2.2.1 then Bool.false else Bool.true) (
 opt.need _ (p.eqN 0 0)<|
 opt.need _ (p.eqN (p.len a.1) (p.len a.1))<|
 opt.no _ 81) (
 opt.need _ (p.eqN 0 0)<|
 opt.need _ (p.eqN (p.len a.1) (p.len a.1))<|
 opt.no _ 81))))
def w8z (it:It):(p:Prim)→(LD×T4)→Option ((LD×Unit)):=
 fun p x=>
 opt.need _ (p.eqN 0 0)<|
 opt.need _ (p.eqN (p.len x.1) (p.len x.1))<|
 opt.bnd ((LD×Unit)) _ (
 it _ _ (y9h it p) (x.1,(x.2.1,(x.2.2.1,(x.2.2.2.1,(Bool.true,(Bool.true,()))))))) fun a=>
 opt.ret _ (a.1,())
def v69:=w8z it0
theorem v14:CtrOk PG w25 (v69 std):=okF (a:=v54) (l:=v23) (gC v1v (gC v1x (gC v1z (gC v11 (gN))))) (by kernel_rfl) fun _ _=>by kernel_rfl
def w28:Ctr:=
 ⟨55,[.vec 0 1],[.row [ci]],[(.ret,⟨[(0, .tuple [])],[.row [ci]],1⟩)]⟩
def v26:List LA:=
 []
def v3i:List JA:=
 []
def w8v:List CF:=
 [⟨w25,v69⟩,⟨w57,G83⟩]
def v57:Anns:=
 ⟨w8v,v3i,[]⟩
def w7c (it:It):(p:Prim)→(LD×Unit)→Option ((LD×Unit)):=
 fun p x=>
 opt.bnd T2 _ (G83 p ((p.cvt .u64 (p.ofNat (p.len x.1))),())) fun a=>
 opt.need _ (p.eqN 0 0)<|
 opt.need _ (p.eqN (p.len x.1) (p.len x.1))<|
 opt.bnd ((LD×Unit)) _ (w8z it p (x.1,((0:Int),((p.ofNat (p.len x.1)),(a.1,()))))) fun b=>
 opt.ret _ (b.1,())
def v1f:=w7c it0
theorem v19:CtrOk PG w28 (v1f std):=okF (a:=v57) (l:=v26) (gC v14 (gC v6h (gN))) (by kernel_rfl) fun _ _=>by kernel_rfl
end Go.Am
end
noncomputable section
namespace Go.Am
def x20:Ctr:=
 ⟨105,[.vec 0 1, .int .i64, .int .i64, .int .i64, .clo 88 [] [.bptr 1 0]],[.row [ci], .box [.list 1]],[]⟩
def v7j:Prim→Tup (x20).scs→Option (STup (scss (x20).outs)):=
 fun _ _=>none
theorem x7q:z2h Go.Proofs.Try.prog 105:=enters_auto (b:=_) rfl (by kernel_rfl)
theorem v2d:CtrOk Go.Proofs.Try.prog x20 (v7j std):=⟨x7q,fun x y h=>by cases h⟩
def w3a:Ctr:=
 ⟨104,[.vec 0 1, .int .i64, .int .i64, .clo 88 [] [.bptr 1 0]],[.row [ci], .box [.list 1]],[(.ret,⟨[(0, .tuple [])],[.row [ci], .box [.list 1]],1⟩)]⟩
def v28:List LA:=
 [⟨104,[false,true],2,⟨⟨[(0, .vec 0 1),(1, .int .i64),(2, .int .i64),(3, .clo 88 [] [.bptr 1 0]),(8, .int .i64)],[.row [ci], .box [.list 1]],53⟩,[((AX.exit 0),⟨[],[.row [ci], .box [.list 1]],53⟩)]⟩⟩,
 ⟨104,[false,true,false,false,true,false,false,true],2,⟨⟨[(0, .vec 0 1),(1, .int .i64),(2, .int .i64),(3, .clo 88 [] [.bptr 1 0]),(8, .int .i64),(9, .int .i64)],[.row [ci], .box [.list 1]],53⟩,[((AX.exit 2),⟨[(0, .vec 0 1),(1, .int .i64),(2, .int .i64),(3, .clo 88 [] [.bptr 1 0]),(8, .int .i64)],[.row [ci], .box [.list 1]],53⟩)]⟩⟩]
def v3k:List JA:=
 [⟨68,[true,false,true,true,true],2,[(AX.ret,⟨[(4, .int .i64)],[.row [ci], .box [.list 1]],20⟩),(AX.normal,⟨[(0, .int .i64),(1, .int .i64),(6, .bool)],[.row [ci], .box [.list 1]],20⟩)]⟩]
def w8x:List CF:=
 []
def v59:Anns:=
 ⟨w8x,v3k,[]⟩
def z86 (p:Prim):(LD×(LD×T7))→Option ((LD×(LD×T7))⊕(LD×(LD×T4))):=
 fun a=>opt.run _ (
 opt.ask _ (p.cmp .gtr a.2.2.2.2.2.1 a.2.2.1) (
 opt.need _ (bif (p.cmp .geq a.2.2.2.2.2.1 (0:Int)) then (p.cmp .lss a.2.2.2.2.2.1 (p.ofNat (p.len a.1))) else Bool.false)<|
 opt.need _ (p.rowOk a.1 (p.add 0 (p.nat a.2.2.2.2.2.1)) [ci])<|
 opt.need _ (bif (p.cmp .geq (p.ar .sub .i64 a.2.2.2.2.2.1 (1:Int)) (0:Int)) then (p.cmp .lss (p.ar .sub .i64 a.2.2.2.2.2.1 (1:Int)) (p.ofNat (p.len a.1))) else Bool.false)<|
 opt.need _ (p.rowOk a.1 (p.add 0 (p.nat (p.ar .sub .i64 a.2.2.2.2.2.1 (1:Int)))) [ci])<|
 opt.need _ (p.rowOk a.2.1 (p.nat (p.rdI a.1 (p.add 0 (p.nat a.2.2.2.2.2.1)) 0)) [ci])<|
 opt.need _ (p.cmp .geq (p.rdI a.1 (p.add 0 (p.nat a.2.2.2.2.2.1)) 0) (0:Int))<|
 opt.need _ (p.rowOk a.2.1 (p.nat (p.rdI a.1 (p.add 0 (p.nat (p.ar .sub .i64 a.2.2.2.2.2.1 (1:Int)))) 0)) [ci])<|
 opt.need _ (p.cmp .geq (p.rdI a.1 (p.add 0 (p.nat (p.ar .sub .i64 a.2.2.2.2.2.1 (1:Int)))) 0) (0:Int))<|
 opt.alt ((LD×(LD×T1))) ((LD×(LD×T15))) _ (
 opt.run (((LD×(LD×T1))⊕(LD×(LD×T15)))) (
 opt.ask _ (p.cmp .neq (p.rdI a.2.1 (p.nat (p.rdI a.1 (p.add 0 (p.nat a.2.2.2.2.2.1)) 0)) 0) (p.rdI a.2.1 (p.nat (p.rdI a.1 (p.add 0 (p.nat a.2.2.2.2.2.1)) 0)) 0)) (
 opt.ask _ (p.cmp .neq (p.rdI a.2.1 (p.nat (p.rdI a.1 (p.add 0 (p.nat (p.ar .sub .i64 a.2.2.2.2.2.1 (1:Int)))) 0)) 0) (p.rdI a.2.1 (p.nat (p.rdI a.1 (p.add 0 (p.nat (p.ar .sub .i64 a.2.2.2.2.2.1 (1:Int)))) 0)) 0)) (
 opt.ret _ (Sum.inl (a.1,(a.2.1,((0:Int),()))))) (
 opt.ret _ (Sum.inl (a.1,(a.2.1,((-1:Int),())))))) (
 opt.ret _ (Sum.inr (a.1,(a.2.1,((p.rdI a.2.1 (p.nat (p.rdI a.1 (p.add 0 (p.nat a.2.2.2.2.2.1)) 0)) 0),((p.rdI a.2.1 (p.nat (p.rdI a.1 (p.add 0 (p.nat (p.ar .sub .i64 a.2.2.2.2.2.1 (1:Int)))) 0)) 0),((p.cmp .neq (p.rdI a.2.1 (p.nat (p.rdI a.1 (p.add 0 (p.nat (p.ar .sub .i64 a.2.2.2.2.2.1 (1:Int)))) 0)) 0) (p.rdI a.2.1 (p.nat (p.rdI a.1 (p.add 0 (p.nat (p.ar .sub .i64 a.2.2.2.2.2.1 (1:Int)))) 0)) 0)),()))))))))) (fun b=>
 opt.ask _ (p.cmp .lss b.2.2.1 (0:Int)) (
 opt.need _ (bif (p.cmp .geq (p.ar .sub .i64 a.2.2.2.2.2.1 (1:Int)) (0:Int)) then (p.cmp .lss (p.ar .sub .i64 a.2.2.2.2.2.1 (1:Int)) (p.ofNat (p.len a.1))) else Bool.false)<|
 opt.need _ (p.rowOk b.1 (p.add 0 (p.nat (p.ar .sub .i64 a.2.2.2.2.2.1 (1:Int)))) [ci])<|
 opt.need _ (bif (p.cmp .geq a.2.2.2.2.2.1 (0:Int)) then (p.cmp .lss a.2.2.2.2.2.1 (p.ofNat (p.len a.1))) else Bool.false)<|
 opt.need _ (p.rowOk b.1 (p.add 0 (p.nat a.2.2.2.2.2.1)) [ci])<|
 opt.need _ (bif (p.cmp .geq a.2.2.2.2.2.1 (0:Int)) then (p.cmp .lss a.2.2.2.2.2.1 (p.ofNat (p.len a.1))) else Bool.false)<|
 opt.need _ (p.rowOk b.1 (p.add 0 (p.nat a.2.2.2.2.2.1)) [ci])<|
 opt.need _ (bif (p.cmp .geq (p.ar .sub .i64 a.2.2.2.2.2.1 (1:Int)) (0:Int)) then (p.cmp .lss (p.ar .sub .i64 a.2.2.2.2.2.1 (1:Int)) (p.ofNat (p.len a.1))) else Bool.false)<|
 opt.need _ (p.rowOk (p.set b.1 (p.add 0 (p.nat a.2.2.2.2.2.1)) [(D.int .i64 (p.rdI b.1 (p.add 0 (p.nat (p.ar .sub .i64 a.2.2.2.2.2.1 (1:Int)))) 0))]) (p.add 0 (p.nat (p.ar .sub .i64 a.2.2.2.2.2.1 (1:Int)))) [ci])<|
 opt.need _ (p.eqN 0 0)<|
 opt.need _ (p.eqN (p.len a.1) (p.len (p.set (p.set b.1 (p.add 0 (p.nat a.2.2.2.2.2.1)) [(D.int .i64 (p.rdI b.1 (p.add 0 (p.nat (p.ar .sub .i64 a.2.2.2.2.2.1 (1:Int)))) 0))]) (p.add 0 (p.nat (p.ar .sub .i64 a.2.2.2.2.2.1 (1:Int)))) [(D.int .i64 (p.rdI b.1 (p.add 0 (p.nat a.2.2.2.2.2.1)) 0))])))<|
 opt.ret _ (Sum.inl ((p.set (p.set b.1 (p.add 0 (p.nat a.2.2.2.2.2.1)) [(D.int .i64 (p.rdI b.1 (p.add 0 (p.nat (p.ar .sub .i64 a.2.2.2.2.2.1 (1:Int)))) 0))]) (p.add 0 (p.nat (p.ar .sub .i64 a.2.2.2.2.2.1 (1:Int)))) [(D.int .i64 (p.rdI b.1 (p.add 0 (p.nat a.2.2.2.2.2.1)) 0))]),(b.2.1,(a.2.2.1,(a.2.2.2.1,(a.2.2.2.2.1,((p.ar .sub .i64 a.2.2.2.2.2.1 (1:Int)),())))))))) (
 opt.need _ (p.eqN 0 0)<|
 opt.need _ (p.eqN (p.len a.1) (p.len b.1))<|
 opt.ret _ (Sum.inr (b.1,(b.2.1,(a.2.2.1,(a.2.2.2.1,(a.2.2.2.2.1,())))))))) (fun c=>
 opt.bnd ((LD×(LD×T15))) _ (some c) fun d=>
 opt.ask _ d.2.2.2.2.1 (
 opt.ask _ (p.cmp .lss (1:Int) (0:Int)) (
 opt.need _ (bif (p.cmp .geq (p.ar .sub .i64 a.2.2.2.2.2.1 (1:Int)) (0:Int)) then (p.cmp .lss (p.ar .sub .i64 a.2.2.2.2.2.1 (1:Int)) (p.ofNat (p.len a.1))) else Bool.false)<|
 opt.need _ (p.rowOk d.1 (p.add 0 (p.nat (p.ar .sub .i64 a.2.2.2.2.2.1 (1:Int)))) [ci])<|
 opt.need _ (bif (p.cmp .geq a.2.2.2.2.2.1 (0:Int)) then (p.cmp .lss a.2.2.2.2.2.1 (p.ofNat (p.len a.1))) else Bool.false)<|
 opt.need _ (p.rowOk d.1 (p.add 0 (p.nat a.2.2.2.2.2.1)) [ci])<|
 opt.need _ (bif (p.cmp .geq a.2.2.2.2.2.1 (0:Int)) then (p.cmp .lss a.2.2.2.2.2.1 (p.ofNat (p.len a.1))) else Bool.false)<|
 opt.need _ (p.rowOk d.1 (p.add 0 (p.nat a.2.2.2.2.2.1)) [ci])<|
 opt.need _ (bif (p.cmp .geq (p.ar .sub .i64 a.2.2.2.2.2.1 (1:Int)) (0:Int)) then (p.cmp .lss (p.ar .sub .i64 a.2.2.2.2.2.1 (1:Int)) (p.ofNat (p.len a.1))) else Bool.false)<|
 opt.need _ (p.rowOk (p.set d.1 (p.add 0 (p.nat a.2.2.2.2.2.1)) [(D.int .i64 (p.rdI d.1 (p.add 0 (p.nat (p.ar .sub .i64 a.2.2.2.2.2.1 (1:Int)))) 0))]) (p.add 0 (p.nat (p.ar .sub .i64 a.2.2.2.2.2.1 (1:Int)))) [ci])<|
 opt.need _ (p.eqN 0 0)<|
 opt.need _ (p.eqN (p.len a.1) (p.len (p.set (p.set d.1 (p.add 0 (p.nat a.2.2.2.2.2.1)) [(D.int .i64 (p.rdI d.1 (p.add 0 (p.nat (p.ar .sub .i64 a.2.2.2.2.2.1 (1:Int)))) 0))]) (p.add 0 (p.nat (p.ar .sub .i64 a.2.2.2.2.2.1 (1:Int)))) [(D.int .i64 (p.rdI d.1 (p.add 0 (p.nat a.2.2.2.2.2.1)) 0))])))<|
 opt.ret _ (Sum.inl ((p.set (p.set d.1 (p.add 0 (p.nat a.2.2.2.2.2.1)) [(D.int .i64 (p.rdI d.1 (p.add 0 (p.nat (p.ar .sub .i64 a.2.2.2.2.2.1 (1:Int)))) 0))]) (p.add 0 (p.nat (p.ar .sub .i64 a.2.2.2.2.2.1 (1:Int)))) [(D.int .i64 (p.rdI d.1 (p.add 0 (p.nat a.2.2.2.2.2.1)) 0))]),(d.2.1,(a.2.2.1,(a.2.2.2.1,(a.2.2.2.2.1,((p.ar .sub .i64 a.2.2.2.2.2.1 (1:Int)),())))))))) (
 opt.need _ (p.eqN 0 0)<|
 opt.need _ (p.eqN (p.len a.1) (p.len d.1))<|
 opt.ret _ (Sum.inr (d.1,(d.2.1,(a.2.2.1,(a.2.2.2.1,(a.2.2.2.2.1,())))))))) (
 opt.ask _ (p.cmp .lss d.2.2.1 d.2.2.2.1) (
 opt.ask _ (p.cmp .lss (-1:Int) (0:Int)) (
 opt.need _ (bif (p.cmp .geq (p.ar .sub .i64 a.2.2.2.2.2.1 (1:Int)) (0:Int)) then (p.cmp .lss (p.ar .sub .i64 a.2.2.2.2.2.1 (1:Int)) (p.ofNat (p.len a.1))) else Bool.false)<|
 opt.need _ (p.rowOk d.1 (p.add 0 (p.nat (p.ar .sub .i64 a.2.2.2.2.2.1 (1:Int)))) [ci])<|
 opt.need _ (bif (p.cmp .geq a.2.2.2.2.2.1 (0:Int)) then (p.cmp .lss a.2.2.2.2.2.1 (p.ofNat (p.len a.1))) else Bool.false)<|
 opt.need _ (p.rowOk d.1 (p.add 0 (p.nat a.2.2.2.2.2.1)) [ci])<|
 opt.need _ (bif (p.cmp .geq a.2.2.2.2.2.1 (0:Int)) then (p.cmp .lss a.2.2.2.2.2.1 (p.ofNat (p.len a.1))) else Bool.false)<|
 opt.need _ (p.rowOk d.1 (p.add 0 (p.nat a.2.2.2.2.2.1)) [ci])<|
 opt.need _ (bif (p.cmp .geq (p.ar .sub .i64 a.2.2.2.2.2.1 (1:Int)) (0:Int)) then (p.cmp .lss (p.ar .sub .i64 a.2.2.2.2.2.1 (1:Int)) (p.ofNat (p.len a.1))) else Bool.false)<|
 opt.need _ (p.rowOk (p.set d.1 (p.add 0 (p.nat a.2.2.2.2.2.1)) [(D.int .i64 (p.rdI d.1 (p.add 0 (p.nat (p.ar .sub .i64 a.2.2.2.2.2.1 (1:Int)))) 0))]) (p.add 0 (p.nat (p.ar .sub .i64 a.2.2.2.2.2.1 (1:Int)))) [ci])<|
 opt.need _ (p.eqN 0 0)<|
 opt.need _ (p.eqN (p.len a.1) (p.len (p.set (p.set d.1 (p.add 0 (p.nat a.2.2.2.2.2.1)) [(D.int .i64 (p.rdI d.1 (p.add 0 (p.nat (p.ar .sub .i64 a.2.2.2.2.2.1 (1:Int)))) 0))]) (p.add 0 (p.nat (p.ar .sub .i64 a.2.2.2.2.2.1 (1:Int)))) [(D.int .i64 (p.rdI d.1 (p.add 0 (p.nat a.2.2.2.2.2.1)) 0))])))<|
 opt.ret _ (Sum.inl ((p.set (p.set d.1 (p.add 0 (p.nat a.2.2.2.2.2.1)) [(D.int .i64 (p.rdI d.1 (p.add 0 (p.nat (p.ar .sub .i64 a.2.2.2.2.2.1 (1:Int)))) 0))]) (p.add 0 (p.nat (p.ar .sub .i64 a.2.2.2.2.2.1 (1:Int)))) [(D.int .i64 (p.rdI d.1 (p.add 0 (p.nat a.2.2.2.2.2.1)) 0))]),(d.2.1,(a.2.2.1,(a.2.2.2.1,(a.2.2.2.2.1,((p.ar .sub .i64 a.2.2.2.2.2.1 (1:Int)),())))))))) (
 opt.need _ (p.eqN 0 0)<|
 opt.need _ (p.eqN (p.len a.1) (p.len d.1))<|
 opt.ret _ (Sum.inr (d.1,(d.2.1,(a.2.2.1,(a.2.2.2.1,(a.2.2.2.2.1,())))))))) (
 opt.ask _ (p.cmp .gtr d.2.2.1 d.2.2.2.1) (
 opt.ask _ (p.cmp .lss (1:Int) (0:Int)) (
 opt.need _ (bif (p.cmp .geq (p.ar .sub .i64 a.2.2.2.2.2.1 (1:Int)) (0:Int)) then (p.cmp .lss (p.ar .sub .i64 a.2.2.2.2.2.1 (1:Int)) (p.ofNat (p.len a.1))) else Bool.false)<|
 opt.need _ (p.rowOk d.1 (p.add 0 (p.nat (p.ar .sub .i64 a.2.2.2.2.2.1 (1:Int)))) [ci])<|
 opt.need _ (bif (p.cmp .geq a.2.2.2.2.2.1 (0:Int)) then (p.cmp .lss a.2.2.2.2.2.1 (p.ofNat (p.len a.1))) else Bool.false)<|
 opt.need _ (p.rowOk d.1 (p.add 0 (p.nat a.2.2.2.2.2.1)) [ci])<|
 opt.need _ (bif (p.cmp .geq a.2.2.2.2.2.1 (0:Int)) then (p.cmp .lss a.2.2.2.2.2.1 (p.ofNat (p.len a.1))) else Bool.false)<|
 opt.need _ (p.rowOk d.1 (p.add 0 (p.nat a.2.2.2.2.2.1)) [ci])<|
 opt.need _ (bif (p.cmp .geq (p.ar .sub .i64 a.2.2.2.2.2.1 (1:Int)) (0:Int)) then (p.cmp .lss (p.ar .sub .i64 a.2.2.2.2.2.1 (1:Int)) (p.ofNat (p.len a.1))) else Bool.false)<|
 opt.need _ (p.rowOk (p.set d.1 (p.add 0 (p.nat a.2.2.2.2.2.1)) [(D.int .i64 (p.rdI d.1 (p.add 0 (p.nat (p.ar .sub .i64 a.2.2.2.2.2.1 (1:Int)))) 0))]) (p.add 0 (p.nat (p.ar .sub .i64 a.2.2.2.2.2.1 (1:Int)))) [ci])<|
 opt.need _ (p.eqN 0 0)<|
 opt.need _ (p.eqN (p.len a.1) (p.len (p.set (p.set d.1 (p.add 0 (p.nat a.2.2.2.2.2.1)) [(D.int .i64 (p.rdI d.1 (p.add 0 (p.nat (p.ar .sub .i64 a.2.2.2.2.2.1 (1:Int)))) 0))]) (p.add 0 (p.nat (p.ar .sub .i64 a.2.2.2.2.2.1 (1:Int)))) [(D.int .i64 (p.rdI d.1 (p.add 0 (p.nat a.2.2.2.2.2.1)) 0))])))<|
 opt.ret _ (Sum.inl ((p.set (p.set d.1 (p.add 0 (p.nat a.2.2.2.2.2.1)) [(D.int .i64 (p.rdI d.1 (p.add 0 (p.nat (p.ar .sub .i64 a.2.2.2.2.2.1 (1:Int)))) 0))]) (p.add 0 (p.nat (p.ar .sub .i64 a.2.2.2.2.2.1 (1:Int)))) [(D.int .i64 (p.rdI d.1 (p.add 0 (p.nat a.2.2.2.2.2.1)) 0))]),(d.2.1,(a.2.2.1,(a.2.2.2.1,(a.2.2.2.2.1,((p.ar .sub .i64 a.2.2.2.2.2.1 (1:Int)),())))))))) (
 opt.need _ (p.eqN 0 0)<|
 opt.need _ (p.eqN (p.len a.1) (p.len d.1))<|
 opt.ret _ (Sum.inr (d.1,(d.2.1,(a.2.2.1,(a.2.2.2.1,(a.2.2.2.2.1,())))))))) (
 opt.ask _ (p.cmp .lss (0:Int) (0:Int)) (
 opt.need _ (bif (p.cmp .geq (p.ar .sub .i64 a.2.2.2.2.2.1 (1:Int)) (0:Int)) then (p.cmp .lss (p.ar .sub .i64 a.2.2.2.2.2.1 (1:Int)) (p.ofNat (p.len a.1))) else Bool.false)<|
 opt.need _ (p.rowOk d.1 (p.add 0 (p.nat (p.ar .sub .i64 a.2.2.2.2.2.1 (1:Int)))) [ci])<|
 opt.need _ (bif (p.cmp .geq a.2.2.2.2.2.1 (0:Int)) then (p.cmp .lss a.2.2.2.2.2.1 (p.ofNat (p.len a.1))) else Bool.false)<|
 opt.need _ (p.rowOk d.1 (p.add 0 (p.nat a.2.2.2.2.2.1)) [ci])<|
 opt.need _ (bif (p.cmp .geq a.2.2.2.2.2.1 (0:Int)) then (p.cmp .lss a.2.2.2.2.2.1 (p.ofNat (p.len a.1))) else Bool.false)<|
 opt.need _ (p.rowOk d.1 (p.add 0 (p.nat a.2.2.2.2.2.1)) [ci])<|
 opt.need _ (bif (p.cmp .geq (p.ar .sub .i64 a.2.2.2.2.2.1 (1:Int)) (0:Int)) then (p.cmp .lss (p.ar .sub .i64 a.2.2.2.2.2.1 (1:Int)) (p.ofNat (p.len a.1))) else Bool.false)<|
 opt.need _ (p.rowOk (p.set d.1 (p.add 0 (p.nat a.2.2.2.2.2.1)) [(D.int .i64 (p.rdI d.1 (p.add 0 (p.nat (p.ar .sub .i64 a.2.2.2.2.2.1 (1:Int)))) 0))]) (p.add 0 (p.nat (p.ar .sub .i64 a.2.2.2.2.2.1 (1:Int)))) [ci])<|
 opt.need _ (p.eqN 0 0)<|
 opt.need _ (p.eqN (p.len a.1) (p.len (p.set (p.set d.1 (p.add 0 (p.nat a.2.2.2.2.2.1)) [(D.int .i64 (p.rdI d.1 (p.add 0 (p.nat (p.ar .sub .i64 a.2.2.2.2.2.1 (1:Int)))) 0))]) (p.add 0 (p.nat (p.ar .sub .i64 a.2.2.2.2.2.1 (1:Int)))) [(D.int .i64 (p.rdI d.1 (p.add 0 (p.nat a.2.2.2.2.2.1)) 0))])))<|
 opt.ret _ (Sum.inl ((p.set (p.set d.1 (p.add 0 (p.nat a.2.2.2.2.2.1)) [(D.int .i64 (p.rdI d.1 (p.add 0 (p.nat (p.ar .sub .i64 a.2.2.2.2.2.1 (1:Int)))) 0))]) (p.add 0 (p.nat (p.ar .sub .i64 a.2.2.2.2.2.1 (1:Int)))) [(D.int .i64 (p.rdI d.1 (p.add 0 (p.nat a.2.2.2.2.2.1)) 0))]),(d.2.1,(a.2.2.1,(a.2.2.2.1,(a.2.2.2.2.1,((p.ar .sub .i64 a.2.2.2.2.2.1 (1:Int)),())))))))) (
 opt.need _ (p.eqN 0 0)<|
 opt.need _ (p.eqN (p.len a.1) (p.len d.1))<|
 opt.ret _ (Sum.inr (d.1,(d.2.1,(a.2.2.1,(a.2.2.2.1,(a.2.2.2.2.1,())))))))))))) (
 opt.need _ (p.eqN 0 0)<|
 opt.need _ (p.eqN (p.len a.1) (p.len a.1))<|
 opt.ret _ (Sum.inr (a.1,(a.2.1,(a.2.2.1,(a.2.2.2.1,(a.2.2.2.2.1,()))))))))
def z7p (it:It) (p:Prim):(LD×(LD×T4))→Option ((LD×(LD×T4))⊕(LD×(LD×Unit))):=
 fun a=>opt.run _ (
 opt.ask _ (p.cmp .lss a.2.2.2.2.1 a.2.2.2.1) (
 opt.need _ (p.eqN 0 0)<|
 opt.need _ (p.eqN (p.len a.1) (p.len a.1))<|
 opt.bnd ((LD×(LD×T4))) _ (
 it _ _ (z86 p) (a.1,(a.2.1,(a.2.2.1,(a.2.2.2.1,(a.2.2.2.2.1,(a.2.2.2.2.1,()))))))) fun b=>
 opt.need _ (p.eqN 0 0)<|
 opt.need _ (p.eqN (p.len b.1) (p.len b.1))<|
 opt.ret _ (Sum.inl (b.1,(b.2.1,(b.2.2.1,(b.2.2.2.1,((p.ar .add .i64 b.2.2.2.2.1 (1:Int)),()))))))) (
 opt.ret _ (Sum.inr (a.1,(a.2.1,())))))
def w2y (it:It):(p:Prim)→(LD×(LD×T3))→Option ((LD×(LD×Unit))):=
 fun p x=>
 opt.need _ (p.eqN 0 0)<|
 opt.need _ (p.eqN (p.len x.1) (p.len x.1))<|
 opt.bnd ((LD×(LD×Unit))) _ (
 it _ _ (z7p it p) (x.1,(x.2.1,(x.2.2.1,(x.2.2.2.1,((p.ar .add .i64 x.2.2.1 (1:Int)),())))))) fun a=>
 opt.ret _ (a.1,(a.2.1,()))
def v7c:=w2y it0
theorem v2e:CtrOk PG w3a (v7c std):=okF (a:=v59) (l:=v28) (gN) (by kernel_rfl) fun _ _=>by kernel_rfl
def w9f:Ctr:=
 ⟨86,[.vec 0 1, .int .i64, .clo 88 [] [.bptr 1 0]],[.row [ci], .box [.list 1]],[(.ret,⟨[(0, .tuple [])],[.row [ci], .box [.list 1]],1⟩)]⟩
def la86:List LA:=
 [⟨86,[false,false,true,true],2,⟨⟨[(0, .vec 0 1),(1, .int .i64),(2, .clo 88 [] [.bptr 1 0]),(6, .int .i64),(7, .int .i64),(8, .int .i64)],[.row [ci], .box [.list 1]],63⟩,[((AX.exit 0),⟨[(0, .vec 0 1),(1, .int .i64),(2, .clo 88 [] [.bptr 1 0]),(6, .int .i64),(7, .int .i64)],[.row [ci], .box [.list 1]],63⟩)]⟩⟩,
 ⟨86,[false,true,true,true,true],2,⟨⟨[(0, .vec 0 1),(1, .int .i64),(2, .clo 88 [] [.bptr 1 0]),(6, .int .i64)],[.row [ci], .box [.list 1]],63⟩,[((AX.exit 2),⟨[],[.row [ci], .box [.list 1]],63⟩)]⟩⟩,
 ⟨86,[false,false,true,false,true,false,false,true,true,true,true],2,⟨⟨[(0, .vec 0 1),(1, .int .i64),(2, .clo 88 [] [.bptr 1 0]),(6, .int .i64),(7, .int .i64),(8, .int .i64)],[.row [ci], .box [.list 1]],63⟩,[((AX.exit 4),⟨[(0, .vec 0 1),(1, .int .i64),(2, .clo 88 [] [.bptr 1 0]),(6, .int .i64),(7, .int .i64)],[.row [ci], .box [.list 1]],63⟩)]⟩⟩]
def ja86:List JA:=
 []
def v3w:List CF:=
 [⟨x20,v7j⟩,⟨w3a,v7c⟩]
def an86:Anns:=
 ⟨v3w,ja86,[]⟩
def v5l (p:Prim):(LD×(LD×T7))→Option ((LD×(LD×T7))⊕(LD×(LD×T4))):=
 fun a=>opt.run _ (
 opt.ask _ (p.cmp .leq a.2.2.2.2.2.1 a.2.2.1) (
 opt.need _ (p.eqN 0 0)<|
 opt.need _ (p.eqN (p.len a.1) (p.len a.1))<|
 opt.no _ 81) (
 opt.need _ (p.eqN 0 0)<|
 opt.need _ (p.eqN (p.len a.1) (p.len a.1))<|
 opt.ret _ (Sum.inr (a.1,(a.2.1,(a.2.2.1,(a.2.2.2.1,(a.2.2.2.2.1,()))))))))
def x8f (it:It) (p:Prim):(LD×(LD×T3))→Option ((LD×(LD×T3))⊕(LD×(LD×Unit))):=
 fun a=>opt.run _ (
 opt.ask _ (p.cmp .lss a.2.2.2.1 a.2.2.1) (
 opt.need _ (p.eqN 0 0)<|
 opt.need _ (p.eqN (p.len a.1) (p.len a.1))<|
 opt.bnd ((LD×(LD×T4))) _ (
 it _ _ (v5l p) (a.1,(a.2.1,(a.2.2.1,(a.2.2.2.1,((0:Int),((p.ar .mul .i64 (2:Int) a.2.2.2.1),()))))))) fun b=>
 opt.ask _ (p.cmp .lss (p.ar .add .i64 b.2.2.2.2.1 b.2.2.2.1) b.2.2.1) (
 opt.need _ (p.eqN 0 0)<|
 opt.need _ (p.eqN (p.len b.1) (p.len b.1))<|
 opt.no _ 81) (
 opt.need _ (p.eqN 0 0)<|
 opt.need _ (p.eqN (p.len b.1) (p.len b.1))<|
 opt.ret _ (Sum.inl (b.1,(b.2.1,(b.2.2.1,((p.ar .mul .i64 b.2.2.2.1 (2:Int)),()))))))) (
 opt.ret _ (Sum.inr (a.1,(a.2.1,())))))
def x8g (it:It) (p:Prim):(LD×(LD×T7))→Option ((LD×(LD×T7))⊕(LD×(LD×T4))):=
 fun a=>opt.run _ (
 opt.ask _ (p.cmp .leq a.2.2.2.2.2.1 a.2.2.1) (
 opt.need _ (p.eqN 0 0)<|
 opt.need _ (p.eqN (p.len a.1) (p.len a.1))<|
 opt.bnd ((LD×(LD×Unit))) _ (w2y it p (a.1,(a.2.1,(a.2.2.2.2.1,(a.2.2.2.2.2.1,()))))) fun b=>
 opt.need _ (p.eqN 0 0)<|
 opt.need _ (p.eqN (p.len a.1) (p.len b.1))<|
 opt.ret _ (Sum.inl (b.1,(b.2.1,(a.2.2.1,(a.2.2.2.1,(a.2.2.2.2.2.1,((p.ar .add .i64 a.2.2.2.2.2.1 a.2.2.2.1),())))))))) (
 opt.need _ (p.eqN 0 0)<|
 opt.need _ (p.eqN (p.len a.1) (p.len a.1))<|
 opt.ret _ (Sum.inr (a.1,(a.2.1,(a.2.2.1,(a.2.2.2.1,(a.2.2.2.2.1,()))))))))
def g86 (it:It):(p:Prim)→(LD×(LD×T1))→Option ((LD×(LD×Unit))):=
 fun p x=>
 opt.need _ (p.eqN 0 0)<|
 opt.need _ (p.eqN (p.len x.1) (p.len x.1))<|
 opt.bnd ((LD×(LD×T4))) _ (
 it _ _ (x8g it p) (x.1,(x.2.1,(x.2.2.1,((20:Int),((0:Int),((20:Int),()))))))) fun a=>
 opt.need _ (p.eqN 0 0)<|
 opt.need _ (p.eqN (p.len a.1) (p.len a.1))<|
 opt.bnd ((LD×(LD×Unit))) _ (w2y it p (a.1,(a.2.1,(a.2.2.2.2.1,(a.2.2.1,()))))) fun b=>
 opt.need _ (p.eqN 0 0)<|
 opt.need _ (p.eqN (p.len a.1) (p.len b.1))<|
 opt.bnd ((LD×(LD×Unit))) _ (
 it _ _ (x8f it p) (b.1,(b.2.1,(a.2.2.1,(a.2.2.2.1,()))))) fun c=>
 opt.ret _ (c.1,(c.2.1,()))
def G86:=g86 it0
theorem ok86:CtrOk PG w9f (G86 std):=okF (a:=an86) (l:=la86) (gC v2d (gC v2e (gN))) (by kernel_rfl) fun _ _=>by kernel_rfl
def w9i:Ctr:=
 ⟨66,[.vec 0 1, .clo 88 [] [.bptr 1 0]],[.row [ci], .box [.list 1]],[(.ret,⟨[(0, .tuple [])],[.row [ci], .box [.list 1]],1⟩)]⟩
def la66:List LA:=
 []
def ja66:List JA:=
 []
def v32:List CF:=
 [⟨w9f,G86⟩]
def an66:Anns:=
 ⟨v32,ja66,[]⟩
def g66 (it:It):(p:Prim)→(LD×(LD×Unit))→Option ((LD×(LD×Unit))):=
 fun p x=>
 opt.need _ (p.eqN 0 0)<|
 opt.need _ (p.eqN (p.len x.1) (p.len x.1))<|
 opt.bnd ((LD×(LD×Unit))) _ (g86 it p (x.1,(x.2.1,((p.ofNat (p.len x.1)),())))) fun a=>
 opt.ret _ (a.1,(a.2.1,()))
def G66:=g66 it0
theorem ok66:CtrOk PG w9i (G66 std):=okF (a:=an66) (l:=la66) (gC ok86 (gN)) (by kernel_rfl) fun _ _=>by kernel_rfl
def w59:Ctr:=
 ⟨71,[.list 1],[],[(.ret,⟨[(0, .vec 0 1)],[.row [ci]],1⟩)]⟩
def la71:List LA:=
 [⟨71,[false,true,false,true,true],0,⟨⟨[(1, .bptr 0 0),(3, .vec 1 1),(6, .int .i64),(7, .int .i64)],[.box [.list 1], .row [ci]],19⟩,[((AX.exit 0),⟨[(1, .bptr 0 0),(3, .vec 1 1)],[.box [.list 1], .row [ci]],19⟩)]⟩⟩]
def ja71:List JA:=
 []
def v30:List CF:=
 [⟨w9i,G66⟩]
def an71:Anns:=
 ⟨v30,ja71,[]⟩
def x8r (p:Prim):(LD×(LD×T3))→Option ((LD×(LD×T3))⊕(LD×(LD×Unit))):=
 fun a=>opt.run _ (
 opt.ask _ (p.cmp .lss a.2.2.2.1 a.2.2.1) (
 opt.need _ (p.and (p.leN (p.add 0 1) (p.len [[(D.int .i64 a.2.2.2.1)]])) (p.and (p.leN (p.add 0 (p.len a.1)) (p.len a.1)) (p.and (p.leN 1 1) (p.leN (p.add (p.len a.1) 1) 1000000))))<|
 opt.need _ (p.eqN 0 0)<|
 opt.need _ (p.eqN (p.add (p.len a.1) 1) (p.len (p.app (p.cut a.1 0 (p.len a.1)) (p.cut [[(D.int .i64 a.2.2.2.1)]] 0 1))))<|
 opt.ret _ (Sum.inl ((p.app (p.cut a.1 0 (p.len a.1)) (p.cut [[(D.int .i64 a.2.2.2.1)]] 0 1)),(a.2.1,(a.2.2.1,((p.ar .add .i64 a.2.2.2.1 (1:Int)),())))))) (
 opt.need _ (p.eqN 0 0)<|
 opt.need _ (p.eqN (p.len a.1) (p.len a.1))<|
 opt.ret _ (Sum.inr (a.1,(a.2.1,())))))
def g71 (it:It):(p:Prim)→(LD×Unit)→Option ((LD×Unit)):=
 fun p x=>
 opt.bnd ((LD×(LD×Unit))) _ (
 it _ _ (x8r p) ([],(x.1,((p.ofNat (p.len x.1)),((0:Int),()))))) fun a=>
 opt.need _ (p.eqN 0 0)<|
 opt.need _ (p.eqN (p.len a.1) (p.len a.1))<|
 opt.bnd ((LD×(LD×Unit))) _ (g66 it p (a.1,(a.2.1,()))) fun b=>
 opt.need _ (p.eqN 0 0)<|
 opt.need _ (p.eqN (p.len a.1) (p.len b.1))<|
 opt.ret _ (b.1,())
def G71:=g71 it0
theorem v6j:CtrOk PG w59 (G71 std):=okF (a:=an71) (l:=la71) (gC ok66 (gN)) (by kernel_rfl) fun _ _=>by kernel_rfl
end Go.Am
end
noncomputable section
namespace Go.Am
def w58:Ctr:=
 ⟨73,[.clo 90 [] [.bptr 0 0]],[.box [.sl 1 1], .row [ci]],[(.ret,⟨[(0, .vec 2 1)],[.box [.sl 1 1], .row [ci], .row [ci]],1⟩)]⟩
def la73:List LA:=
 [⟨90,[false,true],4,⟨⟨[(0, .yld 3),(5, .sl 1 1),(6, .int .i64),(7, .int .i64)],[.box [.sl 1 1], .row [ci], .box [.vec 4 1], .loop Go.LoopState.ready Option.none 106 [Bool.false,Bool.true,Bool.false,Bool.true] 13 [(6, .clo 90 [] [.bptr 0 0]),(2, .bptr 2 0)], .row [ci]],16⟩,[((AX.exit 0),⟨[],[.box [.sl 1 1], .row [ci], .box [.vec 4 1], .loop Go.LoopState.ready Option.none 106 [Bool.false,Bool.true,Bool.false,Bool.true] 13 [(6, .clo 90 [] [.bptr 0 0]),(2, .bptr 2 0)], .row [ci]],16⟩)]⟩⟩]
def ja73:List JA:=
 []
def v3y:List CF:=
 [⟨w28,v1f⟩]
def an73:Anns:=
 ⟨v3y,ja73,[]⟩
def x4y (p:Prim):(LD×(LD×T16))→Option ((LD×(LD×T16))⊕(LD×(LD×T5))):=
 fun a=>opt.run _ (
 opt.ask _ (p.cmp .lss a.2.2.2.2.2.2.2.1 a.2.2.2.2.2.2.1) (
 opt.need _ (bif (p.cmp .geq a.2.2.2.2.2.2.2.1 (0:Int)) then (p.cmp .lss a.2.2.2.2.2.2.2.1 (p.ofNat a.2.2.2.2.2.1)) else Bool.false)<|
 opt.need _ (p.rowOk a.1 (p.add a.2.2.2.2.1 (p.nat a.2.2.2.2.2.2.2.1)) [ci])<|
 opt.need _ (p.and (p.leN (p.add 0 1) (p.len [[(D.int .i64 (p.rdI a.1 (p.add a.2.2.2.2.1 (p.nat a.2.2.2.2.2.2.2.1)) 0))]])) (p.and (p.leN (p.add 0 (p.len a.2.1)) (p.len a.2.1)) (p.and (p.leN 1 1) (p.leN (p.add (p.len a.2.1) 1) 1000000))))<|
 opt.need _ (p.eqN 0 0)<|
 opt.need _ (p.eqN (p.add (p.len a.2.1) 1) (p.len (p.app (p.cut a.2.1 0 (p.len a.2.1)) (p.cut [[(D.int .i64 (p.rdI a.1 (p.add a.2.2.2.2.1 (p.nat a.2.2.2.2.2.2.2.1)) 0))]] 0 1))))<|
 opt.ret _ (Sum.inl (a.1,((p.app (p.cut a.2.1 0 (p.len a.2.1)) (p.cut [[(D.int .i64 (p.rdI a.1 (p.add a.2.2.2.2.1 (p.nat a.2.2.2.2.2.2.2.1)) 0))]] 0 1)),(a.2.2.1,(a.2.2.2.1,(a.2.2.2.2.1,(a.2.2.2.2.2.1,(a.2.2.2.2.2.2.1,((p.ar .add .i64 a.2.2.2.2.2.2.2.1 (1:Int)),())))))))))) (
 opt.need _ (p.eqN 0 0)<|
 opt.need _ (p.eqN (p.len a.2.1) (p.len a.2.1))<|
 opt.ret _ (Sum.inr (a.1,(a.2.1,(a.2.2.1,(a.2.2.2.1,())))))))
def g73 (it:It):(p:Prim)→(LD×T5)→Option ((LD×(LD×T5))):=
 fun p x=>
 opt.bnd ((LD×(LD×T5))) _ (
 it _ _ (x4y p) (x.1,([],(x.2.1,(x.2.2.1,(x.2.1,(x.2.2.1,((p.ofNat x.2.2.1),((0:Int),()))))))))) fun a=>
 opt.need _ (p.eqN 0 0)<|
 opt.need _ (p.eqN (p.len a.2.1) (p.len a.2.1))<|
 opt.bnd ((LD×Unit)) _ (w7c it p (a.2.1,())) fun b=>
 opt.need _ (p.eqN 0 0)<|
 opt.need _ (p.eqN (p.len a.2.1) (p.len b.1))<|
 opt.ret _ (a.1,(b.1,(a.2.2.1,(a.2.2.2.1,()))))
def G73:=g73 it0
theorem v6i:CtrOk PG w58 (G73 std):=okF (a:=an73) (l:=la73) (gC v19 (gN)) (by kernel_rfl) fun _ _=>by kernel_rfl
end Go.Am
end
section
namespace Go.Am
open T11
theorem z2f {l:List Int} {q:Nat} (h:q<l.length):l[q]?=some (gI l q):=by
 rw [gI,List.getD_eq_getElem?_getD,List.getElem?_eq_getElem h]; rfl
theorem z42 (x:Int):[D.int IntKind.i64 x]=eI x:=rfl
theorem x6p (l:List Int) (j:Nat):(sw l j).map eI=((l.map eI).set (j+1) (eI (gI l j))).set j (eI (gI l (j+1))):=by
 simp [sw,List.map_set]
theorem x3c (x y:Int):G98 std (x,(y,()))=some (decide (x<y),()):=by
 unfold G98
 simp only [z1m,z1n,eq_self,not_true,not_false_eq_true,decide_true,decide_false,Bool.not_true,Bool.not_false,Int.reduceLT,Int.reduceNeg,Int.reduceGT,cond_true,cond_false]
theorem z9z {j:Nat} (h:j≤1000000):IntKind.i64.wrap (((j+1:Nat):Int) - 1)=(j:Int):=by rw [z2s]<;>omega
theorem x8p (b i:Int):∀ (j:Nat) (l:List Int),j<l.length→l.length≤1000→
  z46 (y0q std) (z0f l,((0:Int),(b,(i,((j:Int),())))))=some (z0f (y3l id j l),((0:Int),(b,(i,())))):=by
 intro j
 induction j with
 |zero=>
  intro l hj hl
  have:y0q std (z0f l,((0:Int),(b,(i,(((0:Nat):Int),())))))=some (.inr (z0f l,((0:Int),(b,(i,()))))):=by
   have hn:¬ ((0:Nat):Int)>0:=by omega
   simp only [y0q,z1m,z1n,hn]
  rw [z0o,this]; rfl
 |succ j ih=>
  intro l hj hl
  have hx:=z2f hj
  have hy:=z2f (l:=l) (q:=j) (by omega)
  have hw:=z9z (j:=j) (by omega)
  have hg:((j+1:Nat):Int)>0:=by omega
  have hsj:((l.map eI).set (j+1) (eI (gI l j)))[j]?=some (eI (gI l j)):=by rw [List.getElem?_set_ne (by omega),List.getElem?_map,hy]; rfl
  have h0:((j+1:Nat):Int)≥0:=by omega
  have h1:((j+1:Nat):Int)<(l.length:Int):=by omega
  have h2:(j:Int)≥0:=by omega
  have h3:(j:Int)<(l.length:Int):=by omega
  by_cases hlt:gI l (j+1)<gI l j
  ·have hb:y0q std (z0f l,((0:Int),(b,(i,(((j+1:Nat):Int),())))))=some (.inl (z0f (sw l j),((0:Int),(b,(i,((j:Int),())))))):=by
    simp only [y0q,x3c,z1m,z1n,z0f,z0r,z2u,z5u,z1e,z0x,z00,hg,h0,h1,h2,h3,hw,hx,hy,hlt,z42,x6p,hsj,List.length_set]
   rw [z0o,hb,y3l,if_pos (show id (gI l (j+1))<id (gI l j) from hlt)]
   exact ih (sw l j) (by rw [z6l]; omega) (by rw [z6l]; exact hl)
  ·have hb:y0q std (z0f l,((0:Int),(b,(i,(((j+1:Nat):Int),())))))=some (.inr (z0f l,((0:Int),(b,(i,()))))):=by
    simp only [y0q,x3c,z1m,z1n,z0f,z0r,z2u,z5u,z1e,z0x,z00,hg,h0,h1,h2,h3,hw,hx,hy,hlt,z42,List.length_set]
   rw [z0o,hb,y3l,if_neg (show ¬ id (gI l (j+1))<id (gI l j) from hlt)]
theorem x8c (n:Nat):∀ (k i:Nat) (l:List Int),l.length=n→n≤1000→i+k=n→
  z46 (z7o it0 std) (z0f l,((0:Int),((n:Int),((i:Int),()))))=some (z0f (y8s id k i l),()):=by
 intro k
 induction k with
 |zero=>
  intro i l hl hn hi
  have:z7o it0 std (z0f l,((0:Int),((n:Int),((i:Int),()))))=some (.inr (z0f l,())):=by
   have hn:¬ (i:Int)<n:=by omega
   simp only [z7o,z1m,z1n,hn]
  rw [z0o,this]; rfl
 |succ k ih=>
  intro i l hl hn hi
  have hw:=z06 (i:=i) (by omega)
  have hlt:(i:Int)<n:=by omega
  have h1:it0 _ _ (y0q std) (z0f l,((0:Int),((n:Int),((i:Int),((i:Int),())))))=_:=x8p n i i l (by omega) (by omega)
  have:z7o it0 std (z0f l,((0:Int),((n:Int),((i:Int),()))))=some (.inl (z0f (y3l id i l),((0:Int),((n:Int),(((i+1:Nat):Int),()))))):=by
   simp only [z7o,z1m,z1n,hlt,h1,z0j,hw]
  rw [z0o,this,y8s]
  exact ih (i+1) _ (by rw [z8n]; exact hl) hn (by omega)
theorem w5l (l:List Int) (hl:l.length≤1000):w5m it0 std (z0f l,((0:Int),((l.length:Int),())))=some (z0f (z1o id l),()):=by
 have hw:IntKind.i64.wrap ((0:Int)+1)=((1:Nat):Int):=by decide
 cases hn:l.length with
 |zero=>
  have e:l=[]:=List.length_eq_zero_iff.1 hn
  subst e
  have hb:z7o it0 std (z0f [],((0:Int),(((0:Nat):Int),(((1:Nat):Int),()))))=some (.inr (z0f [],())):=by
   have hn:¬ ((1:Nat):Int)<((0:Nat):Int):=by omega
   simp only [z7o,z1m,z1n,hn]
  have h1:it0 _ _ (z7o it0 std) (z0f [],((0:Int),(((0:Nat):Int),(((1:Nat):Int),()))))=some (z0f [],()):=by
   show z46 _ _=_
   rw [z0o,hb]
  simp only [w5m,z1m,z1n,z0j,hw,h1]
  rfl
 |succ n=>
  have h1:it0 _ _ (z7o it0 std) (z0f l,((0:Int),(((n+1:Nat):Int),(((1:Nat):Int),()))))=_:=x8c (n+1) n 1 l hn (by omega) (by omega)
  have e:z1o id l=y8s id n 1 l:=by rw [z1o,hn]; rfl
  simp only [w5m,z1m,z1n,z0j,hw,h1,e]
theorem x3d (n:Nat) (h:n≤12):∃ y,G83 std (IntKind.u64.wrap (n:Int),())=some y:=by
 have hs:n=0∨n=1∨n=2∨n=3∨n=4∨n=5∨n=6∨n=7∨n=8∨n=9∨n=10∨n=11∨n=12:=by omega
 rcases hs with h|h|h|h|h|h|h|h|h|h|h|h|h<;>rw [h]<;>exact ⟨_,rfl⟩
theorem w66 (l:List Int) (hl:l.length≤12):v1g std (z0f l,())=some (z0f (z1o id l),()):=by
 obtain ⟨y,hy⟩:=x3d l.length hl
 have h92:=w5l l (by omega)
 have hw:IntKind.i64.wrap ((l.length:Int) - 0)=(l.length:Int):=by rw [z2s]<;>omega
 have h12:(l.length:Int)≤12:=by omega
 have hb:∀ q:Int,it0 _ _ (y9i it0 std) (z0f l,((0:Int),((l.length:Int),(q,(true,(true,()))))))=some (z0f (z1o id l),()):=by
  intro q
  show z46 _ _=_
  rw [z0o]
  simp only [y9i,z1m,z1n,z00,hw,h12,h92]
 unfold v1g
 simp only [w5n,w80,z1m,z1n,z0t,hy,hb]
theorem x8o (b i:Int):∀ (j:Nat) (l:List Int),j<l.length→l.length≤1000→
  z46 (y0p std) (z0f l,((0:Int),(b,(i,((j:Int),())))))=some (z0f (y3l id j l),((0:Int),(b,(i,())))):=by
 intro j
 induction j with
 |zero=>
  intro l hj hl
  have:y0p std (z0f l,((0:Int),(b,(i,(((0:Nat):Int),())))))=some (.inr (z0f l,((0:Int),(b,(i,()))))):=by
   have hn:¬ ((0:Nat):Int)>0:=by omega
   simp only [y0p,z1m,z1n,hn]
  rw [z0o,this]; rfl
 |succ j ih=>
  intro l hj hl
  have hx:=z2f hj
  have hy:=z2f (l:=l) (q:=j) (by omega)
  have hw:=z9z (j:=j) (by omega)
  have hg:((j+1:Nat):Int)>0:=by omega
  have hsj:((l.map eI).set (j+1) (eI (gI l j)))[j]?=some (eI (gI l j)):=by rw [List.getElem?_set_ne (by omega),List.getElem?_map,hy]; rfl
  have h0:((j+1:Nat):Int)≥0:=by omega
  have h1:((j+1:Nat):Int)<(l.length:Int):=by omega
  have h2:(j:Int)≥0:=by omega
  have h3:(j:Int)<(l.length:Int):=by omega
  by_cases hlt:gI l (j+1)<gI l j
  ·have hb:y0p std (z0f l,((0:Int),(b,(i,(((j+1:Nat):Int),())))))=some (.inl (z0f (sw l j),((0:Int),(b,(i,((j:Int),())))))):=by
    simp only [y0p,x3c,z1m,z1n,z0f,z0r,z2u,z5u,z1e,z0x,z00,hg,h0,h1,h2,h3,hw,hx,hy,hlt,z42,x6p,hsj,List.length_set]
   rw [z0o,hb,y3l,if_pos (show id (gI l (j+1))<id (gI l j) from hlt)]
   exact ih (sw l j) (by rw [z6l]; omega) (by rw [z6l]; exact hl)
  ·have hb:y0p std (z0f l,((0:Int),(b,(i,(((j+1:Nat):Int),())))))=some (.inr (z0f l,((0:Int),(b,(i,()))))):=by
    simp only [y0p,x3c,z1m,z1n,z0f,z0r,z2u,z5u,z1e,z0x,z00,hg,h0,h1,h2,h3,hw,hx,hy,hlt,z42,List.length_set]
   rw [z0o,hb,y3l,if_neg (show ¬ id (gI l (j+1))<id (gI l j) from hlt)]
theorem x8b (n:Nat):∀ (k i:Nat) (l:List Int),l.length=n→n≤1000→i+k=n→
  z46 (z7n it0 std) (z0f l,((0:Int),((n:Int),((i:Int),()))))=some (z0f (y8s id k i l),()):=by
 intro k
 induction k with
 |zero=>
  intro i l hl hn hi
  have:z7n it0 std (z0f l,((0:Int),((n:Int),((i:Int),()))))=some (.inr (z0f l,())):=by
   have hn:¬ (i:Int)<n:=by omega
   simp only [z7n,z1m,z1n,hn]
  rw [z0o,this]; rfl
 |succ k ih=>
  intro i l hl hn hi
  have hw:=z06 (i:=i) (by omega)
  have hlt:(i:Int)<n:=by omega
  have h1:it0 _ _ (y0p std) (z0f l,((0:Int),((n:Int),((i:Int),((i:Int),())))))=_:=x8o n i i l (by omega) (by omega)
  have:z7n it0 std (z0f l,((0:Int),((n:Int),((i:Int),()))))=some (.inl (z0f (y3l id i l),((0:Int),((n:Int),(((i+1:Nat):Int),()))))):=by
   simp only [z7n,z1m,z1n,hlt,h1,z0j,hw]
  rw [z0o,this,y8s]
  exact ih (i+1) _ (by rw [z8n]; exact hl) hn (by omega)
theorem w5j (l:List Int) (hl:l.length≤1000):w5k it0 std (z0f l,((0:Int),((l.length:Int),())))=some (z0f (z1o id l),()):=by
 have hw:IntKind.i64.wrap ((0:Int)+1)=((1:Nat):Int):=by decide
 cases hn:l.length with
 |zero=>
  have e:l=[]:=List.length_eq_zero_iff.1 hn
  subst e
  have hb:z7n it0 std (z0f [],((0:Int),(((0:Nat):Int),(((1:Nat):Int),()))))=some (.inr (z0f [],())):=by
   have hn:¬ ((1:Nat):Int)<((0:Nat):Int):=by omega
   simp only [z7n,z1m,z1n,hn]
  have h1:it0 _ _ (z7n it0 std) (z0f [],((0:Int),(((0:Nat):Int),(((1:Nat):Int),()))))=some (z0f [],()):=by
   show z46 _ _=_
   rw [z0o,hb]
  simp only [w5k,z1m,z1n,z0j,hw,h1]
  rfl
 |succ n=>
  have h1:it0 _ _ (z7n it0 std) (z0f l,((0:Int),(((n+1:Nat):Int),(((1:Nat):Int),()))))=_:=x8b (n+1) n 1 l hn (by omega) (by omega)
  have e:z1o id l=y8s id n 1 l:=by rw [z1o,hn]; rfl
  simp only [w5k,z1m,z1n,z0j,hw,h1,e]
theorem w65 (l:List Int) (hl:l.length≤12):v1f std (z0f l,())=some (z0f (z1o id l),()):=by
 obtain ⟨y,hy⟩:=x3d l.length hl
 have h92:=w5j l (by omega)
 have hw:IntKind.i64.wrap ((l.length:Int) - 0)=(l.length:Int):=by rw [z2s]<;>omega
 have h12:(l.length:Int)≤12:=by omega
 have hb:∀ q:Int,it0 _ _ (y9h it0 std) (z0f l,((0:Int),((l.length:Int),(q,(true,(true,()))))))=some (z0f (z1o id l),()):=by
  intro q
  show z46 _ _=_
  rw [z0o]
  simp only [y9h,z1m,z1n,z00,hw,h12,h92]
 unfold v1f
 simp only [w7c,w8z,z1m,z1n,z0t,hy,hb]
theorem w14 (A:List Int) (off len:Nat) (hl:off+len≤A.length) (h12:len≤1000):
  z46 (x4y std) (z0f A,(z0f [],(off,(len,(off,(len,((len:Int),((0:Int),()))))))))=some (z0f A,(z0f ((A.drop off).take len),(off,(len,())))):=by
 have key:=z40 (b:=x4y std) len (fun i=>(z0f A,(z0f ((A.drop off).take i),(off,(len,(off,(len,((len:Int),((i:Int),())))))))))
  (z0f A,(z0f ((A.drop off).take len),(off,(len,())))) (fun i hi=>by
  have hm:=z2f (l:=A) (q:=off+i) (by omega)
  have hw:=z06 (i:=i) (by omega)
  have hlt:(i:Int)<len:=by omega
  have h0:(0:Int)≤i:=by omega
  have ht:(A.drop off).take (i+1)=(A.drop off).take i++[gI A (off+i)]:=by
   have h1:i<(A.drop off).length:=by rw [List.length_drop]; omega
   have h2:(A.drop off)[i]?=some (gI A (off+i)):=by rw [List.getElem?_drop]; exact hm
   rw [List.take_succ_eq_append_getElem h1,(List.getElem?_eq_some_iff.1 h2).2]
  have hll:((A.drop off).take i).length=i:=by rw [List.length_take,List.length_drop]; omega
  rw [ht]
  generalize (A.drop off).take i=B at hll⊢
  have hle:i+1≤1000000:=by omega
  have hbl:(B.map eI).length=i:=by rw [List.length_map,hll]
  simp only [x4y,z1m,z1n,z0f,z0r,z2u,z5u,z1e,z0x,hm,hlt,h0,ge_iff_le,z0j,hw,hbl,hle,z42,List.map_append,List.map_cons,List.map_nil,List.drop_zero,List.take_of_length_le (Nat.le_of_eq hbl),Nat.le_refl,decide_true,Bool.and_true,
   List.take_succ_cons,List.take_zero,List.length_append,List.length_cons,List.length_nil,Nat.zero_add,cond_true,hll]) (by
  have hn:¬ (len:Int)<len:=by omega
  simp only [x4y,z1m,z1n,hn,decide_true])
 exact key
theorem v0k (A:List Int) (off len:Nat) (hl:off+len≤A.length) (h12:len≤12):
  G73 std (z0f A,(off,(len,())))=some (z0f A,(z0f (z1o id ((A.drop off).take len)),(off,(len,())))):=by
 have h1:it0 _ _ (x4y std) (z0f A,([],(off,(len,(off,(len,((len:Int),((0:Int),()))))))))=_:=w14 A off len hl (by omega)
 have hll:((A.drop off).take len).length=len:=by rw [List.length_take,List.length_drop]; omega
 have h2:w7c it0 std (z0f ((A.drop off).take len),())=_:=w65 ((A.drop off).take len) (by omega)
 unfold G73
 simp only [g73,z1m,z1n,h1,h2,z0t,z25,decide_true]
def key (w:List Int) (x:Int):Int:=gI w x.toNat
def y0a (w l:List Int):Prop:=∀ q,q<l.length→0≤gI l q∧gI l q<w.length
theorem y8h {w l:List Int} (h:y0a w l) {j:Nat} (hj:j+1<l.length):y0a w (sw l j):=by
 intro q hq
 rw [z6l] at hq
 rw [x4j hj]
 split
 ·exact h _ hj
 ·split
  ·exact h _ (by omega)
  ·exact h _ hq
theorem x0h {w:List Int} (κ:Int→Int) (j:Nat) (l:List Int) (h:y0a w l) (hj:j<l.length):y0a w (y3l κ j l):=by
 induction j generalizing l with
 |zero=>exact h
 |succ j ih=>
  rw [y3l]
  split
  ·exact ih _ (y8h h hj) (by rw [z6l]; omega)
  ·exact h
theorem x8y (w:List Int) (b i:Int):∀ (j:Nat) (l:List Int),y0a w l→j<l.length→l.length≤1000→
  z46 (z86 std) (z0f l,(z0f w,((0:Int),(b,(i,((j:Int),()))))))=some (z0f (y3l (key w) j l),(z0f w,((0:Int),(b,(i,()))))):=by
 intro j
 induction j with
 |zero=>
  intro l hp hj hl
  have:z86 std (z0f l,(z0f w,((0:Int),(b,(i,(((0:Nat):Int),()))))))=some (.inr (z0f l,(z0f w,((0:Int),(b,(i,())))))):=by
   have hn:¬ ((0:Nat):Int)>0:=by omega
   simp only [z86,z1m,z1n,hn]
  rw [z0o,this]; rfl
 |succ j ih=>
  intro l hp hj hl
  have hx:=z2f hj
  have hy:=z2f (l:=l) (q:=j) (by omega)
  obtain ⟨p0,p1⟩:=hp (j+1) hj
  obtain ⟨q0,q1⟩:=hp j (by omega)
  have hkx:w[(gI l (j+1)).toNat]?=some (key w (gI l (j+1))):=z2f (by omega)
  have hky:w[(gI l j).toNat]?=some (key w (gI l j)):=z2f (by omega)
  have hw:=z9z (j:=j) (by omega)
  have hg:((j+1:Nat):Int)>0:=by omega
  have hsj:((l.map eI).set (j+1) (eI (gI l j)))[j]?=some (eI (gI l j)):=by rw [List.getElem?_set_ne (by omega),List.getElem?_map,hy]; rfl
  have h0:((j+1:Nat):Int)≥0:=by omega
  have h1:((j+1:Nat):Int)<(l.length:Int):=by omega
  have h2:(j:Int)≥0:=by omega
  have h3:(j:Int)<(l.length:Int):=by omega
  by_cases hlt:key w (gI l (j+1))<key w (gI l j)
  ·have hb:z86 std (z0f l,(z0f w,((0:Int),(b,(i,(((j+1:Nat):Int),()))))))=some (.inl (z0f (sw l j),(z0f w,((0:Int),(b,(i,((j:Int),()))))))):=by
    simp only [z86,z1m,z1n,z0f,z0r,z2u,z5u,z1e,z0x,eq_self,not_true,not_false_eq_true,decide_true,decide_false,Bool.not_true,Bool.not_false,Int.reduceLT,Int.reduceNeg,Int.reduceGT,cond_true,cond_false,z00,hg,h0,h1,h2,h3,hw,hx,hy,hkx,hky,ge_iff_le,p0,q0,hlt,z42,x6p,hsj,List.length_set]
   rw [z0o,hb,y3l,if_pos hlt]
   exact ih (sw l j) (y8h hp hj) (by rw [z6l]; omega) (by rw [z6l]; exact hl)
  ·have hb:z86 std (z0f l,(z0f w,((0:Int),(b,(i,(((j+1:Nat):Int),()))))))=some (.inr (z0f l,(z0f w,((0:Int),(b,(i,())))))):=by
    by_cases hgt:key w (gI l (j+1))>key w (gI l j)
    ·simp only [z86,z1m,z1n,z0f,z0r,z2u,z5u,z1e,z0x,eq_self,not_true,not_false_eq_true,decide_true,decide_false,Bool.not_true,Bool.not_false,Int.reduceLT,Int.reduceNeg,Int.reduceGT,cond_true,cond_false,z00,hg,h0,h1,h2,h3,hw,hx,hy,hkx,hky,ge_iff_le,p0,q0,hlt,hgt,z42,List.length_set]
    ·simp only [z86,z1m,z1n,z0f,z0r,z2u,z5u,z1e,z0x,eq_self,not_true,not_false_eq_true,decide_true,decide_false,Bool.not_true,Bool.not_false,Int.reduceLT,Int.reduceNeg,Int.reduceGT,cond_true,cond_false,z00,hg,h0,h1,h2,h3,hw,hx,hy,hkx,hky,ge_iff_le,p0,q0,hlt,hgt,z42,List.length_set]
   rw [z0o,hb,y3l,if_neg hlt]
theorem x8i (w:List Int) (n:Nat):∀ (k i:Nat) (l:List Int),y0a w l→l.length=n→n≤1000→i+k=n→
  z46 (z7p it0 std) (z0f l,(z0f w,((0:Int),((n:Int),((i:Int),())))))=some (z0f (y8s (key w) k i l),(z0f w,())):=by
 intro k
 induction k with
 |zero=>
  intro i l hp hl hn hi
  have:z7p it0 std (z0f l,(z0f w,((0:Int),((n:Int),((i:Int),())))))=some (.inr (z0f l,(z0f w,()))):=by
   have hn:¬ (i:Int)<n:=by omega
   simp only [z7p,z1m,z1n,hn]
  rw [z0o,this]; rfl
 |succ k ih=>
  intro i l hp hl hn hi
  have hw:=z06 (i:=i) (by omega)
  have hlt:(i:Int)<n:=by omega
  have h1:it0 _ _ (z86 std) (z0f l,(z0f w,((0:Int),((n:Int),((i:Int),((i:Int),()))))))=_:=x8y w n i i l hp (by omega) (by omega)
  have:z7p it0 std (z0f l,(z0f w,((0:Int),((n:Int),((i:Int),())))))=some (.inl (z0f (y3l (key w) i l),(z0f w,((0:Int),((n:Int),(((i+1:Nat):Int),())))))):=by
   simp only [z7p,z1m,z1n,hlt,h1,z0j,hw]
  rw [z0o,this,y8s]
  exact ih (i+1) _ (x0h _ _ _ hp (by omega)) (by rw [z8n]; exact hl) hn (by omega)
theorem w5o (w l:List Int) (hp:y0a w l) (hl:l.length≤1000):w2y it0 std (z0f l,(z0f w,((0:Int),((l.length:Int),()))))=some (z0f (z1o (key w) l),(z0f w,())):=by
 have hw:IntKind.i64.wrap ((0:Int)+1)=((1:Nat):Int):=by decide
 cases hn:l.length with
 |zero=>
  have e:l=[]:=List.length_eq_zero_iff.1 hn
  subst e
  have hb:z7p it0 std (z0f [],(z0f w,((0:Int),(((0:Nat):Int),(((1:Nat):Int),())))))=some (.inr (z0f [],(z0f w,()))):=by
   have hn:¬ ((1:Nat):Int)<((0:Nat):Int):=by omega
   simp only [z7p,z1m,z1n,hn]
  have h1:it0 _ _ (z7p it0 std) (z0f [],(z0f w,((0:Int),(((0:Nat):Int),(((1:Nat):Int),())))))=some (z0f [],(z0f w,())):=by
   show z46 _ _=_
   rw [z0o,hb]
  simp only [w2y,z1m,z1n,z0j,hw,h1]
  rfl
 |succ n=>
  have h1:it0 _ _ (z7p it0 std) (z0f l,(z0f w,((0:Int),(((n+1:Nat):Int),(((1:Nat):Int),())))))=_:=x8i w (n+1) n 1 l hp hn (by omega) (by omega)
  have e:z1o (key w) l=y8s (key w) n 1 l:=by rw [z1o,hn]; rfl
  simp only [w2y,z1m,z1n,z0j,hw,h1,e]
theorem w81 (w l:List Int) (hp:y0a w l) (hl:l.length≤12):g66 it0 std (z0f l,(z0f w,()))=some (z0f (z1o (key w) l),(z0f w,())):=by
 have h1:=w5o w l hp (by omega)
 have n20:¬ (20:Int)≤(l.length:Int):=by omega
 have n20':¬ (20:Int)<(l.length:Int):=by omega
 have e1:it0 _ _ (x8g it0 std) (z0f l,(z0f w,((l.length:Int),((20:Int),((0:Int),((20:Int),()))))))=some (z0f l,(z0f w,((l.length:Int),((20:Int),((0:Int),()))))):=by
  show z46 _ _=_
  rw [z0o]
  simp only [x8g,z1m,z1n,n20]
 have e2:it0 _ _ (x8f it0 std) (z0f (z1o (key w) l),(z0f w,((l.length:Int),((20:Int),()))))=some (z0f (z1o (key w) l),(z0f w,())):=by
  show z46 _ _=_
  rw [z0o]
  simp only [x8f,z1m,z1n,n20']
 simp only [g66,g86,z1m,z1n,z0t,e1,h1,e2,z25]
def y2m (n:Nat):List Int:=(List.range n).map fun (i:Nat)=>(i:Int)
theorem z8x (n:Nat):(y2m n).length=n:=by simp [y2m]
theorem y9q (n:Nat):y2m (n+1)=y2m n++[(n:Int)]:=by simp [y2m,List.range_succ]
theorem x30 (w:List Int):y0a w (y2m w.length):=by
 intro q hq
 rw [z8x] at hq
 have:gI (y2m w.length) q=(q:Int):=by
  rw [gI,y2m,List.getD_eq_getElem?_getD,List.getElem?_map,List.getElem?_range hq]; rfl
 rw [this]; omega
def y06 (w:List Int):List Int:=z1o (key w) (y2m w.length)
theorem v0m (w:List Int) (hl:w.length≤12):G71 std (z0f w,())=some (z0f (y06 w),()):=by
 have h1:it0 _ _ (x8r std) ([],(z0f w,((w.length:Int),((0:Int),()))))=some (z0f (y2m w.length),(z0f w,())):=by
  have key:=z40 (b:=x8r std) w.length (fun i=>(z0f (y2m i),(z0f w,((w.length:Int),((i:Int),()))))) (z0f (y2m w.length),(z0f w,())) (fun i hi=>by
   have hw:=z06 (i:=i) (by omega)
   have hlt:(i:Int)<w.length:=by omega
   have hle:i+1≤1000000:=by omega
   have hll:=z8x i
   rw [y9q]
   generalize y2m i=B at hll⊢
   have hbl:(B.map eI).length=i:=by rw [List.length_map,hll]
   simp only [x8r,z1m,z1n,z0f,hlt,z0j,hw,hbl,hle,z42,List.map_append,List.map_cons,List.map_nil,List.drop_zero,List.take_of_length_le (Nat.le_of_eq hbl),Nat.le_refl,decide_true,Bool.and_true,
    List.take_succ_cons,List.take_zero,List.length_append,List.length_cons,List.length_nil,Nat.zero_add,hll]) (by
   have hn:¬ (w.length:Int)<w.length:=by omega
   simp only [x8r,z1m,z1n,hn,decide_true])
  exact key
 have h2:=w81 w (y2m w.length) (x30 w) (by rw [z8x]; exact hl)
 unfold G71
 simp only [g71,z1m,z1n,z0t,h1,h2,y06,z25,z8x,decide_true]
end Go.Am
end
section
namespace Go.Am
open T11
variable {fl:List Int→Bool}
theorem z21 {d:List (List Int)} (h:z02 d=0):1≤d.length∧d.length≤10:=by
 refine ⟨Nat.le_of_not_lt fun h'=>?_,Nat.le_of_not_lt fun h'=>?_⟩
 ·rw [z02,if_pos (.inl (by omega))] at h; exact absurd h (by decide)
 ·rw [z02,if_pos (.inr h')] at h; exact absurd h (by decide)
theorem y2i {d:List (List Int)} (h:z02 d=0):∀ i,i<d.length→z20 (d.getD i []) d.length:=by
 have hl:=z21 h
 rw [z02,if_neg (by omega)] at h
 by_cases a:∃ i∈List.range d.length,¬ z20 (d.getD i []) d.length
 ·rw [if_pos a] at h; exact absurd h (by decide)
 ·intro i hi
  exact Classical.byContradiction fun hn=>a ⟨i,List.mem_range.2 hi,hn⟩
theorem z4w {d:List (List Int)} (h:z02 d=0):z9y (bt d) d.length:=by
 have hl:=z21 h
 have hr:=y2i h
 rw [z02,if_neg (by omega)] at h
 rw [if_neg (by rintro ⟨i,hi,hn⟩; exact hn (hr i (List.mem_range.1 hi)))] at h
 by_cases a:∃ i∈List.range d.length,y7e d i
 ·rw [if_pos a] at h; exact absurd h (by decide)
 have hno:∀ i,i<d.length→¬ y7e d i:=fun i hi hb=>a ⟨i,List.mem_range.2 hi,hb⟩
 have h1:∀ i k,i<d.length→k<i→bt d i k=!bt d k i:=by
  intro i k hi hk
  have:=hno i hi
  have h2:¬ decide ((i:Int)∈d.getD k [])=decide ((k:Int)∈d.getD i []):=fun e=>this (.inr ⟨k,List.mem_range.2 hk,e⟩)
  rw [bt,bt]
  cases h3:decide ((i:Int)∈d.getD k [])<;>cases h4:decide ((k:Int)∈d.getD i [])<;>rw [h3,h4] at h2
  ·exact absurd rfl h2
  ·rfl
  ·rfl
  ·exact absurd rfl h2
 refine ⟨fun i hi=>?_,fun i k hi hk hne=>?_⟩
 ·rw [bt]; exact decide_eq_false fun hm=>hno i hi (.inl hm)
 ·by_cases hlt:k<i
  ·exact h1 i k hi hlt
  ·rw [h1 k i hk (by omega),Bool.not_not]
theorem w2k {l:List Int} {n:Int} (h:z20 l n):l.Pairwise (· < ·):=by
 have hstep:∀ i,i+1<l.length→gI l i<gI l (i+1):=fun i hi=>by
  have:=(h (i+1) hi).2.2 (by omega)
  rwa [Nat.add_sub_cancel] at this
 have hall:∀ k i,i+k+1<l.length→gI l i<gI l (i+k+1):=by
  intro k
  induction k with
  |zero=>intro i hi; exact hstep i hi
  |succ k ih=>
   intro i hi
   have h1:=ih i (by omega)
   have h2:=hstep (i+k+1) (by omega)
   rw [show i+(k+1)+1=i+k+1+1 by omega]
   omega
 rw [List.pairwise_iff_getElem]
 intro i j hi hj hij
 have:=hall (j - i - 1) i (by omega)
 rw [show i+(j - i - 1)+1=j by omega] at this
 simpa [gI,List.getD_eq_getElem?_getD,hi,hj] using this
theorem y29 {l:List Int} {n:Int} (h:z20 l n) {x:Int} (hx:x∈l):0≤x∧x<n:=by
 obtain ⟨i,hi⟩:=List.getElem?_of_mem hx
 have:=h i (List.getElem?_eq_some_iff.1 hi).1
 rw [x9v,z5l hi] at this
 exact ⟨this.1,this.2.1⟩
theorem x4t (n:Nat) (p:Nat→Bool):cnt n p=((List.range n).filter p).length:=by
 induction n with
 |zero=>rfl
 |succ n ih=>
  rw [z54,ih,List.range_succ,List.filter_append,List.length_append]
  congr 1
  cases h:p n<;>simp [h,o1]
theorem x3s {l:List Int} {n:Nat} (h:z20 l n):(List.range n).filter (fun (k:Nat)=>decide ((k:Int)∈l))=l.map Int.toNat:=by
 refine w2l (List.Pairwise.filter _ List.pairwise_lt_range) ?_ fun x=>?_
 ·rw [List.pairwise_map]
  exact (w2k h).imp_of_mem fun {a b} ha hb hab=>by
   have:=y29 h ha; have:=y29 h hb; omega
 ·simp only [List.mem_filter,List.mem_range,decide_eq_true_eq,List.mem_map]
  constructor
  ·rintro ⟨_,h2⟩; exact ⟨(x:Int),h2,by omega⟩
  ·rintro ⟨y,hy,rfl⟩
   have:=y29 h hy
   have e:((y.toNat:Nat):Int)=y:=by omega
   exact ⟨by omega,by rw [e]; exact hy⟩
theorem x52 {l:List Int} {n:Nat} (h:z20 l n):cnt n (fun (k:Nat)=>decide ((k:Int)∈l))=l.length:=by
 rw [x4t,x3s h,List.length_map]
def wn (d:List (List Int)) (i:Nat):Nat:=cnt d.length (bt d i)
theorem w7f {d:List (List Int)} (h:z02 d=0) {i:Nat} {m:List Int} (hm:d[i]?=some m):m.length=wn d i:=by
 have hi:=(List.getElem?_eq_some_iff.1 hm).1
 have hr:=y2i h i hi
 rw [z5l hm] at hr
 rw [wn, ←x52 hr]
 exact z3k fun k _=>(w3g hm k).symm
theorem x9a {d:List (List Int)} (h:z02 d=0):z1r d=(List.range d.length).map fun i=>((wn d i:Nat):Int):=by
 apply List.ext_getElem?
 intro i
 rw [z1r,List.getElem?_map,List.getElem?_map]
 by_cases hi:i<d.length
 ·obtain ⟨m,hm⟩:=z15 hi
  rw [hm,List.getElem?_range hi,Option.map_some,Option.map_some,w7f h hm]
 ·rw [List.getElem?_eq_none (by omega),List.getElem?_eq_none (by simp; omega)]; rfl
theorem z6i {d:List (List Int)} (h:z02 d=0) {i:Nat} (hi:i<d.length):(z1r d)[i]?=some ((wn d i:Nat):Int):=by
 rw [x9a h,List.getElem?_map,List.getElem?_range hi]; rfl
theorem w3s {d:List (List Int)} (h:z02 d=0) {i:Nat} (hi:i<d.length):wn d i<d.length:=by
 have h1:=z4w h
 have h2:=y64 d.length (bt d i)
 have h3:=y63 (p:=fun k=>!bt d i k) hi (by rw [h1.1 i hi]; rfl)
 rw [wn]; omega
theorem w5s (n:Int) (f:Nat→Nat→Bool) (i:Nat) (hi:i<10):((fld n f).drop (1+i*10)).take 10=z0f ((List.range 10).map fun k=>bif f i k then 1 else 0):=by
 apply List.ext_getElem?
 intro k
 rw [z0f,List.map_map,List.getElem?_map]
 by_cases hk:k<10
 ·rw [List.getElem?_take_of_lt hk,List.getElem?_drop,z9p n f i k hi hk,List.getElem?_range hk]; rfl
 ·rw [List.getElem?_eq_none (by rw [List.length_take]; omega),List.getElem?_eq_none (by simp; omega)]; rfl
theorem x9m (p:Nat→Bool) (n:Nat):((List.range n).map fun k=>(bif p k then 1 else 0:Int)).sum=(cnt n p:Nat):=by
 induction n with
 |zero=>rfl
 |succ n ih=>
  rw [List.range_succ,List.map_append,List.sum_append,ih,z54]
  cases h:p n<;>simp [h,o1]
theorem v5j {d:List (List Int)} (h:z02 d=0) {i k:Nat} (hk:d.length≤k):bt d i k=false:=by
 by_cases hi:i<d.length
 ·rw [bt]
  refine decide_eq_false fun hm=>?_
  have:=y29 (y2i h i hi) hm
  omega
 ·exact w3h (by omega) k
theorem w6j {d:List (List Int)} (h:z02 d=0) (i:Nat):cnt 10 (bt d i)=wn d i:=by
 have hl:=z21 h
 have e:cnt 10 (bt d i)=cnt d.length (bt d i)+cnt (10 - d.length) fun j=>bt d i (d.length+j):=by
  rw [←z76]; congr 1; omega
 rw [e,z3k (n:=10 - d.length) (q:=fun _=>false) fun j _=>v5j h (by omega),z77]; rfl
theorem x3e (d:List (List Int)) (hr:∀ l∈d,l.length≤1000000):G35 std (z0x fl d,())=some (if z02 d=0 then (z0f (z1r d),((0:Int),())) else ([],(z02 d,()))):=by
 have h54:g54 it0 std (z0x fl d,())=_:=x86 d hr
 unfold G35
 by_cases h:z02 d=0
 ·rw [if_pos h] at h54
  have hl:=z21 h
  have key:=z40 (b:=x07 it0 std) d.length (fun i=>(fld d.length (bt d),(z0f ((z1r d).take i++List.replicate (d.length - i) 0),((d.length:Int),((i:Int),()))))) (z0f (z1r d),()) (fun i hi=>by
   have hw:=z06 (i:=i) (by omega)
   have hlt:(i:Int)<d.length:=by omega
   have h0:(0:Int)≤i:=by omega
   have hi1:(i:Int)<((10:Nat):Int):=by omega
   have hrow:=w5s d.length (bt d) i (by omega)
   have hfl:=w5t d.length (bt d)
   have hsum:=x9m (bt d i) 10
   rw [w6j h] at hsum
   have h70:g70 it0 std (z0f ((List.range 10).map fun k=>bif bt d i k then 1 else 0),())=some (((wn d i:Nat):Int),()):=by
    have:=v0n ((List.range 10).map fun k=>bif bt d i k then 1 else 0) (by simp) (fun x hx=>by
     simp only [List.mem_map] at hx
     obtain ⟨k,_,rfl⟩:=hx
     cases bt d i k<;>simp)
    rw [hsum] at this
    exact this
   have hget:=z6i h hi
   have hwl:=z13 d
   have hset:((z1r d).take i++List.replicate (d.length - i) 0).set i ((wn d i:Nat):Int)=(z1r d).take (i+1)++List.replicate (d.length - (i+1)) 0:=by
    have hti:((z1r d).take i).length=i:=by rw [List.length_take]; omega
    rw [List.take_succ_eq_append_getElem (by omega),(List.getElem?_eq_some_iff.1 hget).2,show d.length - i=(d.length - (i+1))+1 by omega,List.replicate_succ,List.set_append_right (h:=by omega),hti,Nat.sub_self,List.set_cons_zero,List.append_assoc]
    rfl
   rw [←hset]
   have hBl:((z1r d).take i++List.replicate (d.length - i) 0).length=d.length:=by
    rw [List.length_append,List.length_take,List.length_replicate]; omega
   generalize (z1r d).take i++List.replicate (d.length - i) (0:Int)=B at hBl⊢
   have hEl:(B.map eI).length=d.length:=by rw [List.length_map,hBl]
   have h111:1+i*10+10≤101:=by omega
   have hF0:(fld d.length (bt d))[1+i*10]?=some (eC (bt d i 0)):=z9p d.length (bt d) i 0 (by omega) (by omega)
   have hBi:=z2f (l:=B) (q:=i) (by omega)
   have hms:(B.set i ((wn d i:Nat):Int)).map eI=(B.map eI).set i (eI ((wn d i:Nat):Int)):=by rw [List.map_set]
   generalize fld d.length (bt d)=F at hrow hfl hF0⊢
   simp only [z0f] at h70 hrow
   generalize ((List.range 10).map fun k=>(bif bt d i k then 1 else 0:Int))=ROW at hrow h70
   simp only [x07,z1m,z1n,z0f,hlt,h0,hi1,ge_iff_le,z0j,hw,hfl,h111,hrow,h70,hEl,hBl,z42,hms,hF0,hBi,z7k,z0r,decide_true,cond_true,Bool.and_true,List.length_set]) (by
   have hn:¬ (d.length:Int)<d.length:=by omega
   rw [Nat.sub_self,List.replicate_zero,List.append_nil,List.take_of_length_le (by rw [z13]; exact Nat.le_refl _)]
   simp only [x07,z1m,z1n,hn,decide_true])
  have key':it0 _ _ (x07 it0 std) (fld d.length (bt d),(z0f (List.replicate d.length 0),((d.length:Int),((0:Int),()))))=some (z0f (z1r d),()):=by
   have:=key
   simp only [List.take_zero,List.nil_append,Nat.sub_zero] at this
   exact this
  have hf0:(fld d.length (bt d))[0]?=some (eI d.length):=rfl
  have hrep:z0f (List.replicate d.length 0)=List.replicate d.length (eI 0):=by rw [z0f,List.map_replicate]
  rw [hrep] at key'
  have hn0:(0:Int)≤d.length:=by omega
  have hnm:(d.length:Int)≤1000000:=by omega
  have hwl:=z13 d
  simp only [g35,z1m,z1n,eq_self,not_true,not_false_eq_true,decide_true,decide_false,Bool.not_true,Bool.not_false,Int.reduceLT,Int.reduceNeg,Int.reduceGT,cond_true,cond_false,h54,h,hf0,z0r,z2u,ge_iff_le,hn0,hnm,Int.le_refl,Bool.and_true,z42,key',z0t,Nat.le_refl,ne_eq,List.length_replicate]
  done
 ·rw [if_neg h] at h54
  simp only [g35,z1m,z1n,eq_self,not_true,not_false_eq_true,decide_true,decide_false,Bool.not_true,Bool.not_false,Int.reduceLT,Int.reduceNeg,Int.reduceGT,cond_true,cond_false,h54,h,ne_eq]
  done
theorem w67 (d : List (List Int)) (n : Nat) : C1 d n = Tr1 (bt d) n := by
  have h3 : ∀ i k m, C3 d i k m = Tr3 (bt d) i k m := by
    intro i k m
    induction m with
    | zero => rfl
    | succ m ih => rw [C3, ih]; rfl
  have h2 : ∀ i k, C2 d i k = Tr2 (bt d) i k := by
    intro i k
    induction k with
    | zero => rfl
    | succ k ih => rw [C2, ih, h3]; rfl
  induction n with
  | zero => rfl
  | succ n ih => rw [C1, ih, h2]; rfl
theorem w3f (w:Nat):((w:Int)*((w:Int) - 1)).tdiv 2=(c2 w:Nat):=by
 have:=w6n w
 cases w with
 |zero=>rfl
 |succ w=>
  rw [Nat.add_sub_cancel] at this
  have e:(((w+1:Nat):Int)*(((w+1:Nat):Int) - 1))=2*(c2 (w+1):Nat):=by
   have e1:(((w+1:Nat):Int) - 1)=(w:Int):=by omega
   rw [e1]
   have:=congrArg (fun (n:Nat)=>(n:Int)) this
   simp only [Int.natCast_mul] at this
   rw [←this]; rfl
  rw [e]
  exact Int.mul_tdiv_cancel_left _ (by decide)
theorem x08 {w:Nat} (h:w≤10):c2 w≤45:=by
 have hs:w=0∨w=1∨w=2∨w=3∨w=4∨w=5∨w=6∨w=7∨w=8∨w=9∨w=10:=by omega
 rcases hs with h|h|h|h|h|h|h|h|h|h|h<;>subst h<;>decide
theorem w3p (d:List (List Int)) (hr:∀ l∈d,l.length≤1000000):G36 std (z0x fl d,())=some (if z02 d=0 then (((C1 d d.length:Nat):Int),((0:Int),())) else ((0:Int),(z02 d,()))):=by
 have h35:g35 it0 std (z0x fl d,())=_:=x3e d hr
 unfold G36
 by_cases h:z02 d=0
 ·rw [if_pos h] at h35
  have hl:=z21 h
  have hcirc:=w6k (z4w h) d.length (Nat.le_refl _)
  have hbnd:∀ i,i≤d.length→sm i (fun q=>c2 (wn d q))≤45*i:=by
   intro i hi
   have:=x5v (n:=i) (f:=fun q=>c2 (wn d q)) (g:=fun _=>45) fun q hq=>x08 (by have:=w3s h (i:=q) (by omega); omega)
   rw [z5y] at this; omega
  have hc3:c3 d.length≤120:=by
   have hs:d.length=1∨d.length=2∨d.length=3∨d.length=4∨d.length=5∨d.length=6∨d.length=7∨d.length=8∨d.length=9∨d.length=10:=by omega
   rcases hs with h|h|h|h|h|h|h|h|h|h<;>rw [h]<;>decide
  have key:=z40 (b:=x8t std) d.length (fun i=>(z0f (z1r d),((c3 d.length:Int) - (sm i (fun q=>c2 (wn d q)):Nat),((d.length:Int),((i:Int),()))))) (((C1 d d.length:Nat):Int),()) (fun i hi=>by
   have hw:=z06 (i:=i) (by omega)
   have hlt:(i:Int)<d.length:=by omega
   have h0:(0:Int)≤i:=by omega
   have hget:=z6i h hi
   have hwl:=z13 d
   have hb:=hbnd i (by omega)
   have hwi:=w3s h hi
   have hc:=x08 (w:=wn d i) (by omega)
   have e1:IntKind.i64.wrap (((wn d i:Nat):Int) - 1)=((wn d i:Nat):Int) - 1:=z2s _ (by omega) (by omega)
   have hmul:0≤2*(c2 (wn d i):Int)∧2*(c2 (wn d i):Int)≤90:=by omega
   have e0:((wn d i:Nat):Int)*(((wn d i:Nat):Int) - 1)=2*(c2 (wn d i):Nat):=by
    have h2:=w6n (wn d i)
    cases hwn:wn d i with
    |zero=>rfl
    |succ w=>
     rw [hwn,Nat.add_sub_cancel] at h2
     have e1:(((w+1:Nat):Int) - 1)=(w:Int):=by omega
     rw [e1]
     have:=congrArg (fun (n:Nat)=>(n:Int)) h2
     simp only [Int.natCast_mul] at this
     rw [←this]; rfl
   have e2:IntKind.i64.wrap (((wn d i:Nat):Int)*(((wn d i:Nat):Int) - 1))=((wn d i:Nat):Int)*(((wn d i:Nat):Int) - 1):=z2s _ (by rw [e0]; omega) (by rw [e0]; omega)
   have e3:IntKind.i64.wrap (c2 (wn d i):Int)=(c2 (wn d i):Int):=z2s _ (by omega) (by omega)
   have e4:IntKind.i64.wrap ((c3 d.length:Int) - (sm i (fun q=>c2 (wn d q)):Nat) - (c2 (wn d i):Int))=(c3 d.length:Int) - (sm (i+1) (fun q=>c2 (wn d q)):Nat):=by
    rw [z2l]
    have:(c3 d.length:Int) - ((sm i (fun q=>c2 (wn d q))+c2 (wn d i):Nat):Int)=(c3 d.length:Int) - (sm i (fun q=>c2 (wn d q)):Nat) - (c2 (wn d i):Int):=by omega
    rw [this]
    exact z2s _ (by omega) (by omega)
   have h2ne:¬ ((2:Int)=0):=by decide
   simp only [x8t,z1m,z1n,z0f,hwl,hlt,h0,ge_iff_le,z0j,z00,z8i,z8h,hw,hget,z0r,z2u,e1,e2,w3f,e3,e4,h2ne,decide_true,decide_false,cond_true,Bool.not_false]) (by
   have hn:¬ (d.length:Int)<d.length:=by omega
   have e:(c3 d.length:Int) - (sm d.length (fun q=>c2 (wn d q)):Nat)=((C1 d d.length:Nat):Int):=by
    rw [w67]
    have:sm d.length (fun q=>c2 (wn d q))=sm d.length fun i=>c2 (cnt d.length (bt d i)):=rfl
    omega
   simp only [x8t,z1m,z1n,hn,e])
  have hz:(c3 d.length:Int) - (sm 0 (fun q=>c2 (wn d q)):Nat)=(c3 d.length:Int):=by
   have:sm 0 (fun q=>c2 (wn d q))=0:=rfl
   rw [this]; simp
  rw [hz] at key
  have key':it0 _ _ (x8t std) (z0f (z1r d),((c3 d.length:Int),((d.length:Int),((0:Int),()))))=some (((C1 d d.length:Nat):Int),()):=key
  have hwl:=z13 d
  have e6:IntKind.i64.wrap ((IntKind.i64.wrap (IntKind.i64.wrap ((d.length:Int)*IntKind.i64.wrap ((d.length:Int) - 1))*IntKind.i64.wrap ((d.length:Int) - 2))).tdiv 6)=(c3 d.length:Int):=by
   have hs:d.length=1∨d.length=2∨d.length=3∨d.length=4∨d.length=5∨d.length=6∨d.length=7∨d.length=8∨d.length=9∨d.length=10:=by omega
   rcases hs with h|h|h|h|h|h|h|h|h|h<;>rw [h]<;>decide
  have h6ne:¬ ((6:Int)=0):=by decide
  simp only [g36,z1m,z1n,eq_self,not_true,not_false_eq_true,decide_true,decide_false,Bool.not_true,Bool.not_false,Int.reduceLT,Int.reduceNeg,Int.reduceGT,cond_true,cond_false,h35,h,z0t,hwl,z00,z8i,z8h,e6,key',h6ne,ne_eq]
  done
 ·rw [if_neg h] at h35
  simp only [g36,z1m,z1n,eq_self,not_true,not_false_eq_true,decide_true,decide_false,Bool.not_true,Bool.not_false,Int.reduceLT,Int.reduceNeg,Int.reduceGT,cond_true,cond_false,h35,h,ne_eq]
  done
end Go.Am
end
noncomputable section
namespace Go.Am
def w6h:Ctr:=
 ⟨24,[.list 1, .list 1],[],[(.ret,⟨[(0, .int .i64)],[],1⟩)]⟩
def la24:List LA:=
 [⟨24,[false,true,false,true,true,true,true,true,true,true],0,⟨⟨[(1, .list 1),(5, .bptr 0 0),(8, .int .i64)],[.row [ci]],59⟩,[(AX.ret,⟨[(4, .int .i64)],[],59⟩),((AX.exit 1),⟨[],[],59⟩)]⟩⟩]
def ja24:List JA:=
 [⟨24,[true,false,false,true,true],0,[(AX.ret,⟨[(4, .int .i64)],[],59⟩),(AX.normal,⟨[(1, .list 1),(5, .bptr 0 0)],[.row [ci]],59⟩)]⟩]
def v4r:List CF:=
 [⟨w1j,G56⟩,⟨w29,v1g⟩,⟨w1k,G54⟩]
def an24:Anns:=
 ⟨v4r,ja24,[]⟩
def x1d (p:Prim):(LD×(LD×T1))→Option ((LD×(LD×T1))⊕T14):=
 fun a=>opt.run _ (
 opt.ask _ (p.cmp .lss a.2.2.1 (p.ofNat (p.len a.2.1))) (
 opt.need _ (p.rowOk a.2.1 (p.nat (p.ar .sub .i64 a.2.2.1 (1:Int))) [ci])<|
 opt.need _ (p.cmp .geq (p.ar .sub .i64 a.2.2.1 (1:Int)) (0:Int))<|
 opt.need _ (p.rowOk a.2.1 (p.nat a.2.2.1) [ci])<|
 opt.need _ (p.cmp .geq a.2.2.1 (0:Int))<|
 opt.need _ (bif (p.cmp .geq (p.rdI a.2.1 (p.nat (p.ar .sub .i64 a.2.2.1 (1:Int))) 0) (0:Int)) then (p.cmp .lss (p.rdI a.2.1 (p.nat (p.ar .sub .i64 a.2.2.1 (1:Int))) 0) (p.ofNat 10)) else Bool.false)<|
 opt.need _ (bif (p.cmp .geq (p.rdI a.2.1 (p.nat a.2.2.1) 0) (0:Int)) then (p.cmp .lss (p.rdI a.2.1 (p.nat a.2.2.1) 0) (p.ofNat 10)) else Bool.false)<|
 opt.need _ (p.rowOk a.1 (p.add (p.add 1 (p.mul (p.nat (p.rdI a.2.1 (p.nat (p.ar .sub .i64 a.2.2.1 (1:Int))) 0)) 10)) (p.nat (p.rdI a.2.1 (p.nat a.2.2.1) 0))) [ci])<|
 opt.ask _ (bif (p.cmp .eql (p.rdI a.1 (p.add (p.add 1 (p.mul (p.nat (p.rdI a.2.1 (p.nat (p.ar .sub .i64 a.2.2.1 (1:Int))) 0)) 10)) (p.nat (p.rdI a.2.1 (p.nat a.2.2.1) 0))) 0) (1:Int)) then Bool.false else Bool.true) (
 opt.ret _ (Sum.inr (Sum.inl ((16:Int),())))) (
 opt.ret _ (Sum.inl (a.1,(a.2.1,((p.ar .add .i64 a.2.2.1 (1:Int)),())))))) (
 opt.ret _ (Sum.inr (Sum.inr ()))))
def v5z (p:Prim):(LD×(LD×T1))→Option ((LD×(LD×T1))⊕T14):=
 fun a=>opt.run _ (
 opt.ask _ (p.cmp .lss a.2.2.1 (p.ofNat (p.len a.2.1))) (
 opt.need _ (p.rowOk a.2.1 (p.nat (p.ar .sub .i64 a.2.2.1 (1:Int))) [ci])<|
 opt.need _ (p.cmp .geq (p.ar .sub .i64 a.2.2.1 (1:Int)) (0:Int))<|
 opt.need _ (p.rowOk a.2.1 (p.nat a.2.2.1) [ci])<|
 opt.need _ (p.cmp .geq a.2.2.1 (0:Int))<|
 opt.need _ (bif (p.cmp .geq (p.rdI a.2.1 (p.nat (p.ar .sub .i64 a.2.2.1 (1:Int))) 0) (0:Int)) then (p.cmp .lss (p.rdI a.2.1 (p.nat (p.ar .sub .i64 a.2.2.1 (1:Int))) 0) (p.ofNat 10)) else Bool.false)<|
 opt.need _ (bif (p.cmp .geq (p.rdI a.2.1 (p.nat a.2.2.1) 0) (0:Int)) then (p.cmp .lss (p.rdI a.2.1 (p.nat a.2.2.1) 0) (p.ofNat 10)) else Bool.false)<|
 opt.need _ (p.rowOk a.1 (p.add (p.add 1 (p.mul (p.nat (p.rdI a.2.1 (p.nat (p.ar .sub .i64 a.2.2.1 (1:Int))) 0)) 10)) (p.nat (p.rdI a.2.1 (p.nat a.2.2.1) 0))) [ci])<|
 opt.ask _ (bif (p.cmp .eql (p.rdI a.1 (p.add (p.add 1 (p.mul (p.nat (p.rdI a.2.1 (p.nat (p.ar .sub .i64 a.2.2.1 (1:Int))) 0)) 10)) (p.nat (p.rdI a.2.1 (p.nat a.2.2.1) 0))) 0) (1:Int)) then Bool.false else Bool.true) (
 opt.ret _ (Sum.inr (Sum.inl ((16:Int),())))) (
 opt.ret _ (Sum.inl (a.1,(a.2.1,((p.ar .add .i64 a.2.2.1 (1:Int)),())))))) (
 opt.ret _ (Sum.inr (Sum.inr ()))))
def g24 (it:It):(p:Prim)→(LD×(LD×Unit))→Option T2:=
 fun p x=>
 opt.alt T2 ((LD×T1)) _ (g54 it p (x.1,())) (fun a=>
 opt.alt T2 ((LD×(LD×Unit))) _ (
 opt.run T33 (
 opt.ask _ (p.cmp .neq a.1 (0:Int)) (
 opt.ret _ (Sum.inl (a.1,()))) (
 opt.no _ 41))) (fun b=>
 opt.ret _ (b.1,())) (fun c=>
 opt.bnd ((LD×(LD×Unit))) _ (some c) fun d=>
 opt.need _ (p.and (p.cmp .geq (p.ofNat (p.len d.2.1)) (0:Int)) (p.and (p.cmp .leq (p.ofNat (p.len d.2.1)) (p.ofNat (p.len d.2.1))) (p.cmp .leq (p.ofNat (p.len d.2.1)) (1000000:Int))))<|
 opt.need _ (p.and Bool.true (p.and (p.leN (p.len d.2.1) (p.nat (p.ofNat (p.len d.2.1)))) (p.leN (p.add 0 (p.nat (p.ofNat (p.len d.2.1)))) (p.len (p.rep (p.nat (p.ofNat (p.len d.2.1))) k0k)))))<|
 opt.need _ (p.eqN 0 0)<|
 opt.need _ (p.eqN (p.nat (p.ofNat (p.len d.2.1))) (p.len (p.splice (p.rep (p.nat (p.ofNat (p.len d.2.1))) k0k) 0 d.2.1)))<|
 opt.need _ (p.eqN (p.nat (p.ofNat (p.len d.2.1))) (p.len (p.splice (p.rep (p.nat (p.ofNat (p.len d.2.1))) k0k) 0 d.2.1)))<|
 opt.bnd ((LD×Unit)) _ (w5n it p ((p.splice (p.rep (p.nat (p.ofNat (p.len d.2.1))) k0k) 0 d.2.1),())) fun e=>
 opt.need _ (p.rowOk d.1 0 [ci])<|
 opt.need _ (p.and (p.leN (p.add 0 (p.nat (p.ofNat (p.len d.2.1)))) (p.len e.1)) (p.and Bool.true Bool.true))<|
 opt.bnd T0 _ (g56 it p ((p.cut e.1 0 (p.nat (p.ofNat (p.len d.2.1)))),((p.rdI d.1 0 0),()))) fun f=>
 opt.ask _ (bif f.1 then Bool.false else Bool.true) (
 opt.ret _ ((3:Int),())) (
 opt.alt T2 (Unit) _ (
 it _ _ (v5z p) (d.1,(d.2.1,((1:Int),())))) (fun g=>
 opt.ret _ (g.1,())) (fun h=>
 opt.bnd (Unit) _ (some h) fun i=>
 opt.ret _ ((0:Int),()))))) (fun j=>
 opt.bnd ((LD×T1)) _ (some j) fun k=>
 opt.alt T2 ((LD×(LD×Unit))) _ (
 opt.run T33 (
 opt.ask _ (p.cmp .neq k.2.1 (0:Int)) (
 opt.ret _ (Sum.inl (k.2.1,()))) (
 opt.need _ (p.rowOk k.1 0 [ci])<|
 opt.ask _ (p.cmp .neq (p.ofNat (p.len x.2.1)) (p.rdI k.1 0 0)) (
 opt.ret _ (Sum.inl ((15:Int),()))) (
 opt.ret _ (Sum.inr (k.1,(x.2.1,()))))))) (fun l=>
 opt.ret _ (l.1,())) (fun m=>
 opt.bnd ((LD×(LD×Unit))) _ (some m) fun n=>
 opt.need _ (p.and (p.cmp .geq (p.ofNat (p.len n.2.1)) (0:Int)) (p.and (p.cmp .leq (p.ofNat (p.len n.2.1)) (p.ofNat (p.len n.2.1))) (p.cmp .leq (p.ofNat (p.len n.2.1)) (1000000:Int))))<|
 opt.need _ (p.and Bool.true (p.and (p.leN (p.len n.2.1) (p.nat (p.ofNat (p.len n.2.1)))) (p.leN (p.add 0 (p.nat (p.ofNat (p.len n.2.1)))) (p.len (p.rep (p.nat (p.ofNat (p.len n.2.1))) k0k)))))<|
 opt.need _ (p.eqN 0 0)<|
 opt.need _ (p.eqN (p.nat (p.ofNat (p.len n.2.1))) (p.len (p.splice (p.rep (p.nat (p.ofNat (p.len n.2.1))) k0k) 0 n.2.1)))<|
 opt.need _ (p.eqN (p.nat (p.ofNat (p.len n.2.1))) (p.len (p.splice (p.rep (p.nat (p.ofNat (p.len n.2.1))) k0k) 0 n.2.1)))<|
 opt.bnd ((LD×Unit)) _ (w5n it p ((p.splice (p.rep (p.nat (p.ofNat (p.len n.2.1))) k0k) 0 n.2.1),())) fun o=>
 opt.need _ (p.rowOk n.1 0 [ci])<|
 opt.need _ (p.and (p.leN (p.add 0 (p.nat (p.ofNat (p.len n.2.1)))) (p.len o.1)) (p.and Bool.true Bool.true))<|
 opt.bnd T0 _ (g56 it p ((p.cut o.1 0 (p.nat (p.ofNat (p.len n.2.1)))),((p.rdI n.1 0 0),()))) fun q=>
 opt.ask _ (bif q.1 then Bool.false else Bool.true) (
 opt.ret _ ((3:Int),())) (
 opt.alt T2 (Unit) _ (
 it _ _ (x1d p) (n.1,(n.2.1,((1:Int),())))) (fun r=>
 opt.ret _ (r.1,())) (fun t=>
 opt.bnd (Unit) _ (some t) fun u=>
 opt.ret _ ((0:Int),())))))
def G24:=g24 it0
theorem v6r:CtrOk PG w6h (G24 std):=okF (a:=an24) (l:=la24) (gC v18 (gC v2a (gC v2b (gN)))) (by kernel_rfl) fun _ _=>by kernel_rfl
end Go.Am
end
section
namespace Go.Am
open T11
variable {fl:List Int→Bool}
def w3j (o:List Int) (n:Nat) (i:Nat):Prop:=gI o i<0∨(n:Int)≤gI o i∨∃ k∈List.range i,gI o i=gI o k
instance v46 (o:List Int) (n i:Nat):Decidable (w3j o n i):=by unfold w3j; infer_instance
def w6z (d:List (List Int)) (o:List Int) (i:Nat):Prop:=bt d (gI o i).toNat (gI o (i+1)).toNat=false
instance v47 (d:List (List Int)) (o:List Int) (i:Nat):Decidable (w6z d o i):=by unfold w6z; infer_instance
def v1e (d:List (List Int)) (o:List Int):Prop:=∃ i∈List.range (d.length - 1),w6z d o i
instance v48 (d:List (List Int)) (o:List Int):Decidable (v1e d o):=inferInstanceAs (Decidable (∃ i,i∈List.range (d.length - 1)∧w6z d o i))
def y6m (d:List (List Int)) (o:List Int):Int:=
 if z02 d=0 then
  if o.length=d.length then
   if ∃ i∈List.range d.length,w3j o d.length i then 3
   else if v1e d o then 16 else 0
  else 15
 else z02 d
theorem w8o {o:List Int} {n:Nat} (h:¬ ∃ i∈List.range n,w3j o n i) {i:Nat} (hi:i<n):0≤gI o i∧gI o i<n:=by
 have:¬ w3j o n i:=fun hb=>h ⟨i,List.mem_range.2 hi,hb⟩
 unfold w3j at this
 omega
theorem x1q {o:List Int} {n:Nat} (hn:o.length=n):z20 (z1o id o) n↔¬ ∃ i∈List.range n,w3j o n i:=by
 have hp:=z6m id o
 constructor
 ·rintro h ⟨i,hi,hb⟩
  have hi:=List.mem_range.1 hi
  have hx:=z2f (l:=o) (q:=i) (by omega)
  have hm:=y29 h (hp.mem_iff.2 (List.mem_of_getElem? hx))
  rcases hb with hb|hb|⟨k,hk,hb⟩
  ·omega
  ·omega
  ·have hk:=List.mem_range.1 hk
   have hnd:(z1o id o).Nodup:=(w2k h).imp fun {a b} hab=>by omega
   have hno:=hp.nodup_iff.1 hnd
   have hy:=z2f (l:=o) (q:=k) (by omega)
   rw [←hb, ←hx] at hy
   have:=(List.getElem?_inj (by omega) hno).1 hy
   omega
 ·intro h
  have hno:o.Nodup:=by
   rw [List.nodup_iff_pairwise_ne,List.pairwise_iff_getElem]
   intro k i hk hi hki he
   refine h ⟨i,List.mem_range.2 (by omega), .inr (.inr ⟨k,List.mem_range.2 hki,?_⟩)⟩
   simp [gI,List.getD_eq_getElem?_getD,hk,hi,he]
  have hns:(z1o id o).Nodup:=hp.nodup_iff.2 hno
  have hle:=y24 id o
  intro i hi
  rw [z25] at hi
  have hxi:=z2f (l:=z1o id o) (q:=i) (by rw [z25]; exact hi)
  have hmem:=hp.mem_iff.1 (List.mem_of_getElem? hxi)
  obtain ⟨j,hj⟩:=List.getElem?_of_mem hmem
  have hjl:=(List.getElem?_eq_some_iff.1 hj).1
  have hg:=w8o h (i:=j) (by omega)
  rw [z2f hjl] at hj
  have hje:=Option.some.inj hj
  rw [hje] at hg
  refine ⟨?_,?_,fun hi0=>?_⟩
  ·show 0≤gI (z1o id o) i; omega
  ·show gI (z1o id o) i<n; omega
  ·show gI (z1o id o) (i - 1)<gI (z1o id o) i
   have h1:=hle (i - 1) i (by omega) hi
   simp only [id] at h1
   have h2:gI (z1o id o) (i - 1)≠gI (z1o id o) i:=by
    intro e
    have hxp:=z2f (l:=z1o id o) (q:=i - 1) (by rw [z25]; omega)
    rw [e, ←hxi] at hxp
    have:=(List.getElem?_inj (by rw [z25]; omega) hns).1 hxp
    omega
   omega
theorem w2z {d:List (List Int)} {n:Int} {i k:Nat} (hi:i<10) (hk:k<10):(fld n (bt d))[1+i*10+k]?=some (eC (bt d i k)):=z9p n (bt d) i k hi hk
theorem w19 (d:List (List Int)) (o:List Int) (ho:o.length=d.length) (h1:1≤d.length) (h10:d.length≤10) (hg:∀ i,i<d.length→0≤gI o i∧gI o i<d.length):
  z46 (x1d std) (fld d.length (bt d),(z0f o,((1:Int),())))=if v1e d o then some (.inl (16,())) else some (.inr ()):=by
 have key:=z34 (b:=x1d std) (d.length - 1) (fun i=>(fld d.length (bt d),(z0f o,(((i+1:Nat):Int),())))) (fun i=>decide (w6z d o i)) (fun k=> .inl (16,())) (.inr ()) (fun i hi=>by
  have hx:=z2f (l:=o) (q:=i) (by omega)
  have hy:=z2f (l:=o) (q:=i+1) (by omega)
  have hw:=z06 (i:=i+1) (by omega)
  have hp:=z9z (j:=i) (by omega)
  have hlt:((i+1:Nat):Int)<o.length:=by omega
  have h0:(0:Int)≤i:=by omega
  have h1:(0:Int)≤((i+1:Nat):Int):=by omega
  obtain ⟨a0,a1⟩:=hg i (by omega)
  obtain ⟨b0,b1⟩:=hg (i+1) (by omega)
  have a2:gI o i<((10:Nat):Int):=by omega
  have b2:gI o (i+1)<((10:Nat):Int):=by omega
  have hf:=w2z (d:=d) (n:=d.length) (i:=(gI o i).toNat) (k:=(gI o (i+1)).toNat) (by omega) (by omega)
  generalize fld d.length (bt d)=F at hf⊢
  by_cases c:w6z d o i
  ·have hb:bt d (gI o i).toNat (gI o (i+1)).toNat=false:=c
   rw [hb] at hf
   simp only [c,x1d,z1m,z1n,z0f,z0r,z2u,z7k,x7v,eq_self,not_true,not_false_eq_true,decide_true,decide_false,Bool.not_true,Bool.not_false,Int.reduceLT,Int.reduceNeg,Int.reduceGT,cond_true,cond_false,hx,hy,hlt,h0,h1,a0,a2,b0,b2,hf,ge_iff_le,z0j,z00,hw,hp]
   rfl
  ·have hb:bt d (gI o i).toNat (gI o (i+1)).toNat=true:=by
    cases hq:bt d (gI o i).toNat (gI o (i+1)).toNat with
    |true=>rfl
    |false=>exact absurd hq c
   rw [hb] at hf
   simp only [c,x1d,z1m,z1n,z0f,z0r,z2u,z7k,x7v,eq_self,not_true,not_false_eq_true,decide_true,decide_false,Bool.not_true,Bool.not_false,Int.reduceLT,Int.reduceNeg,Int.reduceGT,cond_true,cond_false,hx,hy,hlt,h0,h1,a0,a2,b0,b2,hf,ge_iff_le,z0j,z00,hw,hp]) (by
  have hn':¬ ((d.length - 1+1:Nat):Int)<o.length:=by omega
  simp only [x1d,z1m,z1n,z0f,hn'])
 rcases key with ⟨k,h1,h2,_,h4⟩|⟨h1,h2⟩
 ·rw [if_pos ⟨k,List.mem_range.2 h1,of_decide_eq_true h2⟩]
  exact h4
 ·rw [if_neg]
  ·exact h2
  ·rintro ⟨k,hk,h⟩
   exact of_decide_eq_false (h1 k (List.mem_range.1 hk)) h
theorem v0q (d:List (List Int)) (hr:∀ l∈d,l.length≤1000000) (o:List Int):G24 std (z0x fl d,(z0f o,()))=some (y6m d o,()):=by
 have h54:g54 it0 std (z0x fl d,())=_:=x86 d hr
 unfold G24 y6m
 by_cases h:z02 d=0
 ·rw [if_pos h] at h54⊢
  have hl:=z21 h
  have hf0:(fld d.length (bt d))[0]?=some (eI d.length):=rfl
  by_cases hlen:o.length=d.length
  ·rw [if_pos hlen]
   have hrep:(List.replicate o.length (eI 0)).length=o.length:=List.length_replicate
   have hspl:(List.replicate o.length (eI 0)).take 0++z0f o++(List.replicate o.length (eI 0)).drop o.length=z0f o:=by
    rw [List.take_zero,List.nil_append,List.drop_of_length_le (by rw [hrep]; omega),List.append_nil]
   have h55:w5n it0 std (z0f o,())=_:=w66 o (by omega)
   have hsl:(z0f (z1o id o)).length=o.length:=by rw [z0t,z25]
   have h56:g56 it0 std (z0f (z1o id o),((d.length:Int),()))=_:=w3n (z1o id o) d.length (by rw [z25]; omega)
   have h0:(0:Int)≤o.length:=by omega
   have h6:(o.length:Int)≤1000000:=by omega
   have htake:(List.replicate o.length (eI 0)).take 0=[]:=rfl
   have htk:(z0f (z1o id o)).take o.length=z0f (z1o id o):=List.take_of_length_le (by rw [hsl]; exact Nat.le_refl _)
   have hd0:(z0f (z1o id o)).drop 0=z0f (z1o id o):=rfl
   by_cases a:∃ i∈List.range d.length,w3j o d.length i
   ·rw [if_pos a]
    have hnr:¬ z20 (z1o id o) d.length:=fun hq=>(x1q hlen).1 hq a
    rw [hlen] at hspl hsl htk h0 h6
    simp only [g24,z1m,z1n,eq_self,not_true,not_false_eq_true,decide_true,decide_false,Bool.not_true,Bool.not_false,Int.reduceLT,Int.reduceNeg,Int.reduceGT,cond_true,cond_false,h54,h,hf0,z0r,z2u,hlen,z0t,ne_eq,z42,List.length_replicate,Nat.le_refl,Bool.and_true,Int.le_refl,ge_iff_le,h0,h6,hspl,h55,hsl,htk,hd0,h56,hnr]
   ·rw [if_neg a]
    have hnr:z20 (z1o id o) d.length:=(x1q hlen).2 a
    have e2:it0 _ _ (x1d std) (fld d.length (bt d),(z0f o,((1:Int),())))=_:=w19 d o hlen (by omega) (by omega) fun i hi=>w8o a hi
    by_cases b:v1e d o
    ·rw [if_pos b] at e2⊢
     rw [hlen] at hspl hsl htk h0 h6
     simp only [g24,z1m,z1n,eq_self,not_true,not_false_eq_true,decide_true,decide_false,Bool.not_true,Bool.not_false,Int.reduceLT,Int.reduceNeg,Int.reduceGT,cond_true,cond_false,h54,h,hf0,z0r,z2u,hlen,z0t,ne_eq,z42,List.length_replicate,Nat.le_refl,Bool.and_true,Int.le_refl,ge_iff_le,h0,h6,hspl,h55,hsl,htk,hd0,h56,hnr,e2]
    ·rw [if_neg b] at e2⊢
     rw [hlen] at hspl hsl htk h0 h6
     simp only [g24,z1m,z1n,eq_self,not_true,not_false_eq_true,decide_true,decide_false,Bool.not_true,Bool.not_false,Int.reduceLT,Int.reduceNeg,Int.reduceGT,cond_true,cond_false,h54,h,hf0,z0r,z2u,hlen,z0t,ne_eq,z42,List.length_replicate,Nat.le_refl,Bool.and_true,Int.le_refl,ge_iff_le,h0,h6,hspl,h55,hsl,htk,hd0,h56,hnr,e2]
  ·rw [if_neg hlen]
   have hne:¬ ((o.length:Nat):Int)=(d.length:Nat):=by omega
   simp only [g24,z1m,z1n,eq_self,not_true,not_false_eq_true,decide_true,decide_false,Bool.not_true,Bool.not_false,Int.reduceLT,Int.reduceNeg,Int.reduceGT,cond_true,cond_false,h54,h,hf0,z0r,z2u,hne,z0t,ne_eq]
 ·rw [if_neg h] at h54⊢
  simp only [g24,z1m,z1n,eq_self,not_true,not_false_eq_true,decide_true,decide_false,Bool.not_true,Bool.not_false,Int.reduceLT,Int.reduceNeg,Int.reduceGT,cond_true,cond_false,h54,h,ne_eq]
theorem x3a {n:Nat} {x:Int}:x∈y2m n↔0≤x∧x<n:=by
 rw [y2m,List.mem_map]
 constructor
 ·rintro ⟨a,ha,rfl⟩; have:=List.mem_range.1 ha; omega
 ·rintro ⟨h1,h2⟩; exact ⟨x.toNat,List.mem_range.2 (by omega),by omega⟩
theorem x44 (n:Nat):(y2m n).Nodup:=by
 rw [y2m,List.nodup_iff_pairwise_ne,List.pairwise_map]
 exact (List.nodup_range (n:=n)).imp fun {a b} hab=>by omega
end Go.Am
end
noncomputable section
namespace Go.Am
def w9g:Ctr:=
 ⟨72,[.vec 0 1],[.row [ci]],[(.ret,⟨[(0, .tuple [])],[.row [ci]],1⟩)]⟩
def la72:List LA:=
 [⟨72,[false,true],1,⟨⟨[(0, .vec 0 1),(2, .int .i64),(3, .int .i64)],[.row [ci]],28⟩,[((AX.exit 0),⟨[],[.row [ci]],28⟩)]⟩⟩]
def ja72:List JA:=
 []
def v3z:List CF:=
 []
def an72:Anns:=
 ⟨v3z,ja72,[]⟩
def x8q (p:Prim):(LD×T3)→Option ((LD×T3)⊕(LD×Unit)):=
 fun a=>opt.run _ (
 opt.ask _ (p.cmp .lss a.2.1 a.2.2.1) (
 opt.need _ (bif (p.cmp .geq a.2.2.1 (0:Int)) then (p.cmp .lss a.2.2.1 (p.ofNat (p.len a.1))) else Bool.false)<|
 opt.need _ (p.rowOk a.1 (p.add 0 (p.nat a.2.2.1)) [ci])<|
 opt.need _ (bif (p.cmp .geq a.2.1 (0:Int)) then (p.cmp .lss a.2.1 (p.ofNat (p.len a.1))) else Bool.false)<|
 opt.need _ (p.rowOk a.1 (p.add 0 (p.nat a.2.1)) [ci])<|
 opt.need _ (bif (p.cmp .geq a.2.1 (0:Int)) then (p.cmp .lss a.2.1 (p.ofNat (p.len a.1))) else Bool.false)<|
 opt.need _ (p.rowOk a.1 (p.add 0 (p.nat a.2.1)) [ci])<|
 opt.need _ (bif (p.cmp .geq a.2.2.1 (0:Int)) then (p.cmp .lss a.2.2.1 (p.ofNat (p.len a.1))) else Bool.false)<|
 opt.need _ (p.rowOk (p.set a.1 (p.add 0 (p.nat a.2.1)) [(D.int .i64 (p.rdI a.1 (p.add 0 (p.nat a.2.2.1)) 0))]) (p.add 0 (p.nat a.2.2.1)) [ci])<|
 opt.need _ (p.eqN 0 0)<|
 opt.need _ (p.eqN (p.len a.1) (p.len (p.set (p.set a.1 (p.add 0 (p.nat a.2.1)) [(D.int .i64 (p.rdI a.1 (p.add 0 (p.nat a.2.2.1)) 0))]) (p.add 0 (p.nat a.2.2.1)) [(D.int .i64 (p.rdI a.1 (p.add 0 (p.nat a.2.1)) 0))])))<|
 opt.ret _ (Sum.inl ((p.set (p.set a.1 (p.add 0 (p.nat a.2.1)) [(D.int .i64 (p.rdI a.1 (p.add 0 (p.nat a.2.2.1)) 0))]) (p.add 0 (p.nat a.2.2.1)) [(D.int .i64 (p.rdI a.1 (p.add 0 (p.nat a.2.1)) 0))]),((p.ar .add .i64 a.2.1 (1:Int)),((p.ar .sub .i64 a.2.2.1 (1:Int)),()))))) (
 opt.ret _ (Sum.inr (a.1,()))))
def g72 (it:It):(p:Prim)→(LD×Unit)→Option ((LD×Unit)):=
 fun p x=>
 opt.need _ (p.eqN 0 0)<|
 opt.need _ (p.eqN (p.len x.1) (p.len x.1))<|
 opt.bnd ((LD×Unit)) _ (
 it _ _ (x8q p) (x.1,((0:Int),((p.ar .sub .i64 (p.ofNat (p.len x.1)) (1:Int)),())))) fun a=>
 opt.ret _ (a.1,())
def G72:=g72 it0
theorem ok72:CtrOk PG w9g (G72 std):=okF (a:=an72) (l:=la72) (gN) (by kernel_rfl) fun _ _=>by kernel_rfl
def w6d:Ctr:=
 ⟨37,[.list 1],[],[(.ret,⟨[(0, .tuple [.list 1, .int .i64])],[],1⟩)]⟩
def la37:List LA:=
 [⟨37,[false,true,false,true,true,true,true,true,true,true,true],0,⟨⟨[(4, .vec 0 1),(6, .vec 1 1),(7, .int .i64),(8, .vec 2 1),(9, .int .i64),(10, .int .i64),(29, .vec 1 1),(30, .int .i64),(31, .int .i64)],[.row [ci], .row [ci], .row [(CK.list 1)]],70⟩,[((AX.exit 0),⟨[(8, .vec 0 1)],[.row [(CK.list 1)]],70⟩)]⟩⟩]
def ja37:List JA:=
 [⟨37,[true,true,true,true,false,false,true,true,false,false,true,false,true,true,true,true,true,true,true,true],0,[(AX.normal,⟨[(4, .vec 0 1),(6, .vec 1 1),(7, .int .i64),(8, .vec 2 1),(9, .int .i64),(10, .int .i64),(29, .vec 1 1),(30, .int .i64),(31, .int .i64)],[.row [ci], .row [ci], .row [(CK.list 1)]],70⟩)]⟩]
def v4g:List CF:=
 [⟨w58,G73⟩,⟨w9g,G72⟩,⟨w59,G71⟩,⟨x7z,G35⟩]
def an37:Anns:=
 ⟨v4g,ja37,[⟨37,[false,true,false,true,true,true,true,false,false,true,true,false,false,true,false,true,true,true,true,true,true,true,true],⟨[(4, .vec 0 1),(6, .vec 1 1),(7, .int .i64),(8, .vec 2 1),(10, .int .i64),(13, .int .i64),(14, .list 1),(29, .vec 1 1),(30, .int .i64),(31, .int .i64)],[.row [ci], .row [ci], .row [(CK.list 1)]],70⟩⟩]⟩
def y7b (it:It) (p:Prim):(LD×(LD×(LD×T20)))→Option ((LD×(LD×(LD×T20)))⊕(LD×Unit)):=
 fun a=>opt.run _ (
 opt.ask _ (p.cmp .lss a.2.2.2.2.2.2.2.1 a.2.2.2.2.2.2.1) (
 opt.need _ (bif (p.cmp .geq a.2.2.2.2.2.2.2.1 (0:Int)) then (p.cmp .lss a.2.2.2.2.2.2.2.1 (p.ofNat (p.len a.2.1))) else Bool.false)<|
 opt.need _ (p.rowOk a.2.1 (p.add 0 (p.nat a.2.2.2.2.2.2.2.1)) [ci])<|
 opt.need _ (bif (p.cmp .geq (p.rdI a.2.1 (p.add 0 (p.nat a.2.2.2.2.2.2.2.1)) 0) (0:Int)) then (p.cmp .lss (p.rdI a.2.1 (p.add 0 (p.nat a.2.2.2.2.2.2.2.1)) 0) (p.ofNat (p.len a.1))) else Bool.false)<|
 opt.need _ (p.rowOk a.1 (p.add 0 (p.nat (p.rdI a.2.1 (p.add 0 (p.nat a.2.2.2.2.2.2.2.1)) 0))) [ci])<|
 opt.need _ (p.cmp .neq (2:Int) (0:Int))<|
 opt.bnd ((LD×(LD×(LD×T20)))) _ (
 opt.run ((LD×(LD×(LD×T20)))) (
 opt.ask _ (p.cmp .eql (p.ar .add .i64 a.2.2.2.2.2.1 (p.rdI a.1 (p.add 0 (p.nat (p.rdI a.2.1 (p.add 0 (p.nat a.2.2.2.2.2.2.2.1)) 0))) 0)) (p.ar .add .i64 (p.ar .quo .i64 (p.ar .mul .i64 (p.ar .add .i64 a.2.2.2.2.2.2.2.1 (1:Int)) (p.ar .sub .i64 (p.ar .add .i64 a.2.2.2.2.2.2.2.1 (1:Int)) (1:Int))) (2:Int)) (p.ar .mul .i64 (p.ar .add .i64 a.2.2.2.2.2.2.2.1 (1:Int)) (p.ar .sub .i64 a.2.2.2.1 (p.ar .add .i64 a.2.2.2.2.2.2.2.1 (1:Int)))))) (
 opt.need _ (p.and (p.cmp .geq a.2.2.2.2.1 (0:Int)) (p.and (p.cmp .leq a.2.2.2.2.1 (p.ar .add .i64 a.2.2.2.2.2.2.2.1 (1:Int))) (p.cmp .leq (p.ar .add .i64 a.2.2.2.2.2.2.2.1 (1:Int)) (p.ofNat (p.len a.2.1)))))<|
 opt.bnd ((LD×(LD×T5))) _ (g73 it p (a.2.1,((p.add 0 (p.nat a.2.2.2.2.1)),((p.sub (p.nat (p.ar .add .i64 a.2.2.2.2.2.2.2.1 (1:Int))) (p.nat a.2.2.2.2.1)),())))) fun b=>
 opt.need _ (p.eqN 0 0)<|
 opt.need _ (p.eqN (p.len a.1) (p.len a.1))<|
 opt.need _ (p.eqN 0 0)<|
 opt.need _ (p.eqN (p.len a.2.1) (p.len b.1))<|
 opt.need _ (p.eqN 0 0)<|
 opt.need _ (p.eqN (p.len a.2.2.1) (p.len a.2.2.1))<|
 opt.need _ (p.leN (p.add 0 (p.len b.2.1)) (p.len b.2.1))<|
 opt.need _ (p.eqN 0 0)<|
 opt.need _ (p.eqN (p.len a.2.1) (p.len b.1))<|
 opt.need _ (p.and (p.leN (p.add 0 1) (p.len [[(D.list Bool.false 1 (p.cut b.2.1 0 (p.len b.2.1)))]])) (p.and (p.leN (p.add 0 (p.len a.2.2.1)) (p.len a.2.2.1)) (p.and (p.leN 1 1) (p.leN (p.add (p.len a.2.2.1) 1) 1000000))))<|
 opt.need _ (p.eqN 0 0)<|
 opt.need _ (p.eqN (p.len a.1) (p.len a.1))<|
 opt.need _ (p.eqN 0 0)<|
 opt.need _ (p.eqN (p.len b.1) (p.len b.1))<|
 opt.need _ (p.eqN 0 0)<|
 opt.need _ (p.eqN (p.add (p.len a.2.2.1) 1) (p.len (p.app (p.cut a.2.2.1 0 (p.len a.2.2.1)) (p.cut [[(D.list Bool.false 1 (p.cut b.2.1 0 (p.len b.2.1)))]] 0 1))))<|
 opt.need _ (p.eqN 0 0)<|
 opt.need _ (p.eqN (p.len b.1) (p.len b.1))<|
 opt.ret _ (a.1,(b.1,((p.app (p.cut a.2.2.1 0 (p.len a.2.2.1)) (p.cut [[(D.list Bool.false 1 (p.cut b.2.1 0 (p.len b.2.1)))]] 0 1)),(a.2.2.2.1,((p.ar .add .i64 a.2.2.2.2.2.2.2.1 (1:Int)),((p.ar .add .i64 a.2.2.2.2.2.1 (p.rdI a.1 (p.add 0 (p.nat (p.rdI a.2.1 (p.add 0 (p.nat a.2.2.2.2.2.2.2.1)) 0))) 0)),(a.2.2.2.2.2.2.1,(a.2.2.2.2.2.2.2.1,()))))))))) (
 opt.need _ (p.eqN 0 0)<|
 opt.need _ (p.eqN (p.len a.1) (p.len a.1))<|
 opt.need _ (p.eqN 0 0)<|
 opt.need _ (p.eqN (p.len a.2.1) (p.len a.2.1))<|
 opt.need _ (p.eqN 0 0)<|
 opt.need _ (p.eqN (p.len a.2.2.1) (p.len a.2.2.1))<|
 opt.need _ (p.eqN 0 0)<|
 opt.need _ (p.eqN (p.len a.2.1) (p.len a.2.1))<|
 opt.ret _ (a.1,(a.2.1,(a.2.2.1,(a.2.2.2.1,(a.2.2.2.2.1,((p.ar .add .i64 a.2.2.2.2.2.1 (p.rdI a.1 (p.add 0 (p.nat (p.rdI a.2.1 (p.add 0 (p.nat a.2.2.2.2.2.2.2.1)) 0))) 0)),(a.2.2.2.2.2.2.1,(a.2.2.2.2.2.2.2.1,()))))))))))) fun c=>
 opt.need _ (p.eqN 0 0)<|
 opt.need _ (p.eqN (p.len c.1) (p.len c.1))<|
 opt.need _ (p.eqN 0 0)<|
 opt.need _ (p.eqN (p.len c.2.1) (p.len c.2.1))<|
 opt.need _ (p.eqN 0 0)<|
 opt.need _ (p.eqN (p.len c.2.2.1) (p.len c.2.2.1))<|
 opt.need _ (p.eqN 0 0)<|
 opt.need _ (p.eqN (p.len c.2.1) (p.len c.2.1))<|
 opt.ret _ (Sum.inl (c.1,(c.2.1,(c.2.2.1,(c.2.2.2.1,(c.2.2.2.2.1,(c.2.2.2.2.2.1,(c.2.2.2.2.2.2.1,((p.ar .add .i64 c.2.2.2.2.2.2.2.1 (1:Int)),())))))))))) (
 opt.need _ (p.eqN 0 0)<|
 opt.need _ (p.eqN (p.len a.2.2.1) (p.len a.2.2.1))<|
 opt.ret _ (Sum.inr (a.2.2.1,()))))
def g37 (it:It):(p:Prim)→(LD×Unit)→Option ((LD×T1)):=
 fun p x=>
 opt.bnd ((LD×T1)) _ (g35 it p (x.1,())) fun a=>
 opt.ask _ (p.cmp .neq a.2.1 (0:Int)) (
 opt.ret _ ([],(a.2.1,()))) (
 opt.need _ (p.and (p.leN (p.add 0 (p.len a.1)) (p.len a.1)) Bool.true)<|
 opt.bnd ((LD×Unit)) _ (g71 it p ((p.cut a.1 0 (p.len a.1)),())) fun b=>
 opt.need _ (p.plain b.1)<|
 opt.need _ (p.eqN 0 0)<|
 opt.need _ (p.eqN (p.len b.1) (p.len b.1))<|
 opt.bnd ((LD×Unit)) _ (g72 it p (b.1,())) fun c=>
 opt.need _ (p.eqN 0 0)<|
 opt.need _ (p.eqN (p.len a.1) (p.len a.1))<|
 opt.need _ (p.eqN 0 0)<|
 opt.need _ (p.eqN (p.len b.1) (p.len c.1))<|
 opt.need _ (p.eqN 0 0)<|
 opt.need _ (p.eqN (p.len b.1) (p.len c.1))<|
 opt.bnd ((LD×Unit)) _ (
 it _ _ (y7b it p) (a.1,(c.1,([],((p.ofNat (p.len a.1)),((0:Int),((0:Int),((p.ofNat (p.len b.1)),((0:Int),()))))))))) fun d=>
 opt.need _ (p.leN (p.add 0 (p.len d.1)) (p.len d.1))<|
 opt.ret _ ((p.cut d.1 0 (p.len d.1)),((0:Int),())))
def G37:=g37 it0
theorem v6n:CtrOk PG w6d (G37 std):=okF (a:=an37) (l:=la37) (gC v6i (gC ok72 (gC v6j (gC v03 (gN))))) (by kernel_rfl) fun _ _=>by kernel_rfl
end Go.Am
end
section
namespace Go.Am
open T11
variable {fl:List Int→Bool}
def fz:List Int→Bool:=fun _=>false
def x5l (d:List (List Int)) (i:Nat) (R:Nat→Bool):Nat→Bool:=fun x=>R x||(R i&&bt d i x)
def z7w (d:List (List Int)) (R:Nat→Bool):Nat→Nat→Bool
 |0=>R
 |i+1=>x5l d i (z7w d R i)
def y7i (d:List (List Int)) (R:Nat→Bool):Nat→Nat→Bool
 |0=>R
 |r+1=>z7w d (y7i d R r) d.length
def y9d (d:List (List Int)) (i:Nat):Nat→Bool:=y7i d (fun x=>decide (x=i)) d.length
theorem z6v {d:List (List Int)} {R:Nat→Bool} {i j:Nat} (hij:i≤j) {x:Nat} (h:z7w d R i x=true):z7w d R j x=true:=by
 induction j with
 |zero=>rwa [show i=0 by omega] at h
 |succ j ih=>
  by_cases e:i=j+1
  ·rwa [e] at h
  ·rw [z7w,x5l,ih (by omega)]; rfl
theorem y8i {d:List (List Int)} {R:Nat→Bool} (h:∀ x,x<d.length→z7w d R d.length x=true→R x=true):z88 (bt d) d.length R:=by
 intro i k hi hk hR hb
 refine h k hk (z6v (i:=i+1) (by omega) ?_)
 rw [z7w,x5l,z6v (i:=0) (j:=i) (by omega) hR,hb]
 simp
theorem x6e {d:List (List Int)} {R:Nat→Bool} (h:z88 (bt d) d.length R) (i:Nat) (hi:i≤d.length):∀ x,x<d.length→z7w d R i x=R x:=by
 induction i with
 |zero=>intro x _; rfl
 |succ i ih=>
  intro x hx
  have ih:=ih (by omega)
  rw [z7w,x5l,ih x hx,ih i (by omega)]
  cases hRx:R x with
  |true=>rfl
  |false=>
   cases hRi:R i with
   |false=>rfl
   |true=>
    cases hb:bt d i x with
    |false=>rfl
    |true=>rw [h i x (by omega) hx hRi hb] at hRx; cases hRx
theorem x95 {d:List (List Int)} {R C:Nat→Bool} (hC:z88 (bt d) d.length C) (h:∀ x,x<d.length→R x=true→C x=true) (i:Nat) (hi:i≤d.length):∀ x,x<d.length→z7w d R i x=true→C x=true:=by
 induction i with
 |zero=>exact h
 |succ i ih=>
  intro x hx hp
  have ih:=ih (by omega)
  rw [z7w,x5l,Bool.or_eq_true,Bool.and_eq_true] at hp
  rcases hp with hp|⟨hp,hb⟩
  ·exact ih x hx hp
  ·exact hC i x (by omega) hx (ih i (by omega) hp) hb
theorem w38 {d:List (List Int)} {R C:Nat→Bool} (hC:z88 (bt d) d.length C) (h:∀ x,x<d.length→R x=true→C x=true) (r:Nat):∀ x,x<d.length→y7i d R r x=true→C x=true:=by
 induction r with
 |zero=>exact h
 |succ r ih=>exact x95 hC ih d.length (Nat.le_refl _)
theorem x3r {d:List (List Int)} {R:Nat→Bool} (h:1≤cnt d.length R) (r:Nat):z88 (bt d) d.length (y7i d R r)∨r+1≤cnt d.length (y7i d R r):=by
 induction r with
 |zero=>exact .inr h
 |succ r ih=>
  by_cases hc:z88 (bt d) d.length (y7i d R r)
  ·refine .inl fun i k hi hk hR hb=>?_
   have e:=x6e hc d.length (Nat.le_refl _)
   have hR:z7w d (y7i d R r) d.length i=true:=hR
   show z7w d (y7i d R r) d.length k=true
   rw [e i hi] at hR
   rw [e k hk]; exact hc i k hi hk hR hb
  ·rcases ih with ih|ih
   ·exact absurd ih hc
   ·refine .inr ?_
    have hle:cnt d.length (y7i d R r)≤cnt d.length (z7w d (y7i d R r) d.length):=z55 fun x hx hp=>z6v (i:=0) (by omega) hp
    have hne:cnt d.length (y7i d R r)≠cnt d.length (z7w d (y7i d R r) d.length):=by
     intro e
     refine hc (y8i fun x hx hp=>?_)
     have:=y2a (n:=d.length) (f:=fun i=>o1 (y7i d R r i)) (g:=fun i=>o1 (z7w d (y7i d R r) d.length i)) (fun i hi=>by
      cases hq:y7i d R r i with
      |false=>simp [o1]
      |true=>rw [z6v (i:=0) (by omega) hq]; exact Nat.le_refl _) e x hx
     simp only [hp,o1,cond_true] at this
     cases hq:y7i d R r x with
     |true=>rfl
     |false=>rw [hq] at this; cases this
    show r+1+1≤cnt d.length (z7w d (y7i d R r) d.length)
    omega
theorem x51 {d:List (List Int)} {R:Nat→Bool} (r:Nat) {x:Nat} (h:R x=true):y7i d R r x=true:=by
 induction r with
 |zero=>exact h
 |succ r ih=>exact z6v (i:=0) (by omega) ih
theorem y9c (d:List (List Int)) {i:Nat} (hi:i<d.length):Rch (bt d) d.length i (y9d d i):=by
 refine ⟨x51 _ (by simp),?_,fun C hC hCi k hk hR=>w38 hC (fun x hx hx'=>by rw [of_decide_eq_true hx']; exact hCi) _ k hk hR⟩
 have h1:1≤cnt d.length fun x=>decide (x=i):=y63 hi (by simp)
 rcases x3r h1 d.length with h|h
 ·exact h
 ·have:=y3y d.length (y9d d i)
  have h:d.length+1≤cnt d.length (y9d d i):=h
  omega
theorem w7s (l:List Int):[D.list false 1 (z0f l)]=eLf fz l:=rfl
theorem w07 (a:List (List Int)) (l:List Int):z0x fz (a++[l])=z0x fz a++[eLf fz l]:=by simp [z0x]
def rcD (d:List (List Int)) (i:Nat):Nat:=cnt d.length (y9d d i)
theorem x1v (d:List (List Int)):RC (bt d) d.length (rcD d):=fun i hi=>⟨y9d d i,y9c d hi,rfl⟩
def toI (l:List Nat):List Int:=l.map fun (n:Nat)=>(n:Int)
theorem w3x (a b:List Nat):toI (a++b)=toI a++toI b:=by simp [toI]
theorem y90 (l:List Nat):(toI l).length=l.length:=by simp [toI]
def z1f (d:List (List Int)):List (List Int):=(RG (rcD d) d.length d.length).map toI
def x1r (l:List Int) (t:Nat):List Int:=(List.range l.length).map fun q=>if q<t∨l.length - t≤q then gI l (l.length - 1 - q) else gI l q
theorem z4k (l:List Int) (t:Nat):(x1r l t).length=l.length:=by simp [x1r]
theorem y1a (l:List Int) (t q:Nat) (hq:q<l.length):gI (x1r l t) q=if q<t∨l.length - t≤q then gI l (l.length - 1 - q) else gI l q:=by
 rw [gI,x1r,List.getD_eq_getElem?_getD,List.getElem?_map,List.getElem?_range hq]; rfl
theorem x53 (l:List Int):x1r l 0=l:=y8y (z4k l 0) fun q hq=>by
 rw [z4k] at hq
 rw [y1a l 0 q hq,if_neg (by omega)]
theorem y5f (l:List Int) (q:Nat) (hq:q<l.length):gI l.reverse q=gI l (l.length - 1 - q):=by
 rw [gI,gI,List.getD_eq_getElem?_getD,List.getD_eq_getElem?_getD,List.getElem?_reverse hq]
theorem x55 (l:List Int):x1r l (l.length / 2)=l.reverse:=y8y (by rw [z4k,List.length_reverse]) fun q hq=>by
 rw [z4k] at hq
 rw [y1a l _ q hq,y5f l q hq]
 split
 ·rfl
 ·congr 1; omega
theorem y8x {l:List Int} {j:Nat} (hj:j<l.length) (v:Int) (q:Nat):gI (l.set j v) q=if q=j then v else gI l q:=by
 rw [gI,gI,List.getD_eq_getElem?_getD,List.getD_eq_getElem?_getD,List.getElem?_set]
 by_cases h:j=q
 ·subst h; rw [if_pos rfl,if_pos hj,if_pos rfl]; rfl
 ·rw [if_neg h,if_neg (Ne.symm h)]
theorem x54 (l:List Int) (t:Nat) (ht:t<l.length / 2):((x1r l t).set t (gI (x1r l t) (l.length - 1 - t))).set (l.length - 1 - t) (gI (x1r l t) t)=x1r l (t+1):=
 y8y (by rw [List.length_set,List.length_set,z4k,z4k]) fun q hq=>by
  rw [List.length_set,List.length_set,z4k] at hq
  rw [y8x (by rw [List.length_set,z4k]; omega),y8x (by rw [z4k]; omega),y1a l _ q hq,y1a l _ q hq,y1a l _ _ (by omega),y1a l _ _ (by omega)]
  by_cases h1:q=l.length - 1 - t
  ·subst h1
   rw [if_pos rfl,if_neg (by omega),if_pos (by omega)]
   congr 1; omega
  ·rw [if_neg h1]
   by_cases h2:q=t
   ·subst h2
    rw [if_pos rfl,if_neg (by omega),if_pos (by omega)]
   ·rw [if_neg h2]
    by_cases h3:q<t∨l.length - t≤q
    ·rw [if_pos h3,if_pos (by omega)]
    ·rw [if_neg h3,if_neg (by omega)]
theorem v0l (l:List Int) (hl:l.length≤1000):G72 std (z0f l,())=some (z0f l.reverse,()):=by
 have key:=z40 (b:=x8q std) (l.length / 2) (fun t=>(z0f (x1r l t),((t:Int),((l.length:Int) - 1 - (t:Int),())))) (z0f l.reverse,()) (fun t ht=>by
  have hw:=z06 (i:=t) (by omega)
  have hw2:IntKind.i64.wrap ((l.length:Int) - 1 - (t:Int) - 1)=(l.length:Int) - 1 - ((t+1:Nat):Int):=by rw [z2s]<;>omega
  have hlt:(t:Int)<(l.length:Int) - 1 - (t:Int):=by omega
  have h0:(0:Int)≤t:=by omega
  have h1:(t:Int)<l.length:=by omega
  have h2:(0:Int)≤(l.length:Int) - 1 - (t:Int):=by omega
  have h3:(l.length:Int) - 1 - (t:Int)<l.length:=by omega
  have e:((l.length:Int) - 1 - (t:Int)).toNat=l.length - 1 - t:=by omega
  have hrl:=z4k l t
  have hx:=z2f (l:=x1r l t) (q:=t) (by omega)
  have hy:=z2f (l:=x1r l t) (q:=l.length - 1 - t) (by omega)
  rw [←x54 l t ht]
  generalize x1r l t=B at hrl hx hy⊢
  have hEl:(B.map eI).length=l.length:=by rw [List.length_map,hrl]
  have hsj:((B.map eI).set t (eI (gI B (l.length - 1 - t))))[l.length - 1 - t]?=some (eI (gI B (l.length - 1 - t))):=by rw [List.getElem?_set_ne (by omega),List.getElem?_map,hy]; rfl
  have hms:((B.set t (gI B (l.length - 1 - t))).set (l.length - 1 - t) (gI B t)).map eI=((B.map eI).set t (eI (gI B (l.length - 1 - t)))).set (l.length - 1 - t) (eI (gI B t)):=by rw [List.map_set,List.map_set]
  simp only [x8q,z1m,z1n,z0f,z0r,z2u,eq_self,not_true,not_false_eq_true,decide_true,decide_false,Bool.not_true,Bool.not_false,Int.reduceLT,Int.reduceNeg,Int.reduceGT,cond_true,cond_false,hlt,h0,h1,h2,h3,e,hx,hy,hEl,hrl,ge_iff_le,z0j,z00,hw,hw2,z42,hms,hsj,List.length_set]) (by
  have hn:¬ (((l.length / 2:Nat):Int)<(l.length:Int) - 1 - ((l.length / 2:Nat):Int)):=by omega
  rw [x55]
  simp only [x8q,z1m,z1n,eq_self,not_true,not_false_eq_true,decide_true,decide_false,Bool.not_true,Bool.not_false,Int.reduceLT,Int.reduceNeg,Int.reduceGT,cond_true,cond_false,hn])
 rw [x53] at key
 have hw:IntKind.i64.wrap ((l.length:Int) - 1)=(l.length:Int) - 1:=by rw [z2s]<;>omega
 have key':it0 _ _ (x8q std) (z0f l,((0:Int),((l.length:Int) - 1,())))=some (z0f l.reverse,()):=by
  have:=key
  simp only [Int.natCast_zero,Int.sub_zero] at this
  exact this
 unfold G72
 simp only [g72,z1m,z1n,z0t,z00,hw,key']
def byL (d:List (List Int)):List Int:=(y06 (z1r d)).reverse
def byN (d:List (List Int)):List Nat:=(byL d).map Int.toNat
theorem y4z (w:List Int):(y06 w).Perm (y2m w.length):=z6m _ _
theorem y3b (w:List Int):(y06 w).length=w.length:=by rw [y06,z25,z8x]
theorem y1h (d:List (List Int)):(byL d).length=d.length:=by rw [byL,List.length_reverse,y3b,z13]
theorem x1c (d:List (List Int)) {q:Nat} (hq:q<d.length):gI (byL d) q=((at_ (byN d) q:Nat):Int):=by
 have hx:=z2f (l:=byL d) (q:=q) (by rw [y1h]; exact hq)
 have hm:gI (byL d) q∈y06 (z1r d):=List.mem_reverse.1 (List.mem_of_getElem? hx)
 have:=x3a.1 ((y4z _).mem_iff.1 hm)
 have e:at_ (byN d) q=(gI (byL d) q).toNat:=by
  rw [at_,byN,List.getD_eq_getElem?_getD,List.getElem?_map,hx]; rfl
 rw [e]; omega
theorem z48 (d:List (List Int)):y4o d.length (byN d):=by
 have h1:(byL d).Perm (y2m d.length):=by
  have:=(List.reverse_perm (y06 (z1r d))).trans (y4z (z1r d))
  rwa [z13] at this
 have h2:=h1.map Int.toNat
 have e:(y2m d.length).map Int.toNat=List.range d.length:=by
  rw [y2m,List.map_map]
  exact (List.map_congr_left fun a _=>by simp).trans (List.map_id _)
 rw [e] at h2
 exact h2
theorem y2l {d:List (List Int)} (h:z02 d=0):x47 (bt d) d.length (byN d):=by
 refine ⟨z48 d,fun q r hqr hr=>?_⟩
 have hk:∀ q,q<d.length→key (z1r d) (gI (byL d) q)=((wn d (at_ (byN d) q):Nat):Int):=fun q hq=>by
  rw [x1c d hq,key]
  have hlt:=(z48 d).lt hq
  have hw:=z6i h hlt
  rw [show (((at_ (byN d) q:Nat):Int)).toNat=at_ (byN d) q by omega,gI,List.getD_eq_getElem?_getD,hw]; rfl
 have h1:=hk q (by omega)
 have h2:=hk r hr
 have hrl:=y3b (z1r d)
 have hwl:=z13 d
 rw [byL,y5f _ _ (by omega)] at h1 h2
 have h3:=y24 (key (z1r d)) (y2m (z1r d).length) (d.length - 1 - r) (d.length - 1 - q) (by omega) (by rw [z8x,hwl]; omega)
 rw [←y06] at h3
 rw [hrl,hwl] at h1 h2
 rw [h1,h2] at h3
 have h3:wn d (at_ (byN d) r)≤wn d (at_ (byN d) q):=by omega
 exact h3
theorem w3r {d:List (List Int)} (h:z02 d=0) (k:Nat) (hk:k≤d.length):sm k (fun q=>wn d (at_ (byN d) q))≤100:=by
 have hl:=z21 h
 have:=x5v (n:=k) (f:=fun q=>wn d (at_ (byN d) q)) (g:=fun _=>10) fun q hq=>by
  have:=w3s h (i:=at_ (byN d) q) ((z48 d).lt (by omega)); omega
 rw [z5y] at this; omega
theorem w53 {d:List (List Int)} (h:z02 d=0) (k:Nat) (hk:k≤d.length) (hk0:1≤k):
  ((sm k (fun q=>wn d (at_ (byN d) q)):Nat):Int)=IntKind.i64.wrap (IntKind.i64.wrap ((IntKind.i64.wrap ((k:Int)*IntKind.i64.wrap ((k:Int) - 1))).tdiv 2)+IntKind.i64.wrap ((k:Int)*IntKind.i64.wrap ((d.length:Int) - (k:Int))))↔cut (byR (bt d) (byN d)) d.length k:=by
 have hl:=z21 h
 have e1:IntKind.i64.wrap ((k:Int) - 1)=(k:Int) - 1:=by rw [z2s]<;>omega
 have h2:=w6n k
 have hc:=x08 (w:=k) (by omega)
 have e0:(k:Int)*((k:Int) - 1)=2*(c2 k:Nat):=by
  have e1:((k:Int) - 1)=((k - 1:Nat):Int):=by omega
  rw [e1]
  have:=congrArg (fun (n:Nat)=>(n:Int)) h2
  simp only [Int.natCast_mul] at this
  rw [←this]; rfl
 have e2:IntKind.i64.wrap ((k:Int)*((k:Int) - 1))=(k:Int)*((k:Int) - 1):=by rw [z2s]<;>rw [e0]<;>omega
 have e3:IntKind.i64.wrap (c2 k:Int)=(c2 k:Int):=by rw [z2s]<;>omega
 have e4:IntKind.i64.wrap ((d.length:Int) - (k:Int))=((d.length - k:Nat):Int):=by rw [z2s]<;>omega
 have hmul:k*(d.length - k)≤100:=by
  have:=Nat.mul_le_mul (show k≤10 by omega) (show d.length - k≤10 by omega); omega
 have e5:IntKind.i64.wrap ((k:Int)*((d.length - k:Nat):Int))=((k*(d.length - k):Nat):Int):=by
  rw [←Int.natCast_mul,z2s]<;>omega
 rw [e1,e2,w3f,e3,e4,e5]
 have e6:IntKind.i64.wrap ((c2 k:Int)+((k*(d.length - k):Nat):Int))=((c2 k+k*(d.length - k):Nat):Int):=by rw [z2s]<;>omega
 rw [e6]
 have e7:sm k (fun q=>cnt d.length (byR (bt d) (byN d) q))=sm k (fun q=>wn d (at_ (byN d) q)):=z2m fun q hq=>x1a (z48 d) q
 rw [cut,e7]
 omega
def z3r (d:List (List Int)):Nat→Nat
 |0=>0
 |i+1=>if cut (byR (bt d) (byN d)) d.length (i+1) then i+1 else z3r d i
theorem x2f (d:List (List Int)) (i:Nat):z3r d i≤i∧cut (byR (bt d) (byN d)) d.length (z3r d i)∧∀ m,z3r d i<m→m≤i→¬ cut (byR (bt d) (byN d)) d.length m:=by
 induction i with
 |zero=>exact ⟨Nat.le_refl _,w1h _ _,fun m h1 h2=>by simp [z3r] at h1; omega⟩
 |succ i ih=>
  obtain ⟨h1,h2,h3⟩:=ih
  rw [z3r]
  by_cases c:cut (byR (bt d) (byN d)) d.length (i+1)
  ·rw [if_pos c]; exact ⟨Nat.le_refl _,c,fun m a b=>by omega⟩
  ·rw [if_neg c]
   refine ⟨by omega,h2,fun m a b=>?_⟩
   by_cases e:m=i+1
   ·subst e; exact c
   ·exact h3 m a (by omega)
theorem w95 (d:List (List Int)):byL d=toI (byN d):=by
 apply y8y
 ·rw [y1h,y90,(z48 d).len]
 ·intro q hq
  rw [y1h] at hq
  rw [x1c d hq]
  have:=(z48 d).get hq
  rw [gI,toI,List.getD_eq_getElem?_getD,List.getElem?_map,this]; rfl
theorem x9q {X:List Nat} (hn:X.Nodup) {l:List Nat} (hl:l.Pairwise (· < ·)) (hm:∀ i,i∈l↔i∈X):z1o id (toI X)=toI l:=by
 have hp:=z6m id (toI X)
 have hpw:=x1k id (toI X)
 have hge:∀ x∈z1o id (toI X),∃ i∈X,x=(i:Int):=fun x hx=>by
  have:=hp.mem_iff.1 hx
  rw [toI,List.mem_map] at this
  obtain ⟨i,hi,rfl⟩:=this
  exact ⟨i,hi,rfl⟩
 have hnd:(z1o id (toI X)).Nodup:=hp.nodup_iff.2 (by
  rw [toI,List.nodup_iff_pairwise_ne,List.pairwise_map]
  exact hn.imp fun {a b} hab=>by omega)
 have e:z1o id (toI X)=toI ((z1o id (toI X)).map Int.toNat):=by
  generalize z1o id (toI X)=S at hge⊢
  rw [toI,List.map_map]
  refine (List.map_id _).symm.trans (List.map_congr_left fun x hx=>?_)
  obtain ⟨i,_,rfl⟩:=hge x hx
  simp
 rw [e]
 congr 1
 refine w2l ?_ hl fun i=>?_
 ·rw [List.pairwise_map]
  refine (hpw.and (List.nodup_iff_pairwise_ne.1 hnd)).imp_of_mem fun {a b} ha hb hab=>?_
  obtain ⟨i,_,rfl⟩:=hge a ha
  obtain ⟨j,_,rfl⟩:=hge b hb
  simp only [id] at hab
  omega
 ·rw [hm,List.mem_map]
  constructor
  ·rintro ⟨x,hx,rfl⟩
   obtain ⟨i,hi,rfl⟩:=hge x hx
   simpa using hi
  ·intro hi
   exact ⟨(i:Int),hp.mem_iff.2 (by rw [toI,List.mem_map]; exact ⟨i,hi,rfl⟩),by simp⟩
theorem w1u {d:List (List Int)} (h:z02 d=0):
  z46 (y7b it0 std) (z0f (z1r d),(z0f (byL d),([],((d.length:Int),((0:Int),((0:Int),((d.length:Int),((0:Int),()))))))))=some (z0x fz (z1f d),()):=by
 have hl:=z21 h
 have ht:=z4w h
 have hs:=y2l h
 have hrc:=x1v d
 have key:=z40 (b:=y7b it0 std) d.length (fun i=>(z0f (z1r d),(z0f (byL d),(z0x fz ((RG (rcD d) d.length (z3r d i)).map toI),((d.length:Int),(((z3r d i:Nat):Int),(((sm i (fun q=>wn d (at_ (byN d) q)):Nat):Int),((d.length:Int),((i:Int),()))))))))) (z0x fz (z1f d),()) (fun i hi=>by
  have hw:=z06 (i:=i) (by omega)
  have hlt:(i:Int)<d.length:=by omega
  have h0:(0:Int)≤i:=by omega
  have hby:=z2f (l:=byL d) (q:=i) (by rw [y1h]; exact hi)
  have hbn:=x1c d hi
  rw [hbn] at hby
  have hat:=(z48 d).lt hi
  have ha0:(0:Int)≤((at_ (byN d) i:Nat):Int):=by omega
  have ha1:((at_ (byN d) i:Nat):Int)<d.length:=by omega
  have hwg:=z6i h hat
  have hwl:=z13 d
  have hbl:=y1h d
  have hsum:=w3r h (i+1) (by omega)
  rw [z2l] at hsum
  have hadd:IntKind.i64.wrap (((sm i (fun q=>wn d (at_ (byN d) q)):Nat):Int)+((wn d (at_ (byN d) i):Nat):Int))=((sm (i+1) (fun q=>wn d (at_ (byN d) q)):Nat):Int):=by
   rw [z2l,z2s]<;>omega
  have hcut:=w53 h (i+1) (by omega) (by omega)
  obtain ⟨l1,l2,l3⟩:=x2f d i
  have h2ne:¬ ((2:Int)=0):=by decide
  have hRl:(RG (rcD d) d.length (z3r d i)).length≤z3r d i:=by
   generalize z3r d i=j
   induction j with
   |zero=>exact Nat.le_refl _
   |succ j ih=>
    rw [RG]
    cases (lG (rcD d) d.length j).isEmpty<;>simp<;>omega
  rw [z3r]
  by_cases c:cut (byR (bt d) (byN d)) d.length (i+1)
  ·rw [if_pos c]
   have hc:=hcut.2 c
   have h73:g73 it0 std (z0f (byL d),(z3r d i,(i+1 - z3r d i,())))=_:=v0k (byL d) (z3r d i) (i+1 - z3r d i) (by omega) (by omega)
   have hX:((byL d).drop (z3r d i)).take (i+1 - z3r d i)=toI (((byN d).drop (z3r d i)).take (i+1 - z3r d i)):=by
    rw [w95,toI,toI,List.map_take,List.map_drop]
   have hsort:=x9q (X:=((byN d).drop (z3r d i)).take (i+1 - z3r d i)) ((z48 d).nodup.sublist ((List.take_sublist _ _).trans (List.drop_sublist _ _))) (v3b (rcD d) d.length (z3r d i))
    (w2q ht hs hrc (by omega) (by omega) l2 c fun m a b=>l3 m a (by omega))
   rw [hX,hsort] at h73
   have hR:=v0i ht hs hrc (j:=z3r d i) (k:=i+1) (by omega) (by omega) l2 c fun m a b=>l3 m a (by omega)
   rw [hR,List.map_append,List.map_cons,List.map_nil,w07]
   have hAl:(z0x fz ((RG (rcD d) d.length (z3r d i)).map toI)).length≤z3r d i:=by rw [z3o,List.length_map]; exact hRl
   generalize z0x fz ((RG (rcD d) d.length (z3r d i)).map toI)=A at hAl⊢
   generalize toI (lG (rcD d) d.length (z3r d i))=T at h73⊢
   have hle:A.length+1≤1000000:=by omega
   have hca:A.take A.length=A:=List.take_length
   have hct:(z0f T).take (z0f T).length=z0f T:=List.take_length
   have hf0:(0:Int)≤((z3r d i:Nat):Int):=by omega
   have hf1:((z3r d i:Nat):Int)≤((i+1:Nat):Int):=by omega
   have hf2:((i+1:Nat):Int)≤d.length:=by omega
   have hbl':(z0f (byL d)).length=d.length:=by rw [z0t,hbl]
   have hwl':(z0f (z1r d)).length=d.length:=by rw [z0t,hwl]
   have hby':(z0f (byL d))[i]?=some (eI ((at_ (byN d) i:Nat):Int)):=by rw [z0f,List.getElem?_map,hby]; rfl
   have hwg':(z0f (z1r d))[at_ (byN d) i]?=some (eI ((wn d (at_ (byN d) i):Nat):Int)):=by rw [z0f,List.getElem?_map,hwg]; rfl
   generalize z0f (byL d)=BY at hbl' hby' h73⊢
   generalize z0f (z1r d)=WL at hwl' hwg'⊢
   simp only [y7b,z1m,z1n,z0r,z2u,eq_self,not_true,not_false_eq_true,decide_true,decide_false,Bool.not_true,Bool.not_false,Int.reduceLT,Int.reduceNeg,Int.reduceGT,cond_true,cond_false,hlt,h0,ge_iff_le,hbl',hwl',hby',hwg',ha0,ha1,z0j,z00,z8i,z8h,hw,hadd,h2ne, ←hc,h73,hf0,hf1,hf2,hct,hca,hle,w7s,List.drop_zero,Nat.le_refl,Bool.and_true,List.take_succ_cons,List.take_zero,List.length_append,List.length_cons,List.length_nil,Nat.zero_add]
  ·rw [if_neg c]
   have hc:¬ _:=fun e=>c (hcut.1 e)
   have hbl':(z0f (byL d)).length=d.length:=by rw [z0t,hbl]
   have hwl':(z0f (z1r d)).length=d.length:=by rw [z0t,hwl]
   have hby':(z0f (byL d))[i]?=some (eI ((at_ (byN d) i:Nat):Int)):=by rw [z0f,List.getElem?_map,hby]; rfl
   have hwg':(z0f (z1r d))[at_ (byN d) i]?=some (eI ((wn d (at_ (byN d) i):Nat):Int)):=by rw [z0f,List.getElem?_map,hwg]; rfl
   generalize z0f (byL d)=BY at hbl' hby'⊢
   generalize z0f (z1r d)=WL at hwl' hwg'⊢
   simp only [y7b,z1m,z1n,z0r,z2u,eq_self,not_true,not_false_eq_true,decide_true,decide_false,Bool.not_true,Bool.not_false,Int.reduceLT,Int.reduceNeg,Int.reduceGT,cond_true,cond_false,hlt,h0,ge_iff_le,hbl',hwl',hby',hwg',ha0,ha1,z0j,z00,z8i,z8h,hw,hadd,h2ne,hc]) (by
  have hn:¬ (d.length:Int)<d.length:=by omega
  have e:z3r d d.length=d.length:=by
   obtain ⟨l1,l2,l3⟩:=x2f d d.length
   refine Nat.le_antisymm l1 (Nat.le_of_not_lt fun hlt=>l3 d.length hlt (Nat.le_refl _) (w54 (y7c ht (z48 d))))
  rw [e]
  simp only [y7b,z1m,z1n,eq_self,not_true,not_false_eq_true,decide_true,decide_false,Bool.not_true,Bool.not_false,Int.reduceLT,Int.reduceNeg,Int.reduceGT,cond_true,cond_false,hn,z1f])
 exact key
theorem x4n (l:List Int):std.plain (z0f l)=true:=by
 show (z0f l).all (fun r=>r.all z6u)=true
 rw [z0f,List.all_map,List.all_eq_true]
 intro x _; rfl
theorem w3o (d:List (List Int)) (hr:∀ l∈d,l.length≤1000000):G37 std (z0x fl d,())=some (if z02 d=0 then (z0x fz (z1f d),((0:Int),())) else ([],(z02 d,()))):=by
 have h35:g35 it0 std (z0x fl d,())=_:=x3e d hr
 unfold G37
 by_cases h:z02 d=0
 ·rw [if_pos h] at h35⊢
  have hl:=z21 h
  have hwl:=z13 d
  have hrl:=y3b (z1r d)
  have h71:g71 it0 std (z0f (z1r d),())=_:=v0m (z1r d) (by omega)
  have h72:g72 it0 std (z0f (y06 (z1r d)),())=_:=v0l (y06 (z1r d)) (by omega)
  have h37:it0 _ _ (y7b it0 std) (z0f (z1r d),(z0f (byL d),([],((d.length:Int),((0:Int),((0:Int),((d.length:Int),((0:Int),()))))))))=_:=w1u h
  have hpl:=x4n (y06 (z1r d))
  have hwl':(z0f (z1r d)).length=d.length:=by rw [z0t,hwl]
  have hrl':(z0f (y06 (z1r d))).length=d.length:=by rw [z0t,hrl,hwl]
  have hbl':(z0f (byL d)).length=d.length:=by rw [z0t,y1h]
  have htw:(z0f (z1r d)).take d.length=z0f (z1r d):=by rw [←hwl',List.take_length]
  have hgl:(z0x fz (z1f d)).take (z0x fz (z1f d)).length=z0x fz (z1f d):=List.take_length
  rw [←byL] at h72
  simp only [g37,z1m,z1n,eq_self,not_true,not_false_eq_true,decide_true,decide_false,Bool.not_true,Bool.not_false,Int.reduceLT,Int.reduceNeg,Int.reduceGT,cond_true,cond_false,h35,h,hwl',hrl',hbl',htw,List.drop_zero,Nat.le_refl,Bool.and_true,h71,hpl,h72,h37,hgl,ne_eq]
 ·rw [if_neg h] at h35⊢
  simp only [g37,z1m,z1n,eq_self,not_true,not_false_eq_true,decide_true,decide_false,Bool.not_true,Bool.not_false,Int.reduceLT,Int.reduceNeg,Int.reduceGT,cond_true,cond_false,h35,h,ne_eq]
end Go.Am
end
section
namespace Go.Am
open Go.ChangeShapes Go.WideShapes Go.ChangeAt
theorem v1k {x:D} (h:DK (.int .u8) x):∃ n:Int,x= .int .u8 n∧(Lit.int IntKind.u8 n).wf=true:=by
 match x,h with
 | .int k n,h=>obtain ⟨rfl,h⟩:=h; exact ⟨n,rfl,h⟩
theorem w7i {x:D} (h:DK (.int .u64) x):∃ n:Int,x= .int .u64 n∧(Lit.int IntKind.u64 n).wf=true:=by
 match x,h with
 | .int k n,h=>obtain ⟨rfl,h⟩:=h; exact ⟨n,rfl,h⟩
end Go.Am
end
noncomputable section
namespace Go.Am
def w6a:Ctr:=
 ⟨64,[.list 1],[],[(.ret,⟨[(0, .tuple [.list 1, .bool])],[],1⟩)]⟩
def la64:List LA:=
 [⟨64,[false,true,false,true,true,true,true,false,true],0,⟨⟨[(0, .list 1),(4, .vec 0 1),(5, .int .i64),(6, .int .i64),(12, .vec 0 1),(13, .int .i64),(14, .int .i64)],[.row [ci]],58⟩,[((AX.exit 0),⟨[(4, .vec 0 1),(6, .int .i64)],[.row [ci]],58⟩)]⟩⟩]
def ja64:List JA:=
 [⟨64,[false,true,true,true,false,false,true,true,false,false,true,false,true,true,true,true,false,true],0,[(AX.normal,⟨[(0, .list 1),(4, .vec 0 1),(5, .int .i64),(6, .int .i64),(9, .int .i64),(12, .vec 0 1),(13, .int .i64),(14, .int .i64),(48, .bool)],[.row [ci]],58⟩)]⟩]
def v34:List CF:=
 [⟨w58,G73⟩,⟨w59,G71⟩]
def an64:Anns:=
 ⟨v34,ja64,[]⟩
def v5n (p:Prim):(LD×(LD×T7))→Option ((LD×(LD×T7))⊕(LD×T1)):=
 fun a=>opt.run _ (
 opt.ask _ (p.cmp .lss a.2.2.2.2.2.1 a.2.2.2.2.1) (
 opt.need _ (bif (p.cmp .geq a.2.2.2.2.2.1 (0:Int)) then (p.cmp .lss a.2.2.2.2.2.1 (p.ofNat (p.len a.1))) else Bool.false)<|
 opt.need _ (p.rowOk a.1 (p.add 0 (p.nat a.2.2.2.2.2.1)) [ci])<|
 opt.need _ (p.rowOk a.2.1 (p.nat (p.rdI a.1 (p.add 0 (p.nat a.2.2.2.2.2.1)) 0)) [ci])<|
 opt.need _ (p.cmp .geq (p.rdI a.1 (p.add 0 (p.nat a.2.2.2.2.2.1)) 0) (0:Int))<|
 opt.bnd ((LD×(LD×T34))) _ (
 opt.run ((LD×(LD×T34))) (
 opt.need _ (p.cmp .neq (2:Int) (0:Int))<|
 opt.ask _ (p.cmp .lss (p.ar .add .i64 a.2.2.1 (p.rdI a.2.1 (p.nat (p.rdI a.1 (p.add 0 (p.nat a.2.2.2.2.2.1)) 0)) 0)) (p.ar .quo .i64 (p.ar .mul .i64 (p.ar .add .i64 a.2.2.2.2.2.1 (1:Int)) (p.ar .sub .i64 (p.ar .add .i64 a.2.2.2.2.2.1 (1:Int)) (1:Int))) (2:Int))) (
 opt.need _ (p.eqN 0 0)<|
 opt.need _ (p.eqN (p.len a.1) (p.len a.1))<|
 opt.need _ (p.eqN 0 0)<|
 opt.need _ (p.eqN (p.len a.1) (p.len a.1))<|
 opt.ret _ (a.1,(a.2.1,((p.ar .add .i64 a.2.2.1 (p.rdI a.2.1 (p.nat (p.rdI a.1 (p.add 0 (p.nat a.2.2.2.2.2.1)) 0)) 0)),(a.2.2.2.1,((p.ar .add .i64 a.2.2.2.2.2.1 (1:Int)),(a.2.2.2.2.1,(a.2.2.2.2.2.1,(Bool.true,()))))))))) (
 opt.ask _ (p.cmp .eql (p.ar .add .i64 a.2.2.2.2.2.1 (1:Int)) (p.ofNat (p.len a.1))) (
 opt.need _ (p.cmp .neq (2:Int) (0:Int))<|
 opt.need _ (p.eqN 0 0)<|
 opt.need _ (p.eqN (p.len a.1) (p.len a.1))<|
 opt.need _ (p.eqN 0 0)<|
 opt.need _ (p.eqN (p.len a.1) (p.len a.1))<|
 opt.ret _ (a.1,(a.2.1,((p.ar .add .i64 a.2.2.1 (p.rdI a.2.1 (p.nat (p.rdI a.1 (p.add 0 (p.nat a.2.2.2.2.2.1)) 0)) 0)),(a.2.2.2.1,((p.ar .add .i64 a.2.2.2.2.2.1 (1:Int)),(a.2.2.2.2.1,(a.2.2.2.2.2.1,((p.cmp .neq (p.ar .add .i64 a.2.2.1 (p.rdI a.2.1 (p.nat (p.rdI a.1 (p.add 0 (p.nat a.2.2.2.2.2.1)) 0)) 0)) (p.ar .quo .i64 (p.ar .mul .i64 (p.ar .add .i64 a.2.2.2.2.2.1 (1:Int)) (p.ar .sub .i64 (p.ar .add .i64 a.2.2.2.2.2.1 (1:Int)) (1:Int))) (2:Int))),()))))))))) (
 opt.need _ (p.eqN 0 0)<|
 opt.need _ (p.eqN (p.len a.1) (p.len a.1))<|
 opt.need _ (p.eqN 0 0)<|
 opt.need _ (p.eqN (p.len a.1) (p.len a.1))<|
 opt.ret _ (a.1,(a.2.1,((p.ar .add .i64 a.2.2.1 (p.rdI a.2.1 (p.nat (p.rdI a.1 (p.add 0 (p.nat a.2.2.2.2.2.1)) 0)) 0)),(a.2.2.2.1,((p.ar .add .i64 a.2.2.2.2.2.1 (1:Int)),(a.2.2.2.2.1,(a.2.2.2.2.2.1,(Bool.false,())))))))))))) fun b=>
 opt.ask _ b.2.2.2.2.2.2.2.1 (
 opt.need _ (p.eqN 0 0)<|
 opt.need _ (p.eqN (p.len b.1) (p.len b.1))<|
 opt.ret _ (Sum.inr (b.1,(b.2.2.2.2.1,())))) (
 opt.need _ (p.eqN 0 0)<|
 opt.need _ (p.eqN (p.len b.1) (p.len b.1))<|
 opt.need _ (p.eqN 0 0)<|
 opt.need _ (p.eqN (p.len b.1) (p.len b.1))<|
 opt.ret _ (Sum.inl (b.1,(b.2.1,(b.2.2.1,(b.2.2.2.1,(b.2.2.2.2.2.1,((p.ar .add .i64 b.2.2.2.2.2.2.1 (1:Int)),()))))))))) (
 opt.need _ (p.eqN 0 0)<|
 opt.need _ (p.eqN (p.len a.1) (p.len a.1))<|
 opt.ret _ (Sum.inr (a.1,(a.2.2.2.1,())))))
def g64 (it:It):(p:Prim)→(LD×Unit)→Option ((LD×T8)):=
 fun p x=>
 opt.bnd ((LD×Unit)) _ (g71 it p (x.1,())) fun a=>
 opt.need _ (p.eqN 0 0)<|
 opt.need _ (p.eqN (p.len a.1) (p.len a.1))<|
 opt.need _ (p.eqN 0 0)<|
 opt.need _ (p.eqN (p.len a.1) (p.len a.1))<|
 opt.bnd ((LD×T1)) _ (
 it _ _ (v5n p) (a.1,(x.1,((0:Int),((-1:Int),((p.ofNat (p.len a.1)),((0:Int),()))))))) fun b=>
 opt.ask _ (p.cmp .lss b.2.1 (0:Int)) (
 opt.ret _ ([],(Bool.false,()))) (
 opt.need _ (p.and (p.cmp .geq (0:Int) (0:Int)) (p.and (p.cmp .leq (0:Int) b.2.1) (p.cmp .leq b.2.1 (p.ofNat (p.len b.1)))))<|
 opt.bnd ((LD×(LD×T5))) _ (g73 it p (b.1,((p.add 0 (p.nat (0:Int))),((p.sub (p.nat b.2.1) (p.nat (0:Int))),())))) fun c=>
 opt.need _ (p.leN (p.add 0 (p.len c.2.1)) (p.len c.2.1))<|
 opt.ret _ ((p.cut c.2.1 0 (p.len c.2.1)),(Bool.true,())))
def G64:=g64 it0
theorem v6k:CtrOk PG w6a (G64 std):=okF (a:=an64) (l:=la64) (gC v6i (gC v6j (gN))) (by kernel_rfl) fun _ _=>by kernel_rfl
def w9r:Ctr:=
 ⟨31,[.list 1],[],[(.ret,⟨[(0, .tuple [.list 1, .int .i64])],[],1⟩)]⟩
def la31:List LA:=
 []
def ja31:List JA:=
 []
def v4k:List CF:=
 [⟨w6a,G64⟩,⟨w1i,G61⟩]
def an31:Anns:=
 ⟨v4k,ja31,[]⟩
def g31 (it:It):(p:Prim)→(LD×Unit)→Option ((LD×T1)):=
 fun p x=>
 opt.bnd T2 _ (g61 it p (x.1,())) fun a=>
 opt.ask _ (p.cmp .neq a.1 (0:Int)) (
 opt.ret _ ([],(a.1,()))) (
 opt.bnd ((LD×T8)) _ (g64 it p (x.1,())) fun b=>
 opt.ask _ (bif b.2.1 then Bool.false else Bool.true) (
 opt.ret _ ([],((5:Int),()))) (
 opt.ret _ (b.1,((0:Int),()))))
def G31:=g31 it0
theorem ok31:CtrOk PG w9r (G31 std):=okF (a:=an31) (l:=la31) (gC v6k (gC v17 (gN))) (by kernel_rfl) fun _ _=>by kernel_rfl
def w9u:Ctr:=
 ⟨28,[.list 1, .list 1],[],[(.ret,⟨[(0, .int .i64)],[],1⟩)]⟩
def la28:List LA:=
 [⟨28,[false,true,false,true,true,true,true],0,⟨⟨[(0, .list 1),(6, .int .i64),(7, .int .i64),(22, .list 1),(23, .int .i64),(24, .int .i64)],[],57⟩,[((AX.exit 0),⟨[(0, .list 1),(6, .int .i64),(7, .int .i64)],[],57⟩)]⟩⟩]
def ja28:List JA:=
 [⟨28,[false,false,true,true,true,true,true],0,[(AX.normal,⟨[(56, .bool)],[],57⟩)]⟩]
def v4n:List CF:=
 [⟨w1j,G56⟩,⟨w1i,G61⟩]
def an28:Anns:=
 ⟨v4n,ja28,[]⟩
def v5x (p:Prim):(LD×T9)→Option ((LD×T9)⊕(LD×T3)):=
 fun a=>opt.run _ (
 opt.ask _ (p.cmp .lss a.2.2.2.2.2.1 a.2.2.2.2.1) (
 opt.need _ (p.rowOk a.2.2.2.1 (p.nat a.2.2.2.2.2.1) [ci])<|
 opt.need _ (p.cmp .geq a.2.2.2.2.2.1 (0:Int))<|
 opt.need _ (p.rowOk a.1 (p.nat (p.rdI a.2.2.2.1 (p.nat a.2.2.2.2.2.1) 0)) [ci])<|
 opt.need _ (p.cmp .geq (p.rdI a.2.2.2.1 (p.nat a.2.2.2.2.2.1) 0) (0:Int))<|
 opt.ret _ (Sum.inl (a.1,((p.ar .add .i64 a.2.1 (p.rdI a.1 (p.nat (p.rdI a.2.2.2.1 (p.nat a.2.2.2.2.2.1) 0)) 0)),(a.2.2.1,(a.2.2.2.1,(a.2.2.2.2.1,((p.ar .add .i64 a.2.2.2.2.2.1 (1:Int)),())))))))) (
 opt.ret _ (Sum.inr (a.1,(a.2.1,(a.2.2.1,()))))))
def g28 (it:It):(p:Prim)→(LD×(LD×Unit))→Option T2:=
 fun p x=>
 opt.bnd T2 _ (g61 it p (x.1,())) fun a=>
 opt.ask _ (p.cmp .neq a.1 (0:Int)) (
 opt.ret _ (a.1,())) (
 opt.bnd T0 _ (g56 it p (x.2.1,((p.ofNat (p.len x.1)),()))) fun b=>
 opt.ask _ (bif b.1 then Bool.false else Bool.true) (
 opt.ret _ ((3:Int),())) (
 opt.bnd ((LD×T3)) _ (
 it _ _ (v5x p) (x.1,((0:Int),((p.ofNat (p.len x.2.1)),(x.2.1,((p.ofNat (p.len x.2.1)),((0:Int),()))))))) fun c=>
 opt.bnd T0 _ (
 opt.run T0 (
 opt.need _ (p.cmp .neq (2:Int) (0:Int))<|
 opt.ask _ (p.cmp .lss c.2.1 (p.ar .quo .i64 (p.ar .mul .i64 c.2.2.1 (p.ar .sub .i64 c.2.2.1 (1:Int))) (2:Int))) (
 opt.ret _ (Bool.true,())) (
 opt.ask _ (p.cmp .eql c.2.2.1 (p.ofNat (p.len c.1))) (
 opt.need _ (p.cmp .neq (2:Int) (0:Int))<|
 opt.ret _ ((p.cmp .neq c.2.1 (p.ar .quo .i64 (p.ar .mul .i64 c.2.2.1 (p.ar .sub .i64 c.2.2.1 (1:Int))) (2:Int))),())) (
 opt.ret _ (Bool.false,()))))) fun d=>
 opt.ask _ d.1 (
 opt.ret _ ((0:Int),())) (
 opt.ret _ ((14:Int),()))))
def G28:=g28 it0
theorem ok28:CtrOk PG w9u (G28 std):=okF (a:=an28) (l:=la28) (gC v18 (gC v17 (gN))) (by kernel_rfl) fun _ _=>by kernel_rfl
end Go.Am
end
section
namespace Go.Am
open T11
def w4g (lo hi:Int) (l:List Int) (i:Nat):Prop:=gI l i<lo∨hi<gI l i
instance v1c (lo hi:Int) (l:List Int) (i:Nat):Decidable (w4g lo hi l i):=by unfold w4g; infer_instance
def inR (lo hi:Int) (l:List Int):Prop:=∀ i,i<l.length→¬ w4g lo hi l i
instance v62 (lo hi:Int) (l:List Int):Decidable (inR lo hi l):=by unfold inR; infer_instance
theorem w39 {l:List Int} {n:Nat} (h:z20 l n):l.length≤n:=by
 have:=x52 h
 have:=y3y n fun (k:Nat)=>decide ((k:Int)∈l)
 omega
end Go.Am
end
noncomputable section
namespace Go.Am
def y61:Ctr:=
 ⟨105,[.sl 0 1, .int .i64, .int .i64, .int .i64, .clo 67 [] [.bptr 1 0]],[.row [ci], .box [.sl 2 1], .row [ci]],[]⟩
def v0w:Prim→Tup (y61).scs→Option (STup (scss (y61).outs)):=
 fun _ _=>none
theorem x4m:z2h Go.Proofs.Try.prog 105:=enters_auto (b:=_) rfl (by kernel_rfl)
theorem w7y:CtrOk Go.Proofs.Try.prog y61 (v0w std):=⟨x4m,fun x y h=>by cases h⟩
def x72:Ctr:=
 ⟨104,[.sl 0 1, .int .i64, .int .i64, .clo 67 [] [.bptr 1 0]],[.row [ci], .box [.sl 2 1], .row [ci]],[(.ret,⟨[(0, .tuple [])],[.row [ci], .box [.sl 2 1], .row [ci]],1⟩)]⟩
def w8k:List LA:=
 [⟨104,[false,true],3,⟨⟨[(0, .sl 0 1),(1, .int .i64),(2, .int .i64),(3, .clo 67 [] [.bptr 1 0]),(8, .int .i64)],[.row [ci], .box [.sl 2 1], .row [ci]],53⟩,[((AX.exit 0),⟨[],[.row [ci], .box [.sl 2 1], .row [ci]],53⟩)]⟩⟩,
 ⟨104,[false,true,false,false,true,false,false,true],3,⟨⟨[(0, .sl 0 1),(1, .int .i64),(2, .int .i64),(3, .clo 67 [] [.bptr 1 0]),(8, .int .i64),(9, .int .i64)],[.row [ci], .box [.sl 2 1], .row [ci]],53⟩,[((AX.exit 2),⟨[(0, .sl 0 1),(1, .int .i64),(2, .int .i64),(3, .clo 67 [] [.bptr 1 0]),(8, .int .i64)],[.row [ci], .box [.sl 2 1], .row [ci]],53⟩)]⟩⟩]
def w8l:List JA:=
 [⟨68,[true,false,true,true,true],3,[(AX.ret,⟨[(4, .int .i64)],[.row [ci], .box [.sl 2 1], .row [ci]],20⟩),(AX.normal,⟨[(0, .int .i64),(1, .int .i64),(6, .bool)],[.row [ci], .box [.sl 2 1], .row [ci]],20⟩)]⟩]
def w5i:List CF:=
 []
def v0f:Anns:=
 ⟨w5i,w8l,[]⟩
def w61 (p:Prim):(LD×(LD×T12))→Option ((LD×(LD×T12))⊕(LD×(LD×T10))):=
 fun a=>opt.run _ (
 opt.ask _ (p.cmp .gtr a.2.2.2.2.2.2.2.2.2.1 a.2.2.2.2.2.2.1) (
 opt.need _ (bif (p.cmp .geq a.2.2.2.2.2.2.2.2.2.1 (0:Int)) then (p.cmp .lss a.2.2.2.2.2.2.2.2.2.1 (p.ofNat a.2.2.2.2.2.1)) else Bool.false)<|
 opt.need _ (p.rowOk a.1 (p.add a.2.2.2.2.1 (p.nat a.2.2.2.2.2.2.2.2.2.1)) [ci])<|
 opt.need _ (bif (p.cmp .geq (p.ar .sub .i64 a.2.2.2.2.2.2.2.2.2.1 (1:Int)) (0:Int)) then (p.cmp .lss (p.ar .sub .i64 a.2.2.2.2.2.2.2.2.2.1 (1:Int)) (p.ofNat a.2.2.2.2.2.1)) else Bool.false)<|
 opt.need _ (p.rowOk a.1 (p.add a.2.2.2.2.1 (p.nat (p.ar .sub .i64 a.2.2.2.2.2.2.2.2.2.1 (1:Int)))) [ci])<|
 opt.need _ (bif (p.cmp .geq (p.rdI a.1 (p.add a.2.2.2.2.1 (p.nat a.2.2.2.2.2.2.2.2.2.1)) 0) (0:Int)) then (p.cmp .lss (p.rdI a.1 (p.add a.2.2.2.2.1 (p.nat a.2.2.2.2.2.2.2.2.2.1)) 0) (p.ofNat a.2.2.2.1)) else Bool.false)<|
 opt.need _ (p.rowOk a.2.1 (p.add a.2.2.1 (p.nat (p.rdI a.1 (p.add a.2.2.2.2.1 (p.nat a.2.2.2.2.2.2.2.2.2.1)) 0))) [ci])<|
 opt.need _ (bif (p.cmp .geq (p.rdI a.1 (p.add a.2.2.2.2.1 (p.nat (p.ar .sub .i64 a.2.2.2.2.2.2.2.2.2.1 (1:Int)))) 0) (0:Int)) then (p.cmp .lss (p.rdI a.1 (p.add a.2.2.2.2.1 (p.nat (p.ar .sub .i64 a.2.2.2.2.2.2.2.2.2.1 (1:Int)))) 0) (p.ofNat a.2.2.2.1)) else Bool.false)<|
 opt.need _ (p.rowOk a.2.1 (p.add a.2.2.1 (p.nat (p.rdI a.1 (p.add a.2.2.2.2.1 (p.nat (p.ar .sub .i64 a.2.2.2.2.2.2.2.2.2.1 (1:Int)))) 0))) [ci])<|
 opt.alt ((LD×(LD×(Nat×(Nat×(Int×Unit)))))) ((LD×(LD×T24))) _ (
 opt.run (((LD×(LD×(Nat×(Nat×(Int×Unit)))))⊕(LD×(LD×T24)))) (
 opt.ask _ (p.cmp .neq (p.rdI a.2.1 (p.add a.2.2.1 (p.nat (p.rdI a.1 (p.add a.2.2.2.2.1 (p.nat a.2.2.2.2.2.2.2.2.2.1)) 0))) 0) (p.rdI a.2.1 (p.add a.2.2.1 (p.nat (p.rdI a.1 (p.add a.2.2.2.2.1 (p.nat a.2.2.2.2.2.2.2.2.2.1)) 0))) 0)) (
 opt.ask _ (p.cmp .neq (p.rdI a.2.1 (p.add a.2.2.1 (p.nat (p.rdI a.1 (p.add a.2.2.2.2.1 (p.nat (p.ar .sub .i64 a.2.2.2.2.2.2.2.2.2.1 (1:Int)))) 0))) 0) (p.rdI a.2.1 (p.add a.2.2.1 (p.nat (p.rdI a.1 (p.add a.2.2.2.2.1 (p.nat (p.ar .sub .i64 a.2.2.2.2.2.2.2.2.2.1 (1:Int)))) 0))) 0)) (
 opt.ret _ (Sum.inl (a.1,(a.2.1,(a.2.2.1,(a.2.2.2.1,((0:Int),()))))))) (
 opt.ret _ (Sum.inl (a.1,(a.2.1,(a.2.2.1,(a.2.2.2.1,((-1:Int),())))))))) (
 opt.ret _ (Sum.inr (a.1,(a.2.1,(a.2.2.1,(a.2.2.2.1,((p.rdI a.2.1 (p.add a.2.2.1 (p.nat (p.rdI a.1 (p.add a.2.2.2.2.1 (p.nat a.2.2.2.2.2.2.2.2.2.1)) 0))) 0),((p.rdI a.2.1 (p.add a.2.2.1 (p.nat (p.rdI a.1 (p.add a.2.2.2.2.1 (p.nat (p.ar .sub .i64 a.2.2.2.2.2.2.2.2.2.1 (1:Int)))) 0))) 0),((p.cmp .neq (p.rdI a.2.1 (p.add a.2.2.1 (p.nat (p.rdI a.1 (p.add a.2.2.2.2.1 (p.nat (p.ar .sub .i64 a.2.2.2.2.2.2.2.2.2.1 (1:Int)))) 0))) 0) (p.rdI a.2.1 (p.add a.2.2.1 (p.nat (p.rdI a.1 (p.add a.2.2.2.2.1 (p.nat (p.ar .sub .i64 a.2.2.2.2.2.2.2.2.2.1 (1:Int)))) 0))) 0)),()))))))))))) (fun b=>
 opt.ask _ (p.cmp .lss b.2.2.2.2.1 (0:Int)) (
 opt.need _ (bif (p.cmp .geq (p.ar .sub .i64 a.2.2.2.2.2.2.2.2.2.1 (1:Int)) (0:Int)) then (p.cmp .lss (p.ar .sub .i64 a.2.2.2.2.2.2.2.2.2.1 (1:Int)) (p.ofNat a.2.2.2.2.2.1)) else Bool.false)<|
 opt.need _ (p.rowOk b.1 (p.add a.2.2.2.2.1 (p.nat (p.ar .sub .i64 a.2.2.2.2.2.2.2.2.2.1 (1:Int)))) [ci])<|
 opt.need _ (bif (p.cmp .geq a.2.2.2.2.2.2.2.2.2.1 (0:Int)) then (p.cmp .lss a.2.2.2.2.2.2.2.2.2.1 (p.ofNat a.2.2.2.2.2.1)) else Bool.false)<|
 opt.need _ (p.rowOk b.1 (p.add a.2.2.2.2.1 (p.nat a.2.2.2.2.2.2.2.2.2.1)) [ci])<|
 opt.need _ (bif (p.cmp .geq a.2.2.2.2.2.2.2.2.2.1 (0:Int)) then (p.cmp .lss a.2.2.2.2.2.2.2.2.2.1 (p.ofNat a.2.2.2.2.2.1)) else Bool.false)<|
 opt.need _ (p.rowOk b.1 (p.add a.2.2.2.2.1 (p.nat a.2.2.2.2.2.2.2.2.2.1)) [ci])<|
 opt.need _ (bif (p.cmp .geq (p.ar .sub .i64 a.2.2.2.2.2.2.2.2.2.1 (1:Int)) (0:Int)) then (p.cmp .lss (p.ar .sub .i64 a.2.2.2.2.2.2.2.2.2.1 (1:Int)) (p.ofNat a.2.2.2.2.2.1)) else Bool.false)<|
 opt.need _ (p.rowOk (p.set b.1 (p.add a.2.2.2.2.1 (p.nat a.2.2.2.2.2.2.2.2.2.1)) [(D.int .i64 (p.rdI b.1 (p.add a.2.2.2.2.1 (p.nat (p.ar .sub .i64 a.2.2.2.2.2.2.2.2.2.1 (1:Int)))) 0))]) (p.add a.2.2.2.2.1 (p.nat (p.ar .sub .i64 a.2.2.2.2.2.2.2.2.2.1 (1:Int)))) [ci])<|
 opt.ret _ (Sum.inl ((p.set (p.set b.1 (p.add a.2.2.2.2.1 (p.nat a.2.2.2.2.2.2.2.2.2.1)) [(D.int .i64 (p.rdI b.1 (p.add a.2.2.2.2.1 (p.nat (p.ar .sub .i64 a.2.2.2.2.2.2.2.2.2.1 (1:Int)))) 0))]) (p.add a.2.2.2.2.1 (p.nat (p.ar .sub .i64 a.2.2.2.2.2.2.2.2.2.1 (1:Int)))) [(D.int .i64 (p.rdI b.1 (p.add a.2.2.2.2.1 (p.nat a.2.2.2.2.2.2.2.2.2.1)) 0))]),(b.2.1,(b.2.2.1,(b.2.2.2.1,(a.2.2.2.2.1,(a.2.2.2.2.2.1,(a.2.2.2.2.2.2.1,(a.2.2.2.2.2.2.2.1,(a.2.2.2.2.2.2.2.2.1,((p.ar .sub .i64 a.2.2.2.2.2.2.2.2.2.1 (1:Int)),())))))))))))) (
 opt.ret _ (Sum.inr (b.1,(b.2.1,(b.2.2.1,(b.2.2.2.1,(a.2.2.2.2.1,(a.2.2.2.2.2.1,(a.2.2.2.2.2.2.1,(a.2.2.2.2.2.2.2.1,(a.2.2.2.2.2.2.2.2.1,())))))))))))) (fun c=>
 opt.bnd ((LD×(LD×T24))) _ (some c) fun d=>
 opt.ask _ d.2.2.2.2.2.2.1 (
 opt.ask _ (p.cmp .lss (1:Int) (0:Int)) (
 opt.need _ (bif (p.cmp .geq (p.ar .sub .i64 a.2.2.2.2.2.2.2.2.2.1 (1:Int)) (0:Int)) then (p.cmp .lss (p.ar .sub .i64 a.2.2.2.2.2.2.2.2.2.1 (1:Int)) (p.ofNat a.2.2.2.2.2.1)) else Bool.false)<|
 opt.need _ (p.rowOk d.1 (p.add a.2.2.2.2.1 (p.nat (p.ar .sub .i64 a.2.2.2.2.2.2.2.2.2.1 (1:Int)))) [ci])<|
 opt.need _ (bif (p.cmp .geq a.2.2.2.2.2.2.2.2.2.1 (0:Int)) then (p.cmp .lss a.2.2.2.2.2.2.2.2.2.1 (p.ofNat a.2.2.2.2.2.1)) else Bool.false)<|
 opt.need _ (p.rowOk d.1 (p.add a.2.2.2.2.1 (p.nat a.2.2.2.2.2.2.2.2.2.1)) [ci])<|
 opt.need _ (bif (p.cmp .geq a.2.2.2.2.2.2.2.2.2.1 (0:Int)) then (p.cmp .lss a.2.2.2.2.2.2.2.2.2.1 (p.ofNat a.2.2.2.2.2.1)) else Bool.false)<|
 opt.need _ (p.rowOk d.1 (p.add a.2.2.2.2.1 (p.nat a.2.2.2.2.2.2.2.2.2.1)) [ci])<|
 opt.need _ (bif (p.cmp .geq (p.ar .sub .i64 a.2.2.2.2.2.2.2.2.2.1 (1:Int)) (0:Int)) then (p.cmp .lss (p.ar .sub .i64 a.2.2.2.2.2.2.2.2.2.1 (1:Int)) (p.ofNat a.2.2.2.2.2.1)) else Bool.false)<|
 opt.need _ (p.rowOk (p.set d.1 (p.add a.2.2.2.2.1 (p.nat a.2.2.2.2.2.2.2.2.2.1)) [(D.int .i64 (p.rdI d.1 (p.add a.2.2.2.2.1 (p.nat (p.ar .sub .i64 a.2.2.2.2.2.2.2.2.2.1 (1:Int)))) 0))]) (p.add a.2.2.2.2.1 (p.nat (p.ar .sub .i64 a.2.2.2.2.2.2.2.2.2.1 (1:Int)))) [ci])<|
 opt.ret _ (Sum.inl ((p.set (p.set d.1 (p.add a.2.2.2.2.1 (p.nat a.2.2.2.2.2.2.2.2.2.1)) [(D.int .i64 (p.rdI d.1 (p.add a.2.2.2.2.1 (p.nat (p.ar .sub .i64 a.2.2.2.2.2.2.2.2.2.1 (1:Int)))) 0))]) (p.add a.2.2.2.2.1 (p.nat (p.ar .sub .i64 a.2.2.2.2.2.2.2.2.2.1 (1:Int)))) [(D.int .i64 (p.rdI d.1 (p.add a.2.2.2.2.1 (p.nat a.2.2.2.2.2.2.2.2.2.1)) 0))]),(d.2.1,(d.2.2.1,(d.2.2.2.1,(a.2.2.2.2.1,(a.2.2.2.2.2.1,(a.2.2.2.2.2.2.1,(a.2.2.2.2.2.2.2.1,(a.2.2.2.2.2.2.2.2.1,((p.ar .sub .i64 a.2.2.2.2.2.2.2.2.2.1 (1:Int)),())))))))))))) (
 opt.ret _ (Sum.inr (d.1,(d.2.1,(d.2.2.1,(d.2.2.2.1,(a.2.2.2.2.1,(a.2.2.2.2.2.1,(a.2.2.2.2.2.2.1,(a.2.2.2.2.2.2.2.1,(a.2.2.2.2.2.2.2.2.1,())))))))))))) (
 opt.ask _ (p.cmp .lss d.2.2.2.2.1 d.2.2.2.2.2.1) (
 opt.ask _ (p.cmp .lss (-1:Int) (0:Int)) (
 opt.need _ (bif (p.cmp .geq (p.ar .sub .i64 a.2.2.2.2.2.2.2.2.2.1 (1:Int)) (0:Int)) then (p.cmp .lss (p.ar .sub .i64 a.2.2.2.2.2.2.2.2.2.1 (1:Int)) (p.ofNat a.2.2.2.2.2.1)) else Bool.false)<|
 opt.need _ (p.rowOk d.1 (p.add a.2.2.2.2.1 (p.nat (p.ar .sub .i64 a.2.2.2.2.2.2.2.2.2.1 (1:Int)))) [ci])<|
 opt.need _ (bif (p.cmp .geq a.2.2.2.2.2.2.2.2.2.1 (0:Int)) then (p.cmp .lss a.2.2.2.2.2.2.2.2.2.1 (p.ofNat a.2.2.2.2.2.1)) else Bool.false)<|
 opt.need _ (p.rowOk d.1 (p.add a.2.2.2.2.1 (p.nat a.2.2.2.2.2.2.2.2.2.1)) [ci])<|
 opt.need _ (bif (p.cmp .geq a.2.2.2.2.2.2.2.2.2.1 (0:Int)) then (p.cmp .lss a.2.2.2.2.2.2.2.2.2.1 (p.ofNat a.2.2.2.2.2.1)) else Bool.false)<|
 opt.need _ (p.rowOk d.1 (p.add a.2.2.2.2.1 (p.nat a.2.2.2.2.2.2.2.2.2.1)) [ci])<|
 opt.need _ (bif (p.cmp .geq (p.ar .sub .i64 a.2.2.2.2.2.2.2.2.2.1 (1:Int)) (0:Int)) then (p.cmp .lss (p.ar .sub .i64 a.2.2.2.2.2.2.2.2.2.1 (1:Int)) (p.ofNat a.2.2.2.2.2.1)) else Bool.false)<|
 opt.need _ (p.rowOk (p.set d.1 (p.add a.2.2.2.2.1 (p.nat a.2.2.2.2.2.2.2.2.2.1)) [(D.int .i64 (p.rdI d.1 (p.add a.2.2.2.2.1 (p.nat (p.ar .sub .i64 a.2.2.2.2.2.2.2.2.2.1 (1:Int)))) 0))]) (p.add a.2.2.2.2.1 (p.nat (p.ar .sub .i64 a.2.2.2.2.2.2.2.2.2.1 (1:Int)))) [ci])<|
 opt.ret _ (Sum.inl ((p.set (p.set d.1 (p.add a.2.2.2.2.1 (p.nat a.2.2.2.2.2.2.2.2.2.1)) [(D.int .i64 (p.rdI d.1 (p.add a.2.2.2.2.1 (p.nat (p.ar .sub .i64 a.2.2.2.2.2.2.2.2.2.1 (1:Int)))) 0))]) (p.add a.2.2.2.2.1 (p.nat (p.ar .sub .i64 a.2.2.2.2.2.2.2.2.2.1 (1:Int)))) [(D.int .i64 (p.rdI d.1 (p.add a.2.2.2.2.1 (p.nat a.2.2.2.2.2.2.2.2.2.1)) 0))]),(d.2.1,(d.2.2.1,(d.2.2.2.1,(a.2.2.2.2.1,(a.2.2.2.2.2.1,(a.2.2.2.2.2.2.1,(a.2.2.2.2.2.2.2.1,(a.2.2.2.2.2.2.2.2.1,((p.ar .sub .i64 a.2.2.2.2.2.2.2.2.2.1 (1:Int)),())))))))))))) (
 opt.ret _ (Sum.inr (d.1,(d.2.1,(d.2.2.1,(d.2.2.2.1,(a.2.2.2.2.1,(a.2.2.2.2.2.1,(a.2.2.2.2.2.2.1,(a.2.2.2.2.2.2.2.1,(a.2.2.2.2.2.2.2.2.1,())))))))))))) (
 opt.ask _ (p.cmp .gtr d.2.2.2.2.1 d.2.2.2.2.2.1) (
 opt.ask _ (p.cmp .lss (1:Int) (0:Int)) (
 opt.need _ (bif (p.cmp .geq (p.ar .sub .i64 a.2.2.2.2.2.2.2.2.2.1 (1:Int)) (0:Int)) then (p.cmp .lss (p.ar .sub .i64 a.2.2.2.2.2.2.2.2.2.1 (1:Int)) (p.ofNat a.2.2.2.2.2.1)) else Bool.false)<|
 opt.need _ (p.rowOk d.1 (p.add a.2.2.2.2.1 (p.nat (p.ar .sub .i64 a.2.2.2.2.2.2.2.2.2.1 (1:Int)))) [ci])<|
 opt.need _ (bif (p.cmp .geq a.2.2.2.2.2.2.2.2.2.1 (0:Int)) then (p.cmp .lss a.2.2.2.2.2.2.2.2.2.1 (p.ofNat a.2.2.2.2.2.1)) else Bool.false)<|
 opt.need _ (p.rowOk d.1 (p.add a.2.2.2.2.1 (p.nat a.2.2.2.2.2.2.2.2.2.1)) [ci])<|
 opt.need _ (bif (p.cmp .geq a.2.2.2.2.2.2.2.2.2.1 (0:Int)) then (p.cmp .lss a.2.2.2.2.2.2.2.2.2.1 (p.ofNat a.2.2.2.2.2.1)) else Bool.false)<|
 opt.need _ (p.rowOk d.1 (p.add a.2.2.2.2.1 (p.nat a.2.2.2.2.2.2.2.2.2.1)) [ci])<|
 opt.need _ (bif (p.cmp .geq (p.ar .sub .i64 a.2.2.2.2.2.2.2.2.2.1 (1:Int)) (0:Int)) then (p.cmp .lss (p.ar .sub .i64 a.2.2.2.2.2.2.2.2.2.1 (1:Int)) (p.ofNat a.2.2.2.2.2.1)) else Bool.false)<|
 opt.need _ (p.rowOk (p.set d.1 (p.add a.2.2.2.2.1 (p.nat a.2.2.2.2.2.2.2.2.2.1)) [(D.int .i64 (p.rdI d.1 (p.add a.2.2.2.2.1 (p.nat (p.ar .sub .i64 a.2.2.2.2.2.2.2.2.2.1 (1:Int)))) 0))]) (p.add a.2.2.2.2.1 (p.nat (p.ar .sub .i64 a.2.2.2.2.2.2.2.2.2.1 (1:Int)))) [ci])<|
 opt.ret _ (Sum.inl ((p.set (p.set d.1 (p.add a.2.2.2.2.1 (p.nat a.2.2.2.2.2.2.2.2.2.1)) [(D.int .i64 (p.rdI d.1 (p.add a.2.2.2.2.1 (p.nat (p.ar .sub .i64 a.2.2.2.2.2.2.2.2.2.1 (1:Int)))) 0))]) (p.add a.2.2.2.2.1 (p.nat (p.ar .sub .i64 a.2.2.2.2.2.2.2.2.2.1 (1:Int)))) [(D.int .i64 (p.rdI d.1 (p.add a.2.2.2.2.1 (p.nat a.2.2.2.2.2.2.2.2.2.1)) 0))]),(d.2.1,(d.2.2.1,(d.2.2.2.1,(a.2.2.2.2.1,(a.2.2.2.2.2.1,(a.2.2.2.2.2.2.1,(a.2.2.2.2.2.2.2.1,(a.2.2.2.2.2.2.2.2.1,((p.ar .sub .i64 a.2.2.2.2.2.2.2.2.2.1 (1:Int)),())))))))))))) (
 opt.ret _ (Sum.inr (d.1,(d.2.1,(d.2.2.1,(d.2.2.2.1,(a.2.2.2.2.1,(a.2.2.2.2.2.1,(a.2.2.2.2.2.2.1,(a.2.2.2.2.2.2.2.1,(a.2.2.2.2.2.2.2.2.1,())))))))))))) (
 opt.ask _ (p.cmp .lss (0:Int) (0:Int)) (
 opt.need _ (bif (p.cmp .geq (p.ar .sub .i64 a.2.2.2.2.2.2.2.2.2.1 (1:Int)) (0:Int)) then (p.cmp .lss (p.ar .sub .i64 a.2.2.2.2.2.2.2.2.2.1 (1:Int)) (p.ofNat a.2.2.2.2.2.1)) else Bool.false)<|
 opt.need _ (p.rowOk d.1 (p.add a.2.2.2.2.1 (p.nat (p.ar .sub .i64 a.2.2.2.2.2.2.2.2.2.1 (1:Int)))) [ci])<|
 opt.need _ (bif (p.cmp .geq a.2.2.2.2.2.2.2.2.2.1 (0:Int)) then (p.cmp .lss a.2.2.2.2.2.2.2.2.2.1 (p.ofNat a.2.2.2.2.2.1)) else Bool.false)<|
 opt.need _ (p.rowOk d.1 (p.add a.2.2.2.2.1 (p.nat a.2.2.2.2.2.2.2.2.2.1)) [ci])<|
 opt.need _ (bif (p.cmp .geq a.2.2.2.2.2.2.2.2.2.1 (0:Int)) then (p.cmp .lss a.2.2.2.2.2.2.2.2.2.1 (p.ofNat a.2.2.2.2.2.1)) else Bool.false)<|
 opt.need _ (p.rowOk d.1 (p.add a.2.2.2.2.1 (p.nat a.2.2.2.2.2.2.2.2.2.1)) [ci])<|
 opt.need _ (bif (p.cmp .geq (p.ar .sub .i64 a.2.2.2.2.2.2.2.2.2.1 (1:Int)) (0:Int)) then (p.cmp .lss (p.ar .sub .i64 a.2.2.2.2.2.2.2.2.2.1 (1:Int)) (p.ofNat a.2.2.2.2.2.1)) else Bool.false)<|
 opt.need _ (p.rowOk (p.set d.1 (p.add a.2.2.2.2.1 (p.nat a.2.2.2.2.2.2.2.2.2.1)) [(D.int .i64 (p.rdI d.1 (p.add a.2.2.2.2.1 (p.nat (p.ar .sub .i64 a.2.2.2.2.2.2.2.2.2.1 (1:Int)))) 0))]) (p.add a.2.2.2.2.1 (p.nat (p.ar .sub .i64 a.2.2.2.2.2.2.2.2.2.1 (1:Int)))) [ci])<|
 opt.ret _ (Sum.inl ((p.set (p.set d.1 (p.add a.2.2.2.2.1 (p.nat a.2.2.2.2.2.2.2.2.2.1)) [(D.int .i64 (p.rdI d.1 (p.add a.2.2.2.2.1 (p.nat (p.ar .sub .i64 a.2.2.2.2.2.2.2.2.2.1 (1:Int)))) 0))]) (p.add a.2.2.2.2.1 (p.nat (p.ar .sub .i64 a.2.2.2.2.2.2.2.2.2.1 (1:Int)))) [(D.int .i64 (p.rdI d.1 (p.add a.2.2.2.2.1 (p.nat a.2.2.2.2.2.2.2.2.2.1)) 0))]),(d.2.1,(d.2.2.1,(d.2.2.2.1,(a.2.2.2.2.1,(a.2.2.2.2.2.1,(a.2.2.2.2.2.2.1,(a.2.2.2.2.2.2.2.1,(a.2.2.2.2.2.2.2.2.1,((p.ar .sub .i64 a.2.2.2.2.2.2.2.2.2.1 (1:Int)),())))))))))))) (
 opt.ret _ (Sum.inr (d.1,(d.2.1,(d.2.2.1,(d.2.2.2.1,(a.2.2.2.2.1,(a.2.2.2.2.2.1,(a.2.2.2.2.2.2.1,(a.2.2.2.2.2.2.2.1,(a.2.2.2.2.2.2.2.2.1,())))))))))))))))) (
 opt.ret _ (Sum.inr (a.1,(a.2.1,(a.2.2.1,(a.2.2.2.1,(a.2.2.2.2.1,(a.2.2.2.2.2.1,(a.2.2.2.2.2.2.1,(a.2.2.2.2.2.2.2.1,(a.2.2.2.2.2.2.2.2.1,()))))))))))))
def x09 (it:It) (p:Prim):(LD×(LD×T10))→Option ((LD×(LD×T10))⊕(LD×(LD×T5))):=
 fun a=>opt.run _ (
 opt.ask _ (p.cmp .lss a.2.2.2.2.2.2.2.2.1 a.2.2.2.2.2.2.2.1) (
 opt.bnd ((LD×(LD×T10))) _ (
 it _ _ (w61 p) (a.1,(a.2.1,(a.2.2.1,(a.2.2.2.1,(a.2.2.2.2.1,(a.2.2.2.2.2.1,(a.2.2.2.2.2.2.1,(a.2.2.2.2.2.2.2.1,(a.2.2.2.2.2.2.2.2.1,(a.2.2.2.2.2.2.2.2.1,()))))))))))) fun b=>
 opt.ret _ (Sum.inl (b.1,(b.2.1,(b.2.2.1,(b.2.2.2.1,(b.2.2.2.2.1,(b.2.2.2.2.2.1,(b.2.2.2.2.2.2.1,(b.2.2.2.2.2.2.2.1,((p.ar .add .i64 b.2.2.2.2.2.2.2.2.1 (1:Int)),()))))))))))) (
 opt.ret _ (Sum.inr (a.1,(a.2.1,(a.2.2.1,(a.2.2.2.1,())))))))
def x65 (it:It):(p:Prim)→(LD×(LD×T16))→Option ((LD×(LD×T5))):=
 fun p x=>
 opt.bnd ((LD×(LD×T5))) _ (
 it _ _ (x09 it p) (x.1,(x.2.1,(x.2.2.1,(x.2.2.2.1,(x.2.2.2.2.1,(x.2.2.2.2.2.1,(x.2.2.2.2.2.2.1,(x.2.2.2.2.2.2.2.1,((p.ar .add .i64 x.2.2.2.2.2.2.1 (1:Int)),())))))))))) fun a=>
 opt.ret _ (a.1,(a.2.1,(a.2.2.1,(a.2.2.2.1,()))))
def v0u:=x65 it0
theorem w7z:CtrOk PG x72 (v0u std):=okF (a:=v0f) (l:=w8k) (gN) (by kernel_rfl) fun _ _=>by kernel_rfl
def w24:Ctr:=
 ⟨86,[.sl 0 1, .int .i64, .clo 67 [] [.bptr 1 0]],[.row [ci], .box [.sl 2 1], .row [ci]],[(.ret,⟨[(0, .tuple [])],[.row [ci], .box [.sl 2 1], .row [ci]],1⟩)]⟩
def v21:List LA:=
 [⟨86,[false,false,true,true],3,⟨⟨[(0, .sl 0 1),(1, .int .i64),(2, .clo 67 [] [.bptr 1 0]),(6, .int .i64),(7, .int .i64),(8, .int .i64)],[.row [ci], .box [.sl 2 1], .row [ci]],63⟩,[((AX.exit 0),⟨[(0, .sl 0 1),(1, .int .i64),(2, .clo 67 [] [.bptr 1 0]),(6, .int .i64),(7, .int .i64)],[.row [ci], .box [.sl 2 1], .row [ci]],63⟩)]⟩⟩,
 ⟨86,[false,true,true,true,true],3,⟨⟨[(0, .sl 0 1),(1, .int .i64),(2, .clo 67 [] [.bptr 1 0]),(6, .int .i64)],[.row [ci], .box [.sl 2 1], .row [ci]],63⟩,[((AX.exit 2),⟨[],[.row [ci], .box [.sl 2 1], .row [ci]],63⟩)]⟩⟩,
 ⟨86,[false,false,true,false,true,false,false,true,true,true,true],3,⟨⟨[(0, .sl 0 1),(1, .int .i64),(2, .clo 67 [] [.bptr 1 0]),(6, .int .i64),(7, .int .i64),(8, .int .i64)],[.row [ci], .box [.sl 2 1], .row [ci]],63⟩,[((AX.exit 4),⟨[(0, .sl 0 1),(1, .int .i64),(2, .clo 67 [] [.bptr 1 0]),(6, .int .i64),(7, .int .i64)],[.row [ci], .box [.sl 2 1], .row [ci]],63⟩)]⟩⟩]
def v3e:List JA:=
 []
def w8r:List CF:=
 [⟨y61,v0w⟩,⟨x72,v0u⟩]
def v53:Anns:=
 ⟨w8r,v3e,[]⟩
def v0a (p:Prim):(LD×(LD×T12))→Option ((LD×(LD×T12))⊕(LD×(LD×T10))):=
 fun a=>opt.run _ (
 opt.ask _ (p.cmp .leq a.2.2.2.2.2.2.2.2.2.1 a.2.2.2.2.2.2.1) (
 opt.no _ 81) (
 opt.ret _ (Sum.inr (a.1,(a.2.1,(a.2.2.1,(a.2.2.2.1,(a.2.2.2.2.1,(a.2.2.2.2.2.1,(a.2.2.2.2.2.2.1,(a.2.2.2.2.2.2.2.1,(a.2.2.2.2.2.2.2.2.1,()))))))))))))
def x8d (it:It) (p:Prim):(LD×(LD×T16))→Option ((LD×(LD×T16))⊕(LD×(LD×T5))):=
 fun a=>opt.run _ (
 opt.ask _ (p.cmp .lss a.2.2.2.2.2.2.2.1 a.2.2.2.2.2.2.1) (
 opt.bnd ((LD×(LD×T10))) _ (
 it _ _ (v0a p) (a.1,(a.2.1,(a.2.2.1,(a.2.2.2.1,(a.2.2.2.2.1,(a.2.2.2.2.2.1,(a.2.2.2.2.2.2.1,(a.2.2.2.2.2.2.2.1,((0:Int),((p.ar .mul .i64 (2:Int) a.2.2.2.2.2.2.2.1),()))))))))))) fun b=>
 opt.ask _ (p.cmp .lss (p.ar .add .i64 b.2.2.2.2.2.2.2.2.1 b.2.2.2.2.2.2.2.1) b.2.2.2.2.2.2.1) (
 opt.no _ 81) (
 opt.ret _ (Sum.inl (b.1,(b.2.1,(b.2.2.1,(b.2.2.2.1,(b.2.2.2.2.1,(b.2.2.2.2.2.1,(b.2.2.2.2.2.2.1,((p.ar .mul .i64 b.2.2.2.2.2.2.2.1 (2:Int)),()))))))))))) (
 opt.ret _ (Sum.inr (a.1,(a.2.1,(a.2.2.1,(a.2.2.2.1,())))))))
def x8e (it:It) (p:Prim):(LD×(LD×T12))→Option ((LD×(LD×T12))⊕(LD×(LD×T10))):=
 fun a=>opt.run _ (
 opt.ask _ (p.cmp .leq a.2.2.2.2.2.2.2.2.2.1 a.2.2.2.2.2.2.1) (
 opt.bnd ((LD×(LD×T5))) _ (x65 it p (a.1,(a.2.1,(a.2.2.1,(a.2.2.2.1,(a.2.2.2.2.1,(a.2.2.2.2.2.1,(a.2.2.2.2.2.2.2.2.1,(a.2.2.2.2.2.2.2.2.2.1,()))))))))) fun b=>
 opt.ret _ (Sum.inl (b.1,(b.2.1,(b.2.2.1,(b.2.2.2.1,(a.2.2.2.2.1,(a.2.2.2.2.2.1,(a.2.2.2.2.2.2.1,(a.2.2.2.2.2.2.2.1,(a.2.2.2.2.2.2.2.2.2.1,((p.ar .add .i64 a.2.2.2.2.2.2.2.2.2.1 a.2.2.2.2.2.2.2.1),())))))))))))) (
 opt.ret _ (Sum.inr (a.1,(a.2.1,(a.2.2.1,(a.2.2.2.1,(a.2.2.2.2.1,(a.2.2.2.2.2.1,(a.2.2.2.2.2.2.1,(a.2.2.2.2.2.2.2.1,(a.2.2.2.2.2.2.2.2.1,()))))))))))))
def v1a (it:It):(p:Prim)→(LD×(LD×(Nat×(Nat×(Nat×(Nat×(Int×Unit)))))))→Option ((LD×(LD×T5))):=
 fun p x=>
 opt.bnd ((LD×(LD×T10))) _ (
 it _ _ (x8e it p) (x.1,(x.2.1,(x.2.2.1,(x.2.2.2.1,(x.2.2.2.2.1,(x.2.2.2.2.2.1,(x.2.2.2.2.2.2.1,((20:Int),((0:Int),((20:Int),()))))))))))) fun a=>
 opt.bnd ((LD×(LD×T5))) _ (x65 it p (a.1,(a.2.1,(a.2.2.1,(a.2.2.2.1,(a.2.2.2.2.1,(a.2.2.2.2.2.1,(a.2.2.2.2.2.2.2.2.1,(a.2.2.2.2.2.2.1,()))))))))) fun b=>
 opt.bnd ((LD×(LD×T5))) _ (
 it _ _ (x8d it p) (b.1,(b.2.1,(b.2.2.1,(b.2.2.2.1,(a.2.2.2.2.1,(a.2.2.2.2.2.1,(a.2.2.2.2.2.2.1,(a.2.2.2.2.2.2.2.1,()))))))))) fun c=>
 opt.ret _ (c.1,(c.2.1,(c.2.2.1,(c.2.2.2.1,()))))
def v68:=v1a it0
theorem v13:CtrOk PG w24 (v68 std):=okF (a:=v53) (l:=v21) (gC w7y (gC w7z (gN))) (by kernel_rfl) fun _ _=>by kernel_rfl
def w27:Ctr:=
 ⟨66,[.sl 0 1, .clo 67 [] [.bptr 1 0]],[.row [ci], .box [.sl 2 1], .row [ci]],[(.ret,⟨[(0, .tuple [])],[.row [ci], .box [.sl 2 1], .row [ci]],1⟩)]⟩
def v25:List LA:=
 []
def v3h:List JA:=
 []
def w8u:List CF:=
 [⟨w24,v68⟩]
def v56:Anns:=
 ⟨w8u,v3h,[]⟩
def v1b (it:It):(p:Prim)→(LD×(LD×T17))→Option ((LD×(LD×T5))):=
 fun p x=>
 opt.bnd ((LD×(LD×T5))) _ (v1a it p (x.1,(x.2.1,(x.2.2.1,(x.2.2.2.1,(x.2.2.2.2.1,(x.2.2.2.2.2.1,((p.ofNat x.2.2.2.2.2.1),())))))))) fun a=>
 opt.ret _ (a.1,(a.2.1,(a.2.2.1,(a.2.2.2.1,()))))
def v7b:=v1b it0
theorem v16:CtrOk PG w27 (v7b std):=okF (a:=v56) (l:=v25) (gC v13 (gN)) (by kernel_rfl) fun _ _=>by kernel_rfl
end Go.Am
end
noncomputable section
namespace Go.Am
def w9n:Ctr:=
 ⟨49,[.bptr 0 0],[.row [ci]],[(.ret,⟨[(0, .list 1)],[.row [ci]],1⟩)]⟩
def la49:List LA:=
 [⟨49,[false,true,false,true,true,true],1,⟨⟨[(0, .bptr 0 0),(3, .full 1 1),(4, .bptr 2 0),(14, .int .i64),(15, .int .i64)],[.row [ci], .row [(CK.list 1)], .box [.int .i64, .int .i64, .int .i64, .int .i64, .int .i64, .int .i64, .int .i64, .int .i64, .int .i64, .int .i64]],65⟩,[((AX.exit 0),⟨[(3, .full 1 1)],[.row [ci], .row [(CK.list 1)]],65⟩)]⟩⟩,
 ⟨49,[false,true,true,true,false,false,true,true,false,false,true,false,true,true,true],1,⟨⟨[(0, .bptr 0 0),(3, .full 1 1),(4, .bptr 2 0),(5, .int .i64),(14, .int .i64),(15, .int .i64),(33, .int .i64),(34, .int .i64)],[.row [ci], .row [(CK.list 1)], .box [.int .i64, .int .i64, .int .i64, .int .i64, .int .i64, .int .i64, .int .i64, .int .i64, .int .i64, .int .i64]],65⟩,[((AX.exit 2),⟨[(0, .bptr 0 0),(3, .full 1 1),(4, .bptr 2 0),(14, .int .i64),(15, .int .i64)],[.row [ci], .row [(CK.list 1)], .box [.int .i64, .int .i64, .int .i64, .int .i64, .int .i64, .int .i64, .int .i64, .int .i64, .int .i64, .int .i64]],65⟩)]⟩⟩]
def ja49:List JA:=
 [⟨49,[true,true,false,false,true,true,false,false,true,true,true,false,false,true,true,false,false,true,false,true,true,true],1,[(AX.normal,⟨[(0, .bptr 0 0),(3, .full 1 1),(4, .bptr 2 0),(5, .int .i64),(14, .int .i64),(15, .int .i64),(33, .int .i64),(34, .int .i64)],[.row [ci], .row [(CK.list 1)], .box [.int .i64, .int .i64, .int .i64, .int .i64, .int .i64, .int .i64, .int .i64, .int .i64, .int .i64, .int .i64]],65⟩)]⟩,
 ⟨49,[false,true,true,false,false,true,false,true,true,true],1,[(AX.normal,⟨[(0, .bptr 0 0),(3, .full 1 1),(4, .bptr 2 0),(14, .int .i64),(15, .int .i64)],[.row [ci], .row [(CK.list 1)], .box [.int .i64, .int .i64, .int .i64, .int .i64, .int .i64, .int .i64, .int .i64, .int .i64, .int .i64, .int .i64]],65⟩)]⟩]
def v4b:List CF:=
 []
def an49:Anns:=
 ⟨v4b,ja49,[]⟩
def v5r (p:Prim):(LD×(LD×T21))→Option ((LD×(LD×T21))⊕(LD×(LD×T13))):=
 fun a=>opt.run _ (
 opt.ask _ (p.cmp .lss a.2.2.2.2.2.2.2.2.2.2.2.2.2.2.2.2.1 a.2.2.2.2.2.2.2.2.2.2.2.2.2.2.2.1) (
 opt.need _ (bif (p.cmp .geq a.2.2.2.2.2.2.2.2.2.2.2.2.1 (0:Int)) then (p.cmp .lss a.2.2.2.2.2.2.2.2.2.2.2.2.1 (p.ofNat 10)) else Bool.false)<|
 opt.need _ (bif (p.cmp .geq a.2.2.2.2.2.2.2.2.2.2.2.2.2.2.2.2.1 (0:Int)) then (p.cmp .lss a.2.2.2.2.2.2.2.2.2.2.2.2.2.2.2.2.1 (p.ofNat 10)) else Bool.false)<|
 opt.need _ (p.rowOk a.1 (p.add (p.add 1 (p.mul (p.nat a.2.2.2.2.2.2.2.2.2.2.2.2.1) 10)) (p.nat a.2.2.2.2.2.2.2.2.2.2.2.2.2.2.2.2.1)) [ci])<|
 opt.bnd ((LD×(LD×T21))) _ (
 opt.run ((LD×(LD×T21))) (
 opt.ask _ (p.cmp .eql (p.rdI a.1 (p.add (p.add 1 (p.mul (p.nat a.2.2.2.2.2.2.2.2.2.2.2.2.1) 10)) (p.nat a.2.2.2.2.2.2.2.2.2.2.2.2.2.2.2.2.1)) 0) (1:Int)) (
 opt.need _ (bif (p.cmp .geq a.2.2.2.2.2.2.2.2.2.2.2.2.1 (0:Int)) then (p.cmp .lss a.2.2.2.2.2.2.2.2.2.2.2.2.1 (p.ofNat (p.len a.2.1))) else Bool.false)<|
 opt.need _ (p.rowOk a.2.1 (p.add 0 (p.nat a.2.2.2.2.2.2.2.2.2.2.2.2.1)) [(CK.list 1)])<|
 opt.need _ (bif (p.cmp .geq a.2.2.2.2.2.2.2.2.2.2.2.2.1 (0:Int)) then (p.cmp .lss a.2.2.2.2.2.2.2.2.2.2.2.2.1 (p.ofNat (p.len a.2.1))) else Bool.false)<|
 opt.need _ (p.rowOk a.2.1 (p.add 0 (p.nat a.2.2.2.2.2.2.2.2.2.2.2.2.1)) [(CK.list 1)])<|
 opt.need _ (bif (p.cmp .geq a.2.2.2.2.2.2.2.2.2.2.2.2.1 (0:Int)) then (p.cmp .lss a.2.2.2.2.2.2.2.2.2.2.2.2.1 (p.ofNat (p.len a.2.1))) else Bool.false)<|
 opt.need _ (p.rowOk a.2.1 (p.add 0 (p.nat a.2.2.2.2.2.2.2.2.2.2.2.2.1)) [(CK.list 1)])<|
 opt.need _ (p.and (p.cmp .geq (0:Int) (0:Int)) (p.and (p.cmp .leq (0:Int) (p.ofNat (p.len (p.rdL a.2.1 (p.add 0 (p.nat a.2.2.2.2.2.2.2.2.2.2.2.2.1)) 0)))) (p.and (p.cmp .leq (p.ofNat (p.len (p.rdL a.2.1 (p.add 0 (p.nat a.2.2.2.2.2.2.2.2.2.2.2.2.1)) 0))) (p.ofNat (p.len (p.rdL a.2.1 (p.add 0 (p.nat a.2.2.2.2.2.2.2.2.2.2.2.2.1)) 0)))) (p.cmp .leq (p.ofNat (p.len (p.rdL a.2.1 (p.add 0 (p.nat a.2.2.2.2.2.2.2.2.2.2.2.2.1)) 0))) (p.ofNat (p.len (p.rdL a.2.1 (p.add 0 (p.nat a.2.2.2.2.2.2.2.2.2.2.2.2.1)) 0)))))))<|
 opt.ask _ (p.cmp .eql (p.ofNat (p.len (p.rdL a.2.1 (p.add 0 (p.nat a.2.2.2.2.2.2.2.2.2.2.2.2.1)) 0))) (p.ofNat (p.len (p.rdL a.2.1 (p.add 0 (p.nat a.2.2.2.2.2.2.2.2.2.2.2.2.1)) 0)))) (
 opt.need _ (p.and (p.leN (p.add 0 1) (p.len [[(D.int .i64 a.2.2.2.2.2.2.2.2.2.2.2.2.2.2.2.2.1)]])) (p.and (p.leN 1 1) (p.leN (p.add (p.len (p.cut (p.rdL a.2.1 (p.add 0 (p.nat a.2.2.2.2.2.2.2.2.2.2.2.2.1)) 0) (p.nat (0:Int)) (p.sub (p.nat (p.ofNat (p.len (p.rdL a.2.1 (p.add 0 (p.nat a.2.2.2.2.2.2.2.2.2.2.2.2.1)) 0)))) (p.nat (0:Int))))) 1) 1000000)))<|
 opt.need _ (bif (p.cmp .geq a.2.2.2.2.2.2.2.2.2.2.2.2.1 (0:Int)) then (p.cmp .lss a.2.2.2.2.2.2.2.2.2.2.2.2.1 (p.ofNat (p.len a.2.1))) else Bool.false)<|
 opt.need _ (p.rowOk a.2.1 (p.add 0 (p.nat a.2.2.2.2.2.2.2.2.2.2.2.2.1)) [(CK.list 1)])<|
 opt.need _ (p.eqN 0 0)<|
 opt.need _ (p.eqN (p.len a.2.1) (p.len (p.set a.2.1 (p.add 0 (p.nat a.2.2.2.2.2.2.2.2.2.2.2.2.1)) [(D.list Bool.false 1 (p.app (p.cut (p.rdL a.2.1 (p.add 0 (p.nat a.2.2.2.2.2.2.2.2.2.2.2.2.1)) 0) (p.nat (0:Int)) (p.sub (p.nat (p.ofNat (p.len (p.rdL a.2.1 (p.add 0 (p.nat a.2.2.2.2.2.2.2.2.2.2.2.2.1)) 0)))) (p.nat (0:Int)))) (p.cut [[(D.int .i64 a.2.2.2.2.2.2.2.2.2.2.2.2.2.2.2.2.1)]] 0 1)))])))<|
 opt.need _ (p.eqN (p.len a.2.1) (p.len (p.set a.2.1 (p.add 0 (p.nat a.2.2.2.2.2.2.2.2.2.2.2.2.1)) [(D.list Bool.false 1 (p.app (p.cut (p.rdL a.2.1 (p.add 0 (p.nat a.2.2.2.2.2.2.2.2.2.2.2.2.1)) 0) (p.nat (0:Int)) (p.sub (p.nat (p.ofNat (p.len (p.rdL a.2.1 (p.add 0 (p.nat a.2.2.2.2.2.2.2.2.2.2.2.2.1)) 0)))) (p.nat (0:Int)))) (p.cut [[(D.int .i64 a.2.2.2.2.2.2.2.2.2.2.2.2.2.2.2.2.1)]] 0 1)))])))<|
 opt.ret _ (a.1,((p.set a.2.1 (p.add 0 (p.nat a.2.2.2.2.2.2.2.2.2.2.2.2.1)) [(D.list Bool.false 1 (p.app (p.cut (p.rdL a.2.1 (p.add 0 (p.nat a.2.2.2.2.2.2.2.2.2.2.2.2.1)) 0) (p.nat (0:Int)) (p.sub (p.nat (p.ofNat (p.len (p.rdL a.2.1 (p.add 0 (p.nat a.2.2.2.2.2.2.2.2.2.2.2.2.1)) 0)))) (p.nat (0:Int)))) (p.cut [[(D.int .i64 a.2.2.2.2.2.2.2.2.2.2.2.2.2.2.2.2.1)]] 0 1)))]),(a.2.2.1,(a.2.2.2.1,(a.2.2.2.2.1,(a.2.2.2.2.2.1,(a.2.2.2.2.2.2.1,(a.2.2.2.2.2.2.2.1,(a.2.2.2.2.2.2.2.2.1,(a.2.2.2.2.2.2.2.2.2.1,(a.2.2.2.2.2.2.2.2.2.2.1,(a.2.2.2.2.2.2.2.2.2.2.2.1,(a.2.2.2.2.2.2.2.2.2.2.2.2.1,(a.2.2.2.2.2.2.2.2.2.2.2.2.2.1,(a.2.2.2.2.2.2.2.2.2.2.2.2.2.2.1,(a.2.2.2.2.2.2.2.2.2.2.2.2.2.2.2.1,(a.2.2.2.2.2.2.2.2.2.2.2.2.2.2.2.2.1,())))))))))))))))))) (
 opt.no _ 41)) (
 opt.need _ (p.eqN 0 0)<|
 opt.need _ (p.eqN (p.len a.2.1) (p.len a.2.1))<|
 opt.need _ (p.eqN (p.len a.2.1) (p.len a.2.1))<|
 opt.ret _ (a.1,(a.2.1,(a.2.2.1,(a.2.2.2.1,(a.2.2.2.2.1,(a.2.2.2.2.2.1,(a.2.2.2.2.2.2.1,(a.2.2.2.2.2.2.2.1,(a.2.2.2.2.2.2.2.2.1,(a.2.2.2.2.2.2.2.2.2.1,(a.2.2.2.2.2.2.2.2.2.2.1,(a.2.2.2.2.2.2.2.2.2.2.2.1,(a.2.2.2.2.2.2.2.2.2.2.2.2.1,(a.2.2.2.2.2.2.2.2.2.2.2.2.2.1,(a.2.2.2.2.2.2.2.2.2.2.2.2.2.2.1,(a.2.2.2.2.2.2.2.2.2.2.2.2.2.2.2.1,(a.2.2.2.2.2.2.2.2.2.2.2.2.2.2.2.2.1,())))))))))))))))))))) fun b=>
 opt.need _ (p.eqN 0 0)<|
 opt.need _ (p.eqN (p.len b.2.1) (p.len b.2.1))<|
 opt.need _ (p.eqN (p.len b.2.1) (p.len b.2.1))<|
 opt.ret _ (Sum.inl (b.1,(b.2.1,(b.2.2.1,(b.2.2.2.1,(b.2.2.2.2.1,(b.2.2.2.2.2.1,(b.2.2.2.2.2.2.1,(b.2.2.2.2.2.2.2.1,(b.2.2.2.2.2.2.2.2.1,(b.2.2.2.2.2.2.2.2.2.1,(b.2.2.2.2.2.2.2.2.2.2.1,(b.2.2.2.2.2.2.2.2.2.2.2.1,(b.2.2.2.2.2.2.2.2.2.2.2.2.1,(b.2.2.2.2.2.2.2.2.2.2.2.2.2.1,(b.2.2.2.2.2.2.2.2.2.2.2.2.2.2.1,(b.2.2.2.2.2.2.2.2.2.2.2.2.2.2.2.1,((p.ar .add .i64 b.2.2.2.2.2.2.2.2.2.2.2.2.2.2.2.2.1 (1:Int)),()))))))))))))))))))) (
 opt.need _ (p.eqN 0 0)<|
 opt.need _ (p.eqN (p.len a.2.1) (p.len a.2.1))<|
 opt.need _ (p.eqN (p.len a.2.1) (p.len a.2.1))<|
 opt.ret _ (Sum.inr (a.1,(a.2.1,(a.2.2.1,(a.2.2.2.1,(a.2.2.2.2.1,(a.2.2.2.2.2.1,(a.2.2.2.2.2.2.1,(a.2.2.2.2.2.2.2.1,(a.2.2.2.2.2.2.2.2.1,(a.2.2.2.2.2.2.2.2.2.1,(a.2.2.2.2.2.2.2.2.2.2.1,(a.2.2.2.2.2.2.2.2.2.2.2.1,(a.2.2.2.2.2.2.2.2.2.2.2.2.2.1,(a.2.2.2.2.2.2.2.2.2.2.2.2.2.2.1,())))))))))))))))))
def w6l (it:It) (p:Prim):(LD×(LD×T13))→Option ((LD×(LD×T13))⊕(LD×(LD×Unit))):=
 fun a=>opt.run _ (
 opt.ask _ (p.cmp .lss a.2.2.2.2.2.2.2.2.2.2.2.2.2.1 a.2.2.2.2.2.2.2.2.2.2.2.2.1) (
 opt.bnd ((LD×(LD×T13))) _ (
 opt.run ((LD×(LD×T13))) (
 opt.need _ (bif (p.cmp .geq a.2.2.2.2.2.2.2.2.2.2.2.2.2.1 (0:Int)) then (p.cmp .lss a.2.2.2.2.2.2.2.2.2.2.2.2.2.1 (p.ofNat 10)) else Bool.false)<|
 opt.need _ (p.rowOk a.1 (p.add 1 (p.mul (p.nat a.2.2.2.2.2.2.2.2.2.2.2.2.2.1) 10)) [ci])<|
 opt.need _ (p.rowOk a.1 (p.add (p.add 1 (p.mul (p.nat a.2.2.2.2.2.2.2.2.2.2.2.2.2.1) 10)) 1) [ci])<|
 opt.need _ (p.rowOk a.1 (p.add (p.add 1 (p.mul (p.nat a.2.2.2.2.2.2.2.2.2.2.2.2.2.1) 10)) 2) [ci])<|
 opt.need _ (p.rowOk a.1 (p.add (p.add 1 (p.mul (p.nat a.2.2.2.2.2.2.2.2.2.2.2.2.2.1) 10)) 3) [ci])<|
 opt.need _ (p.rowOk a.1 (p.add (p.add 1 (p.mul (p.nat a.2.2.2.2.2.2.2.2.2.2.2.2.2.1) 10)) 4) [ci])<|
 opt.need _ (p.rowOk a.1 (p.add (p.add 1 (p.mul (p.nat a.2.2.2.2.2.2.2.2.2.2.2.2.2.1) 10)) 5) [ci])<|
 opt.need _ (p.rowOk a.1 (p.add (p.add 1 (p.mul (p.nat a.2.2.2.2.2.2.2.2.2.2.2.2.2.1) 10)) 6) [ci])<|
 opt.need _ (p.rowOk a.1 (p.add (p.add 1 (p.mul (p.nat a.2.2.2.2.2.2.2.2.2.2.2.2.2.1) 10)) 7) [ci])<|
 opt.need _ (p.rowOk a.1 (p.add (p.add 1 (p.mul (p.nat a.2.2.2.2.2.2.2.2.2.2.2.2.2.1) 10)) 8) [ci])<|
 opt.need _ (p.rowOk a.1 (p.add (p.add 1 (p.mul (p.nat a.2.2.2.2.2.2.2.2.2.2.2.2.2.1) 10)) 9) [ci])<|
 opt.ask _ (bif (p.cmp .eql (p.rdI a.1 (p.add 1 (p.mul (p.nat a.2.2.2.2.2.2.2.2.2.2.2.2.2.1) 10)) 0) a.2.2.1) then (bif (p.cmp .eql (p.rdI a.1 (p.add (p.add 1 (p.mul (p.nat a.2.2.2.2.2.2.2.2.2.2.2.2.2.1) 10)) 1) 0) a.2.2.2.1) then (bif (p.cmp .eql (p.rdI a.1 (p.add (p.add 1 (p.mul (p.nat a.2.2.2.2.2.2.2.2.2.2.2.2.2.1) 10)) 2) 0) a.2.2.2.2.1) then (bif (p.cmp .eql (p.rdI a.1 (p.add (p.add 1 (p.mul (p.nat a.2.2.2.2.2.2.2.2.2.2.2.2.2.1) 10)) 3) 0) a.2.2.2.2.2.1) then (bif (p.cmp .eql (p.rdI a.1 (p.add (p.add 1 (p.mul (p.nat a.2.2.2.2.2.2.2.2.2.2.2.2.2.1) 10)) 4) 0) a.2.2.2.2.2.2.1) then (bif (p.cmp .eql (p.rdI a.1 (p.add (p.add 1 (p.mul (p.nat a.2.2.2.2.2.2.2.2.2.2.2.2.2.1) 10)) 5) 0) a.2.2.2.2.2.2.2.1) then (bif (p.cmp .eql (p.rdI a.1 (p.add (p.add 1 (p.mul (p.nat a.2.2.2.2.2.2.2.2.2.2.2.2.2.1) 10)) 6) 0) a.2.2.2.2.2.2.2.2.1) then (bif (p.cmp .eql (p.rdI a.1 (p.add (p.add 1 (p.mul (p.nat a.2.2.2.2.2.2.2.2.2.2.2.2.2.1) 10)) 7) 0) a.2.2.2.2.2.2.2.2.2.1) then (bif (p.cmp .eql (p.rdI a.1 (p.add (p.add 1 (p.mul (p.nat a.2.2.2.2.2.2.2.2.2.2.2.2.2.1) 10)) 8) 0) a.2.2.2.2.2.2.2.2.2.2.1) then (bif (p.cmp .eql (p.rdI a.1 (p.add (p.add 1 (p.mul (p.nat a.2.2.2.2.2.2.2.2.2.2.2.2.2.1) 10)) 9) 0) a.2.2.2.2.2.2.2.2.2.2.2.1) then Bool.true else Bool.false) else Bool.false) else Bool.false) else Bool.false) else Bool.false) else Bool.false) else Bool.false) else Bool.false) else Bool.false) else Bool.false) (
 opt.need _ (bif (p.cmp .geq a.2.2.2.2.2.2.2.2.2.2.2.2.2.1 (0:Int)) then (p.cmp .lss a.2.2.2.2.2.2.2.2.2.2.2.2.2.1 (p.ofNat (p.len a.2.1))) else Bool.false)<|
 opt.need _ (p.rowOk a.2.1 (p.add 0 (p.nat a.2.2.2.2.2.2.2.2.2.2.2.2.2.1)) [(CK.list 1)])<|
 opt.need _ (p.eqN 0 0)<|
 opt.need _ (p.eqN (p.len a.2.1) (p.len (p.set a.2.1 (p.add 0 (p.nat a.2.2.2.2.2.2.2.2.2.2.2.2.2.1)) [(D.list Bool.true 1 [])])))<|
 opt.need _ (p.eqN (p.len a.2.1) (p.len (p.set a.2.1 (p.add 0 (p.nat a.2.2.2.2.2.2.2.2.2.2.2.2.2.1)) [(D.list Bool.true 1 [])])))<|
 opt.ret _ (a.1,((p.set a.2.1 (p.add 0 (p.nat a.2.2.2.2.2.2.2.2.2.2.2.2.2.1)) [(D.list Bool.true 1 [])]),(a.2.2.1,(a.2.2.2.1,(a.2.2.2.2.1,(a.2.2.2.2.2.1,(a.2.2.2.2.2.2.1,(a.2.2.2.2.2.2.2.1,(a.2.2.2.2.2.2.2.2.1,(a.2.2.2.2.2.2.2.2.2.1,(a.2.2.2.2.2.2.2.2.2.2.1,(a.2.2.2.2.2.2.2.2.2.2.2.1,(a.2.2.2.2.2.2.2.2.2.2.2.2.1,(a.2.2.2.2.2.2.2.2.2.2.2.2.2.1,()))))))))))))))) (
 opt.need _ (p.rowOk a.1 0 [ci])<|
 opt.need _ (p.eqN 0 0)<|
 opt.need _ (p.eqN (p.len a.2.1) (p.len a.2.1))<|
 opt.need _ (p.eqN (p.len a.2.1) (p.len a.2.1))<|
 opt.bnd ((LD×(LD×T13))) _ (
 it _ _ (v5r p) (a.1,(a.2.1,(a.2.2.1,(a.2.2.2.1,(a.2.2.2.2.1,(a.2.2.2.2.2.1,(a.2.2.2.2.2.2.1,(a.2.2.2.2.2.2.2.1,(a.2.2.2.2.2.2.2.2.1,(a.2.2.2.2.2.2.2.2.2.1,(a.2.2.2.2.2.2.2.2.2.2.1,(a.2.2.2.2.2.2.2.2.2.2.2.1,(a.2.2.2.2.2.2.2.2.2.2.2.2.2.1,(a.2.2.2.2.2.2.2.2.2.2.2.2.1,(a.2.2.2.2.2.2.2.2.2.2.2.2.2.1,((p.rdI a.1 0 0),((0:Int),())))))))))))))))))) fun b=>
 opt.need _ (p.eqN 0 0)<|
 opt.need _ (p.eqN (p.len b.2.1) (p.len b.2.1))<|
 opt.need _ (p.eqN (p.len b.2.1) (p.len b.2.1))<|
 opt.ret _ (b.1,(b.2.1,(b.2.2.1,(b.2.2.2.1,(b.2.2.2.2.1,(b.2.2.2.2.2.1,(b.2.2.2.2.2.2.1,(b.2.2.2.2.2.2.2.1,(b.2.2.2.2.2.2.2.2.1,(b.2.2.2.2.2.2.2.2.2.1,(b.2.2.2.2.2.2.2.2.2.2.1,(b.2.2.2.2.2.2.2.2.2.2.2.1,(b.2.2.2.2.2.2.2.2.2.2.2.2.1,(b.2.2.2.2.2.2.2.2.2.2.2.2.2.1,()))))))))))))))))) fun c=>
 opt.need _ (p.eqN 0 0)<|
 opt.need _ (p.eqN (p.len c.2.1) (p.len c.2.1))<|
 opt.need _ (p.eqN (p.len c.2.1) (p.len c.2.1))<|
 opt.ret _ (Sum.inl (c.1,(c.2.1,(c.2.2.1,(c.2.2.2.1,(c.2.2.2.2.1,(c.2.2.2.2.2.1,(c.2.2.2.2.2.2.1,(c.2.2.2.2.2.2.2.1,(c.2.2.2.2.2.2.2.2.1,(c.2.2.2.2.2.2.2.2.2.1,(c.2.2.2.2.2.2.2.2.2.2.1,(c.2.2.2.2.2.2.2.2.2.2.2.1,(c.2.2.2.2.2.2.2.2.2.2.2.2.1,((p.ar .add .i64 c.2.2.2.2.2.2.2.2.2.2.2.2.2.1 (1:Int)),())))))))))))))))) (
 opt.need _ (p.eqN 0 0)<|
 opt.need _ (p.eqN (p.len a.2.1) (p.len a.2.1))<|
 opt.need _ (p.eqN (p.len a.2.1) (p.len a.2.1))<|
 opt.ret _ (Sum.inr (a.1,(a.2.1,())))))
def g49 (it:It):(p:Prim)→(LD×Unit)→Option ((LD×(LD×Unit))):=
 fun p x=>
 opt.need _ (p.rowOk x.1 0 [ci])<|
 opt.need _ (p.and (p.cmp .geq (p.rdI x.1 0 0) (0:Int)) (p.and (p.cmp .leq (p.rdI x.1 0 0) (p.rdI x.1 0 0)) (p.cmp .leq (p.rdI x.1 0 0) (1000000:Int))))<|
 opt.need _ (p.eqN 0 0)<|
 opt.need _ (p.eqN (p.nat (p.rdI x.1 0 0)) (p.len (p.rep (p.nat (p.rdI x.1 0 0)) [(D.list Bool.true 0 [])])))<|
 opt.need _ (p.eqN (p.nat (p.rdI x.1 0 0)) (p.len (p.rep (p.nat (p.rdI x.1 0 0)) [(D.list Bool.true 0 [])])))<|
 opt.bnd ((LD×(LD×Unit))) _ (
 it _ _ (w6l it p) (x.1,((p.rep (p.nat (p.rdI x.1 0 0)) [(D.list Bool.true 0 [])]),((0:Int),((0:Int),((0:Int),((0:Int),((0:Int),((0:Int),((0:Int),((0:Int),((0:Int),((0:Int),((p.ofNat (p.nat (p.rdI x.1 0 0))),((0:Int),()))))))))))))))) fun a=>
 opt.need _ (p.leN (p.add 0 (p.len a.2.1)) (p.len a.2.1))<|
 opt.ret _ (a.1,((p.cut a.2.1 0 (p.len a.2.1)),()))
def G49:=g49 it0
theorem ok49:CtrOk PG w9n (G49 std):=okF (a:=an49) (l:=la49) (gN) (by kernel_rfl) fun _ _=>by kernel_rfl
def w9s:Ctr:=
 ⟨30,[.list 1],[],[(.ret,⟨[(0, .tuple [.list 1, .int .i64])],[],1⟩)]⟩
def la30:List LA:=
 [⟨30,[false,true,false,true,true,true,true,true,true],0,⟨⟨[(7, .bptr 0 0),(8, .bptr 1 0),(9, .vec 3 1),(31, .int .i64),(32, .int .i64)],[.row [ci], .box [.sl 2 1], .row [ci], .row [ci]],82⟩,[((AX.exit 0),⟨[(7, .bptr 0 0),(8, .bptr 1 0),(9, .vec 2 1)],[.row [ci], .box [.sl 3 1], .row [ci], .row [ci]],82⟩)]⟩⟩,
 ⟨30,[false,false,true,true,true,true,true,true,true],0,⟨⟨[(7, .bptr 0 0),(8, .bptr 1 0),(9, .sl 2 1)],[.row [ci], .box [.sl 3 1], .row [ci], .row [ci]],82⟩,[((AX.exit 2),⟨[(7, .bptr 0 0)],[.row [ci]],82⟩)]⟩⟩,
 ⟨30,[false,true,true,true,true,false,true,false,false,false,true,true,true,true,true,true,true],0,⟨⟨[(7, .bptr 0 0),(8, .bptr 1 0),(9, .sl 2 1),(11, .int .i64),(51, .sl 2 1),(52, .int .i64),(53, .int .i64)],[.row [ci], .box [.sl 3 1], .row [ci], .row [ci]],82⟩,[((AX.exit 4),⟨[(7, .bptr 0 0),(8, .bptr 1 0),(9, .sl 2 1)],[.row [ci], .box [.sl 3 1], .row [ci], .row [ci]],82⟩)]⟩⟩]
def ja30:List JA:=
 [⟨30,[true,true,false,false,true,true,false,false,true,true,true,true,false,true,false,false,false,true,true,true,true,true,true,true],0,[(AX.normal,⟨[(7, .bptr 0 0),(8, .bptr 1 0),(9, .sl 2 1),(11, .int .i64),(51, .sl 2 1),(52, .int .i64),(53, .int .i64)],[.row [ci], .box [.sl 3 1], .row [ci], .row [ci]],82⟩)]⟩]
def v4l:List CF:=
 [⟨w9n,G49⟩,⟨w27,v7b⟩,⟨w9j,G65⟩,⟨w6a,G64⟩,⟨w1i,G61⟩]
def an30:Anns:=
 ⟨v4l,ja30,[]⟩
def v5v (p:Prim):(LD×(LD×(LD×T22)))→Option ((LD×(LD×(LD×T22)))⊕(LD×(LD×(LD×T17)))):=
 fun a=>opt.run _ (
 opt.ask _ (p.cmp .lss a.2.2.2.2.2.2.2.2.2.2.2.1 a.2.2.2.2.2.2.2.2.2.2.1) (
 opt.need _ (bif (p.cmp .geq a.2.2.2.2.2.2.2.2.2.2.2.1 (0:Int)) then (p.cmp .lss a.2.2.2.2.2.2.2.2.2.2.2.1 (p.ofNat a.2.2.2.2.2.2.2.2.2.1)) else Bool.false)<|
 opt.need _ (p.rowOk a.2.1 (p.add a.2.2.2.2.2.2.2.2.1 (p.nat a.2.2.2.2.2.2.2.2.2.2.2.1)) [ci])<|
 opt.need _ (bif (p.cmp .geq a.2.2.2.2.2.2.2.1 (0:Int)) then (p.cmp .lss a.2.2.2.2.2.2.2.1 (p.ofNat a.2.2.2.2.1)) else Bool.false)<|
 opt.need _ (p.rowOk a.2.2.1 (p.add a.2.2.2.1 (p.nat a.2.2.2.2.2.2.2.1)) [ci])<|
 opt.bnd ((LD×(LD×(LD×T22)))) _ (
 opt.run ((LD×(LD×(LD×T22)))) (
 opt.ask _ (p.cmp .lss a.2.2.2.2.2.2.2.2.2.2.2.1 (p.rdI a.2.2.1 (p.add a.2.2.2.1 (p.nat a.2.2.2.2.2.2.2.1)) 0)) (
 opt.need _ (bif (p.cmp .geq a.2.2.2.2.2.2.2.1 (0:Int)) then (p.cmp .lss a.2.2.2.2.2.2.2.1 (p.ofNat 10)) else Bool.false)<|
 opt.need _ (bif (p.cmp .geq (p.rdI a.2.1 (p.add a.2.2.2.2.2.2.2.2.1 (p.nat a.2.2.2.2.2.2.2.2.2.2.2.1)) 0) (0:Int)) then (p.cmp .lss (p.rdI a.2.1 (p.add a.2.2.2.2.2.2.2.2.1 (p.nat a.2.2.2.2.2.2.2.2.2.2.2.1)) 0) (p.ofNat 10)) else Bool.false)<|
 opt.need _ (p.rowOk a.1 (p.add (p.add 1 (p.mul (p.nat a.2.2.2.2.2.2.2.1) 10)) (p.nat (p.rdI a.2.1 (p.add a.2.2.2.2.2.2.2.2.1 (p.nat a.2.2.2.2.2.2.2.2.2.2.2.1)) 0))) [ci])<|
 opt.ret _ ((p.set a.1 (p.add (p.add 1 (p.mul (p.nat a.2.2.2.2.2.2.2.1) 10)) (p.nat (p.rdI a.2.1 (p.add a.2.2.2.2.2.2.2.2.1 (p.nat a.2.2.2.2.2.2.2.2.2.2.2.1)) 0))) [k1k]),(a.2.1,(a.2.2.1,(a.2.2.2.1,(a.2.2.2.2.1,(a.2.2.2.2.2.1,(a.2.2.2.2.2.2.1,(a.2.2.2.2.2.2.2.1,(a.2.2.2.2.2.2.2.2.1,(a.2.2.2.2.2.2.2.2.2.1,(a.2.2.2.2.2.2.2.2.2.2.1,(a.2.2.2.2.2.2.2.2.2.2.2.1,()))))))))))))) (
 opt.need _ (bif (p.cmp .geq (p.rdI a.2.1 (p.add a.2.2.2.2.2.2.2.2.1 (p.nat a.2.2.2.2.2.2.2.2.2.2.2.1)) 0) (0:Int)) then (p.cmp .lss (p.rdI a.2.1 (p.add a.2.2.2.2.2.2.2.2.1 (p.nat a.2.2.2.2.2.2.2.2.2.2.2.1)) 0) (p.ofNat 10)) else Bool.false)<|
 opt.need _ (bif (p.cmp .geq a.2.2.2.2.2.2.2.1 (0:Int)) then (p.cmp .lss a.2.2.2.2.2.2.2.1 (p.ofNat 10)) else Bool.false)<|
 opt.need _ (p.rowOk a.1 (p.add (p.add 1 (p.mul (p.nat (p.rdI a.2.1 (p.add a.2.2.2.2.2.2.2.2.1 (p.nat a.2.2.2.2.2.2.2.2.2.2.2.1)) 0)) 10)) (p.nat a.2.2.2.2.2.2.2.1)) [ci])<|
 opt.need _ (bif (p.cmp .geq (p.rdI a.2.1 (p.add a.2.2.2.2.2.2.2.2.1 (p.nat a.2.2.2.2.2.2.2.2.2.2.2.1)) 0) (0:Int)) then (p.cmp .lss (p.rdI a.2.1 (p.add a.2.2.2.2.2.2.2.2.1 (p.nat a.2.2.2.2.2.2.2.2.2.2.2.1)) 0) (p.ofNat a.2.2.2.2.1)) else Bool.false)<|
 opt.need _ (p.rowOk a.2.2.1 (p.add a.2.2.2.1 (p.nat (p.rdI a.2.1 (p.add a.2.2.2.2.2.2.2.2.1 (p.nat a.2.2.2.2.2.2.2.2.2.2.2.1)) 0))) [ci])<|
 opt.need _ (bif (p.cmp .geq (p.rdI a.2.1 (p.add a.2.2.2.2.2.2.2.2.1 (p.nat a.2.2.2.2.2.2.2.2.2.2.2.1)) 0) (0:Int)) then (p.cmp .lss (p.rdI a.2.1 (p.add a.2.2.2.2.2.2.2.2.1 (p.nat a.2.2.2.2.2.2.2.2.2.2.2.1)) 0) (p.ofNat a.2.2.2.2.1)) else Bool.false)<|
 opt.need _ (p.rowOk a.2.2.1 (p.add a.2.2.2.1 (p.nat (p.rdI a.2.1 (p.add a.2.2.2.2.2.2.2.2.1 (p.nat a.2.2.2.2.2.2.2.2.2.2.2.1)) 0))) [ci])<|
 opt.ret _ ((p.set a.1 (p.add (p.add 1 (p.mul (p.nat (p.rdI a.2.1 (p.add a.2.2.2.2.2.2.2.2.1 (p.nat a.2.2.2.2.2.2.2.2.2.2.2.1)) 0)) 10)) (p.nat a.2.2.2.2.2.2.2.1)) [k1k]),(a.2.1,((p.set a.2.2.1 (p.add a.2.2.2.1 (p.nat (p.rdI a.2.1 (p.add a.2.2.2.2.2.2.2.2.1 (p.nat a.2.2.2.2.2.2.2.2.2.2.2.1)) 0))) [(D.int .i64 (p.ar .sub .i64 (p.rdI a.2.2.1 (p.add a.2.2.2.1 (p.nat (p.rdI a.2.1 (p.add a.2.2.2.2.2.2.2.2.1 (p.nat a.2.2.2.2.2.2.2.2.2.2.2.1)) 0))) 0) (1:Int)))]),(a.2.2.2.1,(a.2.2.2.2.1,(a.2.2.2.2.2.1,(a.2.2.2.2.2.2.1,(a.2.2.2.2.2.2.2.1,(a.2.2.2.2.2.2.2.2.1,(a.2.2.2.2.2.2.2.2.2.1,(a.2.2.2.2.2.2.2.2.2.2.1,(a.2.2.2.2.2.2.2.2.2.2.2.1,()))))))))))))))) fun b=>
 opt.ret _ (Sum.inl (b.1,(b.2.1,(b.2.2.1,(b.2.2.2.1,(b.2.2.2.2.1,(b.2.2.2.2.2.1,(b.2.2.2.2.2.2.1,(b.2.2.2.2.2.2.2.1,(b.2.2.2.2.2.2.2.2.1,(b.2.2.2.2.2.2.2.2.2.1,(b.2.2.2.2.2.2.2.2.2.2.1,((p.ar .add .i64 b.2.2.2.2.2.2.2.2.2.2.2.1 (1:Int)),())))))))))))))) (
 opt.ret _ (Sum.inr (a.1,(a.2.1,(a.2.2.1,(a.2.2.2.1,(a.2.2.2.2.1,(a.2.2.2.2.2.1,(a.2.2.2.2.2.2.1,()))))))))))
def w6m (it:It) (p:Prim):(LD×(LD×(LD×T17)))→Option ((LD×(LD×(LD×T17)))⊕(LD×Unit)):=
 fun a=>opt.run _ (
 opt.ask _ (p.cmp .gtr (p.ofNat a.2.2.2.2.2.2.1) (0:Int)) (
 opt.need _ (bif (p.cmp .geq (0:Int) (0:Int)) then (p.cmp .lss (0:Int) (p.ofNat a.2.2.2.2.2.2.1)) else Bool.false)<|
 opt.need _ (p.rowOk a.2.1 (p.add a.2.2.2.2.2.1 (p.nat (0:Int))) [ci])<|
 opt.need _ (p.and (p.cmp .geq (1:Int) (0:Int)) (p.and (p.cmp .leq (1:Int) (p.ofNat a.2.2.2.2.2.2.1)) (p.cmp .leq (p.ofNat a.2.2.2.2.2.2.1) (p.ofNat a.2.2.2.2.2.2.1))))<|
 opt.bnd ((LD×(LD×T5))) _ (v1b it p (a.2.1,(a.2.2.1,(a.2.2.2.1,(a.2.2.2.2.1,((p.add a.2.2.2.2.2.1 (p.nat (1:Int))),((p.sub (p.nat (p.ofNat a.2.2.2.2.2.2.1)) (p.nat (1:Int))),()))))))) fun b=>
 opt.bnd ((LD×(LD×(LD×T17)))) _ (
 it _ _ (v5v p) (a.1,(b.1,(b.2.1,(b.2.2.1,(b.2.2.2.1,((p.add a.2.2.2.2.2.1 (p.nat (1:Int))),((p.sub (p.nat (p.ofNat a.2.2.2.2.2.2.1)) (p.nat (1:Int))),((p.rdI a.2.1 (p.add a.2.2.2.2.2.1 (p.nat (0:Int))) 0),((p.add a.2.2.2.2.2.1 (p.nat (1:Int))),((p.sub (p.nat (p.ofNat a.2.2.2.2.2.2.1)) (p.nat (1:Int))),((p.ofNat (p.sub (p.nat (p.ofNat a.2.2.2.2.2.2.1)) (p.nat (1:Int)))),((0:Int),()))))))))))))) fun c=>
 opt.ret _ (Sum.inl (c.1,(c.2.1,(c.2.2.1,(c.2.2.2.1,(c.2.2.2.2.1,(c.2.2.2.2.2.1,(c.2.2.2.2.2.2.1,()))))))))) (
 opt.ret _ (Sum.inr (a.1,()))))
def v5w (p:Prim):(LD×(LD×(LD×T35)))→Option ((LD×(LD×(LD×T35)))⊕(LD×(LD×(LD×T5)))):=
 fun a=>opt.run _ (
 opt.ask _ (p.cmp .lss a.2.2.2.2.2.2.1 a.2.2.2.2.2.1) (
 opt.need _ (p.and (p.leN (p.add 0 1) (p.len [[(D.int .i64 a.2.2.2.2.2.2.1)]])) (p.and (p.leN (p.add 0 (p.len a.2.2.1)) (p.len a.2.2.1)) (p.and (p.leN 1 1) (p.leN (p.add (p.len a.2.2.1) 1) 1000000))))<|
 opt.need _ (p.eqN 0 0)<|
 opt.need _ (p.eqN (p.add (p.len a.2.2.1) 1) (p.len (p.app (p.cut a.2.2.1 0 (p.len a.2.2.1)) (p.cut [[(D.int .i64 a.2.2.2.2.2.2.1)]] 0 1))))<|
 opt.ret _ (Sum.inl (a.1,(a.2.1,((p.app (p.cut a.2.2.1 0 (p.len a.2.2.1)) (p.cut [[(D.int .i64 a.2.2.2.2.2.2.1)]] 0 1)),(a.2.2.2.1,(a.2.2.2.2.1,(a.2.2.2.2.2.1,((p.ar .add .i64 a.2.2.2.2.2.2.1 (1:Int)),()))))))))) (
 opt.need _ (p.eqN 0 0)<|
 opt.need _ (p.eqN (p.len a.2.2.1) (p.len a.2.2.1))<|
 opt.ret _ (Sum.inr (a.1,(a.2.2.1,(a.2.1,(a.2.2.2.1,(a.2.2.2.2.1,()))))))))
def g30 (it:It):(p:Prim)→(LD×Unit)→Option ((LD×T1)):=
 fun p x=>
 opt.bnd T2 _ (g61 it p (x.1,())) fun a=>
 opt.ask _ (p.cmp .neq a.1 (0:Int)) (
 opt.ret _ ([],(a.1,()))) (
 opt.bnd ((LD×T8)) _ (g64 it p (x.1,())) fun b=>
 opt.ask _ b.2.1 (
 opt.ret _ ([],((13:Int),()))) (
 opt.need _ (p.rowOk (p.rep 101 k0k) 0 [ci])<|
 opt.need _ (p.leN (p.add 0 101) (p.len (p.rep 101 k0k)))<|
 opt.bnd ((LD×T5)) _ (G65 p (x.1,())) fun c=>
 opt.bnd ((LD×(LD×(LD×T5)))) _ (
 it _ _ (v5w p) ((p.splice (p.rep 101 k0k) 0 [[(D.int .i64 (p.ofNat (p.len x.1)))],k0k,k0k,k0k,k0k,k0k,k0k,k0k,k0k,k0k,k0k,k0k,k0k,k0k,k0k,k0k,k0k,k0k,k0k,k0k,k0k,k0k,k0k,k0k,k0k,k0k,k0k,k0k,k0k,k0k,k0k,k0k,k0k,k0k,k0k,k0k,k0k,k0k,k0k,k0k,k0k,k0k,k0k,k0k,k0k,k0k,k0k,k0k,k0k,k0k,k0k,k0k,k0k,k0k,k0k,k0k,k0k,k0k,k0k,k0k,k0k,k0k,k0k,k0k,k0k,k0k,k0k,k0k,k0k,k0k,k0k,k0k,k0k,k0k,k0k,k0k,k0k,k0k,k0k,k0k,k0k,k0k,k0k,k0k,k0k,k0k,k0k,k0k,k0k,k0k,k0k,k0k,k0k,k0k,k0k,k0k,k0k,k0k,k0k,k0k,k0k]),(c.1,([],(c.2.1,(c.2.2.1,((p.ofNat (p.len x.1)),((0:Int),())))))))) fun d=>
 opt.bnd ((LD×Unit)) _ (
 it _ _ (w6m it p) (d.1,(d.2.1,(d.2.2.1,(d.2.2.2.1,(d.2.2.2.2.1,(0,((p.len d.2.1),())))))))) fun e=>
 opt.bnd ((LD×(LD×Unit))) _ (g49 it p (e.1,())) fun f=>
 opt.ret _ (f.2.1,((0:Int),()))))
def G30:=g30 it0
theorem ok30:CtrOk PG w9s (G30 std):=okF (a:=an30) (l:=la30) (gC ok49 (gC v16 (gC ok65 (gC v6k (gC v17 (gN)))))) (by kernel_rfl) fun _ _=>by kernel_rfl
end Go.Am
end
section
namespace Go.Am
open T11
def dOf (f:Nat→Nat→Bool) (n:Nat):List (List Int):=(List.range n).map fun i=>toI ((List.range n).filter (f i))
theorem x05 (f:Nat→Nat→Bool) (n:Nat):(dOf f n).length=n:=by simp [dOf]
theorem w51 (f:Nat→Nat→Bool) {n i:Nat} (hi:i<n):(dOf f n)[i]?=some (toI ((List.range n).filter (f i))):=by
 rw [dOf,List.getElem?_map,List.getElem?_range hi]; rfl
end Go.Am
end
section
namespace Go.Am
open T11
theorem x2q (f:Nat→Nat→Bool) {n i:Nat} (hi:i<n):(dOf f n).getD i []=toI ((List.range n).filter (f i)):=by
 rw [List.getD_eq_getElem?_getD,w51 f hi]; rfl
theorem y9a {f:Nat→Nat→Bool} {n i k:Nat} (hi:i<n) (hk:k<n):bt (dOf f n) i k=f i k:=by
 rw [bt,x2q f hi]
 cases h:f i k with
 |true=>exact decide_eq_true (by rw [toI,List.mem_map]; exact ⟨k,List.mem_filter.2 ⟨List.mem_range.2 hk,h⟩,rfl⟩)
 |false=>
  refine decide_eq_false fun hm=>?_
  rw [toI,List.mem_map] at hm
  obtain ⟨j,hj,he⟩:=hm
  have:j=k:=by omega
  subst this
  rw [(List.mem_filter.1 hj).2] at h; cases h
theorem x3g {l:List Nat} {n:Nat} (hp:l.Pairwise (· < ·)) (hl:∀ x∈l,x<n):z20 (toI l) n:=by
 intro i hi
 rw [y90] at hi
 have hx:∀ j,j<l.length→∃ a,l[j]?=some a∧gI (toI l) j=(a:Int):=fun j hj=>by
  obtain ⟨a,ha⟩:=z15 hj
  refine ⟨a,ha,?_⟩
  rw [gI,toI,List.getD_eq_getElem?_getD,List.getElem?_map,ha]; rfl
 obtain ⟨a,ha,he⟩:=hx i hi
 have hal:=hl a (List.mem_of_getElem? ha)
 refine ⟨?_,?_,fun h0=>?_⟩
 ·show 0≤gI (toI l) i; omega
 ·show gI (toI l) i<n; omega
 ·obtain ⟨b,hb,he'⟩:=hx (i - 1) (by omega)
  show gI (toI l) (i - 1)<gI (toI l) i
  rw [he,he']
  rw [List.pairwise_iff_getElem] at hp
  have:=hp (i - 1) i (by omega) hi (by omega)
  rw [(List.getElem?_eq_some_iff.1 ha).2,(List.getElem?_eq_some_iff.1 hb).2] at this
  omega
theorem w1g {f:Nat→Nat→Bool} {n:Nat} (h1:1≤n) (h10:n≤10) (ht:z9y f n):z02 (dOf f n)=0:=by
 rw [z02,if_neg (by rw [x05]; omega),if_neg,if_neg]
 ·rintro ⟨i,hi,hb⟩
  rw [x05] at hi
  have hi:=List.mem_range.1 hi
  rcases hb with hb|⟨k,hk,hb⟩
  ·have h2:=ht.1 i hi
   have h3:=y9a (f:=f) hi hi
   rw [bt,decide_eq_true hb,h2] at h3; cases h3
  ·have hk:=List.mem_range.1 hk
   have h2:=ht.2 i k hi (by omega) (by omega)
   have h3:=y9a (f:=f) (i:=i) (k:=k) hi (by omega)
   have h4:=y9a (f:=f) (i:=k) (k:=i) (by omega) hi
   rw [bt] at h3 h4
   rw [h3,h4,h2] at hb
   revert hb
   cases f k i<;>simp
 ·rintro ⟨i,hi,hb⟩
  rw [x05] at hi hb
  have hi:=List.mem_range.1 hi
  refine hb ?_
  rw [x2q f hi]
  exact x3g (List.Pairwise.filter _ List.pairwise_lt_range) fun x hx=>List.mem_range.1 (List.mem_filter.1 hx).1
def x1m (f:Nat→Nat→Bool) (i k:Nat):Nat→Nat→Bool:=fun a b=>f a b||(decide (a=i)&&decide (b=k))
def stG (s v:Nat) (rest:List Nat) (st:(Nat→Nat→Bool)×List Int):Nat→(Nat→Nat→Bool)×List Int
 |0=>st
 |k+1=>if k<v then (x1m (stG s v rest st k).1 s (at_ rest k),(stG s v rest st k).2)
   else (x1m (stG s v rest st k).1 (at_ rest k) s,(stG s v rest st k).2.set (at_ rest k) (gI (stG s v rest st k).2 (at_ rest k) - 1))
theorem y9o {l:List Nat} {q:Nat} (h:q<l.length):at_ l q∈l:=by
 rw [at_,List.getD_eq_getElem?_getD,List.getElem?_eq_getElem h]; exact List.getElem_mem h
theorem x27 {l:List Nat} (hn:l.Nodup) {q r:Nat} (hq:q<l.length) (hr:r<l.length) (h:at_ l q=at_ l r):q=r:=by
 rw [at_,at_,List.getD_eq_getElem?_getD,List.getD_eq_getElem?_getD,List.getElem?_eq_getElem hq,List.getElem?_eq_getElem hr] at h
 exact (List.getElem?_inj hq hn).1 (by rw [List.getElem?_eq_getElem hq,List.getElem?_eq_getElem hr]; exact congrArg some h)
theorem v0b {l:List Nat} {x:Nat} (h:x∈l):∃ q,q<l.length∧at_ l q=x:=by
 obtain ⟨q,hq⟩:=List.getElem?_of_mem h
 refine ⟨q,(List.getElem?_eq_some_iff.1 hq).1,?_⟩
 rw [at_,List.getD_eq_getElem?_getD,hq]; rfl
theorem x21 {n:Nat} {p:Nat→Bool} {x:Nat} (hx:x<n) (hp:p x=false):cnt n (fun b=>p b||decide (b=x))=cnt n p+1:=by
 have h1:cnt n (fun b=>decide (b=x))=1:=by
  have:=z76 x (n - x) (fun b=>decide (b=x))
  rw [show x+(n - x)=n by omega] at this
  rw [this,z3k (n:=x) (q:=fun _=>false) fun i hi=>decide_eq_false (by omega),z77]
  obtain ⟨m,hm⟩:∃ m,n - x=1+m:=⟨n - x - 1,by omega⟩
  rw [hm,z76,z3k (n:=m) (q:=fun _=>false) fun i hi=>decide_eq_false (by omega),z77]
  simp [cnt,sm,o1]
 rw [←h1,cnt,cnt,cnt, ←z82]
 refine z2m fun i hi=>?_
 by_cases e:i=x
 ·subst e; rw [hp]; simp [o1]
 ·simp [e,o1]
structure Step (n s v:Nat) (rest:List Nat) (f0:Nat→Nat→Bool) (l0:List Int) (f:Nat→Nat→Bool) (l:List Int) (k:Nat):Prop where
 len:l.length=n
 sup:∀ a b,f a b=true→a<n∧b<n
 oth:∀ x,x<n→x≠s→(cnt n (f x):Int)+gI l x=(cnt n (f0 x):Int)+gI l0 x
 own:cnt n (f s)=cnt n (f0 s)+min k v
 left:∀ x,x<n→gI l x=if ∃ q∈List.range k,v≤q∧at_ rest q=x then gI l0 x - 1 else gI l0 x
 done:∀ q,q<rest.length→f s (at_ rest q)=decide (q<k∧q<v)∧f (at_ rest q) s=decide (q<k∧v≤q)
 same:∀ a b,(a≠s∨b∉rest)→(b≠s∨a∉rest)→f a b=f0 a b
theorem w7o {n s v:Nat} {rest:List Nat} {f0:Nat→Nat→Bool} {l0:List Int} (hs:s<n) (hsr:s∉rest) (hn:rest.Nodup) (hr:∀ x∈rest,x<n) (hl:l0.length=n)
  (hsup:∀ a b,f0 a b=true→a<n∧b<n) (h0:∀ x∈rest,f0 s x=false∧f0 x s=false) (k:Nat) (hk:k≤rest.length):
  Step n s v rest f0 l0 (stG s v rest (f0,l0) k).1 (stG s v rest (f0,l0) k).2 k:=by
 induction k with
 |zero=>
  refine ⟨hl,hsup,fun x _ _=>rfl,by simp [stG],fun x _=>?_,fun q hq=>?_,fun a b _ _=>rfl⟩
  ·rw [if_neg (by rintro ⟨q,hq,_⟩; simp at hq)]; rfl
  ·obtain ⟨a1,a2⟩:=h0 _ (y9o hq)
   exact ⟨by simp [stG,a1],by simp [stG,a2]⟩
 |succ k ih=>
  have ih:=ih (by omega)
  rw [stG]
  generalize (stG s v rest (f0,l0) k).1=f at ih⊢
  generalize (stG s v rest (f0,l0) k).2=l at ih⊢
  have hxr:=y9o (l:=rest) (q:=k) (by omega)
  have hxn:=hr _ hxr
  have hxs:at_ rest k≠s:=fun e=>hsr (e▸hxr)
  obtain ⟨d1,d2⟩:=ih.done k (by omega)
  have d1:f s (at_ rest k)=false:=by rw [d1]; exact decide_eq_false (by omega)
  have d2:f (at_ rest k) s=false:=by rw [d2]; exact decide_eq_false (by omega)
  by_cases hkv:k<v
  ·rw [if_pos hkv]
   have hother:∀ a,a≠s→x1m f s (at_ rest k) a=f a:=fun a ha=>by
    funext b; simp [x1m,ha]
   have hself:x1m f s (at_ rest k) s=fun b=>f s b||decide (b=at_ rest k):=by
    funext b; simp [x1m]
   refine ⟨ih.len,fun a b hab=>?_,fun x hx hne=>?_,?_,fun x hx=>?_,fun q hq=>?_,fun a b h1 h2=>?_⟩
   ·simp only [x1m,Bool.or_eq_true,Bool.and_eq_true,decide_eq_true_eq] at hab
    rcases hab with hab|⟨rfl,rfl⟩
    ·exact ih.sup a b hab
    ·exact ⟨hs,hxn⟩
   ·simp only [hother x hne]; exact ih.oth x hx hne
   ·simp only [hself]
    rw [x21 hxn d1,ih.own]; omega
   ·simp only
    rw [ih.left x hx]
    by_cases c:∃ q∈List.range k,v≤q∧at_ rest q=x
    ·rw [if_pos c,if_pos]
     obtain ⟨q,hq,h1,h2⟩:=c
     exact ⟨q,by simp at hq⊢; omega,h1,h2⟩
    ·rw [if_neg c,if_neg]
     rintro ⟨q,hq,h1,h2⟩
     simp at hq
     exact c ⟨q,by simp; omega,h1,h2⟩
   ·obtain ⟨e1,e2⟩:=ih.done q hq
    have hqs:at_ rest q≠s:=fun e=>hsr (e▸y9o hq)
    refine ⟨?_,?_⟩
    ·simp only [hself]
     rw [e1]
     by_cases e:q=k
     ·subst e; simp [hkv]
     ·have:at_ rest q≠at_ rest k:=fun h=>e (x27 hn hq (by omega) h)
      simp only [this,decide_false,Bool.or_false]
      congr 1
      exact propext ⟨fun h=>⟨by omega,h.2⟩,fun h=>⟨by omega,h.2⟩⟩
    ·simp only [hother _ hqs]
     rw [e2]
     congr 1
     exact propext ⟨fun h=>⟨by omega,h.2⟩,fun h=>⟨by omega,h.2⟩⟩
   ·simp only [x1m]
    rw [ih.same a b h1 h2]
    have:¬ (a=s∧b=at_ rest k):=by
     rintro ⟨rfl,rfl⟩
     rcases h1 with h1|h1
     ·exact h1 rfl
     ·exact h1 hxr
    cases f0 a b with
    |true=>rfl
    |false=>
     simp only [Bool.false_or]
     cases hq:(decide (a=s)&&decide (b=at_ rest k)) with
     |false=>rfl
     |true=>simp at hq; exact absurd hq this
  ·rw [if_neg hkv]
   have hother:∀ a,a≠at_ rest k→x1m f (at_ rest k) s a=f a:=fun a ha=>by
    funext b; simp [x1m,ha]
   have hself:x1m f (at_ rest k) s (at_ rest k)=fun b=>f (at_ rest k) b||decide (b=s):=by
    funext b; simp [x1m]
   have hlx:gI l (at_ rest k)=gI l0 (at_ rest k):=by
    rw [ih.left _ hxn,if_neg]
    rintro ⟨q,hq,h1,h2⟩
    simp at hq
    have:=x27 hn (by omega) (by omega) h2
    omega
   refine ⟨by rw [List.length_set]; exact ih.len,fun a b hab=>?_,fun x hx hne=>?_,?_,fun x hx=>?_,fun q hq=>?_,fun a b h1 h2=>?_⟩
   ·simp only [x1m,Bool.or_eq_true,Bool.and_eq_true,decide_eq_true_eq] at hab
    rcases hab with hab|⟨rfl,rfl⟩
    ·exact ih.sup a b hab
    ·exact ⟨hxn,hs⟩
   ·have ho:=ih.oth x hx hne
    simp only
    by_cases e:x=at_ rest k
    ·subst e
     rw [hself,x21 hs d2,y8x (by rw [ih.len]; exact hxn),if_pos rfl]
     omega
    ·rw [hother x e,y8x (by rw [ih.len]; exact hxn),if_neg e]; exact ho
   ·simp only
    rw [hother s (Ne.symm hxs),ih.own]; omega
   ·simp only
    rw [y8x (by rw [ih.len]; exact hxn)]
    by_cases e:x=at_ rest k
    ·subst e
     rw [if_pos rfl,if_pos ⟨k,by simp,by omega,rfl⟩,hlx]
    ·rw [if_neg e,ih.left x hx]
     by_cases c:∃ q∈List.range k,v≤q∧at_ rest q=x
     ·rw [if_pos c,if_pos]
      obtain ⟨q,hq,h1,h2⟩:=c
      exact ⟨q,by simp at hq⊢; omega,h1,h2⟩
     ·rw [if_neg c,if_neg]
      rintro ⟨q,hq,h1,h2⟩
      simp at hq
      by_cases e2:q=k
      ·subst e2; exact e h2.symm
      ·exact c ⟨q,by simp; omega,h1,h2⟩
   ·obtain ⟨e1,e2⟩:=ih.done q hq
    refine ⟨?_,?_⟩
    ·simp only
     rw [hother s (Ne.symm hxs),e1]
     congr 1
     exact propext ⟨fun h=>⟨by omega,h.2⟩,fun h=>⟨by omega,h.2⟩⟩
    ·simp only
     by_cases e:q=k
     ·subst e
      rw [hself]
      simp; omega
     ·have:at_ rest q≠at_ rest k:=fun h=>e (x27 hn hq (by omega) h)
      rw [hother _ this,e2]
      congr 1
      exact propext ⟨fun h=>⟨by omega,h.2⟩,fun h=>⟨by omega,h.2⟩⟩
   ·simp only [x1m]
    rw [ih.same a b h1 h2]
    have:¬ (a=at_ rest k∧b=s):=by
     rintro ⟨rfl,rfl⟩
     rcases h2 with h2|h2
     ·exact h2 rfl
     ·exact h2 hxr
    cases f0 a b with
    |true=>rfl
    |false=>
     simp only [Bool.false_or]
     cases hq:(decide (a=at_ rest k)&&decide (b=s)) with
     |false=>rfl
     |true=>simp at hq; exact absurd hq this
end Go.Am
end
section
namespace Go.Am
open T11
structure v6b (w:List Int) (n:Nat) (f:Nat→Nat→Bool) (l:List Int) (cur:List Nat):Prop where
 len:l.length=n
 nd:cur.Nodup
 lt:∀ x∈cur,x<n
 sup:∀ a b,f a b=true→a<n∧b<n
 irr:∀ a,f a a=false
 cnt:∀ x,x<n→(cnt n (f x):Int)+(if x∈cur then gI l x else 0)=gI w x
 lan:Lan (cur.map fun x=>gI l x)
 both:∀ a b,a∈cur→b∈cur→f a b=false
 one:∀ a b,a<n→b<n→a≠b→¬ (a∈cur∧b∈cur)→f a b=!f b a
def z7t (l:List Int) (rest0:List Nat):List Nat:=(z1o (key l) (toI rest0)).map Int.toNat
theorem x56 (l:List Int) (rest0:List Nat):z1o (key l) (toI rest0)=toI (z7t l rest0):=by
 have hp:=z6m (key l) (toI rest0)
 rw [z7t]
 have hge:∀ x∈z1o (key l) (toI rest0),∃ i:Nat,x=(i:Int):=fun x hx=>by
  have:=hp.mem_iff.1 hx
  rw [toI,List.mem_map] at this
  obtain ⟨i,_,rfl⟩:=this
  exact ⟨i,rfl⟩
 generalize z1o (key l) (toI rest0)=S at hge⊢
 rw [toI,List.map_map]
 refine (List.map_id _).symm.trans (List.map_congr_left fun x hx=>?_)
 obtain ⟨i,rfl⟩:=hge x hx
 simp
theorem x3v (l:List Int) (rest0:List Nat):(z7t l rest0).Perm rest0:=by
 have hp:=(z6m (key l) (toI rest0)).map Int.toNat
 have e:(toI rest0).map Int.toNat=rest0:=by
  rw [toI,List.map_map]
  exact (List.map_congr_left fun a _=>by simp).trans (List.map_id _)
 rw [e] at hp
 exact hp
theorem x9w (l:List Int) (rest0:List Nat):((z7t l rest0).map fun x=>gI l x).Pairwise (· ≤ ·):=by
 have hpw:=x1k (key l) (toI rest0)
 rw [x56,toI,List.pairwise_map] at hpw
 rw [List.pairwise_map]
 exact hpw.imp fun {a b} hab=>by
  simp only [key,Int.toNat_natCast] at hab
  exact hab
theorem w40 {l:List Nat} {g h:Nat→Int} {v:Nat} (hh:∀ q,q<l.length→h (at_ l q)=if v≤q then g (at_ l q) - 1 else g (at_ l q)):
  l.map h=(l.map g).take v++((l.map g).drop v).map (· - 1):=by
 apply List.ext_getElem?
 intro q
 rw [List.getElem?_append,List.length_take,List.length_map]
 by_cases hq:q<l.length
 ·have hx:l[q]?=some (at_ l q):=by rw [at_,List.getD_eq_getElem?_getD,List.getElem?_eq_getElem hq]; rfl
  rw [List.getElem?_map,hx,Option.map_some,hh q hq]
  by_cases c:v≤q
  ·rw [if_pos c,if_neg (by omega),List.getElem?_map,List.getElem?_drop,show v+(q - min v l.length)=q by omega,List.getElem?_map,hx]; rfl
  ·rw [if_neg c,if_pos (by omega),List.getElem?_take_of_lt (by omega),List.getElem?_map,hx]; rfl
 ·rw [List.getElem?_eq_none (by simp; omega)]
  by_cases c:q<min v l.length
  ·omega
  ·rw [if_neg c,List.getElem?_eq_none (by simp; omega)]
theorem v6b.step {w:List Int} {n s:Nat} {f:Nat→Nat→Bool} {l:List Int} {rest0:List Nat} (h:v6b w n f l (s::rest0)):
  v6b w n (stG s (gI l s).toNat (z7t l rest0) (f,l) (z7t l rest0).length).1 (stG s (gI l s).toNat (z7t l rest0) (f,l) (z7t l rest0).length).2 (z7t l rest0)∧(gI l s).toNat≤(z7t l rest0).length∧0≤gI l s:=by
 have hp:=x3v l rest0
 have hpw:=x9w l rest0
 have hnd:=List.nodup_cons.1 h.nd
 have hsn:=h.lt s (List.mem_cons_self ..)
 have hsr:s∉z7t l rest0:=fun hm=>hnd.1 (hp.mem_iff.1 hm)
 have hrn:(z7t l rest0).Nodup:=hp.nodup_iff.2 hnd.2
 have hrl:∀ x∈z7t l rest0,x<n:=fun x hx=>h.lt x (List.mem_cons_of_mem _ (hp.mem_iff.1 hx))
 have hlan:Lan (gI l s::(z7t l rest0).map fun x=>gI l x):=by
  have:=h.lan
  rw [List.map_cons] at this
  exact this.perm ((hp.symm.map _).cons _)
 obtain ⟨v0,v1,v2⟩:=hlan.step hpw
 rw [List.length_map] at v1
 have hv:(gI l s).toNat≤(z7t l rest0).length:=by omega
 refine ⟨?_,hv,v0⟩
 have hst:=w7o (f0:=f) (l0:=l) (v:=(gI l s).toNat) hsn hsr hrn hrl h.len h.sup (fun x hx=>by
  have hx':=List.mem_cons_of_mem s (hp.mem_iff.1 hx)
  exact ⟨h.both s x (List.mem_cons_self ..) hx',h.both x s hx' (List.mem_cons_self ..)⟩) (z7t l rest0).length (Nat.le_refl _)
 generalize hrr:z7t l rest0=rest at*
 generalize (stG s (gI l s).toNat rest (f,l) rest.length).1=f' at hst⊢
 generalize (stG s (gI l s).toNat rest (f,l) rest.length).2=l' at hst⊢
 have hmem:∀ x,x∈s::rest0↔x=s∨x∈rest:=fun x=>by rw [List.mem_cons,hp.mem_iff]
 have hleft:∀ q,q<rest.length→gI l' (at_ rest q)=if (gI l s).toNat≤q then gI l (at_ rest q) - 1 else gI l (at_ rest q):=by
  intro q hq
  rw [hst.left _ (hrl _ (y9o hq))]
  by_cases c:(gI l s).toNat≤q
  ·rw [if_pos c,if_pos ⟨q,List.mem_range.2 hq,c,rfl⟩]
  ·rw [if_neg c,if_neg]
   rintro ⟨r,hr,h1,h2⟩
   have:=x27 hrn (List.mem_range.1 hr) hq h2
   omega
 have hstay:∀ x,x<n→x∉rest→gI l' x=gI l x:=by
  intro x hx hnx
  rw [hst.left x hx,if_neg]
  rintro ⟨r,hr,_,h2⟩
  exact hnx (h2▸y9o (List.mem_range.1 hr))
 refine ⟨hst.len,hrn,hrl,hst.sup,fun a=>?_,fun x hx=>?_,?_,fun a b ha hb=>?_,fun a b ha hb hne hno=>?_⟩
 ·rw [hst.same a a,h.irr a]
  ·by_cases e:a=s
   ·subst e; exact .inr hsr
   ·exact .inl e
  ·by_cases e:a=s
   ·subst e; exact .inr hsr
   ·exact .inl e
 ·by_cases e:x=s
  ·subst e
   have h1:=h.cnt x hx
   rw [if_pos (List.mem_cons_self ..)] at h1
   rw [if_neg hsr,hst.own]
   omega
  ·have h1:=h.cnt x hx
   have h2:=hst.oth x hx e
   by_cases c:x∈rest
   ·rw [if_pos ((hmem x).2 (.inr c))] at h1
    rw [if_pos c]; omega
   ·rw [if_neg (fun hm=>by rcases (hmem x).1 hm with hm|hm; exact e hm; exact c hm)] at h1
    have h3:=hstay x hx c
    rw [if_neg c]; omega
 ·rw [w40 hleft]; exact v2
 ·have ha':a≠s:=fun e=>hsr (e▸ha)
  have hb':b≠s:=fun e=>hsr (e▸hb)
  rw [hst.same a b (.inl ha') (.inl hb')]
  exact h.both a b ((hmem a).2 (.inr ha)) ((hmem b).2 (.inr hb))
 ·by_cases ea:a=s
  ·subst ea
   by_cases cb:b∈rest
   ·obtain ⟨q,hq,rfl⟩:=v0b cb
    obtain ⟨d1,d2⟩:=hst.done q hq
    rw [d1,d2]
    by_cases c:q<(gI l a).toNat
    ·rw [decide_eq_true ⟨hq,c⟩,decide_eq_false (by omega)]; rfl
    ·rw [decide_eq_false (by omega),decide_eq_true ⟨hq,by omega⟩]; rfl
   ·rw [hst.same a b (.inr cb) (.inl (Ne.symm hne)),hst.same b a (.inl (Ne.symm hne)) (.inr cb)]
    refine h.one a b ha hb hne fun hm=>?_
    rcases (hmem b).1 hm.2 with e|e
    ·exact hne e.symm
    ·exact cb e
  ·by_cases eb:b=s
   ·subst eb
    by_cases ca:a∈rest
    ·obtain ⟨q,hq,rfl⟩:=v0b ca
     obtain ⟨d1,d2⟩:=hst.done q hq
     rw [d1,d2]
     by_cases c:q<(gI l b).toNat
     ·rw [decide_eq_false (by omega),decide_eq_true ⟨hq,c⟩]; rfl
     ·rw [decide_eq_true ⟨hq,by omega⟩,decide_eq_false (by omega)]; rfl
    ·rw [hst.same a b (.inl ea) (.inr ca),hst.same b a (.inr ca) (.inl ea)]
     refine h.one a b ha hb hne fun hm=>?_
     rcases (hmem a).1 hm.1 with e|e
     ·exact ea e
     ·exact ca e
   ·rw [hst.same a b (.inl ea) (.inl eb),hst.same b a (.inl eb) (.inl ea)]
    refine h.one a b ha hb hne fun hm=>hno ⟨?_,?_⟩
    ·rcases (hmem a).1 hm.1 with e|e
     ·exact absurd e ea
     ·exact e
    ·rcases (hmem b).1 hm.2 with e|e
     ·exact absurd e eb
     ·exact e
end Go.Am
end
