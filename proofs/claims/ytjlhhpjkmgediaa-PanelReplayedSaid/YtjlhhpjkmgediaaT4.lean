/- Texts of this claim. -/
import Derived.Test.YtjlhhpjkmgediaaT3
import Derived.Test.YtjlhhpjkmgediaaProg
import Derived.KernelRfl
import Derived.Shelf.Spec.SlicesInsertGrow
set_option linter.unusedVariables false
set_option linter.unusedSimpArgs false
set_option linter.unusedSectionVars false
set_option maxRecDepth 100000
set_option maxHeartbeats 0
noncomputable section
namespace Go.Am
def w7r:Ctr:=
 ⟨52,[.int .i64, .int .i64, .list 1],[],[(.ret,⟨[(0, .bool)],[],1⟩)]⟩
def la52:List LA:=
 [⟨91,[false,true,false,true],2,⟨⟨[(0, .list 1),(1, .clo 80 [] [.bptr 0 0, .bptr 1 0]),(7, .int .i64),(8, .int .i64)],[.box [.int .i64], .box [.int .i64]],19⟩,[(AX.ret,⟨[(4, .int .i64)],[.box [.int .i64], .box [.int .i64]],19⟩),((AX.exit 0),⟨[],[.box [.int .i64], .box [.int .i64]],19⟩)]⟩⟩]
def ja52:List JA:=
 [⟨80,[false,true],2,[(AX.normal,⟨[(4, .bool)],[.box [.int .i64], .box [.int .i64]],13⟩)]⟩]
def v7b:List CF:=
 []
def an52:Anns:=
 ⟨v7b,ja52,[]⟩
def x2j (p:Prim):T10→Option ((Int×(Int×(LD×(Int×(Int×Unit)))))⊕((Int×(Int×(Int×Unit)))⊕(Int×(Int×Unit)))):=
 fun a=>opt.run _ (
 opt.ask _ (p.cmp .lss a.2.2.2.2.1 a.2.2.2.1) (
 opt.need _ (p.rowOk a.2.2.1 (p.nat a.2.2.2.2.1) [ci])<|
 opt.need _ (p.cmp .geq a.2.2.2.2.1 (0:Int))<|
 opt.bnd T30 _ (
 opt.run T30 (
 opt.ask _ (p.cmp .lss (p.rdI a.2.2.1 (p.nat a.2.2.2.2.1) 0) a.1) (
 opt.ret _ (a.1,(a.2.1,(Bool.true,())))) (
 opt.ret _ (a.1,(a.2.1,((p.cmp .gtr (p.rdI a.2.2.1 (p.nat a.2.2.2.2.1) 0) a.2.1),())))))) fun b=>
 opt.ask _ b.2.2.1 (
 opt.ret _ (Sum.inr (Sum.inl (b.1,(b.2.1,(a.2.2.2.2.1,())))))) (
 opt.ret _ (Sum.inl (b.1,(b.2.1,(a.2.2.1,(a.2.2.2.1,((p.ar .add .i64 a.2.2.2.2.1 (1:Int)),())))))))) (
 opt.ret _ (Sum.inr (Sum.inr (a.1,(a.2.1,()))))))
def g52 (it:It):(p:Prim)→(Int×(Int×(LD×Unit)))→Option T0:=
 fun p x=>
 opt.alt ((Int×(Int×(Int×Unit)))) T9 _ (
 it _ _ (x2j p) (x.1,(x.2.1,(x.2.2.1,((p.ofNat (p.len x.2.2.1)),((0:Int),())))))) (fun a=>
 opt.ret _ ((bif (p.cmp .geq a.2.2.1 (0:Int)) then Bool.false else Bool.true),())) (fun b=>
 opt.bnd T9 _ (some b) fun c=>
 opt.ret _ ((bif (p.cmp .geq (-1:Int) (0:Int)) then Bool.false else Bool.true),()))
def G52:=g52 it0
theorem v93:CtrOk PG w7r (G52 std):=okF (a:=an52) (l:=la52) (gN) (by kernel_rfl) fun _ _=>by kernel_rfl
def w2x:Ctr:=
 ⟨56,[.list 1, .int .i64],[],[(.ret,⟨[(0, .bool)],[],1⟩)]⟩
def la56:List LA:=
 [⟨56,[false,true,false,true,true],0,⟨⟨[(1, .int .i64),(5, .int .i64),(8, .list 1),(9, .int .i64),(10, .int .i64)],[],24⟩,[(AX.ret,⟨[(4, .bool)],[],24⟩),((AX.exit 0),⟨[],[],24⟩)]⟩⟩]
def ja56:List JA:=
 [⟨56,[false,false,true,false,false,true,true,false,false,true,false,true,true],0,[(AX.normal,⟨[(1, .int .i64),(7, .int .i64),(8, .list 1),(9, .int .i64),(10, .int .i64),(21, .bool)],[],24⟩)]⟩]
def v69:List CF:=
 []
def an56:Anns:=
 ⟨v69,ja56,[]⟩
def v8z (p:Prim):T10→Option ((Int×(Int×(LD×(Int×(Int×Unit)))))⊕((Bool×Unit)⊕Unit)):=
 fun a=>opt.run _ (
 opt.ask _ (p.cmp .lss a.2.2.2.2.1 a.2.2.2.1) (
 opt.need _ (p.rowOk a.2.2.1 (p.nat a.2.2.2.2.1) [ci])<|
 opt.need _ (p.cmp .geq a.2.2.2.2.1 (0:Int))<|
 opt.bnd T31 _ (
 opt.run T31 (
 opt.ask _ (p.cmp .leq (p.rdI a.2.2.1 (p.nat a.2.2.2.2.1) 0) a.2.1) (
 opt.ret _ (a.1,((p.rdI a.2.2.1 (p.nat a.2.2.2.2.1) 0),(a.2.2.1,(a.2.2.2.1,(a.2.2.2.2.1,(Bool.true,()))))))) (
 opt.ret _ (a.1,((p.rdI a.2.2.1 (p.nat a.2.2.2.2.1) 0),(a.2.2.1,(a.2.2.2.1,(a.2.2.2.2.1,((p.cmp .geq (p.rdI a.2.2.1 (p.nat a.2.2.2.2.1) 0) a.1),()))))))))) fun b=>
 opt.ask _ b.2.2.2.2.2.1 (
 opt.ret _ (Sum.inr (Sum.inl (Bool.false,())))) (
 opt.ret _ (Sum.inl (b.1,(b.2.1,(b.2.2.1,(b.2.2.2.1,((p.ar .add .i64 b.2.2.2.2.1 (1:Int)),())))))))) (
 opt.ret _ (Sum.inr (Sum.inr ()))))
def g56 (it:It):(p:Prim)→(LD×T1)→Option T0:=
 fun p x=>
 opt.alt T0 (Unit) _ (
 it _ _ (v8z p) (x.2.1,((-1:Int),(x.1,((p.ofNat (p.len x.1)),((0:Int),())))))) (fun a=>
 opt.ret _ (a.1,())) (fun b=>
 opt.bnd (Unit) _ (some b) fun c=>
 opt.ret _ (Bool.true,()))
def G56:=g56 it0
theorem v44:CtrOk PG w2x (G56 std):=okF (a:=an56) (l:=la56) (gN) (by kernel_rfl) fun _ _=>by kernel_rfl
def v1o:Ctr:=
 ⟨70,[.list 1],[],[(.ret,⟨[(0, .int .i64)],[],1⟩)]⟩
def la70:List LA:=
 [⟨70,[false,true,false,true,true],0,⟨⟨[(3, .int .i64),(6, .list 1),(7, .int .i64),(8, .int .i64)],[],17⟩,[((AX.exit 0),⟨[(3, .int .i64)],[],17⟩)]⟩⟩]
def ja70:List JA:=
 []
def v62:List CF:=
 []
def an70:Anns:=
 ⟨v62,ja70,[]⟩
def v8u (p:Prim):(Int×(LD×(Int×(Int×Unit))))→Option ((Int×(LD×(Int×(Int×Unit))))⊕(Int×Unit)):=
 fun a=>opt.run _ (
 opt.ask _ (p.cmp .lss a.2.2.2.1 a.2.2.1) (
 opt.need _ (p.rowOk a.2.1 (p.nat a.2.2.2.1) [ci])<|
 opt.need _ (p.cmp .geq a.2.2.2.1 (0:Int))<|
 opt.ret _ (Sum.inl ((p.ar .add .i64 a.1 (p.rdI a.2.1 (p.nat a.2.2.2.1) 0)),(a.2.1,(a.2.2.1,((p.ar .add .i64 a.2.2.2.1 (1:Int)),())))))) (
 opt.ret _ (Sum.inr (a.1,()))))
def g70 (it:It):(p:Prim)→(LD×Unit)→Option T2:=
 fun p x=>
 opt.bnd T2 _ (
 it _ _ (v8u p) ((0:Int),(x.1,((p.ofNat (p.len x.1)),((0:Int),()))))) fun a=>
 opt.ret _ (a.1,())
def G70:=g70 it0
theorem ok70:CtrOk PG v1o (G70 std):=okF (a:=an70) (l:=la70) (gN) (by kernel_rfl) fun _ _=>by kernel_rfl
def w2w:Ctr:=
 ⟨61,[.list 1],[],[(.ret,⟨[(0, .int .i64)],[],1⟩)]⟩
def la61:List LA:=
 []
def ja61:List JA:=
 [⟨61,[false,false,false,true],0,[(AX.normal,⟨[(0, .list 1),(3, .bool)],[],16⟩)]⟩,
 ⟨61,[true,false,false,true],0,[(AX.ret,⟨[(2, .int .i64)],[],16⟩),(AX.normal,⟨[],[],16⟩)]⟩]
def v68:List CF:=
 [⟨w7r,G52⟩]
def an61:Anns:=
 ⟨v68,ja61,[]⟩
def g61 (it:It):(p:Prim)→(LD×Unit)→Option T2:=
 fun p x=>
 opt.bnd ((LD×T8)) _ (
 opt.run ((LD×T8)) (
 opt.ask _ (p.cmp .eql (p.ofNat (p.len x.1)) (0:Int)) (
 opt.ret _ (x.1,(Bool.true,()))) (
 opt.ret _ (x.1,((p.cmp .gtr (p.ofNat (p.len x.1)) (10:Int)),()))))) fun a=>
 opt.alt T2 (Unit) _ (
 opt.run (((Int×Unit)⊕Unit)) (
 opt.ask _ a.2.1 (
 opt.ret _ (Sum.inl ((6:Int),()))) (
 opt.bnd T0 _ (g52 it p ((0:Int),((9:Int),(a.1,())))) fun b=>
 opt.ask _ (bif b.1 then Bool.false else Bool.true) (
 opt.ret _ (Sum.inl ((3:Int),()))) (
 opt.ret _ (Sum.inr ()))))) (fun c=>
 opt.ret _ (c.1,())) (fun d=>
 opt.bnd (Unit) _ (some d) fun e=>
 opt.ret _ ((0:Int),()))
def G61:=g61 it0
theorem v43:CtrOk PG w2w (G61 std):=okF (a:=an61) (l:=la61) (gC v93 (gN)) (by kernel_rfl) fun _ _=>by kernel_rfl
def w4j:Ctr:=
 ⟨102,[.int .u64],[],[(.ret,⟨[(0, .int .i64)],[],1⟩)]⟩
def v59:List LA:=
 []
def v6k:List JA:=
 [⟨102,[true,false,true,true,true],0,[(AX.normal,⟨[(0, .int .u64),(2, .int .i64)],[],25⟩)]⟩,
 ⟨102,[true,false,true],0,[(AX.normal,⟨[(0, .int .u64),(2, .int .i64)],[],25⟩)]⟩,
 ⟨102,[true,false,true,true],0,[(AX.normal,⟨[(0, .int .u64),(2, .int .i64)],[],25⟩)]⟩]
def v0j:List CF:=
 []
def v9m:Anns:=
 ⟨v0j,v6k,[]⟩
def v9p:(p:Prim)→T1→Option T2:=
 fun p x=>
 opt.bnd T9 _ (
 opt.run T9 (
 opt.ask _ (p.cmp .geq x.1 (4294967296:Int)) (
 opt.need _ (p.cmp .geq (32:Int) (0:Int))<|
 opt.ret _ ((p.ar .shr .u64 x.1 (32:Int)),((32:Int),()))) (
 opt.ret _ (x.1,((0:Int),()))))) fun a=>
 opt.bnd T9 _ (
 opt.run T9 (
 opt.ask _ (p.cmp .geq a.1 (65536:Int)) (
 opt.need _ (p.cmp .geq (16:Int) (0:Int))<|
 opt.ret _ ((p.ar .shr .u64 a.1 (16:Int)),((p.ar .add .i64 a.2.1 (16:Int)),()))) (
 opt.ret _ (a.1,(a.2.1,()))))) fun b=>
 opt.bnd T9 _ (
 opt.run T9 (
 opt.ask _ (p.cmp .geq b.1 (256:Int)) (
 opt.need _ (p.cmp .geq (8:Int) (0:Int))<|
 opt.ret _ ((p.ar .shr .u64 b.1 (8:Int)),((p.ar .add .i64 b.2.1 (8:Int)),()))) (
 opt.ret _ (b.1,(b.2.1,()))))) fun c=>
 opt.need _ (bif (p.cmp .geq (p.cvt .u8 c.1) (0:Int)) then (p.cmp .lss (p.cvt .u8 c.1) (p.ofNat 256)) else Bool.false)<|
 opt.ret _ ((p.ar .add .i64 c.2.1 (p.cvt .i64 (p.byte (ByteArray.mk #[0,1,2,2,3,3,3,3,4,4,4,4,4,4,4,4,5,5,5,5,5,5,5,5,5,5,5,5,5,5,5,5,6,6,6,6,6,6,6,6,6,6,6,6,6,6,6,6,6,6,6,6,6,6,6,6,6,6,6,6,6,6,6,6,7,7,7,7,7,7,7,7,7,7,7,7,7,7,7,7,7,7,7,7,7,7,7,7,7,7,7,7,7,7,7,7,7,7,7,7,7,7,7,7,7,7,7,7,7,7,7,7,7,7,7,7,7,7,7,7,7,7,7,7,7,7,7,7,8,8,8,8,8,8,8,8,8,8,8,8,8,8,8,8,8,8,8,8,8,8,8,8,8,8,8,8,8,8,8,8,8,8,8,8,8,8,8,8,8,8,8,8,8,8,8,8,8,8,8,8,8,8,8,8,8,8,8,8,8,8,8,8,8,8,8,8,8,8,8,8,8,8,8,8,8,8,8,8,8,8,8,8,8,8,8,8,8,8,8,8,8,8,8,8,8,8,8,8,8,8,8,8,8,8,8,8,8,8,8,8,8,8,8,8,8,8,8,8,8,8,8,8,8,8,8,8]) (p.cvt .u8 c.1)))),())
theorem v5f:CtrOk PG w4j (v9p std):=okF (a:=v9m) (l:=v59) (gN) (by kernel_rfl) fun _ _=>by kernel_rfl
def w7n:Ctr:=
 ⟨83,[.int .u64],[],[(.ret,⟨[(0, .int .i64)],[],1⟩)]⟩
def la83:List LA:=
 []
def ja83:List JA:=
 []
def v6x:List CF:=
 [⟨w4j,v9p⟩]
def an83:Anns:=
 ⟨v6x,ja83,[]⟩
def G83:(p:Prim)→T1→Option T2:=
 fun p x=>
 opt.bnd T2 _ (v9p p (x.1,())) fun a=>
 opt.ret _ (a.1,())
theorem v9z:CtrOk PG w7n (G83 std):=okF (a:=an83) (l:=la83) (gC v5f (gN)) (by kernel_rfl) fun _ _=>by kernel_rfl
def w7m:Ctr:=
 ⟨98,[.int .i64, .int .i64],[],[(.ret,⟨[(0, .bool)],[],1⟩)]⟩
def la98:List LA:=
 []
def ja98:List JA:=
 [⟨98,[false,true],0,[(AX.normal,⟨[(4, .bool)],[],17⟩)]⟩]
def v6v:List CF:=
 []
def an98:Anns:=
 ⟨v6v,ja98,[]⟩
def G98:(p:Prim)→T3→Option T0:=
 fun p x=>
 opt.bnd T0 _ (
 opt.run T0 (
 opt.ask _ (p.cmp .neq x.1 x.1) (
 opt.ask _ (bif (p.cmp .neq x.2.1 x.2.1) then Bool.false else Bool.true) (
 opt.ret _ (Bool.true,())) (
 opt.ret _ ((p.cmp .lss x.1 x.2.1),()))) (
 opt.ret _ ((p.cmp .lss x.1 x.2.1),())))) fun a=>
 opt.ret _ (a.1,())
theorem v9y:CtrOk PG w7m (G98 std):=okF (a:=an98) (l:=la98) (gN) (by kernel_rfl) fun _ _=>by kernel_rfl
def v1q:Ctr:=
 ⟨65,[.list 1],[],[(.ret,⟨[(0, .sl 0 1)],[.row [ci]],1⟩)]⟩
def la65:List LA:=
 []
def ja65:List JA:=
 []
def v64:List CF:=
 []
def an65:Anns:=
 ⟨v64,ja65,[]⟩
def G65:(p:Prim)→(LD×Unit)→Option ((LD×T5)):=
 fun p x=>
 opt.need _ (p.leN 1 (p.len x.1))<|
 opt.ask _ (p.leN (p.add 0 (p.len x.1)) 0) (
 opt.need _ (p.and Bool.true (p.and (p.leN (p.add 0 0) (p.len [])) (p.and (p.leN 1 (p.len x.1)) (p.leN (p.add 0 0) (p.len [])))))<|
 opt.need _ (p.leN (p.add 0 0) (p.len (p.splice [] (p.add 0 0) x.1)))<|
 opt.ret _ ((p.splice [] (p.add 0 0) x.1),(0,((p.add 0 (p.len x.1)),())))) (
 opt.need _ (p.and Bool.true (p.and (p.leN (p.add 0 0) (p.len [])) (p.and (p.leN 1 (p.len x.1)) (p.leN (p.add 0 (p.len x.1)) 1000000))))<|
 opt.ret _ ((p.app (p.cut [] 0 0) x.1),(0,((p.add 0 (p.len x.1)),()))))
theorem ok65:CtrOk PG v1q (G65 std):=okF (a:=an65) (l:=la65) (gN) (by kernel_rfl) fun _ _=>by kernel_rfl
def w2y:Ctr:=
 ⟨54,[.list 1],[],[(.ret,⟨[(0, .tuple [.nilp, .int .i64])],[],1⟩),(.ret,⟨[(0, .tuple [.bptr 0 0, .int .i64])],[.row [ci]],1⟩)]⟩
def la54:List LA:=
 [⟨54,[false,true,false,true,true,true,true],0,⟨⟨[(2, .bptr 0 0),(3, .bptr 1 0),(4, .int .i64),(5, .bptr 2 0),(23, .list 1),(24, .int .i64),(25, .int .i64)],[.box [.nilp], .box [.int .i64], .box [.bptr 3 0], .row [ci]],75⟩,[(AX.ret,⟨[(2, .bptr 0 0),(3, .bptr 1 0)],[.box [.nilp], .box [.int .i64]],75⟩),((AX.exit 0),⟨[(2, .bptr 0 0),(3, .bptr 1 0),(4, .int .i64),(5, .bptr 2 0)],[.box [.nilp], .box [.int .i64], .box [.bptr 3 0], .row [ci]],75⟩)]⟩⟩,
 ⟨54,[false,true,true,true,false,false,true,true,false,false,true,false,true,true,true,true],0,⟨⟨[(2, .bptr 0 0),(3, .bptr 1 0),(4, .int .i64),(5, .bptr 2 0),(6, .int .i64),(23, .list 1),(24, .int .i64),(25, .int .i64),(34, .list 1),(35, .int .i64),(36, .int .i64)],[.box [.nilp], .box [.int .i64], .box [.bptr 3 0], .row [ci]],75⟩,[((AX.exit 2),⟨[(2, .bptr 0 0),(3, .bptr 1 0),(4, .int .i64),(5, .bptr 2 0),(23, .list 1),(24, .int .i64),(25, .int .i64)],[.box [.nilp], .box [.int .i64], .box [.bptr 3 0], .row [ci]],75⟩)]⟩⟩,
 ⟨54,[false,true,false,true,true,true,true,true],0,⟨⟨[(2, .bptr 0 0),(3, .bptr 1 0),(5, .bptr 2 0),(49, .int .i64),(50, .int .i64)],[.box [.nilp], .box [.int .i64], .box [.bptr 3 0], .row [ci]],75⟩,[(AX.ret,⟨[(2, .bptr 0 0),(3, .bptr 1 0)],[.box [.nilp], .box [.int .i64]],75⟩),((AX.exit 4),⟨[(2, .bptr 0 0),(3, .bptr 1 0),(5, .bptr 2 0)],[.box [.nilp], .box [.int .i64], .box [.bptr 3 0], .row [ci]],75⟩)]⟩⟩,
 ⟨78,[false,true],6,⟨⟨[(0, .yld 5),(8, .int .i64),(9, .int .i64)],[.box [.nilp], .box [.int .i64], .box [.bptr 3 0], .row [ci], .box [.bptr 3 0], .loop Go.LoopState.ready Option.none 54 [Bool.false,Bool.true,Bool.false,Bool.true,Bool.true,Bool.true,Bool.true,Bool.true,Bool.true] 75 [(59, .clo 78 [] [.bptr 4 0]),(2, .bptr 0 0),(3, .bptr 1 0),(5, .bptr 2 0)]],24⟩,[(AX.ret,⟨[],[.box [.nilp], .box [.int .i64], .box [.bptr 3 0], .row [ci], .box [.bptr 3 0], .loop Go.LoopState.done (Option.some Go.Code.ret) 54 [Bool.false,Bool.true,Bool.false,Bool.true,Bool.true,Bool.true,Bool.true,Bool.true,Bool.true] 75 [(59, .clo 78 [] [.bptr 4 0]),(2, .bptr 0 0),(3, .bptr 1 0),(5, .bptr 2 0)]],24⟩),((AX.exit 0),⟨[],[.box [.nilp], .box [.int .i64], .box [.bptr 3 0], .row [ci], .box [.bptr 3 0], .loop Go.LoopState.ready Option.none 54 [Bool.false,Bool.true,Bool.false,Bool.true,Bool.true,Bool.true,Bool.true,Bool.true,Bool.true] 75 [(59, .clo 78 [] [.bptr 4 0]),(2, .bptr 0 0),(3, .bptr 1 0),(5, .bptr 2 0)]],24⟩)]⟩⟩,
 ⟨78,[false,true,true,false,false,true,true,false,false,true],6,⟨⟨[(0, .yld 5),(3, .int .i64),(8, .int .i64),(9, .int .i64),(12, .int .i64),(13, .int .i64)],[.box [.nilp], .box [.int .i64], .box [.bptr 3 0], .row [ci], .box [.bptr 3 0], .loop Go.LoopState.ready Option.none 54 [Bool.false,Bool.true,Bool.false,Bool.true,Bool.true,Bool.true,Bool.true,Bool.true,Bool.true] 75 [(59, .clo 78 [] [.bptr 4 0]),(2, .bptr 0 0),(3, .bptr 1 0),(5, .bptr 2 0)]],24⟩,[(AX.ret,⟨[],[.box [.nilp], .box [.int .i64], .box [.bptr 3 0], .row [ci], .box [.bptr 3 0], .loop Go.LoopState.done (Option.some Go.Code.ret) 54 [Bool.false,Bool.true,Bool.false,Bool.true,Bool.true,Bool.true,Bool.true,Bool.true,Bool.true] 75 [(59, .clo 78 [] [.bptr 4 0]),(2, .bptr 0 0),(3, .bptr 1 0),(5, .bptr 2 0)]],24⟩),((AX.exit 2),⟨[(0, .yld 5),(8, .int .i64),(9, .int .i64)],[.box [.nilp], .box [.int .i64], .box [.bptr 3 0], .row [ci], .box [.bptr 3 0], .loop Go.LoopState.ready Option.none 54 [Bool.false,Bool.true,Bool.false,Bool.true,Bool.true,Bool.true,Bool.true,Bool.true,Bool.true] 75 [(59, .clo 78 [] [.bptr 4 0]),(2, .bptr 0 0),(3, .bptr 1 0),(5, .bptr 2 0)]],24⟩)]⟩⟩]
def ja54:List JA:=
 [⟨54,[false,false,true,true],0,[(AX.normal,⟨[(0, .list 1),(2, .bptr 0 0),(3, .bptr 1 0),(4, .int .i64),(19, .bool)],[.box [.nilp], .box [.int .i64]],75⟩)]⟩]
def v7a:List CF:=
 [⟨w2x,G56⟩]
def an54:Anns:=
 ⟨v7a,ja54,[]⟩
def v80 (p:Prim):(LD×T32)→Option ((LD×T32)⊕((LD×T1)⊕(LD×T4))):=
 fun a=>opt.run _ (
 opt.ask _ (p.cmp .lss a.2.2.2.2.2.2.1 a.2.2.2.2.2.1) (
 opt.need _ (p.and Bool.true (p.and Bool.true (p.and Bool.true Bool.true)))<|
 opt.need _ (bif (p.cmp .geq a.2.2.2.2.2.2.1 (0:Int)) then (p.cmp .lss a.2.2.2.2.2.2.1 (p.ofNat 10)) else Bool.false)<|
 opt.need _ (bif (p.cmp .geq a.2.2.1 (0:Int)) then (p.cmp .lss a.2.2.1 (p.ofNat 10)) else Bool.false)<|
 opt.need _ (p.rowOk a.1 (p.add (p.add 1 (p.mul (p.nat a.2.2.2.2.2.2.1) 10)) (p.nat a.2.2.1)) [ci])<|
 opt.need _ (bif (p.cmp .geq a.2.2.1 (0:Int)) then (p.cmp .lss a.2.2.1 (p.ofNat 10)) else Bool.false)<|
 opt.need _ (bif (p.cmp .geq a.2.2.2.2.2.2.1 (0:Int)) then (p.cmp .lss a.2.2.2.2.2.2.1 (p.ofNat 10)) else Bool.false)<|
 opt.need _ (p.rowOk a.1 (p.add (p.add 1 (p.mul (p.nat a.2.2.1) 10)) (p.nat a.2.2.2.2.2.2.1)) [ci])<|
 opt.ask _ (bif (p.bEq (p.cmp .eql (p.rdI a.1 (p.add (p.add 1 (p.mul (p.nat a.2.2.2.2.2.2.1) 10)) (p.nat a.2.2.1)) 0) (1:Int)) (p.cmp .eql (p.rdI a.1 (p.add (p.add 1 (p.mul (p.nat a.2.2.1) 10)) (p.nat a.2.2.2.2.2.2.1)) 0) (1:Int))) then Bool.true else Bool.false) (
 opt.ret _ (Sum.inr (Sum.inl (a.1,((16:Int),()))))) (
 opt.ret _ (Sum.inl (a.1,(a.2.1,(a.2.2.1,(a.2.2.2.1,(a.2.2.2.2.1,(a.2.2.2.2.2.1,((p.ar .add .i64 a.2.2.2.2.2.2.1 (1:Int)),())))))))))) (
 opt.ret _ (Sum.inr (Sum.inr (a.1,(a.2.1,(a.2.2.2.1,(a.2.2.2.2.1,()))))))))
def w7y (it:It) (p:Prim):(LD×T4)→Option ((LD×T4)⊕((LD×T1)⊕(LD×T1))):=
 fun a=>opt.run _ (
 opt.ask _ (p.cmp .lss a.2.2.2.1 a.2.2.1) (
 opt.alt ((LD×T1)) ((LD×T4)) _ (
 it _ _ (v80 p) (a.1,(a.2.1,(a.2.2.2.1,(a.2.2.1,(a.2.2.2.1,(a.2.2.2.1,((0:Int),())))))))) (fun b=>
 opt.ret _ (Sum.inr (Sum.inl (b.1,(b.2.1,()))))) (fun c=>
 opt.bnd ((LD×T4)) _ (some c) fun d=>
 opt.ret _ (Sum.inl (d.1,(d.2.1,(d.2.2.1,((p.ar .add .i64 d.2.2.2.1 (1:Int)),()))))))) (
 opt.ret _ (Sum.inr (Sum.inr (a.1,(a.2.1,()))))))
def v81 (p:Prim):(LD×T4)→Option ((LD×T4)⊕T29):=
 fun a=>opt.run _ (
 opt.ask _ (p.cmp .lss a.2.2.2.1 a.2.2.1) (
 opt.need _ (bif (p.cmp .geq a.2.2.2.1 (0:Int)) then (p.cmp .lss a.2.2.2.1 (p.ofNat 10)) else Bool.false)<|
 opt.need _ (bif (p.cmp .geq a.2.2.2.1 (0:Int)) then (p.cmp .lss a.2.2.2.1 (p.ofNat 10)) else Bool.false)<|
 opt.need _ (p.rowOk a.1 (p.add (p.add 1 (p.mul (p.nat a.2.2.2.1) 10)) (p.nat a.2.2.2.1)) [ci])<|
 opt.ask _ (p.cmp .eql (p.rdI a.1 (p.add (p.add 1 (p.mul (p.nat a.2.2.2.1) 10)) (p.nat a.2.2.2.1)) 0) (1:Int)) (
 opt.ret _ (Sum.inr (Sum.inl ((16:Int),())))) (
 opt.ret _ (Sum.inl (a.1,(a.2.1,(a.2.2.1,((p.ar .add .i64 a.2.2.2.1 (1:Int)),()))))))) (
 opt.ret _ (Sum.inr (Sum.inr (a.1,(a.2.1,()))))))
def v82 (p:Prim):(LD×T33)→Option ((LD×T33)⊕(LD×T10)):=
 fun a=>opt.run _ (
 opt.ask _ (p.cmp .lss a.2.2.2.2.2.2.2.2.2.1 a.2.2.2.2.2.2.2.2.1) (
 opt.need _ (p.rowOk a.2.2.2.2.2.2.2.1 (p.nat a.2.2.2.2.2.2.2.2.2.1) [ci])<|
 opt.need _ (p.cmp .geq a.2.2.2.2.2.2.2.2.2.1 (0:Int))<|
 opt.need _ (bif (p.cmp .geq a.2.2.2.1 (0:Int)) then (p.cmp .lss a.2.2.2.1 (p.ofNat 10)) else Bool.false)<|
 opt.need _ (bif (p.cmp .geq (p.rdI a.2.2.2.2.2.2.2.1 (p.nat a.2.2.2.2.2.2.2.2.2.1) 0) (0:Int)) then (p.cmp .lss (p.rdI a.2.2.2.2.2.2.2.1 (p.nat a.2.2.2.2.2.2.2.2.2.1) 0) (p.ofNat 10)) else Bool.false)<|
 opt.need _ (p.rowOk a.1 (p.add (p.add 1 (p.mul (p.nat a.2.2.2.1) 10)) (p.nat (p.rdI a.2.2.2.2.2.2.2.1 (p.nat a.2.2.2.2.2.2.2.2.2.1) 0))) [ci])<|
 opt.ret _ (Sum.inl ((p.set a.1 (p.add (p.add 1 (p.mul (p.nat a.2.2.2.1) 10)) (p.nat (p.rdI a.2.2.2.2.2.2.2.1 (p.nat a.2.2.2.2.2.2.2.2.2.1) 0))) [k1k]),(a.2.1,(a.2.2.1,(a.2.2.2.1,(a.2.2.2.2.1,(a.2.2.2.2.2.1,(a.2.2.2.2.2.2.1,(a.2.2.2.2.2.2.2.1,(a.2.2.2.2.2.2.2.2.1,((p.ar .add .i64 a.2.2.2.2.2.2.2.2.2.1 (1:Int)),())))))))))))) (
 opt.ret _ (Sum.inr (a.1,(a.2.1,(a.2.2.1,(a.2.2.2.2.1,(a.2.2.2.2.2.1,(a.2.2.2.2.2.2.1,())))))))))
def w7z (it:It) (p:Prim):(LD×T10)→Option ((LD×T10)⊕T28):=
 fun a=>opt.run _ (
 opt.ask _ (p.cmp .lss a.2.2.2.2.2.1 a.2.2.2.2.1) (
 opt.need _ (p.rowOk a.2.2.2.1 (p.nat a.2.2.2.2.2.1) [(CK.list 1)])<|
 opt.need _ (p.cmp .geq a.2.2.2.2.2.1 (0:Int))<|
 opt.bnd T0 _ (g56 it p ((p.rdL a.2.2.2.1 (p.nat a.2.2.2.2.2.1) 0),(a.2.2.1,()))) fun b=>
 opt.ask _ (bif b.1 then Bool.false else Bool.true) (
 opt.ret _ (Sum.inr (Sum.inl ((3:Int),())))) (
 opt.bnd ((LD×T10)) _ (
 it _ _ (v82 p) (a.1,(a.2.1,(a.2.2.1,(a.2.2.2.2.2.1,(a.2.2.2.1,(a.2.2.2.2.1,(a.2.2.2.2.2.1,((p.rdL a.2.2.2.1 (p.nat a.2.2.2.2.2.1) 0),((p.ofNat (p.len (p.rdL a.2.2.2.1 (p.nat a.2.2.2.2.2.1) 0))),((0:Int),()))))))))))) fun c=>
 opt.ret _ (Sum.inl (c.1,(c.2.1,(c.2.2.1,(c.2.2.2.1,(c.2.2.2.2.1,((p.ar .add .i64 c.2.2.2.2.2.1 (1:Int)),()))))))))) (
 opt.ret _ (Sum.inr (Sum.inr (a.1,(a.2.1,(a.2.2.1,())))))))
def g54 (it:It):(p:Prim)→(LD×Unit)→Option (((Int×Unit)⊕(LD×(Int×Unit)))):=
 fun p x=>
 opt.bnd T34 _ (
 opt.run T34 (
 opt.ask _ (p.cmp .eql (p.ofNat (p.len x.1)) (0:Int)) (
 opt.ret _ ((0:Int),(x.1,((p.ofNat (p.len x.1)),(Bool.true,()))))) (
 opt.ret _ ((0:Int),(x.1,((p.ofNat (p.len x.1)),((p.cmp .gtr (p.ofNat (p.len x.1)) (10:Int)),()))))))) fun a=>
 opt.ask _ a.2.2.2.1 (
 opt.ret _ (Sum.inl ((6:Int),()))) (
 opt.alt T2 ((LD×T3)) _ (
 it _ _ (w7z it p) ([[(D.int .i64 a.2.2.1)],k0k,k0k,k0k,k0k,k0k,k0k,k0k,k0k,k0k,k0k,k0k,k0k,k0k,k0k,k0k,k0k,k0k,k0k,k0k,k0k,k0k,k0k,k0k,k0k,k0k,k0k,k0k,k0k,k0k,k0k,k0k,k0k,k0k,k0k,k0k,k0k,k0k,k0k,k0k,k0k,k0k,k0k,k0k,k0k,k0k,k0k,k0k,k0k,k0k,k0k,k0k,k0k,k0k,k0k,k0k,k0k,k0k,k0k,k0k,k0k,k0k,k0k,k0k,k0k,k0k,k0k,k0k,k0k,k0k,k0k,k0k,k0k,k0k,k0k,k0k,k0k,k0k,k0k,k0k,k0k,k0k,k0k,k0k,k0k,k0k,k0k,k0k,k0k,k0k,k0k,k0k,k0k,k0k,k0k,k0k,k0k,k0k,k0k,k0k,k0k],(a.1,(a.2.2.1,(a.2.1,((p.ofNat (p.len a.2.1)),((0:Int),()))))))) (fun b=>
 opt.ret _ (Sum.inl (b.1,()))) (fun c=>
 opt.bnd ((LD×T3)) _ (some c) fun d=>
 opt.alt T2 ((LD×T1)) _ (
 it _ _ (v81 p) (d.1,(d.2.1,(d.2.2.1,((0:Int),()))))) (fun e=>
 opt.ret _ (Sum.inl (e.1,()))) (fun f=>
 opt.bnd ((LD×T1)) _ (some f) fun g=>
 opt.need _ (p.rowOk g.1 0 [ci])<|
 opt.alt ((LD×T1)) ((LD×T1)) _ (
 it _ _ (w7y it p) (g.1,(g.2.1,((p.rdI g.1 0 0),((0:Int),()))))) (fun h=>
 opt.ret _ (Sum.inl (h.2.1,()))) (fun i=>
 opt.bnd ((LD×T1)) _ (some i) fun j=>
 opt.ret _ (Sum.inr (j.1,((0:Int),())))))))
def G54:=g54 it0
theorem v47:CtrOk PG w2y (G54 std):=okF (a:=an54) (l:=la54) (gC v44 (gN)) (by kernel_rfl) fun _ _=>by kernel_rfl
def w2z:Ctr:=
 ⟨35,[.list 1],[],[(.ret,⟨[(0, .tuple [.vec 0 1, .int .i64])],[.row [ci]],1⟩)]⟩
def la35:List LA:=
 [⟨35,[false,true,false,true,true,true,true],0,⟨⟨[(4, .bptr 0 0),(6, .full 1 1),(22, .int .i64),(23, .int .i64)],[.row [ci], .row [ci]],38⟩,[((AX.exit 0),⟨[(6, .full 0 1)],[.row [ci]],38⟩)]⟩⟩]
def ja35:List JA:=
 []
def v7j:List CF:=
 [⟨v1o,G70⟩,⟨w2y,G54⟩]
def an35:Anns:=
 ⟨v7j,ja35,[]⟩
def w71 (it:It) (p:Prim):(LD×(LD×T3))→Option ((LD×(LD×T3))⊕(LD×Unit)):=
 fun a=>opt.run _ (
 opt.ask _ (p.cmp .lss a.2.2.2.1 a.2.2.1) (
 opt.need _ (bif (p.cmp .geq a.2.2.2.1 (0:Int)) then (p.cmp .lss a.2.2.2.1 (p.ofNat 10)) else Bool.false)<|
 opt.need _ (p.rowOk a.1 (p.add 1 (p.mul (p.nat a.2.2.2.1) 10)) [ci])<|
 opt.need _ (p.and (p.leN (p.add (p.add 1 (p.mul (p.nat a.2.2.2.1) 10)) 10) (p.len a.1)) Bool.true)<|
 opt.bnd T2 _ (g70 it p ((p.cut a.1 (p.add 1 (p.mul (p.nat a.2.2.2.1) 10)) 10),())) fun b=>
 opt.need _ (bif (p.cmp .geq a.2.2.2.1 (0:Int)) then (p.cmp .lss a.2.2.2.1 (p.ofNat (p.len a.2.1))) else Bool.false)<|
 opt.need _ (p.rowOk a.2.1 (p.add 0 (p.nat a.2.2.2.1)) [ci])<|
 opt.need _ (p.eqN 0 0)<|
 opt.need _ (p.eqN (p.len a.2.1) (p.len (p.set a.2.1 (p.add 0 (p.nat a.2.2.2.1)) [(D.int .i64 b.1)])))<|
 opt.need _ (p.eqN (p.len a.2.1) (p.len (p.set a.2.1 (p.add 0 (p.nat a.2.2.2.1)) [(D.int .i64 b.1)])))<|
 opt.ret _ (Sum.inl (a.1,((p.set a.2.1 (p.add 0 (p.nat a.2.2.2.1)) [(D.int .i64 b.1)]),(a.2.2.1,((p.ar .add .i64 a.2.2.2.1 (1:Int)),())))))) (
 opt.need _ (p.eqN 0 0)<|
 opt.need _ (p.eqN (p.len a.2.1) (p.len a.2.1))<|
 opt.need _ (p.eqN (p.len a.2.1) (p.len a.2.1))<|
 opt.ret _ (Sum.inr (a.2.1,()))))
def g35 (it:It):(p:Prim)→(LD×Unit)→Option ((LD×T1)):=
 fun p x=>
 opt.alt T2 ((LD×T1)) _ (g54 it p (x.1,())) (fun a=>
 opt.ask _ (p.cmp .neq a.1 (0:Int)) (
 opt.ret _ ([],(a.1,()))) (
 opt.no _ 41)) (fun b=>
 opt.bnd ((LD×T1)) _ (some b) fun c=>
 opt.ask _ (p.cmp .neq c.2.1 (0:Int)) (
 opt.ret _ ([],(c.2.1,()))) (
 opt.need _ (p.rowOk c.1 0 [ci])<|
 opt.need _ (p.and (p.cmp .geq (p.rdI c.1 0 0) (0:Int)) (p.and (p.cmp .leq (p.rdI c.1 0 0) (p.rdI c.1 0 0)) (p.cmp .leq (p.rdI c.1 0 0) (1000000:Int))))<|
 opt.need _ (p.eqN 0 0)<|
 opt.need _ (p.eqN (p.nat (p.rdI c.1 0 0)) (p.len (p.rep (p.nat (p.rdI c.1 0 0)) k0k)))<|
 opt.need _ (p.eqN (p.nat (p.rdI c.1 0 0)) (p.len (p.rep (p.nat (p.rdI c.1 0 0)) k0k)))<|
 opt.bnd ((LD×Unit)) _ (
 it _ _ (w71 it p) (c.1,((p.rep (p.nat (p.rdI c.1 0 0)) k0k),((p.ofNat (p.nat (p.rdI c.1 0 0))),((0:Int),()))))) fun d=>
 opt.need _ (p.eqN 0 0)<|
 opt.need _ (p.eqN (p.len d.1) (p.len d.1))<|
 opt.need _ (p.leN (p.add 0 (p.len d.1)) (p.len d.1))<|
 opt.ret _ (d.1,((0:Int),()))))
def G35:=g35 it0
theorem v48:CtrOk PG w2z (G35 std):=okF (a:=an35) (l:=la35) (gC ok70 (gC v47 (gN))) (by kernel_rfl) fun _ _=>by kernel_rfl
def v1x:Ctr:=
 ⟨36,[.list 1],[],[(.ret,⟨[(0, .tuple [.int .i64, .int .i64])],[],1⟩)]⟩
def la36:List LA:=
 [⟨36,[false,true,false,true,true,true,true,true],0,⟨⟨[(7, .int .i64),(28, .vec 0 1),(29, .int .i64),(30, .int .i64)],[.row [ci]],43⟩,[((AX.exit 0),⟨[(7, .int .i64)],[],43⟩)]⟩⟩]
def ja36:List JA:=
 []
def v7i:List CF:=
 [⟨w2z,G35⟩]
def an36:Anns:=
 ⟨v7i,ja36,[]⟩
def v83 (p:Prim):(LD×T4)→Option ((LD×T4)⊕T1):=
 fun a=>opt.run _ (
 opt.ask _ (p.cmp .lss a.2.2.2.1 a.2.2.1) (
 opt.need _ (bif (p.cmp .geq a.2.2.2.1 (0:Int)) then (p.cmp .lss a.2.2.2.1 (p.ofNat (p.len a.1))) else Bool.false)<|
 opt.need _ (p.rowOk a.1 (p.add 0 (p.nat a.2.2.2.1)) [ci])<|
 opt.need _ (p.cmp .neq (2:Int) (0:Int))<|
 opt.need _ (p.eqN 0 0)<|
 opt.need _ (p.eqN (p.len a.1) (p.len a.1))<|
 opt.ret _ (Sum.inl (a.1,((p.ar .sub .i64 a.2.1 (p.ar .quo .i64 (p.ar .mul .i64 (p.rdI a.1 (p.add 0 (p.nat a.2.2.2.1)) 0) (p.ar .sub .i64 (p.rdI a.1 (p.add 0 (p.nat a.2.2.2.1)) 0) (1:Int))) (2:Int))),(a.2.2.1,((p.ar .add .i64 a.2.2.2.1 (1:Int)),())))))) (
 opt.ret _ (Sum.inr (a.2.1,()))))
def g36 (it:It):(p:Prim)→(LD×Unit)→Option T9:=
 fun p x=>
 opt.bnd ((LD×T1)) _ (g35 it p (x.1,())) fun a=>
 opt.ask _ (p.cmp .neq a.2.1 (0:Int)) (
 opt.ret _ ((0:Int),(a.2.1,()))) (
 opt.need _ (p.cmp .neq (6:Int) (0:Int))<|
 opt.need _ (p.eqN 0 0)<|
 opt.need _ (p.eqN (p.len a.1) (p.len a.1))<|
 opt.bnd T2 _ (
 it _ _ (v83 p) (a.1,((p.ar .quo .i64 (p.ar .mul .i64 (p.ar .mul .i64 (p.ofNat (p.len a.1)) (p.ar .sub .i64 (p.ofNat (p.len a.1)) (1:Int))) (p.ar .sub .i64 (p.ofNat (p.len a.1)) (2:Int))) (6:Int)),((p.ofNat (p.len a.1)),((0:Int),()))))) fun b=>
 opt.ret _ (b.1,((0:Int),())))
def G36:=g36 it0
theorem ok36:CtrOk PG v1x (G36 std):=okF (a:=an36) (l:=la36) (gC v48 (gN)) (by kernel_rfl) fun _ _=>by kernel_rfl
end Go.Am
end
section
namespace Go.Am
variable {fl:List Int→Bool}
def w92 (l:List Int):Nat→Int
 |0=> -1
 |i+1=>l.getD i 0
def v0s (l:List Int) (n:Int) (i:Nat):Prop:=l.getD i 0≤w92 l i∨n≤l.getD i 0
instance (l:List Int) (n:Int) (i:Nat):Decidable (v0s l n i):=by unfold v0s; infer_instance
end Go.Am
end
section
namespace Go.Am
variable {fl:List Int→Bool}
def eC (b:Bool):List D:=eI (bif b then 1 else 0)
def fld (n:Int) (f:Nat→Nat→Bool):List (List D):=eI n::(List.range 100).map fun j=>eC (f (j / 10) (j % 10))
theorem z47 (n:Int) (f:Nat→Nat→Bool) (i k:Nat) (hi:i<10) (hk:k<10):(fld n f)[1+i*10+k]?=some (eC (f i k)):=by
 have h:1+i*10+k=(i*10+k)+1:=by omega
 have h1:(i*10+k) / 10=i:=by omega
 have h2:(i*10+k) % 10=k:=by omega
 rw [h,fld,List.getElem?_cons_succ,List.getElem?_map,List.getElem?_range (by omega)]
 simp only [Option.map_some,h1,h2]
theorem x8j (n:Int) (f:Nat→Nat→Bool) (i k:Nat) (hi:i<10) (hk:k<10):(fld n f).set (1+i*10+k) (eI 1)=fld n (fun a b=>f a b||(decide (a=i)&&decide (b=k))):=by
 have h:1+i*10+k=(i*10+k)+1:=by omega
 rw [h,fld,fld,List.set_cons_succ]
 congr 1
 apply List.ext_getElem?
 intro j
 rw [List.getElem?_set,List.getElem?_map,List.getElem?_map,List.length_map,List.length_range]
 by_cases hj:i*10+k=j
 ·subst hj
  rw [if_pos rfl,if_pos (by omega),List.getElem?_range (by omega)]
  have h1:(i*10+k) / 10=i:=by omega
  have h2:(i*10+k) % 10=k:=by omega
  simp [h1,h2,eC]
 ·rw [if_neg hj]
  by_cases hl:j<100
  ·rw [List.getElem?_range hl]
   have:¬ (j / 10=i∧j % 10=k):=by omega
   have:(decide (j / 10=i)&&decide (j % 10=k))=false:=by
    cases h:(decide (j / 10=i)&&decide (j % 10=k)) with
    |false=>rfl
    |true=>simp at h; exact absurd h this
   simp [this]
  ·rw [List.getElem?_eq_none (by simp; omega)]; rfl
theorem z3v (b:Bool):z4e [CK.int IntKind.i64] (eC b)=true:=rfl
theorem y11 (b:Bool):dI ((eC b)[0]?.getD D.nilp)=bif b then 1 else 0:=rfl
end Go.Am
end
section
namespace Go.Am.T11
def o1 (b:Bool):Nat:=bif b then 1 else 0
def sm (n:Nat) (f:Nat→Nat):Nat:=
 match n with
 |0=>0
 |n+1=>sm n f+f n
def cnt (n:Nat) (p:Nat→Bool):Nat:=sm n fun i=>o1 (p i)
theorem z75 (n:Nat) (f:Nat→Nat):sm (n+1) f=sm n f+f n:=rfl
theorem z9a {n:Nat} {f g:Nat→Nat} (h:∀ i,i<n→f i=g i):sm n f=sm n g:=by
 induction n with
 |zero=>rfl
 |succ n ih=>rw [z75,z75,ih fun i hi=>h i (by omega),h n (by omega)]
theorem w86 (n:Nat) (f g:Nat→Nat):sm n (fun i=>f i+g i)=sm n f+sm n g:=by
 induction n with
 |zero=>rfl
 |succ n ih=>rw [z75,z75,z75,ih]; omega
theorem w5m (n:Nat):sm n (fun _=>0)=0:=by
 induction n with
 |zero=>rfl
 |succ n ih=>rw [z75,ih]
theorem x2v (n k:Nat) (f:Nat→Nat):sm (n+k) f=sm n f+sm k fun i=>f (n+i):=by
 induction k with
 |zero=>rfl
 |succ k ih=>rw [←Nat.add_assoc,z75,z75,ih]; omega
theorem y8k (n:Nat) (p:Nat→Bool):cnt (n+1) p=cnt n p+o1 (p n):=rfl
theorem z4s {n:Nat} {p q:Nat→Bool} (h:∀ i,i<n→p i=q i):cnt n p=cnt n q:=z9a fun i hi=>by rw [h i hi]
theorem x0t (n:Nat):cnt n (fun _=>false)=0:=w5m n
def c2:Nat→Nat
 |0=>0
 |n+1=>c2 n+n
def c3:Nat→Nat
 |0=>0
 |n+1=>c3 n+c2 n
section
variable (b:Nat→Nat→Bool)
def u0s (n:Nat):Prop:=(∀ i,i<n→b i i=false)∧∀ i k,i<n→k<n→i≠k→b i k=!b k i
end
variable {b:Nat→Nat→Bool} {N:Nat}
end Go.Am.T11
end
section
namespace Go.Am.T11
variable {b:Nat→Nat→Bool} {N n:Nat}
theorem x0s (k m:Nat) (p:Nat→Bool):cnt (k+m) p=cnt k p+cnt m fun j=>p (k+j):=x2v k m _
def cut (b:Nat→Nat→Bool) (n k:Nat):Prop:=sm k (fun q=>cnt n (b q))=c2 k+k*(n - k)
instance (b:Nat→Nat→Bool) (n k:Nat):Decidable (cut b n k):=by unfold cut; infer_instance
def at_ (s:List Nat) (q:Nat):Nat:=s.getD q 0
theorem x65 (l:List Nat) (f:Nat→Nat):sm l.length (fun q=>f (at_ l q))=(l.map f).sum:=by
 induction l with
 |nil=>rfl
 |cons a l ih=>
  rw [List.length_cons,Nat.add_comm,x2v,List.map_cons,List.sum_cons, ←ih]
  congr 1
  ·simp [sm,at_]
  ·refine z9a fun i hi=>?_
   simp [at_,Nat.add_comm 1 i]
theorem w0u (n:Nat) (f:Nat→Nat):sm n f=((List.range n).map f).sum:=by
 have:=x65 (List.range n) f
 rw [List.length_range] at this
 rw [←this]
 refine z9a fun i hi=>?_
 rw [at_,List.getD_eq_getElem?_getD,List.getElem?_range hi]; rfl
def x4k (n:Nat) (s:List Nat):Prop:=s.Perm (List.range n)
variable {s:List Nat}
theorem x4k.len (h:x4k n s):s.length=n:=by rw [h.length_eq,List.length_range]
theorem x4k.sum (h:x4k n s) (f:Nat→Nat):sm n (fun q=>f (at_ s q))=sm n f:=by
 have:=x65 s f
 rw [h.len] at this
 rw [this,w0u]
 exact (h.map f).sum_nat
theorem x4k.get (h:x4k n s) {q:Nat} (hq:q<n):s[q]?=some (at_ s q):=by
 rw [at_,List.getD_eq_getElem?_getD,List.getElem?_eq_getElem (by rw [h.len]; exact hq)]; rfl
theorem x4k.lt (h:x4k n s) {q:Nat} (hq:q<n):at_ s q<n:=List.mem_range.1 (h.mem_iff.1 (List.mem_of_getElem? (h.get hq)))
theorem x4k.nodup (h:x4k n s):s.Nodup:=h.nodup_iff.2 List.nodup_range
theorem x4k.inj (h:x4k n s) {q r:Nat} (hq:q<n) (hr:r<n) (he:at_ s q=at_ s r):q=r:=by
 have h1:=h.get hq
 have h2:=h.get hr
 rw [←he] at h2
 exact (List.getElem?_inj (by rw [h.len]; exact hq) h.nodup).1 (h1.trans h2.symm)
theorem x4k.ex (h:x4k n s) {i:Nat} (hi:i<n):∃ q,q<n∧at_ s q=i:=by
 have:=h.mem_iff.2 (List.mem_range.2 hi)
 obtain ⟨q,hq⟩:=List.getElem?_of_mem this
 have hl:q<n:=by rw [←h.len]; exact (List.getElem?_eq_some_iff.1 hq).1
 refine ⟨q,hl,?_⟩
 have:=h.get hl
 rw [hq] at this; cases this; rfl
variable {rc:Nat→Nat}
end Go.Am.T11
end
section
namespace Go.Am.T11
def Lan (L:List Int):Prop:=(∀ T:List Int,T.Sublist L→(c2 T.length:Int)≤T.sum)∧L.sum=c2 L.length
theorem y7e {L L':List Int} (h:L.Perm L'):L.sum=L'.sum:=by
 induction h with
 |nil=>rfl
 |cons a _ ih=>simp [ih]
 |swap a b l=>simp; omega
 |trans _ _ h1 h2=>exact h1.trans h2
theorem Lan.perm {L L':List Int} (h:Lan L) (hp:L.Perm L'):Lan L':=by
 refine ⟨fun T hT=>?_,?_⟩
 ·obtain ⟨T',h1,h2⟩:=List.exists_perm_sublist hT hp.symm
  have:=h.1 T' h2
  rw [h1.length_eq,y7e h1] at this
  exact this
 ·rw [←y7e hp,h.2,hp.length_eq]
theorem w1h {T K:List Int} (h:T.Sublist K) (hne:T≠K):∃ (y:Int) (K1:List Int),y∈K∧K1.Sublist K∧K1.Perm (y::T):=by
 induction h with
 |slnil=>exact absurd rfl hne
 |cons a hs ih=>exact ⟨a,a::_,List.mem_cons_self .., .cons_cons a hs, .refl _⟩
 |cons_cons a hs ih=>
  obtain ⟨y,K1,h1,h2,h3⟩:=ih fun e=>hne (by rw [e])
  exact ⟨y,a::K1,List.mem_cons_of_mem _ h1, .cons_cons a h2,(h3.cons a).trans (.swap _ _ _)⟩
theorem x6w (L:List Int):(L.map (· - 1)).sum=L.sum - L.length:=by
 induction L with
 |nil=>rfl
 |cons a L ih=>simp [ih]; omega
theorem Lan.step {v:Int} {L:List Int} (h:Lan (v::L)) (hs:L.Pairwise (· ≤ ·)):
  0≤v∧v≤L.length∧Lan (L.take v.toNat++(L.drop v.toNat).map (· - 1)):=by
 have h0:0≤v:=by
  have:=h.1 [v] (.cons_cons v (List.nil_sublist _))
  simpa [c2] using this
 have htot:=h.2
 rw [List.sum_cons,List.length_cons,c2] at htot
 have h1:v≤L.length:=by
  have:=h.1 L (.cons v (List.Sublist.refl _))
  omega
 refine ⟨h0,h1,?_,?_⟩
 ·intro T hT
  obtain ⟨T1,T2',rfl,hT1,hT2'⟩:=List.sublist_append_iff.1 hT
  obtain ⟨T2,hT2,rfl⟩:=List.sublist_map_iff.1 hT2'
  rw [List.length_append,List.length_map,List.sum_append,x6w]
  have hKD:∀ y∈L.take v.toNat,∀ z∈L.drop v.toNat,y≤z:=by
   intro y hy z hz
   have:=hs
   rw [←List.take_append_drop v.toNat L,List.pairwise_append] at this
   exact this.2.2 y hy z hz
  have hKl:(L.take v.toNat).length=v.toNat:=by rw [List.length_take]; omega
  have hDl:(L.drop v.toNat).length=L.length - v.toNat:=List.length_drop ..
  have hall:∀ T1 T2:List Int,T1.Sublist (L.take v.toNat)→T2.Sublist (L.drop v.toNat)→(T1++T2).Sublist L:=fun T1 T2 a b=>by
   have:=a.append b
   rwa [List.take_append_drop] at this
  have key:∀ m:Nat,∀ T1 T2:List Int,T1.Sublist (L.take v.toNat)→T2.Sublist (L.drop v.toNat)→
    (T1.sum+T2.sum - T2.length - c2 (T1.length+T2.length)+L.length).toNat*(L.length+1)+(T1.length+T2.length)≤m→
    (c2 (T1.length+T2.length):Int)≤T1.sum+(T2.sum - T2.length):=by
   intro m
   induction m with
   |zero=>
    intro T1 T2 a b hm
    have e1:T1.length+T2.length=0:=by omega
    have e2:T1=[]:=List.length_eq_zero_iff.1 (by omega)
    have e3:T2=[]:=List.length_eq_zero_iff.1 (by omega)
    subst e2 e3; simp [c2]
   |succ m ih=>
    intro T1 T2 a b hm
    have hsub:=h.1 (T1++T2) (.cons v (hall T1 T2 a b))
    rw [List.length_append,List.sum_append] at hsub
    have hl1:=a.length_le
    have hl2:=b.length_le
    refine Int.not_lt.1 fun hneg=>?_
    match T2,b with
    |[],_=>simp at hneg hsub; omega
    |z::T2,b=>
     rw [List.length_cons,List.sum_cons] at*
     have hz:z∈L.drop v.toNat:=b.subset (List.mem_cons_self ..)
     by_cases hK:T1=L.take v.toNat
     ·have:=h.1 (v::(T1++(z::T2))) (.cons_cons v (hall T1 (z::T2) a b))
      rw [List.length_cons,List.sum_cons,List.length_append,List.sum_append,c2,List.length_cons,List.sum_cons] at this
      have hTl:T1.length=v.toNat:=by rw [hK,hKl]
      push_cast at*
      omega
     ·obtain ⟨y,K1,hy,hK1,hp⟩:=w1h a hK
      have hyz:=hKD y hy z hz
      have hv1:=List.length_pos_of_mem hy
      rw [hKl] at hv1
      rw [hDl] at hl2
      have hKl1:=hp.length_eq
      have hKs:=y7e hp
      rw [List.length_cons] at hKl1
      rw [List.sum_cons] at hKs
      by_cases hyk:y<(T1.length+(T2.length+1):Nat)
      ·have:=ih K1 (z::T2) hK1 b (by
        rw [List.length_cons,List.sum_cons,hKl1,hKs,show T1.length+1+(T2.length+1)=T1.length+(T2.length+1)+1 by omega,c2]
        generalize c2 (T1.length+(T2.length+1))=C at*
        have hd:(y+T1.sum+(z+T2.sum) - ((T2.length+1:Nat):Int) - ((C+(T1.length+(T2.length+1)):Nat):Int)+(L.length:Int)).toNat+1≤
          (T1.sum+(z+T2.sum) - ((T2.length+1:Nat):Int) - (C:Int)+(L.length:Int)).toNat:=by omega
        have hmul:=Nat.mul_le_mul_right (L.length+1) hd
        rw [Nat.add_mul,Nat.one_mul] at hmul
        have:0<L.length:=by
         have:=List.length_pos_of_mem hz
         omega
        omega)
       rw [List.length_cons,List.sum_cons,hKl1,hKs,show T1.length+1+(T2.length+1)=T1.length+(T2.length+1)+1 by omega,c2] at this
       push_cast at*
       omega
      ·have b':T2.Sublist (L.drop v.toNat):=(List.sublist_cons_self z T2).trans b
       have e1:T1.length+(T2.length+1)=T1.length+T2.length+1:=by omega
       have hc2:c2 (T1.length+(T2.length+1))=c2 (T1.length+T2.length)+(T1.length+T2.length):=by rw [e1,c2]
       rw [hc2] at hneg hm hsub
       have hsub':=h.1 (T1++T2) (.cons v (hall T1 T2 a b'))
       rw [List.length_append,List.sum_append] at hsub'
       have:=ih T1 T2 a b' (by
        generalize c2 (T1.length+T2.length)=C at*
        have hd:(T1.sum+T2.sum - ((T2.length:Nat):Int) - (C:Int)+(L.length:Int)).toNat≤
          (T1.sum+(z+T2.sum) - ((T2.length+1:Nat):Int) - ((C+(T1.length+T2.length):Nat):Int)+(L.length:Int)).toNat:=by omega
        have hmul:=Nat.mul_le_mul_right (L.length+1) hd
        omega)
       push_cast at*
       omega
  exact key _ T1 T2 hT1 hT2 (Nat.le_refl _)
 ·have hl:(L.take v.toNat++(L.drop v.toNat).map (· - 1)).length=L.length:=by
   rw [List.length_append,List.length_map, ←List.length_append,List.take_append_drop]
  have hsum:(L.take v.toNat).sum+(L.drop v.toNat).sum=L.sum:=by
   rw [←List.sum_append,List.take_append_drop]
  rw [hl,List.sum_append,x6w,List.length_drop]
  push_cast at*
  omega
def w3u (n k:Nat) (sum:Int):Prop:=sum<c2 k∨k=n∧sum≠c2 k
instance (n k:Nat) (sum:Int):Decidable (w3u n k sum):=by unfold w3u; infer_instance
end Go.Am.T11
end
section
namespace Go.Am.T11
def gI (l:List Int) (q:Nat):Int:=l.getD q 0
def sw (l:List Int) (j:Nat):List Int:=(l.set (j+1) (gI l j)).set j (gI l (j+1))
def w16 (κ:Int→Int):Nat→List Int→List Int
 |0,l=>l
 |j+1,l=>if κ (gI l (j+1))<κ (gI l j) then w16 κ j (sw l j) else l
def w34 (κ:Int→Int):Nat→Nat→List Int→List Int
 |0,_,l=>l
 |k+1,i,l=>w34 κ k (i+1) (w16 κ i l)
def y7p (κ:Int→Int) (l:List Int):List Int:=w34 κ (l.length - 1) 1 l
theorem y9c (l:List Int) (j:Nat):(sw l j).length=l.length:=by simp [sw]
theorem x8d {l:List Int} {j:Nat} (hj:j+1<l.length) (q:Nat):gI (sw l j) q=if q=j then gI l (j+1) else if q=j+1 then gI l j else gI l q:=by
 have e:gI (sw l j) q=((sw l j)[q]?).getD 0:=by rw [gI,List.getD_eq_getElem?_getD]
 rw [e,sw,List.getElem?_set,List.getElem?_set,List.length_set]
 by_cases h1:q=j
 ·subst h1; rw [if_pos rfl,if_pos (by omega),if_pos rfl]; rfl
 ·by_cases h2:q=j+1
  ·subst h2; rw [if_neg (by omega),if_pos rfl,if_pos hj,if_neg h1,if_pos rfl]; rfl
  ·rw [if_neg (by omega),if_neg (by omega),if_neg h1,if_neg h2,gI,List.getD_eq_getElem?_getD]
theorem v0l {l l':List Int} (hl:l.length=l'.length) (h:∀ q,q<l.length→gI l q=gI l' q):l=l':=by
 apply List.ext_getElem hl
 intro i h1 h2
 have:=h i h1
 simpa [gI,List.getD_eq_getElem?_getD,h1,h2] using this
theorem w48 {l:List Int} {j:Nat} (hj:j+1<l.length):(sw l j).Perm l:=by
 have e:l=l.take j++(gI l j::gI l (j+1)::l.drop (j+2)):=by
  conv=>lhs; rw [←List.take_append_drop j l]
  congr 1
  rw [List.drop_eq_getElem_cons (by omega),List.drop_eq_getElem_cons (by omega)]
  simp [gI,List.getD_eq_getElem?_getD,show j<l.length by omega,hj]
 have e2:sw l j=l.take j++(gI l (j+1)::gI l j::l.drop (j+2)):=by
  apply v0l
  ·simp only [y9c,List.length_append,List.length_take,List.length_cons,List.length_drop]; omega
  ·intro q hq
   rw [y9c] at hq
   rw [x8d hj]
   have hlt:(l.take j).length=j:=by rw [List.length_take]; omega
   have hR:gI (l.take j++(gI l (j+1)::gI l j::l.drop (j+2))) q=((l.take j++(gI l (j+1)::gI l j::l.drop (j+2)))[q]?).getD 0:=by rw [gI,List.getD_eq_getElem?_getD]
   rw [hR,List.getElem?_append,hlt]
   by_cases h1:q<j
   ·rw [if_neg (by omega),if_neg (by omega),if_pos h1,List.getElem?_take_of_lt h1,gI,List.getD_eq_getElem?_getD]
   ·rw [if_neg h1]
    by_cases h2:q=j
    ·subst h2; rw [if_pos rfl,Nat.sub_self]; rfl
    ·by_cases h3:q=j+1
     ·subst h3; rw [if_neg h2,if_pos rfl,show j+1 - j=1 by omega]; rfl
     ·rw [if_neg h2,if_neg h3]
      obtain ⟨m,rfl⟩:∃ m,q=j+2+m:=⟨q - (j+2),by omega⟩
      rw [show j+2+m - j=m+2 by omega,List.getElem?_cons_succ,List.getElem?_cons_succ,List.getElem?_drop,gI,List.getD_eq_getElem?_getD]
 rw [e2]
 conv=>rhs; rw [e]
 exact List.Perm.append_left _ (.swap _ _ _)
theorem y79 (κ:Int→Int) (j:Nat) (l:List Int):(w16 κ j l).length=l.length:=by
 induction j generalizing l with
 |zero=>rfl
 |succ j ih=>
  rw [w16]
  split
  ·rw [ih,y9c]
  ·rfl
theorem w14 (κ:Int→Int) (k i:Nat) (l:List Int):(w34 κ k i l).length=l.length:=by
 induction k generalizing i l with
 |zero=>rfl
 |succ k ih=>rw [w34,ih,y79]
theorem x79 (κ:Int→Int) (j:Nat) (l:List Int) (hj:j<l.length):(w16 κ j l).Perm l:=by
 induction j generalizing l with
 |zero=>exact .refl _
 |succ j ih=>
  rw [w16]
  split
  ·exact (ih _ (by rw [y9c]; omega)).trans (w48 hj)
  ·exact .refl _
theorem x78 (κ:Int→Int) (k i:Nat) (l:List Int) (h:i+k≤l.length):(w34 κ k i l).Perm l:=by
 induction k generalizing i l with
 |zero=>exact .refl _
 |succ k ih=>
  rw [w34]
  exact (ih _ _ (by rw [y79]; omega)).trans (x79 κ i l (by omega))
def w56 (κ:Int→Int) (l:List Int) (i:Nat):Prop:=∀ p q,p<q→q≤i→κ (gI l p)≤κ (gI l q)
theorem w15 (κ:Int→Int) (i j:Nat) (l:List Int) (hj:j≤i) (hi:i<l.length)
  (h1:∀ p q,p<q→q≤i→p≠j→q≠j→κ (gI l p)≤κ (gI l q)) (h2:∀ q,j<q→q≤i→κ (gI l j)≤κ (gI l q)):w56 κ (w16 κ j l) i:=by
 induction j generalizing l with
 |zero=>
  intro p q hpq hq
  by_cases hp:p=0
  ·subst hp; exact h2 q hpq hq
  ·exact h1 p q hpq hq hp (by omega)
 |succ j ih=>
  rw [w16]
  split
  ·rename_i hlt
   refine ih _ (by omega) (by rw [y9c]; exact hi) (fun p q hpq hq hp hqj=>?_) (fun q hjq hq=>?_)
   ·rw [x8d (by omega),x8d (by omega),if_neg hp,if_neg hqj]
    by_cases e:p=j+1
    ·rw [if_pos e,if_neg (by omega)]
     exact h1 j q (by omega) hq (by omega) (by omega)
    ·rw [if_neg e]
     by_cases e2:q=j+1
     ·rw [if_pos e2]
      exact h1 p j (by omega) (by omega) e (by omega)
     ·rw [if_neg e2]
      exact h1 p q hpq hq e e2
   ·rw [x8d (by omega),x8d (by omega),if_pos rfl,if_neg (by omega)]
    by_cases e2:q=j+1
    ·rw [if_pos e2]; omega
    ·rw [if_neg e2]; exact h2 q (by omega) hq
  ·rename_i hge
   intro p q hpq hq
   by_cases e:q=j+1
   ·subst e
    by_cases e2:p=j
    ·subst e2; omega
    ·have:=h1 p j (by omega) (by omega) (by omega) (by omega)
     omega
   ·by_cases e2:p=j+1
    ·subst e2; exact h2 q hpq hq
    ·exact h1 p q hpq hq e2 e
theorem w13 (κ:Int→Int) (k i:Nat) (l:List Int) (hi:1≤i) (h:i+k≤l.length) (ho:w56 κ l (i - 1)):w56 κ (w34 κ k i l) (i+k - 1):=by
 induction k generalizing i l with
 |zero=>exact ho
 |succ k ih=>
  rw [w34]
  have:=ih (i+1) (w16 κ i l) (by omega) (by rw [y79]; omega) (by
   rw [Nat.add_sub_cancel]
   exact w15 κ i i l (Nat.le_refl _) (by omega) (fun p q hpq hq hp hqi=>ho p q hpq (by omega)) (fun q h1 h2=>by omega))
  rwa [show i+1+k - 1=i+(k+1) - 1 by omega] at this
theorem x64 (κ:Int→Int) (l:List Int):(y7p κ l).length=l.length:=w14 ..
theorem y53 (κ:Int→Int) (l:List Int):(y7p κ l).Perm l:=by
 cases hl:l.length with
 |zero=>
  have:l=[]:=List.length_eq_zero_iff.1 hl
  subst this; exact .refl _
 |succ n=>exact x78 κ _ _ _ (by omega)
theorem x63 (κ:Int→Int) (l:List Int):∀ p q,p≤q→q<l.length→κ (gI (y7p κ l) p)≤κ (gI (y7p κ l) q):=by
 intro p q hpq hq
 by_cases e:p=q
 ·subst e; exact Int.le_refl _
 ·exact w13 κ (l.length - 1) 1 l (Nat.le_refl _) (by omega) (fun p q h1 h2=>by omega) p q (by omega) (by omega)
theorem w0t (κ:Int→Int) (l:List Int):(y7p κ l).Pairwise fun a b=>κ a≤κ b:=by
 rw [List.pairwise_iff_getElem]
 intro i j hi hj hij
 have:=x63 κ l i j (by omega) (by rw [x64] at hj; exact hj)
 simpa [gI,List.getD_eq_getElem?_getD,hi,hj] using this
end Go.Am.T11
end
noncomputable section
namespace Go.Am
def x38:Ctr:=
 ⟨93,[.full 0 1, .int .i64, .int .i64],[.row [ci]],[]⟩
def u1i:Prim→Tup (x38).scs→Option (STup (scss (x38).outs)):=
 fun _ _=>none
theorem x83:z13 Go.Proofs.Try.prog 93:=enters_auto (b:=_) rfl (by kernel_rfl)
theorem v4w:CtrOk Go.Proofs.Try.prog x38 (u1i std):=⟨x83,fun x y h=>by cases h⟩
def x36:Ctr:=
 ⟨94,[.full 0 1, .int .i64, .int .i64],[.row [ci]],[]⟩
def u1g:Prim→Tup (x36).scs→Option (STup (scss (x36).outs)):=
 fun _ _=>none
theorem x81:z13 Go.Proofs.Try.prog 94:=enters_auto (b:=_) rfl (by kernel_rfl)
theorem v4u:CtrOk Go.Proofs.Try.prog x36 (u1g std):=⟨x81,fun x y h=>by cases h⟩
def x34:Ctr:=
 ⟨95,[.full 0 1, .int .i64, .int .i64],[.row [ci]],[]⟩
def u1e:Prim→Tup (x34).scs→Option (STup (scss (x34).outs)):=
 fun _ _=>none
theorem x8z:z13 Go.Proofs.Try.prog 95:=enters_auto (b:=_) rfl (by kernel_rfl)
theorem v4s:CtrOk Go.Proofs.Try.prog x34 (u1e std):=⟨x8z,fun x y h=>by cases h⟩
def w4b:Ctr:=
 ⟨92,[.full 0 1, .int .i64, .int .i64],[.row [ci]],[(.ret,⟨[(0, .tuple [])],[.row [ci]],1⟩)]⟩
def v51:List LA:=
 [⟨92,[false,true],1,⟨⟨[(0, .full 0 1),(1, .int .i64),(2, .int .i64),(6, .int .i64)],[.row [ci]],49⟩,[((AX.exit 0),⟨[],[.row [ci]],49⟩)]⟩⟩,
 ⟨92,[false,true,false,false,true,false,false,true],1,⟨⟨[(0, .full 0 1),(1, .int .i64),(2, .int .i64),(6, .int .i64),(7, .int .i64)],[.row [ci]],49⟩,[((AX.exit 2),⟨[(0, .full 0 1),(1, .int .i64),(2, .int .i64),(6, .int .i64)],[.row [ci]],49⟩)]⟩⟩]
def v6c:List JA:=
 []
def v0b:List CF:=
 [⟨w7m,G98⟩]
def v9e:Anns:=
 ⟨v0b,v6c,[]⟩
def v25 (p:Prim):(LD×T7)→Option ((LD×T7)⊕(LD×T4)):=
 fun a=>opt.run _ (
 opt.ask _ (p.cmp .gtr a.2.2.2.2.1 a.2.1) (
 opt.need _ (bif (p.cmp .geq a.2.2.2.2.1 (0:Int)) then (p.cmp .lss a.2.2.2.2.1 (p.ofNat (p.len a.1))) else Bool.false)<|
 opt.need _ (p.rowOk a.1 (p.add 0 (p.nat a.2.2.2.2.1)) [ci])<|
 opt.need _ (bif (p.cmp .geq (p.ar .sub .i64 a.2.2.2.2.1 (1:Int)) (0:Int)) then (p.cmp .lss (p.ar .sub .i64 a.2.2.2.2.1 (1:Int)) (p.ofNat (p.len a.1))) else Bool.false)<|
 opt.need _ (p.rowOk a.1 (p.add 0 (p.nat (p.ar .sub .i64 a.2.2.2.2.1 (1:Int)))) [ci])<|
 opt.bnd T0 _ (G98 p ((p.rdI a.1 (p.add 0 (p.nat a.2.2.2.2.1)) 0),((p.rdI a.1 (p.add 0 (p.nat (p.ar .sub .i64 a.2.2.2.2.1 (1:Int)))) 0),()))) fun b=>
 opt.ask _ b.1 (
 opt.need _ (bif (p.cmp .geq (p.ar .sub .i64 a.2.2.2.2.1 (1:Int)) (0:Int)) then (p.cmp .lss (p.ar .sub .i64 a.2.2.2.2.1 (1:Int)) (p.ofNat (p.len a.1))) else Bool.false)<|
 opt.need _ (p.rowOk a.1 (p.add 0 (p.nat (p.ar .sub .i64 a.2.2.2.2.1 (1:Int)))) [ci])<|
 opt.need _ (bif (p.cmp .geq a.2.2.2.2.1 (0:Int)) then (p.cmp .lss a.2.2.2.2.1 (p.ofNat (p.len a.1))) else Bool.false)<|
 opt.need _ (p.rowOk a.1 (p.add 0 (p.nat a.2.2.2.2.1)) [ci])<|
 opt.need _ (bif (p.cmp .geq a.2.2.2.2.1 (0:Int)) then (p.cmp .lss a.2.2.2.2.1 (p.ofNat (p.len a.1))) else Bool.false)<|
 opt.need _ (p.rowOk a.1 (p.add 0 (p.nat a.2.2.2.2.1)) [ci])<|
 opt.need _ (bif (p.cmp .geq (p.ar .sub .i64 a.2.2.2.2.1 (1:Int)) (0:Int)) then (p.cmp .lss (p.ar .sub .i64 a.2.2.2.2.1 (1:Int)) (p.ofNat (p.len a.1))) else Bool.false)<|
 opt.need _ (p.rowOk (p.set a.1 (p.add 0 (p.nat a.2.2.2.2.1)) [(D.int .i64 (p.rdI a.1 (p.add 0 (p.nat (p.ar .sub .i64 a.2.2.2.2.1 (1:Int)))) 0))]) (p.add 0 (p.nat (p.ar .sub .i64 a.2.2.2.2.1 (1:Int)))) [ci])<|
 opt.need _ (p.eqN 0 0)<|
 opt.need _ (p.eqN (p.len a.1) (p.len (p.set (p.set a.1 (p.add 0 (p.nat a.2.2.2.2.1)) [(D.int .i64 (p.rdI a.1 (p.add 0 (p.nat (p.ar .sub .i64 a.2.2.2.2.1 (1:Int)))) 0))]) (p.add 0 (p.nat (p.ar .sub .i64 a.2.2.2.2.1 (1:Int)))) [(D.int .i64 (p.rdI a.1 (p.add 0 (p.nat a.2.2.2.2.1)) 0))])))<|
 opt.need _ (p.eqN (p.len a.1) (p.len (p.set (p.set a.1 (p.add 0 (p.nat a.2.2.2.2.1)) [(D.int .i64 (p.rdI a.1 (p.add 0 (p.nat (p.ar .sub .i64 a.2.2.2.2.1 (1:Int)))) 0))]) (p.add 0 (p.nat (p.ar .sub .i64 a.2.2.2.2.1 (1:Int)))) [(D.int .i64 (p.rdI a.1 (p.add 0 (p.nat a.2.2.2.2.1)) 0))])))<|
 opt.ret _ (Sum.inl ((p.set (p.set a.1 (p.add 0 (p.nat a.2.2.2.2.1)) [(D.int .i64 (p.rdI a.1 (p.add 0 (p.nat (p.ar .sub .i64 a.2.2.2.2.1 (1:Int)))) 0))]) (p.add 0 (p.nat (p.ar .sub .i64 a.2.2.2.2.1 (1:Int)))) [(D.int .i64 (p.rdI a.1 (p.add 0 (p.nat a.2.2.2.2.1)) 0))]),(a.2.1,(a.2.2.1,(a.2.2.2.1,((p.ar .sub .i64 a.2.2.2.2.1 (1:Int)),()))))))) (
 opt.need _ (p.eqN 0 0)<|
 opt.need _ (p.eqN (p.len a.1) (p.len a.1))<|
 opt.need _ (p.eqN (p.len a.1) (p.len a.1))<|
 opt.ret _ (Sum.inr (a.1,(a.2.1,(a.2.2.1,(a.2.2.2.1,()))))))) (
 opt.need _ (p.eqN 0 0)<|
 opt.need _ (p.eqN (p.len a.1) (p.len a.1))<|
 opt.need _ (p.eqN (p.len a.1) (p.len a.1))<|
 opt.ret _ (Sum.inr (a.1,(a.2.1,(a.2.2.1,(a.2.2.2.1,())))))))
def x9m (it:It) (p:Prim):(LD×T4)→Option ((LD×T4)⊕(LD×Unit)):=
 fun a=>opt.run _ (
 opt.ask _ (p.cmp .lss a.2.2.2.1 a.2.2.1) (
 opt.need _ (p.eqN 0 0)<|
 opt.need _ (p.eqN (p.len a.1) (p.len a.1))<|
 opt.need _ (p.eqN (p.len a.1) (p.len a.1))<|
 opt.bnd ((LD×T4)) _ (
 it _ _ (v25 p) (a.1,(a.2.1,(a.2.2.1,(a.2.2.2.1,(a.2.2.2.1,())))))) fun b=>
 opt.need _ (p.eqN 0 0)<|
 opt.need _ (p.eqN (p.len b.1) (p.len b.1))<|
 opt.need _ (p.eqN (p.len b.1) (p.len b.1))<|
 opt.ret _ (Sum.inl (b.1,(b.2.1,(b.2.2.1,((p.ar .add .i64 b.2.2.2.1 (1:Int)),())))))) (
 opt.ret _ (Sum.inr (a.1,()))))
def v39 (it:It):(p:Prim)→(LD×T3)→Option ((LD×Unit)):=
 fun p x=>
 opt.need _ (p.eqN 0 0)<|
 opt.need _ (p.eqN (p.len x.1) (p.len x.1))<|
 opt.need _ (p.eqN (p.len x.1) (p.len x.1))<|
 opt.bnd ((LD×Unit)) _ (
 it _ _ (x9m it p) (x.1,(x.2.1,(x.2.2.1,((p.ar .add .i64 x.2.1 (1:Int)),()))))) fun a=>
 opt.ret _ (a.1,())
def u0v:=v39 it0
theorem v4y:CtrOk PG w4b (u0v std):=okF (a:=v9e) (l:=v51) (gC v9y (gN)) (by kernel_rfl) fun _ _=>by kernel_rfl
def w4e:Ctr:=
 ⟨82,[.full 0 1, .int .i64, .int .i64, .int .i64],[.row [ci]],[(.ret,⟨[(0, .tuple [])],[.row [ci]],1⟩)]⟩
def v54:List LA:=
 [⟨82,[false,true,true],1,⟨⟨[(0, .full 0 1),(1, .int .i64),(2, .int .i64),(3, .int .i64),(8, .bool),(9, .bool)],[.row [ci]],134⟩,[(AX.ret,⟨[],[.row [ci]],134⟩)]⟩⟩]
def v6f:List JA:=
 []
def v0e:List CF:=
 [⟨x34,u1e⟩,⟨x36,u1g⟩,⟨x38,u1i⟩,⟨w4b,u0v⟩]
def v9h:Anns:=
 ⟨v0e,v6f,[]⟩
def x9q (it:It) (p:Prim):(LD×T21)→Option ((LD×T21)⊕(LD×Unit)):=
 fun a=>opt.run _ (
 opt.ask _ (p.cmp .leq (p.ar .sub .i64 a.2.2.1 a.2.1) (12:Int)) (
 opt.need _ (p.eqN 0 0)<|
 opt.need _ (p.eqN (p.len a.1) (p.len a.1))<|
 opt.need _ (p.eqN (p.len a.1) (p.len a.1))<|
 opt.bnd ((LD×Unit)) _ (v39 it p (a.1,(a.2.1,(a.2.2.1,())))) fun b=>
 opt.ret _ (Sum.inr (b.1,()))) (
 opt.ask _ (p.cmp .eql a.2.2.2.1 (0:Int)) (
 opt.need _ (p.eqN 0 0)<|
 opt.need _ (p.eqN (p.len a.1) (p.len a.1))<|
 opt.need _ (p.eqN (p.len a.1) (p.len a.1))<|
 opt.no _ 81) (
 opt.ask _ (bif a.2.2.2.2.1 then Bool.false else Bool.true) (
 opt.need _ (p.eqN 0 0)<|
 opt.need _ (p.eqN (p.len a.1) (p.len a.1))<|
 opt.need _ (p.eqN (p.len a.1) (p.len a.1))<|
 opt.no _ 81) (
 opt.need _ (p.eqN 0 0)<|
 opt.need _ (p.eqN (p.len a.1) (p.len a.1))<|
 opt.need _ (p.eqN (p.len a.1) (p.len a.1))<|
 opt.no _ 81))))
def v4c (it:It):(p:Prim)→(LD×T4)→Option ((LD×Unit)):=
 fun p x=>
 opt.need _ (p.eqN 0 0)<|
 opt.need _ (p.eqN (p.len x.1) (p.len x.1))<|
 opt.need _ (p.eqN (p.len x.1) (p.len x.1))<|
 opt.bnd ((LD×Unit)) _ (
 it _ _ (x9q it p) (x.1,(x.2.1,(x.2.2.1,(x.2.2.2.1,(Bool.true,(Bool.true,()))))))) fun a=>
 opt.ret _ (a.1,())
def u0y:=v4c it0
theorem v41:CtrOk PG w4e (u0y std):=okF (a:=v9h) (l:=v54) (gC v4s (gC v4u (gC v4w (gC v4y (gN))))) (by kernel_rfl) fun _ _=>by kernel_rfl
def w4h:Ctr:=
 ⟨55,[.full 0 1],[.row [ci]],[(.ret,⟨[(0, .tuple [])],[.row [ci]],1⟩)]⟩
def v57:List LA:=
 []
def v6i:List JA:=
 []
def v0h:List CF:=
 [⟨w4e,u0y⟩,⟨w7n,G83⟩]
def v9k:Anns:=
 ⟨v0h,v6i,[]⟩
def v0m (it:It):(p:Prim)→(LD×Unit)→Option ((LD×Unit)):=
 fun p x=>
 opt.bnd T2 _ (G83 p ((p.cvt .u64 (p.ofNat (p.len x.1))),())) fun a=>
 opt.need _ (p.eqN 0 0)<|
 opt.need _ (p.eqN (p.len x.1) (p.len x.1))<|
 opt.need _ (p.eqN (p.len x.1) (p.len x.1))<|
 opt.bnd ((LD×Unit)) _ (v4c it p (x.1,((0:Int),((p.ofNat (p.len x.1)),(a.1,()))))) fun b=>
 opt.ret _ (b.1,())
def u1b:=v0m it0
theorem v46:CtrOk PG w4h (u1b std):=okF (a:=v9k) (l:=v57) (gC v41 (gC v9z (gN))) (by kernel_rfl) fun _ _=>by kernel_rfl
end Go.Am
end
noncomputable section
namespace Go.Am
def x37:Ctr:=
 ⟨93,[.vec 0 1, .int .i64, .int .i64],[.row [ci]],[]⟩
def u1h:Prim→Tup (x37).scs→Option (STup (scss (x37).outs)):=
 fun _ _=>none
theorem x82:z13 Go.Proofs.Try.prog 93:=enters_auto (b:=_) rfl (by kernel_rfl)
theorem v4v:CtrOk Go.Proofs.Try.prog x37 (u1h std):=⟨x82,fun x y h=>by cases h⟩
def x35:Ctr:=
 ⟨94,[.vec 0 1, .int .i64, .int .i64],[.row [ci]],[]⟩
def u1f:Prim→Tup (x35).scs→Option (STup (scss (x35).outs)):=
 fun _ _=>none
theorem x80:z13 Go.Proofs.Try.prog 94:=enters_auto (b:=_) rfl (by kernel_rfl)
theorem v4t:CtrOk Go.Proofs.Try.prog x35 (u1f std):=⟨x80,fun x y h=>by cases h⟩
def x33:Ctr:=
 ⟨95,[.vec 0 1, .int .i64, .int .i64],[.row [ci]],[]⟩
def u1d:Prim→Tup (x33).scs→Option (STup (scss (x33).outs)):=
 fun _ _=>none
theorem x8y:z13 Go.Proofs.Try.prog 95:=enters_auto (b:=_) rfl (by kernel_rfl)
theorem v4r:CtrOk Go.Proofs.Try.prog x33 (u1d std):=⟨x8y,fun x y h=>by cases h⟩
def w4a:Ctr:=
 ⟨92,[.vec 0 1, .int .i64, .int .i64],[.row [ci]],[(.ret,⟨[(0, .tuple [])],[.row [ci]],1⟩)]⟩
def v50:List LA:=
 [⟨92,[false,true],1,⟨⟨[(0, .vec 0 1),(1, .int .i64),(2, .int .i64),(6, .int .i64)],[.row [ci]],49⟩,[((AX.exit 0),⟨[],[.row [ci]],49⟩)]⟩⟩,
 ⟨92,[false,true,false,false,true,false,false,true],1,⟨⟨[(0, .vec 0 1),(1, .int .i64),(2, .int .i64),(6, .int .i64),(7, .int .i64)],[.row [ci]],49⟩,[((AX.exit 2),⟨[(0, .vec 0 1),(1, .int .i64),(2, .int .i64),(6, .int .i64)],[.row [ci]],49⟩)]⟩⟩]
def v6b:List JA:=
 []
def v0a:List CF:=
 [⟨w7m,G98⟩]
def v9d:Anns:=
 ⟨v0a,v6b,[]⟩
def v24 (p:Prim):(LD×T7)→Option ((LD×T7)⊕(LD×T4)):=
 fun a=>opt.run _ (
 opt.ask _ (p.cmp .gtr a.2.2.2.2.1 a.2.1) (
 opt.need _ (bif (p.cmp .geq a.2.2.2.2.1 (0:Int)) then (p.cmp .lss a.2.2.2.2.1 (p.ofNat (p.len a.1))) else Bool.false)<|
 opt.need _ (p.rowOk a.1 (p.add 0 (p.nat a.2.2.2.2.1)) [ci])<|
 opt.need _ (bif (p.cmp .geq (p.ar .sub .i64 a.2.2.2.2.1 (1:Int)) (0:Int)) then (p.cmp .lss (p.ar .sub .i64 a.2.2.2.2.1 (1:Int)) (p.ofNat (p.len a.1))) else Bool.false)<|
 opt.need _ (p.rowOk a.1 (p.add 0 (p.nat (p.ar .sub .i64 a.2.2.2.2.1 (1:Int)))) [ci])<|
 opt.bnd T0 _ (G98 p ((p.rdI a.1 (p.add 0 (p.nat a.2.2.2.2.1)) 0),((p.rdI a.1 (p.add 0 (p.nat (p.ar .sub .i64 a.2.2.2.2.1 (1:Int)))) 0),()))) fun b=>
 opt.ask _ b.1 (
 opt.need _ (bif (p.cmp .geq (p.ar .sub .i64 a.2.2.2.2.1 (1:Int)) (0:Int)) then (p.cmp .lss (p.ar .sub .i64 a.2.2.2.2.1 (1:Int)) (p.ofNat (p.len a.1))) else Bool.false)<|
 opt.need _ (p.rowOk a.1 (p.add 0 (p.nat (p.ar .sub .i64 a.2.2.2.2.1 (1:Int)))) [ci])<|
 opt.need _ (bif (p.cmp .geq a.2.2.2.2.1 (0:Int)) then (p.cmp .lss a.2.2.2.2.1 (p.ofNat (p.len a.1))) else Bool.false)<|
 opt.need _ (p.rowOk a.1 (p.add 0 (p.nat a.2.2.2.2.1)) [ci])<|
 opt.need _ (bif (p.cmp .geq a.2.2.2.2.1 (0:Int)) then (p.cmp .lss a.2.2.2.2.1 (p.ofNat (p.len a.1))) else Bool.false)<|
 opt.need _ (p.rowOk a.1 (p.add 0 (p.nat a.2.2.2.2.1)) [ci])<|
 opt.need _ (bif (p.cmp .geq (p.ar .sub .i64 a.2.2.2.2.1 (1:Int)) (0:Int)) then (p.cmp .lss (p.ar .sub .i64 a.2.2.2.2.1 (1:Int)) (p.ofNat (p.len a.1))) else Bool.false)<|
 opt.need _ (p.rowOk (p.set a.1 (p.add 0 (p.nat a.2.2.2.2.1)) [(D.int .i64 (p.rdI a.1 (p.add 0 (p.nat (p.ar .sub .i64 a.2.2.2.2.1 (1:Int)))) 0))]) (p.add 0 (p.nat (p.ar .sub .i64 a.2.2.2.2.1 (1:Int)))) [ci])<|
 opt.need _ (p.eqN 0 0)<|
 opt.need _ (p.eqN (p.len a.1) (p.len (p.set (p.set a.1 (p.add 0 (p.nat a.2.2.2.2.1)) [(D.int .i64 (p.rdI a.1 (p.add 0 (p.nat (p.ar .sub .i64 a.2.2.2.2.1 (1:Int)))) 0))]) (p.add 0 (p.nat (p.ar .sub .i64 a.2.2.2.2.1 (1:Int)))) [(D.int .i64 (p.rdI a.1 (p.add 0 (p.nat a.2.2.2.2.1)) 0))])))<|
 opt.ret _ (Sum.inl ((p.set (p.set a.1 (p.add 0 (p.nat a.2.2.2.2.1)) [(D.int .i64 (p.rdI a.1 (p.add 0 (p.nat (p.ar .sub .i64 a.2.2.2.2.1 (1:Int)))) 0))]) (p.add 0 (p.nat (p.ar .sub .i64 a.2.2.2.2.1 (1:Int)))) [(D.int .i64 (p.rdI a.1 (p.add 0 (p.nat a.2.2.2.2.1)) 0))]),(a.2.1,(a.2.2.1,(a.2.2.2.1,((p.ar .sub .i64 a.2.2.2.2.1 (1:Int)),()))))))) (
 opt.need _ (p.eqN 0 0)<|
 opt.need _ (p.eqN (p.len a.1) (p.len a.1))<|
 opt.ret _ (Sum.inr (a.1,(a.2.1,(a.2.2.1,(a.2.2.2.1,()))))))) (
 opt.need _ (p.eqN 0 0)<|
 opt.need _ (p.eqN (p.len a.1) (p.len a.1))<|
 opt.ret _ (Sum.inr (a.1,(a.2.1,(a.2.2.1,(a.2.2.2.1,())))))))
def x9l (it:It) (p:Prim):(LD×T4)→Option ((LD×T4)⊕(LD×Unit)):=
 fun a=>opt.run _ (
 opt.ask _ (p.cmp .lss a.2.2.2.1 a.2.2.1) (
 opt.need _ (p.eqN 0 0)<|
 opt.need _ (p.eqN (p.len a.1) (p.len a.1))<|
 opt.bnd ((LD×T4)) _ (
 it _ _ (v24 p) (a.1,(a.2.1,(a.2.2.1,(a.2.2.2.1,(a.2.2.2.1,())))))) fun b=>
 opt.need _ (p.eqN 0 0)<|
 opt.need _ (p.eqN (p.len b.1) (p.len b.1))<|
 opt.ret _ (Sum.inl (b.1,(b.2.1,(b.2.2.1,((p.ar .add .i64 b.2.2.2.1 (1:Int)),())))))) (
 opt.ret _ (Sum.inr (a.1,()))))
def v38 (it:It):(p:Prim)→(LD×T3)→Option ((LD×Unit)):=
 fun p x=>
 opt.need _ (p.eqN 0 0)<|
 opt.need _ (p.eqN (p.len x.1) (p.len x.1))<|
 opt.bnd ((LD×Unit)) _ (
 it _ _ (x9l it p) (x.1,(x.2.1,(x.2.2.1,((p.ar .add .i64 x.2.1 (1:Int)),()))))) fun a=>
 opt.ret _ (a.1,())
def u0u:=v38 it0
theorem v4x:CtrOk PG w4a (u0u std):=okF (a:=v9d) (l:=v50) (gC v9y (gN)) (by kernel_rfl) fun _ _=>by kernel_rfl
def w4d:Ctr:=
 ⟨82,[.vec 0 1, .int .i64, .int .i64, .int .i64],[.row [ci]],[(.ret,⟨[(0, .tuple [])],[.row [ci]],1⟩)]⟩
def v53:List LA:=
 [⟨82,[false,true,true],1,⟨⟨[(0, .vec 0 1),(1, .int .i64),(2, .int .i64),(3, .int .i64),(8, .bool),(9, .bool)],[.row [ci]],134⟩,[(AX.ret,⟨[],[.row [ci]],134⟩)]⟩⟩]
def v6e:List JA:=
 []
def v0d:List CF:=
 [⟨x33,u1d⟩,⟨x35,u1f⟩,⟨x37,u1h⟩,⟨w4a,u0u⟩]
def v9g:Anns:=
 ⟨v0d,v6e,[]⟩
def x9p (it:It) (p:Prim):(LD×T21)→Option ((LD×T21)⊕(LD×Unit)):=
 fun a=>opt.run _ (
 opt.ask _ (p.cmp .leq (p.ar .sub .i64 a.2.2.1 a.2.1) (12:Int)) (
 opt.need _ (p.eqN 0 0)<|
 opt.need _ (p.eqN (p.len a.1) (p.len a.1))<|
 opt.bnd ((LD×Unit)) _ (v38 it p (a.1,(a.2.1,(a.2.2.1,())))) fun b=>
 opt.ret _ (Sum.inr (b.1,()))) (
 opt.ask _ (p.cmp .eql a.2.2.2.1 (0:Int)) (
 opt.need _ (p.eqN 0 0)<|
 opt.need _ (p.eqN (p.len a.1) (p.len a.1))<|
 opt.no _ 81) (
 opt.ask _ (bif a.2.2.2.2.1 then Bool.false else Bool.true) (
 opt.need _ (p.eqN 0 0)<|
 opt.need _ (p.eqN (p.len a.1) (p.len a.1))<|
 opt.no _ 81) (
 opt.need _ (p.eqN 0 0)<|
 opt.need _ (p.eqN (p.len a.1) (p.len a.1))<|
 opt.no _ 81))))
def v4b (it:It):(p:Prim)→(LD×T4)→Option ((LD×Unit)):=
 fun p x=>
 opt.need _ (p.eqN 0 0)<|
 opt.need _ (p.eqN (p.len x.1) (p.len x.1))<|
 opt.bnd ((LD×Unit)) _ (
 it _ _ (x9p it p) (x.1,(x.2.1,(x.2.2.1,(x.2.2.2.1,(Bool.true,(Bool.true,()))))))) fun a=>
 opt.ret _ (a.1,())
def u0x:=v4b it0
theorem v40:CtrOk PG w4d (u0x std):=okF (a:=v9g) (l:=v53) (gC v4r (gC v4t (gC v4v (gC v4x (gN))))) (by kernel_rfl) fun _ _=>by kernel_rfl
def w4g:Ctr:=
 ⟨55,[.vec 0 1],[.row [ci]],[(.ret,⟨[(0, .tuple [])],[.row [ci]],1⟩)]⟩
def v56:List LA:=
 []
def v6h:List JA:=
 []
def v0g:List CF:=
 [⟨w4d,u0x⟩,⟨w7n,G83⟩]
def v9j:Anns:=
 ⟨v0g,v6h,[]⟩
def v4e (it:It):(p:Prim)→(LD×Unit)→Option ((LD×Unit)):=
 fun p x=>
 opt.bnd T2 _ (G83 p ((p.cvt .u64 (p.ofNat (p.len x.1))),())) fun a=>
 opt.need _ (p.eqN 0 0)<|
 opt.need _ (p.eqN (p.len x.1) (p.len x.1))<|
 opt.bnd ((LD×Unit)) _ (v4b it p (x.1,((0:Int),((p.ofNat (p.len x.1)),(a.1,()))))) fun b=>
 opt.ret _ (b.1,())
def u1a:=v4e it0
theorem v45:CtrOk PG w4g (u1a std):=okF (a:=v9j) (l:=v56) (gC v40 (gC v9z (gN))) (by kernel_rfl) fun _ _=>by kernel_rfl
end Go.Am
end
noncomputable section
namespace Go.Am
def x39:Ctr:=
 ⟨105,[.vec 0 1, .int .i64, .int .i64, .int .i64, .clo 88 [] [.bptr 1 0]],[.row [ci], .box [.list 1]],[]⟩
def u1l:Prim→Tup (x39).scs→Option (STup (scss (x39).outs)):=
 fun _ _=>none
theorem x87:z13 Go.Proofs.Try.prog 105:=enters_auto (b:=_) rfl (by kernel_rfl)
theorem v5d:CtrOk Go.Proofs.Try.prog x39 (u1l std):=⟨x87,fun x y h=>by cases h⟩
def w4i:Ctr:=
 ⟨104,[.vec 0 1, .int .i64, .int .i64, .clo 88 [] [.bptr 1 0]],[.row [ci], .box [.list 1]],[(.ret,⟨[(0, .tuple [])],[.row [ci], .box [.list 1]],1⟩)]⟩
def v58:List LA:=
 [⟨104,[false,true],2,⟨⟨[(0, .vec 0 1),(1, .int .i64),(2, .int .i64),(3, .clo 88 [] [.bptr 1 0]),(8, .int .i64)],[.row [ci], .box [.list 1]],53⟩,[((AX.exit 0),⟨[],[.row [ci], .box [.list 1]],53⟩)]⟩⟩,
 ⟨104,[false,true,false,false,true,false,false,true],2,⟨⟨[(0, .vec 0 1),(1, .int .i64),(2, .int .i64),(3, .clo 88 [] [.bptr 1 0]),(8, .int .i64),(9, .int .i64)],[.row [ci], .box [.list 1]],53⟩,[((AX.exit 2),⟨[(0, .vec 0 1),(1, .int .i64),(2, .int .i64),(3, .clo 88 [] [.bptr 1 0]),(8, .int .i64)],[.row [ci], .box [.list 1]],53⟩)]⟩⟩]
def v6j:List JA:=
 [⟨68,[true,false,true,true,true],2,[(AX.ret,⟨[(4, .int .i64)],[.row [ci], .box [.list 1]],20⟩),(AX.normal,⟨[(0, .int .i64),(1, .int .i64),(6, .bool)],[.row [ci], .box [.list 1]],20⟩)]⟩]
def v0i:List CF:=
 []
def v9l:Anns:=
 ⟨v0i,v6j,[]⟩
def v27 (p:Prim):(LD×(LD×T7))→Option ((LD×(LD×T7))⊕(LD×(LD×T4))):=
 fun a=>opt.run _ (
 opt.ask _ (p.cmp .gtr a.2.2.2.2.2.1 a.2.2.1) (
 opt.need _ (bif (p.cmp .geq a.2.2.2.2.2.1 (0:Int)) then (p.cmp .lss a.2.2.2.2.2.1 (p.ofNat (p.len a.1))) else Bool.false)<|
 opt.need _ (p.rowOk a.1 (p.add 0 (p.nat a.2.2.2.2.2.1)) [ci])<|
 opt.need _ (bif (p.cmp .geq (p.ar .sub .i64 a.2.2.2.2.2.1 (1:Int)) (0:Int)) then (p.cmp .lss (p.ar .sub .i64 a.2.2.2.2.2.1 (1:Int)) (p.ofNat (p.len a.1))) else Bool.false)<|
 opt.need _ (p.rowOk a.1 (p.add 0 (p.nat (p.ar .sub .i64 a.2.2.2.2.2.1 (1:Int)))) [ci])<|
 opt.need _ (p.rowOk a.2.1 (p.nat (p.rdI a.1 (p.add 0 (p.nat a.2.2.2.2.2.1)) 0)) [ci])<|
 opt.need _ (p.cmp .geq (p.rdI a.1 (p.add 0 (p.nat a.2.2.2.2.2.1)) 0) (0:Int))<|
 opt.need _ (p.rowOk a.2.1 (p.nat (p.rdI a.1 (p.add 0 (p.nat (p.ar .sub .i64 a.2.2.2.2.2.1 (1:Int)))) 0)) [ci])<|
 opt.need _ (p.cmp .geq (p.rdI a.1 (p.add 0 (p.nat (p.ar .sub .i64 a.2.2.2.2.2.1 (1:Int)))) 0) (0:Int))<|
 opt.alt ((LD×(LD×T1))) ((LD×(LD×T16))) _ (
 opt.run (((LD×(LD×T1))⊕(LD×(LD×T16)))) (
 opt.ask _ (p.cmp .neq (p.rdI a.2.1 (p.nat (p.rdI a.1 (p.add 0 (p.nat a.2.2.2.2.2.1)) 0)) 0) (p.rdI a.2.1 (p.nat (p.rdI a.1 (p.add 0 (p.nat a.2.2.2.2.2.1)) 0)) 0)) (
 opt.ask _ (p.cmp .neq (p.rdI a.2.1 (p.nat (p.rdI a.1 (p.add 0 (p.nat (p.ar .sub .i64 a.2.2.2.2.2.1 (1:Int)))) 0)) 0) (p.rdI a.2.1 (p.nat (p.rdI a.1 (p.add 0 (p.nat (p.ar .sub .i64 a.2.2.2.2.2.1 (1:Int)))) 0)) 0)) (
 opt.ret _ (Sum.inl (a.1,(a.2.1,((0:Int),()))))) (
 opt.ret _ (Sum.inl (a.1,(a.2.1,((-1:Int),())))))) (
 opt.ret _ (Sum.inr (a.1,(a.2.1,((p.rdI a.2.1 (p.nat (p.rdI a.1 (p.add 0 (p.nat a.2.2.2.2.2.1)) 0)) 0),((p.rdI a.2.1 (p.nat (p.rdI a.1 (p.add 0 (p.nat (p.ar .sub .i64 a.2.2.2.2.2.1 (1:Int)))) 0)) 0),((p.cmp .neq (p.rdI a.2.1 (p.nat (p.rdI a.1 (p.add 0 (p.nat (p.ar .sub .i64 a.2.2.2.2.2.1 (1:Int)))) 0)) 0) (p.rdI a.2.1 (p.nat (p.rdI a.1 (p.add 0 (p.nat (p.ar .sub .i64 a.2.2.2.2.2.1 (1:Int)))) 0)) 0)),()))))))))) (fun b=>
 opt.ask _ (p.cmp .lss b.2.2.1 (0:Int)) (
 opt.need _ (bif (p.cmp .geq (p.ar .sub .i64 a.2.2.2.2.2.1 (1:Int)) (0:Int)) then (p.cmp .lss (p.ar .sub .i64 a.2.2.2.2.2.1 (1:Int)) (p.ofNat (p.len a.1))) else Bool.false)<|
 opt.need _ (p.rowOk b.1 (p.add 0 (p.nat (p.ar .sub .i64 a.2.2.2.2.2.1 (1:Int)))) [ci])<|
 opt.need _ (bif (p.cmp .geq a.2.2.2.2.2.1 (0:Int)) then (p.cmp .lss a.2.2.2.2.2.1 (p.ofNat (p.len a.1))) else Bool.false)<|
 opt.need _ (p.rowOk b.1 (p.add 0 (p.nat a.2.2.2.2.2.1)) [ci])<|
 opt.need _ (bif (p.cmp .geq a.2.2.2.2.2.1 (0:Int)) then (p.cmp .lss a.2.2.2.2.2.1 (p.ofNat (p.len a.1))) else Bool.false)<|
 opt.need _ (p.rowOk b.1 (p.add 0 (p.nat a.2.2.2.2.2.1)) [ci])<|
 opt.need _ (bif (p.cmp .geq (p.ar .sub .i64 a.2.2.2.2.2.1 (1:Int)) (0:Int)) then (p.cmp .lss (p.ar .sub .i64 a.2.2.2.2.2.1 (1:Int)) (p.ofNat (p.len a.1))) else Bool.false)<|
 opt.need _ (p.rowOk (p.set b.1 (p.add 0 (p.nat a.2.2.2.2.2.1)) [(D.int .i64 (p.rdI b.1 (p.add 0 (p.nat (p.ar .sub .i64 a.2.2.2.2.2.1 (1:Int)))) 0))]) (p.add 0 (p.nat (p.ar .sub .i64 a.2.2.2.2.2.1 (1:Int)))) [ci])<|
 opt.need _ (p.eqN 0 0)<|
 opt.need _ (p.eqN (p.len a.1) (p.len (p.set (p.set b.1 (p.add 0 (p.nat a.2.2.2.2.2.1)) [(D.int .i64 (p.rdI b.1 (p.add 0 (p.nat (p.ar .sub .i64 a.2.2.2.2.2.1 (1:Int)))) 0))]) (p.add 0 (p.nat (p.ar .sub .i64 a.2.2.2.2.2.1 (1:Int)))) [(D.int .i64 (p.rdI b.1 (p.add 0 (p.nat a.2.2.2.2.2.1)) 0))])))<|
 opt.ret _ (Sum.inl ((p.set (p.set b.1 (p.add 0 (p.nat a.2.2.2.2.2.1)) [(D.int .i64 (p.rdI b.1 (p.add 0 (p.nat (p.ar .sub .i64 a.2.2.2.2.2.1 (1:Int)))) 0))]) (p.add 0 (p.nat (p.ar .sub .i64 a.2.2.2.2.2.1 (1:Int)))) [(D.int .i64 (p.rdI b.1 (p.add 0 (p.nat a.2.2.2.2.2.1)) 0))]),(b.2.1,(a.2.2.1,(a.2.2.2.1,(a.2.2.2.2.1,((p.ar .sub .i64 a.2.2.2.2.2.1 (1:Int)),())))))))) (
 opt.need _ (p.eqN 0 0)<|
 opt.need _ (p.eqN (p.len a.1) (p.len b.1))<|
 opt.ret _ (Sum.inr (b.1,(b.2.1,(a.2.2.1,(a.2.2.2.1,(a.2.2.2.2.1,())))))))) (fun c=>
 opt.bnd ((LD×(LD×T16))) _ (some c) fun d=>
 opt.ask _ d.2.2.2.2.1 (
 opt.ask _ (p.cmp .lss (1:Int) (0:Int)) (
 opt.need _ (bif (p.cmp .geq (p.ar .sub .i64 a.2.2.2.2.2.1 (1:Int)) (0:Int)) then (p.cmp .lss (p.ar .sub .i64 a.2.2.2.2.2.1 (1:Int)) (p.ofNat (p.len a.1))) else Bool.false)<|
 opt.need _ (p.rowOk d.1 (p.add 0 (p.nat (p.ar .sub .i64 a.2.2.2.2.2.1 (1:Int)))) [ci])<|
 opt.need _ (bif (p.cmp .geq a.2.2.2.2.2.1 (0:Int)) then (p.cmp .lss a.2.2.2.2.2.1 (p.ofNat (p.len a.1))) else Bool.false)<|
 opt.need _ (p.rowOk d.1 (p.add 0 (p.nat a.2.2.2.2.2.1)) [ci])<|
 opt.need _ (bif (p.cmp .geq a.2.2.2.2.2.1 (0:Int)) then (p.cmp .lss a.2.2.2.2.2.1 (p.ofNat (p.len a.1))) else Bool.false)<|
 opt.need _ (p.rowOk d.1 (p.add 0 (p.nat a.2.2.2.2.2.1)) [ci])<|
 opt.need _ (bif (p.cmp .geq (p.ar .sub .i64 a.2.2.2.2.2.1 (1:Int)) (0:Int)) then (p.cmp .lss (p.ar .sub .i64 a.2.2.2.2.2.1 (1:Int)) (p.ofNat (p.len a.1))) else Bool.false)<|
 opt.need _ (p.rowOk (p.set d.1 (p.add 0 (p.nat a.2.2.2.2.2.1)) [(D.int .i64 (p.rdI d.1 (p.add 0 (p.nat (p.ar .sub .i64 a.2.2.2.2.2.1 (1:Int)))) 0))]) (p.add 0 (p.nat (p.ar .sub .i64 a.2.2.2.2.2.1 (1:Int)))) [ci])<|
 opt.need _ (p.eqN 0 0)<|
 opt.need _ (p.eqN (p.len a.1) (p.len (p.set (p.set d.1 (p.add 0 (p.nat a.2.2.2.2.2.1)) [(D.int .i64 (p.rdI d.1 (p.add 0 (p.nat (p.ar .sub .i64 a.2.2.2.2.2.1 (1:Int)))) 0))]) (p.add 0 (p.nat (p.ar .sub .i64 a.2.2.2.2.2.1 (1:Int)))) [(D.int .i64 (p.rdI d.1 (p.add 0 (p.nat a.2.2.2.2.2.1)) 0))])))<|
 opt.ret _ (Sum.inl ((p.set (p.set d.1 (p.add 0 (p.nat a.2.2.2.2.2.1)) [(D.int .i64 (p.rdI d.1 (p.add 0 (p.nat (p.ar .sub .i64 a.2.2.2.2.2.1 (1:Int)))) 0))]) (p.add 0 (p.nat (p.ar .sub .i64 a.2.2.2.2.2.1 (1:Int)))) [(D.int .i64 (p.rdI d.1 (p.add 0 (p.nat a.2.2.2.2.2.1)) 0))]),(d.2.1,(a.2.2.1,(a.2.2.2.1,(a.2.2.2.2.1,((p.ar .sub .i64 a.2.2.2.2.2.1 (1:Int)),())))))))) (
 opt.need _ (p.eqN 0 0)<|
 opt.need _ (p.eqN (p.len a.1) (p.len d.1))<|
 opt.ret _ (Sum.inr (d.1,(d.2.1,(a.2.2.1,(a.2.2.2.1,(a.2.2.2.2.1,())))))))) (
 opt.ask _ (p.cmp .lss d.2.2.1 d.2.2.2.1) (
 opt.ask _ (p.cmp .lss (-1:Int) (0:Int)) (
 opt.need _ (bif (p.cmp .geq (p.ar .sub .i64 a.2.2.2.2.2.1 (1:Int)) (0:Int)) then (p.cmp .lss (p.ar .sub .i64 a.2.2.2.2.2.1 (1:Int)) (p.ofNat (p.len a.1))) else Bool.false)<|
 opt.need _ (p.rowOk d.1 (p.add 0 (p.nat (p.ar .sub .i64 a.2.2.2.2.2.1 (1:Int)))) [ci])<|
 opt.need _ (bif (p.cmp .geq a.2.2.2.2.2.1 (0:Int)) then (p.cmp .lss a.2.2.2.2.2.1 (p.ofNat (p.len a.1))) else Bool.false)<|
 opt.need _ (p.rowOk d.1 (p.add 0 (p.nat a.2.2.2.2.2.1)) [ci])<|
 opt.need _ (bif (p.cmp .geq a.2.2.2.2.2.1 (0:Int)) then (p.cmp .lss a.2.2.2.2.2.1 (p.ofNat (p.len a.1))) else Bool.false)<|
 opt.need _ (p.rowOk d.1 (p.add 0 (p.nat a.2.2.2.2.2.1)) [ci])<|
 opt.need _ (bif (p.cmp .geq (p.ar .sub .i64 a.2.2.2.2.2.1 (1:Int)) (0:Int)) then (p.cmp .lss (p.ar .sub .i64 a.2.2.2.2.2.1 (1:Int)) (p.ofNat (p.len a.1))) else Bool.false)<|
 opt.need _ (p.rowOk (p.set d.1 (p.add 0 (p.nat a.2.2.2.2.2.1)) [(D.int .i64 (p.rdI d.1 (p.add 0 (p.nat (p.ar .sub .i64 a.2.2.2.2.2.1 (1:Int)))) 0))]) (p.add 0 (p.nat (p.ar .sub .i64 a.2.2.2.2.2.1 (1:Int)))) [ci])<|
 opt.need _ (p.eqN 0 0)<|
 opt.need _ (p.eqN (p.len a.1) (p.len (p.set (p.set d.1 (p.add 0 (p.nat a.2.2.2.2.2.1)) [(D.int .i64 (p.rdI d.1 (p.add 0 (p.nat (p.ar .sub .i64 a.2.2.2.2.2.1 (1:Int)))) 0))]) (p.add 0 (p.nat (p.ar .sub .i64 a.2.2.2.2.2.1 (1:Int)))) [(D.int .i64 (p.rdI d.1 (p.add 0 (p.nat a.2.2.2.2.2.1)) 0))])))<|
 opt.ret _ (Sum.inl ((p.set (p.set d.1 (p.add 0 (p.nat a.2.2.2.2.2.1)) [(D.int .i64 (p.rdI d.1 (p.add 0 (p.nat (p.ar .sub .i64 a.2.2.2.2.2.1 (1:Int)))) 0))]) (p.add 0 (p.nat (p.ar .sub .i64 a.2.2.2.2.2.1 (1:Int)))) [(D.int .i64 (p.rdI d.1 (p.add 0 (p.nat a.2.2.2.2.2.1)) 0))]),(d.2.1,(a.2.2.1,(a.2.2.2.1,(a.2.2.2.2.1,((p.ar .sub .i64 a.2.2.2.2.2.1 (1:Int)),())))))))) (
 opt.need _ (p.eqN 0 0)<|
 opt.need _ (p.eqN (p.len a.1) (p.len d.1))<|
 opt.ret _ (Sum.inr (d.1,(d.2.1,(a.2.2.1,(a.2.2.2.1,(a.2.2.2.2.1,())))))))) (
 opt.ask _ (p.cmp .gtr d.2.2.1 d.2.2.2.1) (
 opt.ask _ (p.cmp .lss (1:Int) (0:Int)) (
 opt.need _ (bif (p.cmp .geq (p.ar .sub .i64 a.2.2.2.2.2.1 (1:Int)) (0:Int)) then (p.cmp .lss (p.ar .sub .i64 a.2.2.2.2.2.1 (1:Int)) (p.ofNat (p.len a.1))) else Bool.false)<|
 opt.need _ (p.rowOk d.1 (p.add 0 (p.nat (p.ar .sub .i64 a.2.2.2.2.2.1 (1:Int)))) [ci])<|
 opt.need _ (bif (p.cmp .geq a.2.2.2.2.2.1 (0:Int)) then (p.cmp .lss a.2.2.2.2.2.1 (p.ofNat (p.len a.1))) else Bool.false)<|
 opt.need _ (p.rowOk d.1 (p.add 0 (p.nat a.2.2.2.2.2.1)) [ci])<|
 opt.need _ (bif (p.cmp .geq a.2.2.2.2.2.1 (0:Int)) then (p.cmp .lss a.2.2.2.2.2.1 (p.ofNat (p.len a.1))) else Bool.false)<|
 opt.need _ (p.rowOk d.1 (p.add 0 (p.nat a.2.2.2.2.2.1)) [ci])<|
 opt.need _ (bif (p.cmp .geq (p.ar .sub .i64 a.2.2.2.2.2.1 (1:Int)) (0:Int)) then (p.cmp .lss (p.ar .sub .i64 a.2.2.2.2.2.1 (1:Int)) (p.ofNat (p.len a.1))) else Bool.false)<|
 opt.need _ (p.rowOk (p.set d.1 (p.add 0 (p.nat a.2.2.2.2.2.1)) [(D.int .i64 (p.rdI d.1 (p.add 0 (p.nat (p.ar .sub .i64 a.2.2.2.2.2.1 (1:Int)))) 0))]) (p.add 0 (p.nat (p.ar .sub .i64 a.2.2.2.2.2.1 (1:Int)))) [ci])<|
 opt.need _ (p.eqN 0 0)<|
 opt.need _ (p.eqN (p.len a.1) (p.len (p.set (p.set d.1 (p.add 0 (p.nat a.2.2.2.2.2.1)) [(D.int .i64 (p.rdI d.1 (p.add 0 (p.nat (p.ar .sub .i64 a.2.2.2.2.2.1 (1:Int)))) 0))]) (p.add 0 (p.nat (p.ar .sub .i64 a.2.2.2.2.2.1 (1:Int)))) [(D.int .i64 (p.rdI d.1 (p.add 0 (p.nat a.2.2.2.2.2.1)) 0))])))<|
 opt.ret _ (Sum.inl ((p.set (p.set d.1 (p.add 0 (p.nat a.2.2.2.2.2.1)) [(D.int .i64 (p.rdI d.1 (p.add 0 (p.nat (p.ar .sub .i64 a.2.2.2.2.2.1 (1:Int)))) 0))]) (p.add 0 (p.nat (p.ar .sub .i64 a.2.2.2.2.2.1 (1:Int)))) [(D.int .i64 (p.rdI d.1 (p.add 0 (p.nat a.2.2.2.2.2.1)) 0))]),(d.2.1,(a.2.2.1,(a.2.2.2.1,(a.2.2.2.2.1,((p.ar .sub .i64 a.2.2.2.2.2.1 (1:Int)),())))))))) (
 opt.need _ (p.eqN 0 0)<|
 opt.need _ (p.eqN (p.len a.1) (p.len d.1))<|
 opt.ret _ (Sum.inr (d.1,(d.2.1,(a.2.2.1,(a.2.2.2.1,(a.2.2.2.2.1,())))))))) (
 opt.ask _ (p.cmp .lss (0:Int) (0:Int)) (
 opt.need _ (bif (p.cmp .geq (p.ar .sub .i64 a.2.2.2.2.2.1 (1:Int)) (0:Int)) then (p.cmp .lss (p.ar .sub .i64 a.2.2.2.2.2.1 (1:Int)) (p.ofNat (p.len a.1))) else Bool.false)<|
 opt.need _ (p.rowOk d.1 (p.add 0 (p.nat (p.ar .sub .i64 a.2.2.2.2.2.1 (1:Int)))) [ci])<|
 opt.need _ (bif (p.cmp .geq a.2.2.2.2.2.1 (0:Int)) then (p.cmp .lss a.2.2.2.2.2.1 (p.ofNat (p.len a.1))) else Bool.false)<|
 opt.need _ (p.rowOk d.1 (p.add 0 (p.nat a.2.2.2.2.2.1)) [ci])<|
 opt.need _ (bif (p.cmp .geq a.2.2.2.2.2.1 (0:Int)) then (p.cmp .lss a.2.2.2.2.2.1 (p.ofNat (p.len a.1))) else Bool.false)<|
 opt.need _ (p.rowOk d.1 (p.add 0 (p.nat a.2.2.2.2.2.1)) [ci])<|
 opt.need _ (bif (p.cmp .geq (p.ar .sub .i64 a.2.2.2.2.2.1 (1:Int)) (0:Int)) then (p.cmp .lss (p.ar .sub .i64 a.2.2.2.2.2.1 (1:Int)) (p.ofNat (p.len a.1))) else Bool.false)<|
 opt.need _ (p.rowOk (p.set d.1 (p.add 0 (p.nat a.2.2.2.2.2.1)) [(D.int .i64 (p.rdI d.1 (p.add 0 (p.nat (p.ar .sub .i64 a.2.2.2.2.2.1 (1:Int)))) 0))]) (p.add 0 (p.nat (p.ar .sub .i64 a.2.2.2.2.2.1 (1:Int)))) [ci])<|
 opt.need _ (p.eqN 0 0)<|
 opt.need _ (p.eqN (p.len a.1) (p.len (p.set (p.set d.1 (p.add 0 (p.nat a.2.2.2.2.2.1)) [(D.int .i64 (p.rdI d.1 (p.add 0 (p.nat (p.ar .sub .i64 a.2.2.2.2.2.1 (1:Int)))) 0))]) (p.add 0 (p.nat (p.ar .sub .i64 a.2.2.2.2.2.1 (1:Int)))) [(D.int .i64 (p.rdI d.1 (p.add 0 (p.nat a.2.2.2.2.2.1)) 0))])))<|
 opt.ret _ (Sum.inl ((p.set (p.set d.1 (p.add 0 (p.nat a.2.2.2.2.2.1)) [(D.int .i64 (p.rdI d.1 (p.add 0 (p.nat (p.ar .sub .i64 a.2.2.2.2.2.1 (1:Int)))) 0))]) (p.add 0 (p.nat (p.ar .sub .i64 a.2.2.2.2.2.1 (1:Int)))) [(D.int .i64 (p.rdI d.1 (p.add 0 (p.nat a.2.2.2.2.2.1)) 0))]),(d.2.1,(a.2.2.1,(a.2.2.2.1,(a.2.2.2.2.1,((p.ar .sub .i64 a.2.2.2.2.2.1 (1:Int)),())))))))) (
 opt.need _ (p.eqN 0 0)<|
 opt.need _ (p.eqN (p.len a.1) (p.len d.1))<|
 opt.ret _ (Sum.inr (d.1,(d.2.1,(a.2.2.1,(a.2.2.2.1,(a.2.2.2.2.1,())))))))))))) (
 opt.need _ (p.eqN 0 0)<|
 opt.need _ (p.eqN (p.len a.1) (p.len a.1))<|
 opt.ret _ (Sum.inr (a.1,(a.2.1,(a.2.2.1,(a.2.2.2.1,(a.2.2.2.2.1,()))))))))
def x9r (it:It) (p:Prim):(LD×(LD×T4))→Option ((LD×(LD×T4))⊕(LD×(LD×Unit))):=
 fun a=>opt.run _ (
 opt.ask _ (p.cmp .lss a.2.2.2.2.1 a.2.2.2.1) (
 opt.need _ (p.eqN 0 0)<|
 opt.need _ (p.eqN (p.len a.1) (p.len a.1))<|
 opt.bnd ((LD×(LD×T4))) _ (
 it _ _ (v27 p) (a.1,(a.2.1,(a.2.2.1,(a.2.2.2.1,(a.2.2.2.2.1,(a.2.2.2.2.1,()))))))) fun b=>
 opt.need _ (p.eqN 0 0)<|
 opt.need _ (p.eqN (p.len b.1) (p.len b.1))<|
 opt.ret _ (Sum.inl (b.1,(b.2.1,(b.2.2.1,(b.2.2.2.1,((p.ar .add .i64 b.2.2.2.2.1 (1:Int)),()))))))) (
 opt.ret _ (Sum.inr (a.1,(a.2.1,())))))
def v0o (it:It):(p:Prim)→(LD×(LD×T3))→Option ((LD×(LD×Unit))):=
 fun p x=>
 opt.need _ (p.eqN 0 0)<|
 opt.need _ (p.eqN (p.len x.1) (p.len x.1))<|
 opt.bnd ((LD×(LD×Unit))) _ (
 it _ _ (x9r it p) (x.1,(x.2.1,(x.2.2.1,(x.2.2.2.1,((p.ar .add .i64 x.2.2.1 (1:Int)),())))))) fun a=>
 opt.ret _ (a.1,(a.2.1,()))
def u1c:=v0o it0
theorem v5e:CtrOk PG w4i (u1c std):=okF (a:=v9l) (l:=v58) (gN) (by kernel_rfl) fun _ _=>by kernel_rfl
def v1m:Ctr:=
 ⟨86,[.vec 0 1, .int .i64, .clo 88 [] [.bptr 1 0]],[.row [ci], .box [.list 1]],[(.ret,⟨[(0, .tuple [])],[.row [ci], .box [.list 1]],1⟩)]⟩
def la86:List LA:=
 [⟨86,[false,false,true,true],2,⟨⟨[(0, .vec 0 1),(1, .int .i64),(2, .clo 88 [] [.bptr 1 0]),(6, .int .i64),(7, .int .i64),(8, .int .i64)],[.row [ci], .box [.list 1]],63⟩,[((AX.exit 0),⟨[(0, .vec 0 1),(1, .int .i64),(2, .clo 88 [] [.bptr 1 0]),(6, .int .i64),(7, .int .i64)],[.row [ci], .box [.list 1]],63⟩)]⟩⟩,
 ⟨86,[false,true,true,true,true],2,⟨⟨[(0, .vec 0 1),(1, .int .i64),(2, .clo 88 [] [.bptr 1 0]),(6, .int .i64)],[.row [ci], .box [.list 1]],63⟩,[((AX.exit 2),⟨[],[.row [ci], .box [.list 1]],63⟩)]⟩⟩,
 ⟨86,[false,false,true,false,true,false,false,true,true,true,true],2,⟨⟨[(0, .vec 0 1),(1, .int .i64),(2, .clo 88 [] [.bptr 1 0]),(6, .int .i64),(7, .int .i64),(8, .int .i64)],[.row [ci], .box [.list 1]],63⟩,[((AX.exit 4),⟨[(0, .vec 0 1),(1, .int .i64),(2, .clo 88 [] [.bptr 1 0]),(6, .int .i64),(7, .int .i64)],[.row [ci], .box [.list 1]],63⟩)]⟩⟩]
def ja86:List JA:=
 []
def v6w:List CF:=
 [⟨x39,u1l⟩,⟨w4i,u1c⟩]
def an86:Anns:=
 ⟨v6w,ja86,[]⟩
def v8q (p:Prim):(LD×(LD×T7))→Option ((LD×(LD×T7))⊕(LD×(LD×T4))):=
 fun a=>opt.run _ (
 opt.ask _ (p.cmp .leq a.2.2.2.2.2.1 a.2.2.1) (
 opt.need _ (p.eqN 0 0)<|
 opt.need _ (p.eqN (p.len a.1) (p.len a.1))<|
 opt.no _ 81) (
 opt.need _ (p.eqN 0 0)<|
 opt.need _ (p.eqN (p.len a.1) (p.len a.1))<|
 opt.ret _ (Sum.inr (a.1,(a.2.1,(a.2.2.1,(a.2.2.2.1,(a.2.2.2.2.1,()))))))))
def w7w (it:It) (p:Prim):(LD×(LD×T3))→Option ((LD×(LD×T3))⊕(LD×(LD×Unit))):=
 fun a=>opt.run _ (
 opt.ask _ (p.cmp .lss a.2.2.2.1 a.2.2.1) (
 opt.need _ (p.eqN 0 0)<|
 opt.need _ (p.eqN (p.len a.1) (p.len a.1))<|
 opt.bnd ((LD×(LD×T4))) _ (
 it _ _ (v8q p) (a.1,(a.2.1,(a.2.2.1,(a.2.2.2.1,((0:Int),((p.ar .mul .i64 (2:Int) a.2.2.2.1),()))))))) fun b=>
 opt.ask _ (p.cmp .lss (p.ar .add .i64 b.2.2.2.2.1 b.2.2.2.1) b.2.2.1) (
 opt.need _ (p.eqN 0 0)<|
 opt.need _ (p.eqN (p.len b.1) (p.len b.1))<|
 opt.no _ 81) (
 opt.need _ (p.eqN 0 0)<|
 opt.need _ (p.eqN (p.len b.1) (p.len b.1))<|
 opt.ret _ (Sum.inl (b.1,(b.2.1,(b.2.2.1,((p.ar .mul .i64 b.2.2.2.1 (2:Int)),()))))))) (
 opt.ret _ (Sum.inr (a.1,(a.2.1,())))))
def w7x (it:It) (p:Prim):(LD×(LD×T7))→Option ((LD×(LD×T7))⊕(LD×(LD×T4))):=
 fun a=>opt.run _ (
 opt.ask _ (p.cmp .leq a.2.2.2.2.2.1 a.2.2.1) (
 opt.need _ (p.eqN 0 0)<|
 opt.need _ (p.eqN (p.len a.1) (p.len a.1))<|
 opt.bnd ((LD×(LD×Unit))) _ (v0o it p (a.1,(a.2.1,(a.2.2.2.2.1,(a.2.2.2.2.2.1,()))))) fun b=>
 opt.need _ (p.eqN 0 0)<|
 opt.need _ (p.eqN (p.len a.1) (p.len b.1))<|
 opt.ret _ (Sum.inl (b.1,(b.2.1,(a.2.2.1,(a.2.2.2.1,(a.2.2.2.2.2.1,((p.ar .add .i64 a.2.2.2.2.2.1 a.2.2.2.1),())))))))) (
 opt.need _ (p.eqN 0 0)<|
 opt.need _ (p.eqN (p.len a.1) (p.len a.1))<|
 opt.ret _ (Sum.inr (a.1,(a.2.1,(a.2.2.1,(a.2.2.2.1,(a.2.2.2.2.1,()))))))))
def g86 (it:It):(p:Prim)→(LD×(LD×T1))→Option ((LD×(LD×Unit))):=
 fun p x=>
 opt.need _ (p.eqN 0 0)<|
 opt.need _ (p.eqN (p.len x.1) (p.len x.1))<|
 opt.bnd ((LD×(LD×T4))) _ (
 it _ _ (w7x it p) (x.1,(x.2.1,(x.2.2.1,((20:Int),((0:Int),((20:Int),()))))))) fun a=>
 opt.need _ (p.eqN 0 0)<|
 opt.need _ (p.eqN (p.len a.1) (p.len a.1))<|
 opt.bnd ((LD×(LD×Unit))) _ (v0o it p (a.1,(a.2.1,(a.2.2.2.2.1,(a.2.2.1,()))))) fun b=>
 opt.need _ (p.eqN 0 0)<|
 opt.need _ (p.eqN (p.len a.1) (p.len b.1))<|
 opt.bnd ((LD×(LD×Unit))) _ (
 it _ _ (w7w it p) (b.1,(b.2.1,(a.2.2.1,(a.2.2.2.1,()))))) fun c=>
 opt.ret _ (c.1,(c.2.1,()))
def G86:=g86 it0
theorem ok86:CtrOk PG v1m (G86 std):=okF (a:=an86) (l:=la86) (gC v5d (gC v5e (gN))) (by kernel_rfl) fun _ _=>by kernel_rfl
def v1p:Ctr:=
 ⟨66,[.vec 0 1, .clo 88 [] [.bptr 1 0]],[.row [ci], .box [.list 1]],[(.ret,⟨[(0, .tuple [])],[.row [ci], .box [.list 1]],1⟩)]⟩
def la66:List LA:=
 []
def ja66:List JA:=
 []
def v63:List CF:=
 [⟨v1m,G86⟩]
def an66:Anns:=
 ⟨v63,ja66,[]⟩
def g66 (it:It):(p:Prim)→(LD×(LD×Unit))→Option ((LD×(LD×Unit))):=
 fun p x=>
 opt.need _ (p.eqN 0 0)<|
 opt.need _ (p.eqN (p.len x.1) (p.len x.1))<|
 opt.bnd ((LD×(LD×Unit))) _ (g86 it p (x.1,(x.2.1,((p.ofNat (p.len x.1)),())))) fun a=>
 opt.ret _ (a.1,(a.2.1,()))
def G66:=g66 it0
theorem ok66:CtrOk PG v1p (G66 std):=okF (a:=an66) (l:=la66) (gC ok86 (gN)) (by kernel_rfl) fun _ _=>by kernel_rfl
def w7p:Ctr:=
 ⟨71,[.list 1],[],[(.ret,⟨[(0, .vec 0 1)],[.row [ci]],1⟩)]⟩
def la71:List LA:=
 [⟨71,[false,true,false,true,true],0,⟨⟨[(1, .bptr 0 0),(3, .vec 1 1),(6, .int .i64),(7, .int .i64)],[.box [.list 1], .row [ci]],19⟩,[((AX.exit 0),⟨[(1, .bptr 0 0),(3, .vec 1 1)],[.box [.list 1], .row [ci]],19⟩)]⟩⟩]
def ja71:List JA:=
 []
def v61:List CF:=
 [⟨v1p,G66⟩]
def an71:Anns:=
 ⟨v61,ja71,[]⟩
def v8t (p:Prim):(LD×(LD×T3))→Option ((LD×(LD×T3))⊕(LD×(LD×Unit))):=
 fun a=>opt.run _ (
 opt.ask _ (p.cmp .lss a.2.2.2.1 a.2.2.1) (
 opt.need _ (p.and (p.leN (p.add 0 1) (p.len [[(D.int .i64 a.2.2.2.1)]])) (p.and (p.leN (p.add 0 (p.len a.1)) (p.len a.1)) (p.and (p.leN 1 1) (p.leN (p.add (p.len a.1) 1) 1000000))))<|
 opt.need _ (p.eqN 0 0)<|
 opt.need _ (p.eqN (p.add (p.len a.1) 1) (p.len (p.app (p.cut a.1 0 (p.len a.1)) (p.cut [[(D.int .i64 a.2.2.2.1)]] 0 1))))<|
 opt.ret _ (Sum.inl ((p.app (p.cut a.1 0 (p.len a.1)) (p.cut [[(D.int .i64 a.2.2.2.1)]] 0 1)),(a.2.1,(a.2.2.1,((p.ar .add .i64 a.2.2.2.1 (1:Int)),())))))) (
 opt.need _ (p.eqN 0 0)<|
 opt.need _ (p.eqN (p.len a.1) (p.len a.1))<|
 opt.ret _ (Sum.inr (a.1,(a.2.1,())))))
def g71 (it:It):(p:Prim)→(LD×Unit)→Option ((LD×Unit)):=
 fun p x=>
 opt.bnd ((LD×(LD×Unit))) _ (
 it _ _ (v8t p) ([],(x.1,((p.ofNat (p.len x.1)),((0:Int),()))))) fun a=>
 opt.need _ (p.eqN 0 0)<|
 opt.need _ (p.eqN (p.len a.1) (p.len a.1))<|
 opt.bnd ((LD×(LD×Unit))) _ (g66 it p (a.1,(a.2.1,()))) fun b=>
 opt.need _ (p.eqN 0 0)<|
 opt.need _ (p.eqN (p.len a.1) (p.len b.1))<|
 opt.ret _ (b.1,())
def G71:=g71 it0
theorem v91:CtrOk PG w7p (G71 std):=okF (a:=an71) (l:=la71) (gC ok66 (gN)) (by kernel_rfl) fun _ _=>by kernel_rfl
end Go.Am
end
noncomputable section
namespace Go.Am
def w7o:Ctr:=
 ⟨73,[.clo 90 [] [.bptr 0 0]],[.box [.sl 1 1], .row [ci]],[(.ret,⟨[(0, .vec 2 1)],[.box [.sl 1 1], .row [ci], .row [ci]],1⟩)]⟩
def la73:List LA:=
 [⟨90,[false,true],4,⟨⟨[(0, .yld 3),(5, .sl 1 1),(6, .int .i64),(7, .int .i64)],[.box [.sl 1 1], .row [ci], .box [.vec 4 1], .loop Go.LoopState.ready Option.none 106 [Bool.false,Bool.true,Bool.false,Bool.true] 13 [(6, .clo 90 [] [.bptr 0 0]),(2, .bptr 2 0)], .row [ci]],16⟩,[((AX.exit 0),⟨[],[.box [.sl 1 1], .row [ci], .box [.vec 4 1], .loop Go.LoopState.ready Option.none 106 [Bool.false,Bool.true,Bool.false,Bool.true] 13 [(6, .clo 90 [] [.bptr 0 0]),(2, .bptr 2 0)], .row [ci]],16⟩)]⟩⟩]
def ja73:List JA:=
 []
def v6z:List CF:=
 [⟨w4g,u1a⟩]
def an73:Anns:=
 ⟨v6z,ja73,[]⟩
def v8r (p:Prim):(LD×(LD×T17))→Option ((LD×(LD×T17))⊕(LD×(LD×T5))):=
 fun a=>opt.run _ (
 opt.ask _ (p.cmp .lss a.2.2.2.2.2.2.2.1 a.2.2.2.2.2.2.1) (
 opt.need _ (bif (p.cmp .geq a.2.2.2.2.2.2.2.1 (0:Int)) then (p.cmp .lss a.2.2.2.2.2.2.2.1 (p.ofNat a.2.2.2.2.2.1)) else Bool.false)<|
 opt.need _ (p.rowOk a.1 (p.add a.2.2.2.2.1 (p.nat a.2.2.2.2.2.2.2.1)) [ci])<|
 opt.need _ (p.and (p.leN (p.add 0 1) (p.len [[(D.int .i64 (p.rdI a.1 (p.add a.2.2.2.2.1 (p.nat a.2.2.2.2.2.2.2.1)) 0))]])) (p.and (p.leN (p.add 0 (p.len a.2.1)) (p.len a.2.1)) (p.and (p.leN 1 1) (p.leN (p.add (p.len a.2.1) 1) 1000000))))<|
 opt.need _ (p.eqN 0 0)<|
 opt.need _ (p.eqN (p.add (p.len a.2.1) 1) (p.len (p.app (p.cut a.2.1 0 (p.len a.2.1)) (p.cut [[(D.int .i64 (p.rdI a.1 (p.add a.2.2.2.2.1 (p.nat a.2.2.2.2.2.2.2.1)) 0))]] 0 1))))<|
 opt.ret _ (Sum.inl (a.1,((p.app (p.cut a.2.1 0 (p.len a.2.1)) (p.cut [[(D.int .i64 (p.rdI a.1 (p.add a.2.2.2.2.1 (p.nat a.2.2.2.2.2.2.2.1)) 0))]] 0 1)),(a.2.2.1,(a.2.2.2.1,(a.2.2.2.2.1,(a.2.2.2.2.2.1,(a.2.2.2.2.2.2.1,((p.ar .add .i64 a.2.2.2.2.2.2.2.1 (1:Int)),())))))))))) (
 opt.need _ (p.eqN 0 0)<|
 opt.need _ (p.eqN (p.len a.2.1) (p.len a.2.1))<|
 opt.ret _ (Sum.inr (a.1,(a.2.1,(a.2.2.1,(a.2.2.2.1,())))))))
def g73 (it:It):(p:Prim)→(LD×T5)→Option ((LD×(LD×T5))):=
 fun p x=>
 opt.bnd ((LD×(LD×T5))) _ (
 it _ _ (v8r p) (x.1,([],(x.2.1,(x.2.2.1,(x.2.1,(x.2.2.1,((p.ofNat x.2.2.1),((0:Int),()))))))))) fun a=>
 opt.need _ (p.eqN 0 0)<|
 opt.need _ (p.eqN (p.len a.2.1) (p.len a.2.1))<|
 opt.bnd ((LD×Unit)) _ (v4e it p (a.2.1,())) fun b=>
 opt.need _ (p.eqN 0 0)<|
 opt.need _ (p.eqN (p.len a.2.1) (p.len b.1))<|
 opt.ret _ (a.1,(b.1,(a.2.2.1,(a.2.2.2.1,()))))
def G73:=g73 it0
theorem v90:CtrOk PG w7o (G73 std):=okF (a:=an73) (l:=la73) (gC v45 (gN)) (by kernel_rfl) fun _ _=>by kernel_rfl
end Go.Am
end
section
namespace Go.Am
open T11
theorem v0k {l:List Int} {q:Nat} (h:q<l.length):l[q]?=some (gI l q):=by
 rw [gI,List.getD_eq_getElem?_getD,List.getElem?_eq_getElem h]; rfl
def key (w:List Int) (x:Int):Int:=gI w x.toNat
end Go.Am
end
section
namespace Go.Am
open T11
variable {fl:List Int→Bool}
theorem y12 (n:Nat) (p:Nat→Bool):cnt n p=((List.range n).filter p).length:=by
 induction n with
 |zero=>rfl
 |succ n ih=>
  rw [y8k,ih,List.range_succ,List.filter_append,List.length_append]
  congr 1
  cases h:p n<;>simp [h,o1]
end Go.Am
end
noncomputable section
namespace Go.Am
def v15:Ctr:=
 ⟨24,[.list 1, .list 1],[],[(.ret,⟨[(0, .int .i64)],[],1⟩)]⟩
def la24:List LA:=
 [⟨24,[false,true,false,true,true,true,true,true,true,true],0,⟨⟨[(1, .list 1),(5, .bptr 0 0),(8, .int .i64)],[.row [ci]],59⟩,[(AX.ret,⟨[(4, .int .i64)],[],59⟩),((AX.exit 1),⟨[],[],59⟩)]⟩⟩]
def ja24:List JA:=
 [⟨24,[true,false,false,true,true],0,[(AX.ret,⟨[(4, .int .i64)],[],59⟩),(AX.normal,⟨[(1, .list 1),(5, .bptr 0 0)],[.row [ci]],59⟩)]⟩]
def v7s:List CF:=
 [⟨w2x,G56⟩,⟨w4h,u1b⟩,⟨w2y,G54⟩]
def an24:Anns:=
 ⟨v7s,ja24,[]⟩
def v9a (p:Prim):(LD×(LD×T1))→Option ((LD×(LD×T1))⊕T15):=
 fun a=>opt.run _ (
 opt.ask _ (p.cmp .lss a.2.2.1 (p.ofNat (p.len a.2.1))) (
 opt.need _ (p.rowOk a.2.1 (p.nat (p.ar .sub .i64 a.2.2.1 (1:Int))) [ci])<|
 opt.need _ (p.cmp .geq (p.ar .sub .i64 a.2.2.1 (1:Int)) (0:Int))<|
 opt.need _ (p.rowOk a.2.1 (p.nat a.2.2.1) [ci])<|
 opt.need _ (p.cmp .geq a.2.2.1 (0:Int))<|
 opt.need _ (bif (p.cmp .geq (p.rdI a.2.1 (p.nat (p.ar .sub .i64 a.2.2.1 (1:Int))) 0) (0:Int)) then (p.cmp .lss (p.rdI a.2.1 (p.nat (p.ar .sub .i64 a.2.2.1 (1:Int))) 0) (p.ofNat 10)) else Bool.false)<|
 opt.need _ (bif (p.cmp .geq (p.rdI a.2.1 (p.nat a.2.2.1) 0) (0:Int)) then (p.cmp .lss (p.rdI a.2.1 (p.nat a.2.2.1) 0) (p.ofNat 10)) else Bool.false)<|
 opt.need _ (p.rowOk a.1 (p.add (p.add 1 (p.mul (p.nat (p.rdI a.2.1 (p.nat (p.ar .sub .i64 a.2.2.1 (1:Int))) 0)) 10)) (p.nat (p.rdI a.2.1 (p.nat a.2.2.1) 0))) [ci])<|
 opt.ask _ (bif (p.cmp .eql (p.rdI a.1 (p.add (p.add 1 (p.mul (p.nat (p.rdI a.2.1 (p.nat (p.ar .sub .i64 a.2.2.1 (1:Int))) 0)) 10)) (p.nat (p.rdI a.2.1 (p.nat a.2.2.1) 0))) 0) (1:Int)) then Bool.false else Bool.true) (
 opt.ret _ (Sum.inr (Sum.inl ((16:Int),())))) (
 opt.ret _ (Sum.inl (a.1,(a.2.1,((p.ar .add .i64 a.2.2.1 (1:Int)),())))))) (
 opt.ret _ (Sum.inr (Sum.inr ()))))
def v9b (p:Prim):(LD×(LD×T1))→Option ((LD×(LD×T1))⊕T15):=
 fun a=>opt.run _ (
 opt.ask _ (p.cmp .lss a.2.2.1 (p.ofNat (p.len a.2.1))) (
 opt.need _ (p.rowOk a.2.1 (p.nat (p.ar .sub .i64 a.2.2.1 (1:Int))) [ci])<|
 opt.need _ (p.cmp .geq (p.ar .sub .i64 a.2.2.1 (1:Int)) (0:Int))<|
 opt.need _ (p.rowOk a.2.1 (p.nat a.2.2.1) [ci])<|
 opt.need _ (p.cmp .geq a.2.2.1 (0:Int))<|
 opt.need _ (bif (p.cmp .geq (p.rdI a.2.1 (p.nat (p.ar .sub .i64 a.2.2.1 (1:Int))) 0) (0:Int)) then (p.cmp .lss (p.rdI a.2.1 (p.nat (p.ar .sub .i64 a.2.2.1 (1:Int))) 0) (p.ofNat 10)) else Bool.false)<|
 opt.need _ (bif (p.cmp .geq (p.rdI a.2.1 (p.nat a.2.2.1) 0) (0:Int)) then (p.cmp .lss (p.rdI a.2.1 (p.nat a.2.2.1) 0) (p.ofNat 10)) else Bool.false)<|
 opt.need _ (p.rowOk a.1 (p.add (p.add 1 (p.mul (p.nat (p.rdI a.2.1 (p.nat (p.ar .sub .i64 a.2.2.1 (1:Int))) 0)) 10)) (p.nat (p.rdI a.2.1 (p.nat a.2.2.1) 0))) [ci])<|
 opt.ask _ (bif (p.cmp .eql (p.rdI a.1 (p.add (p.add 1 (p.mul (p.nat (p.rdI a.2.1 (p.nat (p.ar .sub .i64 a.2.2.1 (1:Int))) 0)) 10)) (p.nat (p.rdI a.2.1 (p.nat a.2.2.1) 0))) 0) (1:Int)) then Bool.false else Bool.true) (
 opt.ret _ (Sum.inr (Sum.inl ((16:Int),())))) (
 opt.ret _ (Sum.inl (a.1,(a.2.1,((p.ar .add .i64 a.2.2.1 (1:Int)),())))))) (
 opt.ret _ (Sum.inr (Sum.inr ()))))
def g24 (it:It):(p:Prim)→(LD×(LD×Unit))→Option T2:=
 fun p x=>
 opt.alt T2 ((LD×T1)) _ (g54 it p (x.1,())) (fun a=>
 opt.alt T2 ((LD×(LD×Unit))) _ (
 opt.run T35 (
 opt.ask _ (p.cmp .neq a.1 (0:Int)) (
 opt.ret _ (Sum.inl (a.1,()))) (
 opt.no _ 41))) (fun b=>
 opt.ret _ (b.1,())) (fun c=>
 opt.bnd ((LD×(LD×Unit))) _ (some c) fun d=>
 opt.need _ (p.and (p.cmp .geq (p.ofNat (p.len d.2.1)) (0:Int)) (p.and (p.cmp .leq (p.ofNat (p.len d.2.1)) (p.ofNat (p.len d.2.1))) (p.cmp .leq (p.ofNat (p.len d.2.1)) (1000000:Int))))<|
 opt.need _ (p.and Bool.true (p.and (p.leN (p.len d.2.1) (p.nat (p.ofNat (p.len d.2.1)))) (p.leN (p.add 0 (p.nat (p.ofNat (p.len d.2.1)))) (p.len (p.rep (p.nat (p.ofNat (p.len d.2.1))) k0k)))))<|
 opt.need _ (p.eqN 0 0)<|
 opt.need _ (p.eqN (p.nat (p.ofNat (p.len d.2.1))) (p.len (p.splice (p.rep (p.nat (p.ofNat (p.len d.2.1))) k0k) 0 d.2.1)))<|
 opt.need _ (p.eqN (p.nat (p.ofNat (p.len d.2.1))) (p.len (p.splice (p.rep (p.nat (p.ofNat (p.len d.2.1))) k0k) 0 d.2.1)))<|
 opt.bnd ((LD×Unit)) _ (v0m it p ((p.splice (p.rep (p.nat (p.ofNat (p.len d.2.1))) k0k) 0 d.2.1),())) fun e=>
 opt.need _ (p.rowOk d.1 0 [ci])<|
 opt.need _ (p.and (p.leN (p.add 0 (p.nat (p.ofNat (p.len d.2.1)))) (p.len e.1)) (p.and Bool.true Bool.true))<|
 opt.bnd T0 _ (g56 it p ((p.cut e.1 0 (p.nat (p.ofNat (p.len d.2.1)))),((p.rdI d.1 0 0),()))) fun f=>
 opt.ask _ (bif f.1 then Bool.false else Bool.true) (
 opt.ret _ ((3:Int),())) (
 opt.alt T2 (Unit) _ (
 it _ _ (v9b p) (d.1,(d.2.1,((1:Int),())))) (fun g=>
 opt.ret _ (g.1,())) (fun h=>
 opt.bnd (Unit) _ (some h) fun i=>
 opt.ret _ ((0:Int),()))))) (fun j=>
 opt.bnd ((LD×T1)) _ (some j) fun k=>
 opt.alt T2 ((LD×(LD×Unit))) _ (
 opt.run T35 (
 opt.ask _ (p.cmp .neq k.2.1 (0:Int)) (
 opt.ret _ (Sum.inl (k.2.1,()))) (
 opt.need _ (p.rowOk k.1 0 [ci])<|
 opt.ask _ (p.cmp .neq (p.ofNat (p.len x.2.1)) (p.rdI k.1 0 0)) (
 opt.ret _ (Sum.inl ((15:Int),()))) (
 opt.ret _ (Sum.inr (k.1,(x.2.1,()))))))) (fun l=>
 opt.ret _ (l.1,())) (fun m=>
 opt.bnd ((LD×(LD×Unit))) _ (some m) fun n=>
 opt.need _ (p.and (p.cmp .geq (p.ofNat (p.len n.2.1)) (0:Int)) (p.and (p.cmp .leq (p.ofNat (p.len n.2.1)) (p.ofNat (p.len n.2.1))) (p.cmp .leq (p.ofNat (p.len n.2.1)) (1000000:Int))))<|
 opt.need _ (p.and Bool.true (p.and (p.leN (p.len n.2.1) (p.nat (p.ofNat (p.len n.2.1)))) (p.leN (p.add 0 (p.nat (p.ofNat (p.len n.2.1)))) (p.len (p.rep (p.nat (p.ofNat (p.len n.2.1))) k0k)))))<|
 opt.need _ (p.eqN 0 0)<|
 opt.need _ (p.eqN (p.nat (p.ofNat (p.len n.2.1))) (p.len (p.splice (p.rep (p.nat (p.ofNat (p.len n.2.1))) k0k) 0 n.2.1)))<|
 opt.need _ (p.eqN (p.nat (p.ofNat (p.len n.2.1))) (p.len (p.splice (p.rep (p.nat (p.ofNat (p.len n.2.1))) k0k) 0 n.2.1)))<|
 opt.bnd ((LD×Unit)) _ (v0m it p ((p.splice (p.rep (p.nat (p.ofNat (p.len n.2.1))) k0k) 0 n.2.1),())) fun o=>
 opt.need _ (p.rowOk n.1 0 [ci])<|
 opt.need _ (p.and (p.leN (p.add 0 (p.nat (p.ofNat (p.len n.2.1)))) (p.len o.1)) (p.and Bool.true Bool.true))<|
 opt.bnd T0 _ (g56 it p ((p.cut o.1 0 (p.nat (p.ofNat (p.len n.2.1)))),((p.rdI n.1 0 0),()))) fun q=>
 opt.ask _ (bif q.1 then Bool.false else Bool.true) (
 opt.ret _ ((3:Int),())) (
 opt.alt T2 (Unit) _ (
 it _ _ (v9a p) (n.1,(n.2.1,((1:Int),())))) (fun r=>
 opt.ret _ (r.1,())) (fun t=>
 opt.bnd (Unit) _ (some t) fun u=>
 opt.ret _ ((0:Int),())))))
def G24:=g24 it0
theorem ok24:CtrOk PG v15 (G24 std):=okF (a:=an24) (l:=la24) (gC v44 (gC v46 (gC v47 (gN)))) (by kernel_rfl) fun _ _=>by kernel_rfl
end Go.Am
end
section
namespace Go.Am
open T11
variable {fl:List Int→Bool}
def u0r (o:List Int) (n:Nat) (i:Nat):Prop:=gI o i<0∨(n:Int)≤gI o i∨∃ k∈List.range i,gI o i=gI o k
instance v8a (o:List Int) (n i:Nat):Decidable (u0r o n i):=by unfold u0r; infer_instance
def v4h (d:List (List Int)) (o:List Int) (i:Nat):Prop:=bt d (gI o i).toNat (gI o (i+1)).toNat=false
instance v8b (d:List (List Int)) (o:List Int) (i:Nat):Decidable (v4h d o i):=by unfold v4h; infer_instance
def anyN (d:List (List Int)) (o:List Int):Prop:=∃ i∈List.range (d.length - 1),v4h d o i
instance v8c (d:List (List Int)) (o:List Int):Decidable (anyN d o):=inferInstanceAs (Decidable (∃ i,i∈List.range (d.length - 1)∧v4h d o i))
end Go.Am
end
noncomputable section
namespace Go.Am
def v1n:Ctr:=
 ⟨72,[.vec 0 1],[.row [ci]],[(.ret,⟨[(0, .tuple [])],[.row [ci]],1⟩)]⟩
def la72:List LA:=
 [⟨72,[false,true],1,⟨⟨[(0, .vec 0 1),(2, .int .i64),(3, .int .i64)],[.row [ci]],28⟩,[((AX.exit 0),⟨[],[.row [ci]],28⟩)]⟩⟩]
def ja72:List JA:=
 []
def v60:List CF:=
 []
def an72:Anns:=
 ⟨v60,ja72,[]⟩
def v8s (p:Prim):(LD×T3)→Option ((LD×T3)⊕(LD×Unit)):=
 fun a=>opt.run _ (
 opt.ask _ (p.cmp .lss a.2.1 a.2.2.1) (
 opt.need _ (bif (p.cmp .geq a.2.2.1 (0:Int)) then (p.cmp .lss a.2.2.1 (p.ofNat (p.len a.1))) else Bool.false)<|
 opt.need _ (p.rowOk a.1 (p.add 0 (p.nat a.2.2.1)) [ci])<|
 opt.need _ (bif (p.cmp .geq a.2.1 (0:Int)) then (p.cmp .lss a.2.1 (p.ofNat (p.len a.1))) else Bool.false)<|
 opt.need _ (p.rowOk a.1 (p.add 0 (p.nat a.2.1)) [ci])<|
 opt.need _ (bif (p.cmp .geq a.2.1 (0:Int)) then (p.cmp .lss a.2.1 (p.ofNat (p.len a.1))) else Bool.false)<|
 opt.need _ (p.rowOk a.1 (p.add 0 (p.nat a.2.1)) [ci])<|
 opt.need _ (bif (p.cmp .geq a.2.2.1 (0:Int)) then (p.cmp .lss a.2.2.1 (p.ofNat (p.len a.1))) else Bool.false)<|
 opt.need _ (p.rowOk (p.set a.1 (p.add 0 (p.nat a.2.1)) [(D.int .i64 (p.rdI a.1 (p.add 0 (p.nat a.2.2.1)) 0))]) (p.add 0 (p.nat a.2.2.1)) [ci])<|
 opt.need _ (p.eqN 0 0)<|
 opt.need _ (p.eqN (p.len a.1) (p.len (p.set (p.set a.1 (p.add 0 (p.nat a.2.1)) [(D.int .i64 (p.rdI a.1 (p.add 0 (p.nat a.2.2.1)) 0))]) (p.add 0 (p.nat a.2.2.1)) [(D.int .i64 (p.rdI a.1 (p.add 0 (p.nat a.2.1)) 0))])))<|
 opt.ret _ (Sum.inl ((p.set (p.set a.1 (p.add 0 (p.nat a.2.1)) [(D.int .i64 (p.rdI a.1 (p.add 0 (p.nat a.2.2.1)) 0))]) (p.add 0 (p.nat a.2.2.1)) [(D.int .i64 (p.rdI a.1 (p.add 0 (p.nat a.2.1)) 0))]),((p.ar .add .i64 a.2.1 (1:Int)),((p.ar .sub .i64 a.2.2.1 (1:Int)),()))))) (
 opt.ret _ (Sum.inr (a.1,()))))
def g72 (it:It):(p:Prim)→(LD×Unit)→Option ((LD×Unit)):=
 fun p x=>
 opt.need _ (p.eqN 0 0)<|
 opt.need _ (p.eqN (p.len x.1) (p.len x.1))<|
 opt.bnd ((LD×Unit)) _ (
 it _ _ (v8s p) (x.1,((0:Int),((p.ar .sub .i64 (p.ofNat (p.len x.1)) (1:Int)),())))) fun a=>
 opt.ret _ (a.1,())
def G72:=g72 it0
theorem ok72:CtrOk PG v1n (G72 std):=okF (a:=an72) (l:=la72) (gN) (by kernel_rfl) fun _ _=>by kernel_rfl
def v1w:Ctr:=
 ⟨37,[.list 1],[],[(.ret,⟨[(0, .tuple [.list 1, .int .i64])],[],1⟩)]⟩
def la37:List LA:=
 [⟨37,[false,true,false,true,true,true,true,true,true,true,true],0,⟨⟨[(4, .vec 0 1),(6, .vec 1 1),(7, .int .i64),(8, .vec 2 1),(9, .int .i64),(10, .int .i64),(29, .vec 1 1),(30, .int .i64),(31, .int .i64)],[.row [ci], .row [ci], .row [(CK.list 1)]],70⟩,[((AX.exit 0),⟨[(8, .vec 0 1)],[.row [(CK.list 1)]],70⟩)]⟩⟩]
def ja37:List JA:=
 [⟨37,[true,true,true,true,false,false,true,true,false,false,true,false,true,true,true,true,true,true,true,true],0,[(AX.normal,⟨[(4, .vec 0 1),(6, .vec 1 1),(7, .int .i64),(8, .vec 2 1),(9, .int .i64),(10, .int .i64),(29, .vec 1 1),(30, .int .i64),(31, .int .i64)],[.row [ci], .row [ci], .row [(CK.list 1)]],70⟩)]⟩]
def v7h:List CF:=
 [⟨w7o,G73⟩,⟨v1n,G72⟩,⟨w7p,G71⟩,⟨w2z,G35⟩]
def an37:Anns:=
 ⟨v7h,ja37,[⟨37,[false,true,false,true,true,true,true,false,false,true,true,false,false,true,false,true,true,true,true,true,true,true,true],⟨[(4, .vec 0 1),(6, .vec 1 1),(7, .int .i64),(8, .vec 2 1),(10, .int .i64),(13, .int .i64),(14, .list 1),(29, .vec 1 1),(30, .int .i64),(31, .int .i64)],[.row [ci], .row [ci], .row [(CK.list 1)]],70⟩⟩]⟩
def w70 (it:It) (p:Prim):(LD×(LD×(LD×T22)))→Option ((LD×(LD×(LD×T22)))⊕(LD×Unit)):=
 fun a=>opt.run _ (
 opt.ask _ (p.cmp .lss a.2.2.2.2.2.2.2.1 a.2.2.2.2.2.2.1) (
 opt.need _ (bif (p.cmp .geq a.2.2.2.2.2.2.2.1 (0:Int)) then (p.cmp .lss a.2.2.2.2.2.2.2.1 (p.ofNat (p.len a.2.1))) else Bool.false)<|
 opt.need _ (p.rowOk a.2.1 (p.add 0 (p.nat a.2.2.2.2.2.2.2.1)) [ci])<|
 opt.need _ (bif (p.cmp .geq (p.rdI a.2.1 (p.add 0 (p.nat a.2.2.2.2.2.2.2.1)) 0) (0:Int)) then (p.cmp .lss (p.rdI a.2.1 (p.add 0 (p.nat a.2.2.2.2.2.2.2.1)) 0) (p.ofNat (p.len a.1))) else Bool.false)<|
 opt.need _ (p.rowOk a.1 (p.add 0 (p.nat (p.rdI a.2.1 (p.add 0 (p.nat a.2.2.2.2.2.2.2.1)) 0))) [ci])<|
 opt.need _ (p.cmp .neq (2:Int) (0:Int))<|
 opt.bnd ((LD×(LD×(LD×T22)))) _ (
 opt.run ((LD×(LD×(LD×T22)))) (
 opt.ask _ (p.cmp .eql (p.ar .add .i64 a.2.2.2.2.2.1 (p.rdI a.1 (p.add 0 (p.nat (p.rdI a.2.1 (p.add 0 (p.nat a.2.2.2.2.2.2.2.1)) 0))) 0)) (p.ar .add .i64 (p.ar .quo .i64 (p.ar .mul .i64 (p.ar .add .i64 a.2.2.2.2.2.2.2.1 (1:Int)) (p.ar .sub .i64 (p.ar .add .i64 a.2.2.2.2.2.2.2.1 (1:Int)) (1:Int))) (2:Int)) (p.ar .mul .i64 (p.ar .add .i64 a.2.2.2.2.2.2.2.1 (1:Int)) (p.ar .sub .i64 a.2.2.2.1 (p.ar .add .i64 a.2.2.2.2.2.2.2.1 (1:Int)))))) (
 opt.need _ (p.and (p.cmp .geq a.2.2.2.2.1 (0:Int)) (p.and (p.cmp .leq a.2.2.2.2.1 (p.ar .add .i64 a.2.2.2.2.2.2.2.1 (1:Int))) (p.cmp .leq (p.ar .add .i64 a.2.2.2.2.2.2.2.1 (1:Int)) (p.ofNat (p.len a.2.1)))))<|
 opt.bnd ((LD×(LD×T5))) _ (g73 it p (a.2.1,((p.add 0 (p.nat a.2.2.2.2.1)),((p.sub (p.nat (p.ar .add .i64 a.2.2.2.2.2.2.2.1 (1:Int))) (p.nat a.2.2.2.2.1)),())))) fun b=>
 opt.need _ (p.eqN 0 0)<|
 opt.need _ (p.eqN (p.len a.1) (p.len a.1))<|
 opt.need _ (p.eqN 0 0)<|
 opt.need _ (p.eqN (p.len a.2.1) (p.len b.1))<|
 opt.need _ (p.eqN 0 0)<|
 opt.need _ (p.eqN (p.len a.2.2.1) (p.len a.2.2.1))<|
 opt.need _ (p.leN (p.add 0 (p.len b.2.1)) (p.len b.2.1))<|
 opt.need _ (p.eqN 0 0)<|
 opt.need _ (p.eqN (p.len a.2.1) (p.len b.1))<|
 opt.need _ (p.and (p.leN (p.add 0 1) (p.len [[(D.list Bool.false 1 (p.cut b.2.1 0 (p.len b.2.1)))]])) (p.and (p.leN (p.add 0 (p.len a.2.2.1)) (p.len a.2.2.1)) (p.and (p.leN 1 1) (p.leN (p.add (p.len a.2.2.1) 1) 1000000))))<|
 opt.need _ (p.eqN 0 0)<|
 opt.need _ (p.eqN (p.len a.1) (p.len a.1))<|
 opt.need _ (p.eqN 0 0)<|
 opt.need _ (p.eqN (p.len b.1) (p.len b.1))<|
 opt.need _ (p.eqN 0 0)<|
 opt.need _ (p.eqN (p.add (p.len a.2.2.1) 1) (p.len (p.app (p.cut a.2.2.1 0 (p.len a.2.2.1)) (p.cut [[(D.list Bool.false 1 (p.cut b.2.1 0 (p.len b.2.1)))]] 0 1))))<|
 opt.need _ (p.eqN 0 0)<|
 opt.need _ (p.eqN (p.len b.1) (p.len b.1))<|
 opt.ret _ (a.1,(b.1,((p.app (p.cut a.2.2.1 0 (p.len a.2.2.1)) (p.cut [[(D.list Bool.false 1 (p.cut b.2.1 0 (p.len b.2.1)))]] 0 1)),(a.2.2.2.1,((p.ar .add .i64 a.2.2.2.2.2.2.2.1 (1:Int)),((p.ar .add .i64 a.2.2.2.2.2.1 (p.rdI a.1 (p.add 0 (p.nat (p.rdI a.2.1 (p.add 0 (p.nat a.2.2.2.2.2.2.2.1)) 0))) 0)),(a.2.2.2.2.2.2.1,(a.2.2.2.2.2.2.2.1,()))))))))) (
 opt.need _ (p.eqN 0 0)<|
 opt.need _ (p.eqN (p.len a.1) (p.len a.1))<|
 opt.need _ (p.eqN 0 0)<|
 opt.need _ (p.eqN (p.len a.2.1) (p.len a.2.1))<|
 opt.need _ (p.eqN 0 0)<|
 opt.need _ (p.eqN (p.len a.2.2.1) (p.len a.2.2.1))<|
 opt.need _ (p.eqN 0 0)<|
 opt.need _ (p.eqN (p.len a.2.1) (p.len a.2.1))<|
 opt.ret _ (a.1,(a.2.1,(a.2.2.1,(a.2.2.2.1,(a.2.2.2.2.1,((p.ar .add .i64 a.2.2.2.2.2.1 (p.rdI a.1 (p.add 0 (p.nat (p.rdI a.2.1 (p.add 0 (p.nat a.2.2.2.2.2.2.2.1)) 0))) 0)),(a.2.2.2.2.2.2.1,(a.2.2.2.2.2.2.2.1,()))))))))))) fun c=>
 opt.need _ (p.eqN 0 0)<|
 opt.need _ (p.eqN (p.len c.1) (p.len c.1))<|
 opt.need _ (p.eqN 0 0)<|
 opt.need _ (p.eqN (p.len c.2.1) (p.len c.2.1))<|
 opt.need _ (p.eqN 0 0)<|
 opt.need _ (p.eqN (p.len c.2.2.1) (p.len c.2.2.1))<|
 opt.need _ (p.eqN 0 0)<|
 opt.need _ (p.eqN (p.len c.2.1) (p.len c.2.1))<|
 opt.ret _ (Sum.inl (c.1,(c.2.1,(c.2.2.1,(c.2.2.2.1,(c.2.2.2.2.1,(c.2.2.2.2.2.1,(c.2.2.2.2.2.2.1,((p.ar .add .i64 c.2.2.2.2.2.2.2.1 (1:Int)),())))))))))) (
 opt.need _ (p.eqN 0 0)<|
 opt.need _ (p.eqN (p.len a.2.2.1) (p.len a.2.2.1))<|
 opt.ret _ (Sum.inr (a.2.2.1,()))))
def g37 (it:It):(p:Prim)→(LD×Unit)→Option ((LD×T1)):=
 fun p x=>
 opt.bnd ((LD×T1)) _ (g35 it p (x.1,())) fun a=>
 opt.ask _ (p.cmp .neq a.2.1 (0:Int)) (
 opt.ret _ ([],(a.2.1,()))) (
 opt.need _ (p.and (p.leN (p.add 0 (p.len a.1)) (p.len a.1)) Bool.true)<|
 opt.bnd ((LD×Unit)) _ (g71 it p ((p.cut a.1 0 (p.len a.1)),())) fun b=>
 opt.need _ (p.plain b.1)<|
 opt.need _ (p.eqN 0 0)<|
 opt.need _ (p.eqN (p.len b.1) (p.len b.1))<|
 opt.bnd ((LD×Unit)) _ (g72 it p (b.1,())) fun c=>
 opt.need _ (p.eqN 0 0)<|
 opt.need _ (p.eqN (p.len a.1) (p.len a.1))<|
 opt.need _ (p.eqN 0 0)<|
 opt.need _ (p.eqN (p.len b.1) (p.len c.1))<|
 opt.need _ (p.eqN 0 0)<|
 opt.need _ (p.eqN (p.len b.1) (p.len c.1))<|
 opt.bnd ((LD×Unit)) _ (
 it _ _ (w70 it p) (a.1,(c.1,([],((p.ofNat (p.len a.1)),((0:Int),((0:Int),((p.ofNat (p.len b.1)),((0:Int),()))))))))) fun d=>
 opt.need _ (p.leN (p.add 0 (p.len d.1)) (p.len d.1))<|
 opt.ret _ ((p.cut d.1 0 (p.len d.1)),((0:Int),())))
def G37:=g37 it0
theorem ok37:CtrOk PG v1w (G37 std):=okF (a:=an37) (l:=la37) (gC v90 (gC ok72 (gC v91 (gC v48 (gN))))) (by kernel_rfl) fun _ _=>by kernel_rfl
end Go.Am
end
section
namespace Go.Am
open T11
variable {fl:List Int→Bool}
def toI (l:List Nat):List Int:=l.map fun (n:Nat)=>(n:Int)
theorem w45 (a b:List Nat):toI (a++b)=toI a++toI b:=by simp [toI]
theorem x1c (l:List Nat):(toI l).length=l.length:=by simp [toI]
theorem x8e {l:List Int} {j:Nat} (hj:j<l.length) (v:Int) (q:Nat):gI (l.set j v) q=if q=j then v else gI l q:=by
 rw [gI,gI,List.getD_eq_getElem?_getD,List.getD_eq_getElem?_getD,List.getElem?_set]
 by_cases h:j=q
 ·subst h; rw [if_pos rfl,if_pos hj,if_pos rfl]; rfl
 ·rw [if_neg h,if_neg (Ne.symm h)]
end Go.Am
end
section
namespace Go.Am
open Go.ChangeShapes Go.WideShapes Go.ChangeAt
theorem y6p {x:D} (h:DK (.int .i64) x):∃ n:Int,x= .int .i64 n∧(Lit.int IntKind.i64 n).wf=true:=by
 match x,h with
 | .int k n,h=>obtain ⟨rfl,h⟩:=h; exact ⟨n,rfl,h⟩
theorem w42 {x:D} (h:DK (.int .u8) x):∃ n:Int,x= .int .u8 n∧(Lit.int IntKind.u8 n).wf=true:=by
 match x,h with
 | .int k n,h=>obtain ⟨rfl,h⟩:=h; exact ⟨n,rfl,h⟩
end Go.Am
end
noncomputable section
namespace Go.Am
def w7q:Ctr:=
 ⟨64,[.list 1],[],[(.ret,⟨[(0, .tuple [.list 1, .bool])],[],1⟩)]⟩
def la64:List LA:=
 [⟨64,[false,true,false,true,true,true,true,false,true],0,⟨⟨[(0, .list 1),(4, .vec 0 1),(5, .int .i64),(6, .int .i64),(12, .vec 0 1),(13, .int .i64),(14, .int .i64)],[.row [ci]],58⟩,[((AX.exit 0),⟨[(4, .vec 0 1),(6, .int .i64)],[.row [ci]],58⟩)]⟩⟩]
def ja64:List JA:=
 [⟨64,[false,true,true,true,false,false,true,true,false,false,true,false,true,true,true,true,false,true],0,[(AX.normal,⟨[(0, .list 1),(4, .vec 0 1),(5, .int .i64),(6, .int .i64),(9, .int .i64),(12, .vec 0 1),(13, .int .i64),(14, .int .i64),(48, .bool)],[.row [ci]],58⟩)]⟩]
def v65:List CF:=
 [⟨w7o,G73⟩,⟨w7p,G71⟩]
def an64:Anns:=
 ⟨v65,ja64,[]⟩
def v8w (p:Prim):(LD×(LD×T7))→Option ((LD×(LD×T7))⊕(LD×T1)):=
 fun a=>opt.run _ (
 opt.ask _ (p.cmp .lss a.2.2.2.2.2.1 a.2.2.2.2.1) (
 opt.need _ (bif (p.cmp .geq a.2.2.2.2.2.1 (0:Int)) then (p.cmp .lss a.2.2.2.2.2.1 (p.ofNat (p.len a.1))) else Bool.false)<|
 opt.need _ (p.rowOk a.1 (p.add 0 (p.nat a.2.2.2.2.2.1)) [ci])<|
 opt.need _ (p.rowOk a.2.1 (p.nat (p.rdI a.1 (p.add 0 (p.nat a.2.2.2.2.2.1)) 0)) [ci])<|
 opt.need _ (p.cmp .geq (p.rdI a.1 (p.add 0 (p.nat a.2.2.2.2.2.1)) 0) (0:Int))<|
 opt.bnd ((LD×(LD×T36))) _ (
 opt.run ((LD×(LD×T36))) (
 opt.need _ (p.cmp .neq (2:Int) (0:Int))<|
 opt.ask _ (p.cmp .lss (p.ar .add .i64 a.2.2.1 (p.rdI a.2.1 (p.nat (p.rdI a.1 (p.add 0 (p.nat a.2.2.2.2.2.1)) 0)) 0)) (p.ar .quo .i64 (p.ar .mul .i64 (p.ar .add .i64 a.2.2.2.2.2.1 (1:Int)) (p.ar .sub .i64 (p.ar .add .i64 a.2.2.2.2.2.1 (1:Int)) (1:Int))) (2:Int))) (
 opt.need _ (p.eqN 0 0)<|
 opt.need _ (p.eqN (p.len a.1) (p.len a.1))<|
 opt.need _ (p.eqN 0 0)<|
 opt.need _ (p.eqN (p.len a.1) (p.len a.1))<|
 opt.ret _ (a.1,(a.2.1,((p.ar .add .i64 a.2.2.1 (p.rdI a.2.1 (p.nat (p.rdI a.1 (p.add 0 (p.nat a.2.2.2.2.2.1)) 0)) 0)),(a.2.2.2.1,((p.ar .add .i64 a.2.2.2.2.2.1 (1:Int)),(a.2.2.2.2.1,(a.2.2.2.2.2.1,(Bool.true,()))))))))) (
 opt.ask _ (p.cmp .eql (p.ar .add .i64 a.2.2.2.2.2.1 (1:Int)) (p.ofNat (p.len a.1))) (
 opt.need _ (p.cmp .neq (2:Int) (0:Int))<|
 opt.need _ (p.eqN 0 0)<|
 opt.need _ (p.eqN (p.len a.1) (p.len a.1))<|
 opt.need _ (p.eqN 0 0)<|
 opt.need _ (p.eqN (p.len a.1) (p.len a.1))<|
 opt.ret _ (a.1,(a.2.1,((p.ar .add .i64 a.2.2.1 (p.rdI a.2.1 (p.nat (p.rdI a.1 (p.add 0 (p.nat a.2.2.2.2.2.1)) 0)) 0)),(a.2.2.2.1,((p.ar .add .i64 a.2.2.2.2.2.1 (1:Int)),(a.2.2.2.2.1,(a.2.2.2.2.2.1,((p.cmp .neq (p.ar .add .i64 a.2.2.1 (p.rdI a.2.1 (p.nat (p.rdI a.1 (p.add 0 (p.nat a.2.2.2.2.2.1)) 0)) 0)) (p.ar .quo .i64 (p.ar .mul .i64 (p.ar .add .i64 a.2.2.2.2.2.1 (1:Int)) (p.ar .sub .i64 (p.ar .add .i64 a.2.2.2.2.2.1 (1:Int)) (1:Int))) (2:Int))),()))))))))) (
 opt.need _ (p.eqN 0 0)<|
 opt.need _ (p.eqN (p.len a.1) (p.len a.1))<|
 opt.need _ (p.eqN 0 0)<|
 opt.need _ (p.eqN (p.len a.1) (p.len a.1))<|
 opt.ret _ (a.1,(a.2.1,((p.ar .add .i64 a.2.2.1 (p.rdI a.2.1 (p.nat (p.rdI a.1 (p.add 0 (p.nat a.2.2.2.2.2.1)) 0)) 0)),(a.2.2.2.1,((p.ar .add .i64 a.2.2.2.2.2.1 (1:Int)),(a.2.2.2.2.1,(a.2.2.2.2.2.1,(Bool.false,())))))))))))) fun b=>
 opt.ask _ b.2.2.2.2.2.2.2.1 (
 opt.need _ (p.eqN 0 0)<|
 opt.need _ (p.eqN (p.len b.1) (p.len b.1))<|
 opt.ret _ (Sum.inr (b.1,(b.2.2.2.2.1,())))) (
 opt.need _ (p.eqN 0 0)<|
 opt.need _ (p.eqN (p.len b.1) (p.len b.1))<|
 opt.need _ (p.eqN 0 0)<|
 opt.need _ (p.eqN (p.len b.1) (p.len b.1))<|
 opt.ret _ (Sum.inl (b.1,(b.2.1,(b.2.2.1,(b.2.2.2.1,(b.2.2.2.2.2.1,((p.ar .add .i64 b.2.2.2.2.2.2.1 (1:Int)),()))))))))) (
 opt.need _ (p.eqN 0 0)<|
 opt.need _ (p.eqN (p.len a.1) (p.len a.1))<|
 opt.ret _ (Sum.inr (a.1,(a.2.2.2.1,())))))
def g64 (it:It):(p:Prim)→(LD×Unit)→Option ((LD×T8)):=
 fun p x=>
 opt.bnd ((LD×Unit)) _ (g71 it p (x.1,())) fun a=>
 opt.need _ (p.eqN 0 0)<|
 opt.need _ (p.eqN (p.len a.1) (p.len a.1))<|
 opt.need _ (p.eqN 0 0)<|
 opt.need _ (p.eqN (p.len a.1) (p.len a.1))<|
 opt.bnd ((LD×T1)) _ (
 it _ _ (v8w p) (a.1,(x.1,((0:Int),((-1:Int),((p.ofNat (p.len a.1)),((0:Int),()))))))) fun b=>
 opt.ask _ (p.cmp .lss b.2.1 (0:Int)) (
 opt.ret _ ([],(Bool.false,()))) (
 opt.need _ (p.and (p.cmp .geq (0:Int) (0:Int)) (p.and (p.cmp .leq (0:Int) b.2.1) (p.cmp .leq b.2.1 (p.ofNat (p.len b.1)))))<|
 opt.bnd ((LD×(LD×T5))) _ (g73 it p (b.1,((p.add 0 (p.nat (0:Int))),((p.sub (p.nat b.2.1) (p.nat (0:Int))),())))) fun c=>
 opt.need _ (p.leN (p.add 0 (p.len c.2.1)) (p.len c.2.1))<|
 opt.ret _ ((p.cut c.2.1 0 (p.len c.2.1)),(Bool.true,())))
def G64:=g64 it0
theorem v92:CtrOk PG w7q (G64 std):=okF (a:=an64) (l:=la64) (gC v90 (gC v91 (gN))) (by kernel_rfl) fun _ _=>by kernel_rfl
def v1z:Ctr:=
 ⟨31,[.list 1],[],[(.ret,⟨[(0, .tuple [.list 1, .int .i64])],[],1⟩)]⟩
def la31:List LA:=
 []
def ja31:List JA:=
 []
def v7l:List CF:=
 [⟨w7q,G64⟩,⟨w2w,G61⟩]
def an31:Anns:=
 ⟨v7l,ja31,[]⟩
def g31 (it:It):(p:Prim)→(LD×Unit)→Option ((LD×T1)):=
 fun p x=>
 opt.bnd T2 _ (g61 it p (x.1,())) fun a=>
 opt.ask _ (p.cmp .neq a.1 (0:Int)) (
 opt.ret _ ([],(a.1,()))) (
 opt.bnd ((LD×T8)) _ (g64 it p (x.1,())) fun b=>
 opt.ask _ (bif b.2.1 then Bool.false else Bool.true) (
 opt.ret _ ([],((5:Int),()))) (
 opt.ret _ (b.1,((0:Int),()))))
def G31:=g31 it0
theorem ok31:CtrOk PG v1z (G31 std):=okF (a:=an31) (l:=la31) (gC v92 (gC v43 (gN))) (by kernel_rfl) fun _ _=>by kernel_rfl
def v12:Ctr:=
 ⟨28,[.list 1, .list 1],[],[(.ret,⟨[(0, .int .i64)],[],1⟩)]⟩
def la28:List LA:=
 [⟨28,[false,true,false,true,true,true,true],0,⟨⟨[(0, .list 1),(6, .int .i64),(7, .int .i64),(22, .list 1),(23, .int .i64),(24, .int .i64)],[],57⟩,[((AX.exit 0),⟨[(0, .list 1),(6, .int .i64),(7, .int .i64)],[],57⟩)]⟩⟩]
def ja28:List JA:=
 [⟨28,[false,false,true,true,true,true,true],0,[(AX.normal,⟨[(56, .bool)],[],57⟩)]⟩]
def v7o:List CF:=
 [⟨w2x,G56⟩,⟨w2w,G61⟩]
def an28:Anns:=
 ⟨v7o,ja28,[]⟩
def v87 (p:Prim):(LD×T10)→Option ((LD×T10)⊕(LD×T3)):=
 fun a=>opt.run _ (
 opt.ask _ (p.cmp .lss a.2.2.2.2.2.1 a.2.2.2.2.1) (
 opt.need _ (p.rowOk a.2.2.2.1 (p.nat a.2.2.2.2.2.1) [ci])<|
 opt.need _ (p.cmp .geq a.2.2.2.2.2.1 (0:Int))<|
 opt.need _ (p.rowOk a.1 (p.nat (p.rdI a.2.2.2.1 (p.nat a.2.2.2.2.2.1) 0)) [ci])<|
 opt.need _ (p.cmp .geq (p.rdI a.2.2.2.1 (p.nat a.2.2.2.2.2.1) 0) (0:Int))<|
 opt.ret _ (Sum.inl (a.1,((p.ar .add .i64 a.2.1 (p.rdI a.1 (p.nat (p.rdI a.2.2.2.1 (p.nat a.2.2.2.2.2.1) 0)) 0)),(a.2.2.1,(a.2.2.2.1,(a.2.2.2.2.1,((p.ar .add .i64 a.2.2.2.2.2.1 (1:Int)),())))))))) (
 opt.ret _ (Sum.inr (a.1,(a.2.1,(a.2.2.1,()))))))
def g28 (it:It):(p:Prim)→(LD×(LD×Unit))→Option T2:=
 fun p x=>
 opt.bnd T2 _ (g61 it p (x.1,())) fun a=>
 opt.ask _ (p.cmp .neq a.1 (0:Int)) (
 opt.ret _ (a.1,())) (
 opt.bnd T0 _ (g56 it p (x.2.1,((p.ofNat (p.len x.1)),()))) fun b=>
 opt.ask _ (bif b.1 then Bool.false else Bool.true) (
 opt.ret _ ((3:Int),())) (
 opt.bnd ((LD×T3)) _ (
 it _ _ (v87 p) (x.1,((0:Int),((p.ofNat (p.len x.2.1)),(x.2.1,((p.ofNat (p.len x.2.1)),((0:Int),()))))))) fun c=>
 opt.bnd T0 _ (
 opt.run T0 (
 opt.need _ (p.cmp .neq (2:Int) (0:Int))<|
 opt.ask _ (p.cmp .lss c.2.1 (p.ar .quo .i64 (p.ar .mul .i64 c.2.2.1 (p.ar .sub .i64 c.2.2.1 (1:Int))) (2:Int))) (
 opt.ret _ (Bool.true,())) (
 opt.ask _ (p.cmp .eql c.2.2.1 (p.ofNat (p.len c.1))) (
 opt.need _ (p.cmp .neq (2:Int) (0:Int))<|
 opt.ret _ ((p.cmp .neq c.2.1 (p.ar .quo .i64 (p.ar .mul .i64 c.2.2.1 (p.ar .sub .i64 c.2.2.1 (1:Int))) (2:Int))),())) (
 opt.ret _ (Bool.false,()))))) fun d=>
 opt.ask _ d.1 (
 opt.ret _ ((0:Int),())) (
 opt.ret _ ((14:Int),()))))
def G28:=g28 it0
theorem ok28:CtrOk PG v12 (G28 std):=okF (a:=an28) (l:=la28) (gC v44 (gC v43 (gN))) (by kernel_rfl) fun _ _=>by kernel_rfl
end Go.Am
end
section
namespace Go.Am
open T11
def y4a (lo hi:Int) (l:List Int) (i:Nat):Prop:=gI l i<lo∨hi<gI l i
instance v4f (lo hi:Int) (l:List Int) (i:Nat):Decidable (y4a lo hi l i):=by unfold y4a; infer_instance
def inR (lo hi:Int) (l:List Int):Prop:=∀ i,i<l.length→¬ y4a lo hi l i
instance u0o (lo hi:Int) (l:List Int):Decidable (inR lo hi l):=by unfold inR; infer_instance
theorem w4s (lo hi:Int) (l:List Int) (hl:l.length≤1000000):G52 std (lo,(hi,(z2i l,())))=some (decide (inR lo hi l),()):=by
 unfold G52
 have key:=z3s (b:=x2j std) l.length (fun i=>(lo,(hi,(z2i l,((l.length:Int),((i:Int),())))))) (fun i=>decide (y4a lo hi l i)) (fun i=> .inl (lo,(hi,((i:Int),())))) (.inr (lo,(hi,()))) (fun i hi'=>by
  have hx:=v0k hi'
  have hw:=z3h (i:=i) (by omega)
  have hlt:(i:Int)<l.length:=by omega
  have h0:(0:Int)≤i:=by omega
  by_cases a:gI l i<lo
  ·have hb:y4a lo hi l i:= .inl a
   simp only [hb,x2j,z2c,z2d,z2i,z0z,z3c,z5o,z1k,z08,eq_self,not_true,not_false_eq_true,decide_true,decide_false,Bool.not_true,Bool.not_false,Int.reduceLT,Int.reduceNeg,Int.reduceGT,cond_true,cond_false,Int.reduceEq,Int.reduceLE,Int.reduceGE,hx,hlt,h0,ge_iff_le,a]
  ·by_cases b:hi<gI l i
   ·have hb:y4a lo hi l i:= .inr b
    simp only [hb,x2j,z2c,z2d,z2i,z0z,z3c,z5o,z1k,z08,eq_self,not_true,not_false_eq_true,decide_true,decide_false,Bool.not_true,Bool.not_false,Int.reduceLT,Int.reduceNeg,Int.reduceGT,cond_true,cond_false,Int.reduceEq,Int.reduceLE,Int.reduceGE,hx,hlt,h0,ge_iff_le,a,b,gt_iff_lt]
   ·have hb:¬ y4a lo hi l i:=by rintro (h|h)<;>omega
    simp only [hb,x2j,z2c,z2d,z2i,z0z,z3c,z5o,z1k,z08,eq_self,not_true,not_false_eq_true,decide_true,decide_false,Bool.not_true,Bool.not_false,Int.reduceLT,Int.reduceNeg,Int.reduceGT,cond_true,cond_false,Int.reduceEq,Int.reduceLE,Int.reduceGE,hx,hlt,h0,ge_iff_le,a,b,gt_iff_lt,z0i,hw]) (by
  have hn:¬ (l.length:Int)<l.length:=by omega
  simp only [x2j,z2c,z2d,eq_self,not_true,not_false_eq_true,decide_true,decide_false,Bool.not_true,Bool.not_false,Int.reduceLT,Int.reduceNeg,Int.reduceGT,cond_true,cond_false,Int.reduceEq,Int.reduceLE,Int.reduceGE,hn])
 have key:∃ r,it0 _ _ (x2j std) (lo,(hi,(z2i l,((l.length:Int),((0:Int),())))))=some r∧((∃ i:Nat,r= .inl (lo,(hi,((i:Int),())))∧¬ inR lo hi l)∨(r= .inr (lo,(hi,()))∧inR lo hi l)):=by
  rcases key with ⟨i,h1,h2,_,h4⟩|⟨h1,h2⟩
  ·exact ⟨_,h4, .inl ⟨i,rfl,fun h=>h i h1 (of_decide_eq_true h2)⟩⟩
  ·exact ⟨_,h2, .inr ⟨rfl,fun i hi=>of_decide_eq_false (h1 i hi)⟩⟩
 obtain ⟨r,hr,⟨i,rfl,h⟩|⟨rfl,h⟩⟩:=key
 ·have h0:(i:Int)≥0:=by omega
  simp only [g52,z2c,z2d,eq_self,not_true,not_false_eq_true,decide_true,decide_false,Bool.not_true,Bool.not_false,Int.reduceLT,Int.reduceNeg,Int.reduceGT,cond_true,cond_false,Int.reduceEq,Int.reduceLE,Int.reduceGE,z9k,hr,h,h0]
 ·have h0:¬ (-1:Int)≥0:=by decide
  simp only [g52,z2c,z2d,eq_self,not_true,not_false_eq_true,decide_true,decide_false,Bool.not_true,Bool.not_false,Int.reduceLT,Int.reduceNeg,Int.reduceGT,cond_true,cond_false,Int.reduceEq,Int.reduceLE,Int.reduceGE,z9k,hr,h,h0]
end Go.Am
end
noncomputable section
namespace Go.Am
def y8i:Ctr:=
 ⟨105,[.sl 0 1, .int .i64, .int .i64, .int .i64, .clo 67 [] [.bptr 1 0]],[.row [ci], .box [.sl 2 1], .row [ci]],[]⟩
def v3r:Prim→Tup (y8i).scs→Option (STup (scss (y8i).outs)):=
 fun _ _=>none
theorem x5p:z13 Go.Proofs.Try.prog 105:=enters_auto (b:=_) rfl (by kernel_rfl)
theorem w9e:CtrOk Go.Proofs.Try.prog y8i (v3r std):=⟨x5p,fun x y h=>by cases h⟩
def x9g:Ctr:=
 ⟨104,[.sl 0 1, .int .i64, .int .i64, .clo 67 [] [.bptr 1 0]],[.row [ci], .box [.sl 2 1], .row [ci]],[(.ret,⟨[(0, .tuple [])],[.row [ci], .box [.sl 2 1], .row [ci]],1⟩)]⟩
def w93:List LA:=
 [⟨104,[false,true],3,⟨⟨[(0, .sl 0 1),(1, .int .i64),(2, .int .i64),(3, .clo 67 [] [.bptr 1 0]),(8, .int .i64)],[.row [ci], .box [.sl 2 1], .row [ci]],53⟩,[((AX.exit 0),⟨[],[.row [ci], .box [.sl 2 1], .row [ci]],53⟩)]⟩⟩,
 ⟨104,[false,true,false,false,true,false,false,true],3,⟨⟨[(0, .sl 0 1),(1, .int .i64),(2, .int .i64),(3, .clo 67 [] [.bptr 1 0]),(8, .int .i64),(9, .int .i64)],[.row [ci], .box [.sl 2 1], .row [ci]],53⟩,[((AX.exit 2),⟨[(0, .sl 0 1),(1, .int .i64),(2, .int .i64),(3, .clo 67 [] [.bptr 1 0]),(8, .int .i64)],[.row [ci], .box [.sl 2 1], .row [ci]],53⟩)]⟩⟩]
def w94:List JA:=
 [⟨68,[true,false,true,true,true],3,[(AX.ret,⟨[(4, .int .i64)],[.row [ci], .box [.sl 2 1], .row [ci]],20⟩),(AX.normal,⟨[(0, .int .i64),(1, .int .i64),(6, .bool)],[.row [ci], .box [.sl 2 1], .row [ci]],20⟩)]⟩]
def w68:List CF:=
 []
def v3e:Anns:=
 ⟨w68,w94,[]⟩
def w8c (p:Prim):(LD×(LD×T13))→Option ((LD×(LD×T13))⊕(LD×(LD×T11))):=
 fun a=>opt.run _ (
 opt.ask _ (p.cmp .gtr a.2.2.2.2.2.2.2.2.2.1 a.2.2.2.2.2.2.1) (
 opt.need _ (bif (p.cmp .geq a.2.2.2.2.2.2.2.2.2.1 (0:Int)) then (p.cmp .lss a.2.2.2.2.2.2.2.2.2.1 (p.ofNat a.2.2.2.2.2.1)) else Bool.false)<|
 opt.need _ (p.rowOk a.1 (p.add a.2.2.2.2.1 (p.nat a.2.2.2.2.2.2.2.2.2.1)) [ci])<|
 opt.need _ (bif (p.cmp .geq (p.ar .sub .i64 a.2.2.2.2.2.2.2.2.2.1 (1:Int)) (0:Int)) then (p.cmp .lss (p.ar .sub .i64 a.2.2.2.2.2.2.2.2.2.1 (1:Int)) (p.ofNat a.2.2.2.2.2.1)) else Bool.false)<|
 opt.need _ (p.rowOk a.1 (p.add a.2.2.2.2.1 (p.nat (p.ar .sub .i64 a.2.2.2.2.2.2.2.2.2.1 (1:Int)))) [ci])<|
 opt.need _ (bif (p.cmp .geq (p.rdI a.1 (p.add a.2.2.2.2.1 (p.nat a.2.2.2.2.2.2.2.2.2.1)) 0) (0:Int)) then (p.cmp .lss (p.rdI a.1 (p.add a.2.2.2.2.1 (p.nat a.2.2.2.2.2.2.2.2.2.1)) 0) (p.ofNat a.2.2.2.1)) else Bool.false)<|
 opt.need _ (p.rowOk a.2.1 (p.add a.2.2.1 (p.nat (p.rdI a.1 (p.add a.2.2.2.2.1 (p.nat a.2.2.2.2.2.2.2.2.2.1)) 0))) [ci])<|
 opt.need _ (bif (p.cmp .geq (p.rdI a.1 (p.add a.2.2.2.2.1 (p.nat (p.ar .sub .i64 a.2.2.2.2.2.2.2.2.2.1 (1:Int)))) 0) (0:Int)) then (p.cmp .lss (p.rdI a.1 (p.add a.2.2.2.2.1 (p.nat (p.ar .sub .i64 a.2.2.2.2.2.2.2.2.2.1 (1:Int)))) 0) (p.ofNat a.2.2.2.1)) else Bool.false)<|
 opt.need _ (p.rowOk a.2.1 (p.add a.2.2.1 (p.nat (p.rdI a.1 (p.add a.2.2.2.2.1 (p.nat (p.ar .sub .i64 a.2.2.2.2.2.2.2.2.2.1 (1:Int)))) 0))) [ci])<|
 opt.alt ((LD×(LD×(Nat×(Nat×(Int×Unit)))))) ((LD×(LD×T27))) _ (
 opt.run (((LD×(LD×(Nat×(Nat×(Int×Unit)))))⊕(LD×(LD×T27)))) (
 opt.ask _ (p.cmp .neq (p.rdI a.2.1 (p.add a.2.2.1 (p.nat (p.rdI a.1 (p.add a.2.2.2.2.1 (p.nat a.2.2.2.2.2.2.2.2.2.1)) 0))) 0) (p.rdI a.2.1 (p.add a.2.2.1 (p.nat (p.rdI a.1 (p.add a.2.2.2.2.1 (p.nat a.2.2.2.2.2.2.2.2.2.1)) 0))) 0)) (
 opt.ask _ (p.cmp .neq (p.rdI a.2.1 (p.add a.2.2.1 (p.nat (p.rdI a.1 (p.add a.2.2.2.2.1 (p.nat (p.ar .sub .i64 a.2.2.2.2.2.2.2.2.2.1 (1:Int)))) 0))) 0) (p.rdI a.2.1 (p.add a.2.2.1 (p.nat (p.rdI a.1 (p.add a.2.2.2.2.1 (p.nat (p.ar .sub .i64 a.2.2.2.2.2.2.2.2.2.1 (1:Int)))) 0))) 0)) (
 opt.ret _ (Sum.inl (a.1,(a.2.1,(a.2.2.1,(a.2.2.2.1,((0:Int),()))))))) (
 opt.ret _ (Sum.inl (a.1,(a.2.1,(a.2.2.1,(a.2.2.2.1,((-1:Int),())))))))) (
 opt.ret _ (Sum.inr (a.1,(a.2.1,(a.2.2.1,(a.2.2.2.1,((p.rdI a.2.1 (p.add a.2.2.1 (p.nat (p.rdI a.1 (p.add a.2.2.2.2.1 (p.nat a.2.2.2.2.2.2.2.2.2.1)) 0))) 0),((p.rdI a.2.1 (p.add a.2.2.1 (p.nat (p.rdI a.1 (p.add a.2.2.2.2.1 (p.nat (p.ar .sub .i64 a.2.2.2.2.2.2.2.2.2.1 (1:Int)))) 0))) 0),((p.cmp .neq (p.rdI a.2.1 (p.add a.2.2.1 (p.nat (p.rdI a.1 (p.add a.2.2.2.2.1 (p.nat (p.ar .sub .i64 a.2.2.2.2.2.2.2.2.2.1 (1:Int)))) 0))) 0) (p.rdI a.2.1 (p.add a.2.2.1 (p.nat (p.rdI a.1 (p.add a.2.2.2.2.1 (p.nat (p.ar .sub .i64 a.2.2.2.2.2.2.2.2.2.1 (1:Int)))) 0))) 0)),()))))))))))) (fun b=>
 opt.ask _ (p.cmp .lss b.2.2.2.2.1 (0:Int)) (
 opt.need _ (bif (p.cmp .geq (p.ar .sub .i64 a.2.2.2.2.2.2.2.2.2.1 (1:Int)) (0:Int)) then (p.cmp .lss (p.ar .sub .i64 a.2.2.2.2.2.2.2.2.2.1 (1:Int)) (p.ofNat a.2.2.2.2.2.1)) else Bool.false)<|
 opt.need _ (p.rowOk b.1 (p.add a.2.2.2.2.1 (p.nat (p.ar .sub .i64 a.2.2.2.2.2.2.2.2.2.1 (1:Int)))) [ci])<|
 opt.need _ (bif (p.cmp .geq a.2.2.2.2.2.2.2.2.2.1 (0:Int)) then (p.cmp .lss a.2.2.2.2.2.2.2.2.2.1 (p.ofNat a.2.2.2.2.2.1)) else Bool.false)<|
 opt.need _ (p.rowOk b.1 (p.add a.2.2.2.2.1 (p.nat a.2.2.2.2.2.2.2.2.2.1)) [ci])<|
 opt.need _ (bif (p.cmp .geq a.2.2.2.2.2.2.2.2.2.1 (0:Int)) then (p.cmp .lss a.2.2.2.2.2.2.2.2.2.1 (p.ofNat a.2.2.2.2.2.1)) else Bool.false)<|
 opt.need _ (p.rowOk b.1 (p.add a.2.2.2.2.1 (p.nat a.2.2.2.2.2.2.2.2.2.1)) [ci])<|
 opt.need _ (bif (p.cmp .geq (p.ar .sub .i64 a.2.2.2.2.2.2.2.2.2.1 (1:Int)) (0:Int)) then (p.cmp .lss (p.ar .sub .i64 a.2.2.2.2.2.2.2.2.2.1 (1:Int)) (p.ofNat a.2.2.2.2.2.1)) else Bool.false)<|
 opt.need _ (p.rowOk (p.set b.1 (p.add a.2.2.2.2.1 (p.nat a.2.2.2.2.2.2.2.2.2.1)) [(D.int .i64 (p.rdI b.1 (p.add a.2.2.2.2.1 (p.nat (p.ar .sub .i64 a.2.2.2.2.2.2.2.2.2.1 (1:Int)))) 0))]) (p.add a.2.2.2.2.1 (p.nat (p.ar .sub .i64 a.2.2.2.2.2.2.2.2.2.1 (1:Int)))) [ci])<|
 opt.ret _ (Sum.inl ((p.set (p.set b.1 (p.add a.2.2.2.2.1 (p.nat a.2.2.2.2.2.2.2.2.2.1)) [(D.int .i64 (p.rdI b.1 (p.add a.2.2.2.2.1 (p.nat (p.ar .sub .i64 a.2.2.2.2.2.2.2.2.2.1 (1:Int)))) 0))]) (p.add a.2.2.2.2.1 (p.nat (p.ar .sub .i64 a.2.2.2.2.2.2.2.2.2.1 (1:Int)))) [(D.int .i64 (p.rdI b.1 (p.add a.2.2.2.2.1 (p.nat a.2.2.2.2.2.2.2.2.2.1)) 0))]),(b.2.1,(b.2.2.1,(b.2.2.2.1,(a.2.2.2.2.1,(a.2.2.2.2.2.1,(a.2.2.2.2.2.2.1,(a.2.2.2.2.2.2.2.1,(a.2.2.2.2.2.2.2.2.1,((p.ar .sub .i64 a.2.2.2.2.2.2.2.2.2.1 (1:Int)),())))))))))))) (
 opt.ret _ (Sum.inr (b.1,(b.2.1,(b.2.2.1,(b.2.2.2.1,(a.2.2.2.2.1,(a.2.2.2.2.2.1,(a.2.2.2.2.2.2.1,(a.2.2.2.2.2.2.2.1,(a.2.2.2.2.2.2.2.2.1,())))))))))))) (fun c=>
 opt.bnd ((LD×(LD×T27))) _ (some c) fun d=>
 opt.ask _ d.2.2.2.2.2.2.1 (
 opt.ask _ (p.cmp .lss (1:Int) (0:Int)) (
 opt.need _ (bif (p.cmp .geq (p.ar .sub .i64 a.2.2.2.2.2.2.2.2.2.1 (1:Int)) (0:Int)) then (p.cmp .lss (p.ar .sub .i64 a.2.2.2.2.2.2.2.2.2.1 (1:Int)) (p.ofNat a.2.2.2.2.2.1)) else Bool.false)<|
 opt.need _ (p.rowOk d.1 (p.add a.2.2.2.2.1 (p.nat (p.ar .sub .i64 a.2.2.2.2.2.2.2.2.2.1 (1:Int)))) [ci])<|
 opt.need _ (bif (p.cmp .geq a.2.2.2.2.2.2.2.2.2.1 (0:Int)) then (p.cmp .lss a.2.2.2.2.2.2.2.2.2.1 (p.ofNat a.2.2.2.2.2.1)) else Bool.false)<|
 opt.need _ (p.rowOk d.1 (p.add a.2.2.2.2.1 (p.nat a.2.2.2.2.2.2.2.2.2.1)) [ci])<|
 opt.need _ (bif (p.cmp .geq a.2.2.2.2.2.2.2.2.2.1 (0:Int)) then (p.cmp .lss a.2.2.2.2.2.2.2.2.2.1 (p.ofNat a.2.2.2.2.2.1)) else Bool.false)<|
 opt.need _ (p.rowOk d.1 (p.add a.2.2.2.2.1 (p.nat a.2.2.2.2.2.2.2.2.2.1)) [ci])<|
 opt.need _ (bif (p.cmp .geq (p.ar .sub .i64 a.2.2.2.2.2.2.2.2.2.1 (1:Int)) (0:Int)) then (p.cmp .lss (p.ar .sub .i64 a.2.2.2.2.2.2.2.2.2.1 (1:Int)) (p.ofNat a.2.2.2.2.2.1)) else Bool.false)<|
 opt.need _ (p.rowOk (p.set d.1 (p.add a.2.2.2.2.1 (p.nat a.2.2.2.2.2.2.2.2.2.1)) [(D.int .i64 (p.rdI d.1 (p.add a.2.2.2.2.1 (p.nat (p.ar .sub .i64 a.2.2.2.2.2.2.2.2.2.1 (1:Int)))) 0))]) (p.add a.2.2.2.2.1 (p.nat (p.ar .sub .i64 a.2.2.2.2.2.2.2.2.2.1 (1:Int)))) [ci])<|
 opt.ret _ (Sum.inl ((p.set (p.set d.1 (p.add a.2.2.2.2.1 (p.nat a.2.2.2.2.2.2.2.2.2.1)) [(D.int .i64 (p.rdI d.1 (p.add a.2.2.2.2.1 (p.nat (p.ar .sub .i64 a.2.2.2.2.2.2.2.2.2.1 (1:Int)))) 0))]) (p.add a.2.2.2.2.1 (p.nat (p.ar .sub .i64 a.2.2.2.2.2.2.2.2.2.1 (1:Int)))) [(D.int .i64 (p.rdI d.1 (p.add a.2.2.2.2.1 (p.nat a.2.2.2.2.2.2.2.2.2.1)) 0))]),(d.2.1,(d.2.2.1,(d.2.2.2.1,(a.2.2.2.2.1,(a.2.2.2.2.2.1,(a.2.2.2.2.2.2.1,(a.2.2.2.2.2.2.2.1,(a.2.2.2.2.2.2.2.2.1,((p.ar .sub .i64 a.2.2.2.2.2.2.2.2.2.1 (1:Int)),())))))))))))) (
 opt.ret _ (Sum.inr (d.1,(d.2.1,(d.2.2.1,(d.2.2.2.1,(a.2.2.2.2.1,(a.2.2.2.2.2.1,(a.2.2.2.2.2.2.1,(a.2.2.2.2.2.2.2.1,(a.2.2.2.2.2.2.2.2.1,())))))))))))) (
 opt.ask _ (p.cmp .lss d.2.2.2.2.1 d.2.2.2.2.2.1) (
 opt.ask _ (p.cmp .lss (-1:Int) (0:Int)) (
 opt.need _ (bif (p.cmp .geq (p.ar .sub .i64 a.2.2.2.2.2.2.2.2.2.1 (1:Int)) (0:Int)) then (p.cmp .lss (p.ar .sub .i64 a.2.2.2.2.2.2.2.2.2.1 (1:Int)) (p.ofNat a.2.2.2.2.2.1)) else Bool.false)<|
 opt.need _ (p.rowOk d.1 (p.add a.2.2.2.2.1 (p.nat (p.ar .sub .i64 a.2.2.2.2.2.2.2.2.2.1 (1:Int)))) [ci])<|
 opt.need _ (bif (p.cmp .geq a.2.2.2.2.2.2.2.2.2.1 (0:Int)) then (p.cmp .lss a.2.2.2.2.2.2.2.2.2.1 (p.ofNat a.2.2.2.2.2.1)) else Bool.false)<|
 opt.need _ (p.rowOk d.1 (p.add a.2.2.2.2.1 (p.nat a.2.2.2.2.2.2.2.2.2.1)) [ci])<|
 opt.need _ (bif (p.cmp .geq a.2.2.2.2.2.2.2.2.2.1 (0:Int)) then (p.cmp .lss a.2.2.2.2.2.2.2.2.2.1 (p.ofNat a.2.2.2.2.2.1)) else Bool.false)<|
 opt.need _ (p.rowOk d.1 (p.add a.2.2.2.2.1 (p.nat a.2.2.2.2.2.2.2.2.2.1)) [ci])<|
 opt.need _ (bif (p.cmp .geq (p.ar .sub .i64 a.2.2.2.2.2.2.2.2.2.1 (1:Int)) (0:Int)) then (p.cmp .lss (p.ar .sub .i64 a.2.2.2.2.2.2.2.2.2.1 (1:Int)) (p.ofNat a.2.2.2.2.2.1)) else Bool.false)<|
 opt.need _ (p.rowOk (p.set d.1 (p.add a.2.2.2.2.1 (p.nat a.2.2.2.2.2.2.2.2.2.1)) [(D.int .i64 (p.rdI d.1 (p.add a.2.2.2.2.1 (p.nat (p.ar .sub .i64 a.2.2.2.2.2.2.2.2.2.1 (1:Int)))) 0))]) (p.add a.2.2.2.2.1 (p.nat (p.ar .sub .i64 a.2.2.2.2.2.2.2.2.2.1 (1:Int)))) [ci])<|
 opt.ret _ (Sum.inl ((p.set (p.set d.1 (p.add a.2.2.2.2.1 (p.nat a.2.2.2.2.2.2.2.2.2.1)) [(D.int .i64 (p.rdI d.1 (p.add a.2.2.2.2.1 (p.nat (p.ar .sub .i64 a.2.2.2.2.2.2.2.2.2.1 (1:Int)))) 0))]) (p.add a.2.2.2.2.1 (p.nat (p.ar .sub .i64 a.2.2.2.2.2.2.2.2.2.1 (1:Int)))) [(D.int .i64 (p.rdI d.1 (p.add a.2.2.2.2.1 (p.nat a.2.2.2.2.2.2.2.2.2.1)) 0))]),(d.2.1,(d.2.2.1,(d.2.2.2.1,(a.2.2.2.2.1,(a.2.2.2.2.2.1,(a.2.2.2.2.2.2.1,(a.2.2.2.2.2.2.2.1,(a.2.2.2.2.2.2.2.2.1,((p.ar .sub .i64 a.2.2.2.2.2.2.2.2.2.1 (1:Int)),())))))))))))) (
 opt.ret _ (Sum.inr (d.1,(d.2.1,(d.2.2.1,(d.2.2.2.1,(a.2.2.2.2.1,(a.2.2.2.2.2.1,(a.2.2.2.2.2.2.1,(a.2.2.2.2.2.2.2.1,(a.2.2.2.2.2.2.2.2.1,())))))))))))) (
 opt.ask _ (p.cmp .gtr d.2.2.2.2.1 d.2.2.2.2.2.1) (
 opt.ask _ (p.cmp .lss (1:Int) (0:Int)) (
 opt.need _ (bif (p.cmp .geq (p.ar .sub .i64 a.2.2.2.2.2.2.2.2.2.1 (1:Int)) (0:Int)) then (p.cmp .lss (p.ar .sub .i64 a.2.2.2.2.2.2.2.2.2.1 (1:Int)) (p.ofNat a.2.2.2.2.2.1)) else Bool.false)<|
 opt.need _ (p.rowOk d.1 (p.add a.2.2.2.2.1 (p.nat (p.ar .sub .i64 a.2.2.2.2.2.2.2.2.2.1 (1:Int)))) [ci])<|
 opt.need _ (bif (p.cmp .geq a.2.2.2.2.2.2.2.2.2.1 (0:Int)) then (p.cmp .lss a.2.2.2.2.2.2.2.2.2.1 (p.ofNat a.2.2.2.2.2.1)) else Bool.false)<|
 opt.need _ (p.rowOk d.1 (p.add a.2.2.2.2.1 (p.nat a.2.2.2.2.2.2.2.2.2.1)) [ci])<|
 opt.need _ (bif (p.cmp .geq a.2.2.2.2.2.2.2.2.2.1 (0:Int)) then (p.cmp .lss a.2.2.2.2.2.2.2.2.2.1 (p.ofNat a.2.2.2.2.2.1)) else Bool.false)<|
 opt.need _ (p.rowOk d.1 (p.add a.2.2.2.2.1 (p.nat a.2.2.2.2.2.2.2.2.2.1)) [ci])<|
 opt.need _ (bif (p.cmp .geq (p.ar .sub .i64 a.2.2.2.2.2.2.2.2.2.1 (1:Int)) (0:Int)) then (p.cmp .lss (p.ar .sub .i64 a.2.2.2.2.2.2.2.2.2.1 (1:Int)) (p.ofNat a.2.2.2.2.2.1)) else Bool.false)<|
 opt.need _ (p.rowOk (p.set d.1 (p.add a.2.2.2.2.1 (p.nat a.2.2.2.2.2.2.2.2.2.1)) [(D.int .i64 (p.rdI d.1 (p.add a.2.2.2.2.1 (p.nat (p.ar .sub .i64 a.2.2.2.2.2.2.2.2.2.1 (1:Int)))) 0))]) (p.add a.2.2.2.2.1 (p.nat (p.ar .sub .i64 a.2.2.2.2.2.2.2.2.2.1 (1:Int)))) [ci])<|
 opt.ret _ (Sum.inl ((p.set (p.set d.1 (p.add a.2.2.2.2.1 (p.nat a.2.2.2.2.2.2.2.2.2.1)) [(D.int .i64 (p.rdI d.1 (p.add a.2.2.2.2.1 (p.nat (p.ar .sub .i64 a.2.2.2.2.2.2.2.2.2.1 (1:Int)))) 0))]) (p.add a.2.2.2.2.1 (p.nat (p.ar .sub .i64 a.2.2.2.2.2.2.2.2.2.1 (1:Int)))) [(D.int .i64 (p.rdI d.1 (p.add a.2.2.2.2.1 (p.nat a.2.2.2.2.2.2.2.2.2.1)) 0))]),(d.2.1,(d.2.2.1,(d.2.2.2.1,(a.2.2.2.2.1,(a.2.2.2.2.2.1,(a.2.2.2.2.2.2.1,(a.2.2.2.2.2.2.2.1,(a.2.2.2.2.2.2.2.2.1,((p.ar .sub .i64 a.2.2.2.2.2.2.2.2.2.1 (1:Int)),())))))))))))) (
 opt.ret _ (Sum.inr (d.1,(d.2.1,(d.2.2.1,(d.2.2.2.1,(a.2.2.2.2.1,(a.2.2.2.2.2.1,(a.2.2.2.2.2.2.1,(a.2.2.2.2.2.2.2.1,(a.2.2.2.2.2.2.2.2.1,())))))))))))) (
 opt.ask _ (p.cmp .lss (0:Int) (0:Int)) (
 opt.need _ (bif (p.cmp .geq (p.ar .sub .i64 a.2.2.2.2.2.2.2.2.2.1 (1:Int)) (0:Int)) then (p.cmp .lss (p.ar .sub .i64 a.2.2.2.2.2.2.2.2.2.1 (1:Int)) (p.ofNat a.2.2.2.2.2.1)) else Bool.false)<|
 opt.need _ (p.rowOk d.1 (p.add a.2.2.2.2.1 (p.nat (p.ar .sub .i64 a.2.2.2.2.2.2.2.2.2.1 (1:Int)))) [ci])<|
 opt.need _ (bif (p.cmp .geq a.2.2.2.2.2.2.2.2.2.1 (0:Int)) then (p.cmp .lss a.2.2.2.2.2.2.2.2.2.1 (p.ofNat a.2.2.2.2.2.1)) else Bool.false)<|
 opt.need _ (p.rowOk d.1 (p.add a.2.2.2.2.1 (p.nat a.2.2.2.2.2.2.2.2.2.1)) [ci])<|
 opt.need _ (bif (p.cmp .geq a.2.2.2.2.2.2.2.2.2.1 (0:Int)) then (p.cmp .lss a.2.2.2.2.2.2.2.2.2.1 (p.ofNat a.2.2.2.2.2.1)) else Bool.false)<|
 opt.need _ (p.rowOk d.1 (p.add a.2.2.2.2.1 (p.nat a.2.2.2.2.2.2.2.2.2.1)) [ci])<|
 opt.need _ (bif (p.cmp .geq (p.ar .sub .i64 a.2.2.2.2.2.2.2.2.2.1 (1:Int)) (0:Int)) then (p.cmp .lss (p.ar .sub .i64 a.2.2.2.2.2.2.2.2.2.1 (1:Int)) (p.ofNat a.2.2.2.2.2.1)) else Bool.false)<|
 opt.need _ (p.rowOk (p.set d.1 (p.add a.2.2.2.2.1 (p.nat a.2.2.2.2.2.2.2.2.2.1)) [(D.int .i64 (p.rdI d.1 (p.add a.2.2.2.2.1 (p.nat (p.ar .sub .i64 a.2.2.2.2.2.2.2.2.2.1 (1:Int)))) 0))]) (p.add a.2.2.2.2.1 (p.nat (p.ar .sub .i64 a.2.2.2.2.2.2.2.2.2.1 (1:Int)))) [ci])<|
 opt.ret _ (Sum.inl ((p.set (p.set d.1 (p.add a.2.2.2.2.1 (p.nat a.2.2.2.2.2.2.2.2.2.1)) [(D.int .i64 (p.rdI d.1 (p.add a.2.2.2.2.1 (p.nat (p.ar .sub .i64 a.2.2.2.2.2.2.2.2.2.1 (1:Int)))) 0))]) (p.add a.2.2.2.2.1 (p.nat (p.ar .sub .i64 a.2.2.2.2.2.2.2.2.2.1 (1:Int)))) [(D.int .i64 (p.rdI d.1 (p.add a.2.2.2.2.1 (p.nat a.2.2.2.2.2.2.2.2.2.1)) 0))]),(d.2.1,(d.2.2.1,(d.2.2.2.1,(a.2.2.2.2.1,(a.2.2.2.2.2.1,(a.2.2.2.2.2.2.1,(a.2.2.2.2.2.2.2.1,(a.2.2.2.2.2.2.2.2.1,((p.ar .sub .i64 a.2.2.2.2.2.2.2.2.2.1 (1:Int)),())))))))))))) (
 opt.ret _ (Sum.inr (d.1,(d.2.1,(d.2.2.1,(d.2.2.2.1,(a.2.2.2.2.1,(a.2.2.2.2.2.1,(a.2.2.2.2.2.2.1,(a.2.2.2.2.2.2.2.1,(a.2.2.2.2.2.2.2.2.1,())))))))))))))))) (
 opt.ret _ (Sum.inr (a.1,(a.2.1,(a.2.2.1,(a.2.2.2.1,(a.2.2.2.2.1,(a.2.2.2.2.2.1,(a.2.2.2.2.2.2.1,(a.2.2.2.2.2.2.2.1,(a.2.2.2.2.2.2.2.2.1,()))))))))))))
def x2h (it:It) (p:Prim):(LD×(LD×T11))→Option ((LD×(LD×T11))⊕(LD×(LD×T5))):=
 fun a=>opt.run _ (
 opt.ask _ (p.cmp .lss a.2.2.2.2.2.2.2.2.1 a.2.2.2.2.2.2.2.1) (
 opt.bnd ((LD×(LD×T11))) _ (
 it _ _ (w8c p) (a.1,(a.2.1,(a.2.2.1,(a.2.2.2.1,(a.2.2.2.2.1,(a.2.2.2.2.2.1,(a.2.2.2.2.2.2.1,(a.2.2.2.2.2.2.2.1,(a.2.2.2.2.2.2.2.2.1,(a.2.2.2.2.2.2.2.2.1,()))))))))))) fun b=>
 opt.ret _ (Sum.inl (b.1,(b.2.1,(b.2.2.1,(b.2.2.2.1,(b.2.2.2.2.1,(b.2.2.2.2.2.1,(b.2.2.2.2.2.2.1,(b.2.2.2.2.2.2.2.1,((p.ar .add .i64 b.2.2.2.2.2.2.2.2.1 (1:Int)),()))))))))))) (
 opt.ret _ (Sum.inr (a.1,(a.2.1,(a.2.2.1,(a.2.2.2.1,())))))))
def x8g (it:It):(p:Prim)→(LD×(LD×T17))→Option ((LD×(LD×T5))):=
 fun p x=>
 opt.bnd ((LD×(LD×T5))) _ (
 it _ _ (x2h it p) (x.1,(x.2.1,(x.2.2.1,(x.2.2.2.1,(x.2.2.2.2.1,(x.2.2.2.2.2.1,(x.2.2.2.2.2.2.1,(x.2.2.2.2.2.2.2.1,((p.ar .add .i64 x.2.2.2.2.2.2.1 (1:Int)),())))))))))) fun a=>
 opt.ret _ (a.1,(a.2.1,(a.2.2.1,(a.2.2.2.1,()))))
def v3p:=x8g it0
theorem w9f:CtrOk PG x9g (v3p std):=okF (a:=v3e) (l:=w93) (gN) (by kernel_rfl) fun _ _=>by kernel_rfl
def w4c:Ctr:=
 ⟨86,[.sl 0 1, .int .i64, .clo 67 [] [.bptr 1 0]],[.row [ci], .box [.sl 2 1], .row [ci]],[(.ret,⟨[(0, .tuple [])],[.row [ci], .box [.sl 2 1], .row [ci]],1⟩)]⟩
def v52:List LA:=
 [⟨86,[false,false,true,true],3,⟨⟨[(0, .sl 0 1),(1, .int .i64),(2, .clo 67 [] [.bptr 1 0]),(6, .int .i64),(7, .int .i64),(8, .int .i64)],[.row [ci], .box [.sl 2 1], .row [ci]],63⟩,[((AX.exit 0),⟨[(0, .sl 0 1),(1, .int .i64),(2, .clo 67 [] [.bptr 1 0]),(6, .int .i64),(7, .int .i64)],[.row [ci], .box [.sl 2 1], .row [ci]],63⟩)]⟩⟩,
 ⟨86,[false,true,true,true,true],3,⟨⟨[(0, .sl 0 1),(1, .int .i64),(2, .clo 67 [] [.bptr 1 0]),(6, .int .i64)],[.row [ci], .box [.sl 2 1], .row [ci]],63⟩,[((AX.exit 2),⟨[],[.row [ci], .box [.sl 2 1], .row [ci]],63⟩)]⟩⟩,
 ⟨86,[false,false,true,false,true,false,false,true,true,true,true],3,⟨⟨[(0, .sl 0 1),(1, .int .i64),(2, .clo 67 [] [.bptr 1 0]),(6, .int .i64),(7, .int .i64),(8, .int .i64)],[.row [ci], .box [.sl 2 1], .row [ci]],63⟩,[((AX.exit 4),⟨[(0, .sl 0 1),(1, .int .i64),(2, .clo 67 [] [.bptr 1 0]),(6, .int .i64),(7, .int .i64)],[.row [ci], .box [.sl 2 1], .row [ci]],63⟩)]⟩⟩]
def v6d:List JA:=
 []
def v0c:List CF:=
 [⟨y8i,v3r⟩,⟨x9g,v3p⟩]
def v9f:Anns:=
 ⟨v0c,v6d,[]⟩
def v26 (p:Prim):(LD×(LD×T13))→Option ((LD×(LD×T13))⊕(LD×(LD×T11))):=
 fun a=>opt.run _ (
 opt.ask _ (p.cmp .leq a.2.2.2.2.2.2.2.2.2.1 a.2.2.2.2.2.2.1) (
 opt.no _ 81) (
 opt.ret _ (Sum.inr (a.1,(a.2.1,(a.2.2.1,(a.2.2.2.1,(a.2.2.2.2.1,(a.2.2.2.2.2.1,(a.2.2.2.2.2.2.1,(a.2.2.2.2.2.2.2.1,(a.2.2.2.2.2.2.2.2.1,()))))))))))))
def x9n (it:It) (p:Prim):(LD×(LD×T17))→Option ((LD×(LD×T17))⊕(LD×(LD×T5))):=
 fun a=>opt.run _ (
 opt.ask _ (p.cmp .lss a.2.2.2.2.2.2.2.1 a.2.2.2.2.2.2.1) (
 opt.bnd ((LD×(LD×T11))) _ (
 it _ _ (v26 p) (a.1,(a.2.1,(a.2.2.1,(a.2.2.2.1,(a.2.2.2.2.1,(a.2.2.2.2.2.1,(a.2.2.2.2.2.2.1,(a.2.2.2.2.2.2.2.1,((0:Int),((p.ar .mul .i64 (2:Int) a.2.2.2.2.2.2.2.1),()))))))))))) fun b=>
 opt.ask _ (p.cmp .lss (p.ar .add .i64 b.2.2.2.2.2.2.2.2.1 b.2.2.2.2.2.2.2.1) b.2.2.2.2.2.2.1) (
 opt.no _ 81) (
 opt.ret _ (Sum.inl (b.1,(b.2.1,(b.2.2.1,(b.2.2.2.1,(b.2.2.2.2.1,(b.2.2.2.2.2.1,(b.2.2.2.2.2.2.1,((p.ar .mul .i64 b.2.2.2.2.2.2.2.1 (2:Int)),()))))))))))) (
 opt.ret _ (Sum.inr (a.1,(a.2.1,(a.2.2.1,(a.2.2.2.1,())))))))
def x9o (it:It) (p:Prim):(LD×(LD×T13))→Option ((LD×(LD×T13))⊕(LD×(LD×T11))):=
 fun a=>opt.run _ (
 opt.ask _ (p.cmp .leq a.2.2.2.2.2.2.2.2.2.1 a.2.2.2.2.2.2.1) (
 opt.bnd ((LD×(LD×T5))) _ (x8g it p (a.1,(a.2.1,(a.2.2.1,(a.2.2.2.1,(a.2.2.2.2.1,(a.2.2.2.2.2.1,(a.2.2.2.2.2.2.2.2.1,(a.2.2.2.2.2.2.2.2.2.1,()))))))))) fun b=>
 opt.ret _ (Sum.inl (b.1,(b.2.1,(b.2.2.1,(b.2.2.2.1,(a.2.2.2.2.1,(a.2.2.2.2.2.1,(a.2.2.2.2.2.2.1,(a.2.2.2.2.2.2.2.1,(a.2.2.2.2.2.2.2.2.2.1,((p.ar .add .i64 a.2.2.2.2.2.2.2.2.2.1 a.2.2.2.2.2.2.2.1),())))))))))))) (
 opt.ret _ (Sum.inr (a.1,(a.2.1,(a.2.2.1,(a.2.2.2.1,(a.2.2.2.2.1,(a.2.2.2.2.2.1,(a.2.2.2.2.2.2.1,(a.2.2.2.2.2.2.2.1,(a.2.2.2.2.2.2.2.2.1,()))))))))))))
def v4a (it:It):(p:Prim)→(LD×(LD×(Nat×(Nat×(Nat×(Nat×(Int×Unit)))))))→Option ((LD×(LD×T5))):=
 fun p x=>
 opt.bnd ((LD×(LD×T11))) _ (
 it _ _ (x9o it p) (x.1,(x.2.1,(x.2.2.1,(x.2.2.2.1,(x.2.2.2.2.1,(x.2.2.2.2.2.1,(x.2.2.2.2.2.2.1,((20:Int),((0:Int),((20:Int),()))))))))))) fun a=>
 opt.bnd ((LD×(LD×T5))) _ (x8g it p (a.1,(a.2.1,(a.2.2.1,(a.2.2.2.1,(a.2.2.2.2.1,(a.2.2.2.2.2.1,(a.2.2.2.2.2.2.2.2.1,(a.2.2.2.2.2.2.1,()))))))))) fun b=>
 opt.bnd ((LD×(LD×T5))) _ (
 it _ _ (x9n it p) (b.1,(b.2.1,(b.2.2.1,(b.2.2.2.1,(a.2.2.2.2.1,(a.2.2.2.2.2.1,(a.2.2.2.2.2.2.1,(a.2.2.2.2.2.2.2.1,()))))))))) fun c=>
 opt.ret _ (c.1,(c.2.1,(c.2.2.1,(c.2.2.2.1,()))))
def u0w:=v4a it0
theorem v4z:CtrOk PG w4c (u0w std):=okF (a:=v9f) (l:=v52) (gC w9e (gC w9f (gN))) (by kernel_rfl) fun _ _=>by kernel_rfl
def w4f:Ctr:=
 ⟨66,[.sl 0 1, .clo 67 [] [.bptr 1 0]],[.row [ci], .box [.sl 2 1], .row [ci]],[(.ret,⟨[(0, .tuple [])],[.row [ci], .box [.sl 2 1], .row [ci]],1⟩)]⟩
def v55:List LA:=
 []
def v6g:List JA:=
 []
def v0f:List CF:=
 [⟨w4c,u0w⟩]
def v9i:Anns:=
 ⟨v0f,v6g,[]⟩
def v4d (it:It):(p:Prim)→(LD×(LD×T18))→Option ((LD×(LD×T5))):=
 fun p x=>
 opt.bnd ((LD×(LD×T5))) _ (v4a it p (x.1,(x.2.1,(x.2.2.1,(x.2.2.2.1,(x.2.2.2.2.1,(x.2.2.2.2.2.1,((p.ofNat x.2.2.2.2.2.1),())))))))) fun a=>
 opt.ret _ (a.1,(a.2.1,(a.2.2.1,(a.2.2.2.1,()))))
def u0z:=v4d it0
theorem v42:CtrOk PG w4f (u0z std):=okF (a:=v9i) (l:=v55) (gC v4z (gN)) (by kernel_rfl) fun _ _=>by kernel_rfl
end Go.Am
end
noncomputable section
namespace Go.Am
def v1t:Ctr:=
 ⟨49,[.bptr 0 0],[.row [ci]],[(.ret,⟨[(0, .list 1)],[.row [ci]],1⟩)]⟩
def la49:List LA:=
 [⟨49,[false,true,false,true,true,true],1,⟨⟨[(0, .bptr 0 0),(3, .full 1 1),(4, .bptr 2 0),(14, .int .i64),(15, .int .i64)],[.row [ci], .row [(CK.list 1)], .box [.int .i64, .int .i64, .int .i64, .int .i64, .int .i64, .int .i64, .int .i64, .int .i64, .int .i64, .int .i64]],65⟩,[((AX.exit 0),⟨[(3, .full 1 1)],[.row [ci], .row [(CK.list 1)]],65⟩)]⟩⟩,
 ⟨49,[false,true,true,true,false,false,true,true,false,false,true,false,true,true,true],1,⟨⟨[(0, .bptr 0 0),(3, .full 1 1),(4, .bptr 2 0),(5, .int .i64),(14, .int .i64),(15, .int .i64),(33, .int .i64),(34, .int .i64)],[.row [ci], .row [(CK.list 1)], .box [.int .i64, .int .i64, .int .i64, .int .i64, .int .i64, .int .i64, .int .i64, .int .i64, .int .i64, .int .i64]],65⟩,[((AX.exit 2),⟨[(0, .bptr 0 0),(3, .full 1 1),(4, .bptr 2 0),(14, .int .i64),(15, .int .i64)],[.row [ci], .row [(CK.list 1)], .box [.int .i64, .int .i64, .int .i64, .int .i64, .int .i64, .int .i64, .int .i64, .int .i64, .int .i64, .int .i64]],65⟩)]⟩⟩]
def ja49:List JA:=
 [⟨49,[true,true,false,false,true,true,false,false,true,true,true,false,false,true,true,false,false,true,false,true,true,true],1,[(AX.normal,⟨[(0, .bptr 0 0),(3, .full 1 1),(4, .bptr 2 0),(5, .int .i64),(14, .int .i64),(15, .int .i64),(33, .int .i64),(34, .int .i64)],[.row [ci], .row [(CK.list 1)], .box [.int .i64, .int .i64, .int .i64, .int .i64, .int .i64, .int .i64, .int .i64, .int .i64, .int .i64, .int .i64]],65⟩)]⟩,
 ⟨49,[false,true,true,false,false,true,false,true,true,true],1,[(AX.normal,⟨[(0, .bptr 0 0),(3, .full 1 1),(4, .bptr 2 0),(14, .int .i64),(15, .int .i64)],[.row [ci], .row [(CK.list 1)], .box [.int .i64, .int .i64, .int .i64, .int .i64, .int .i64, .int .i64, .int .i64, .int .i64, .int .i64, .int .i64]],65⟩)]⟩]
def v7c:List CF:=
 []
def an49:Anns:=
 ⟨v7c,ja49,[]⟩
def x2k (p:Prim):(LD×(LD×T23))→Option ((LD×(LD×T23))⊕(LD×(LD×T14))):=
 fun a=>opt.run _ (
 opt.ask _ (p.cmp .lss a.2.2.2.2.2.2.2.2.2.2.2.2.2.2.2.2.1 a.2.2.2.2.2.2.2.2.2.2.2.2.2.2.2.1) (
 opt.need _ (bif (p.cmp .geq a.2.2.2.2.2.2.2.2.2.2.2.2.1 (0:Int)) then (p.cmp .lss a.2.2.2.2.2.2.2.2.2.2.2.2.1 (p.ofNat 10)) else Bool.false)<|
 opt.need _ (bif (p.cmp .geq a.2.2.2.2.2.2.2.2.2.2.2.2.2.2.2.2.1 (0:Int)) then (p.cmp .lss a.2.2.2.2.2.2.2.2.2.2.2.2.2.2.2.2.1 (p.ofNat 10)) else Bool.false)<|
 opt.need _ (p.rowOk a.1 (p.add (p.add 1 (p.mul (p.nat a.2.2.2.2.2.2.2.2.2.2.2.2.1) 10)) (p.nat a.2.2.2.2.2.2.2.2.2.2.2.2.2.2.2.2.1)) [ci])<|
 opt.bnd ((LD×(LD×T23))) _ (
 opt.run ((LD×(LD×T23))) (
 opt.ask _ (p.cmp .eql (p.rdI a.1 (p.add (p.add 1 (p.mul (p.nat a.2.2.2.2.2.2.2.2.2.2.2.2.1) 10)) (p.nat a.2.2.2.2.2.2.2.2.2.2.2.2.2.2.2.2.1)) 0) (1:Int)) (
 opt.need _ (bif (p.cmp .geq a.2.2.2.2.2.2.2.2.2.2.2.2.1 (0:Int)) then (p.cmp .lss a.2.2.2.2.2.2.2.2.2.2.2.2.1 (p.ofNat (p.len a.2.1))) else Bool.false)<|
 opt.need _ (p.rowOk a.2.1 (p.add 0 (p.nat a.2.2.2.2.2.2.2.2.2.2.2.2.1)) [(CK.list 1)])<|
 opt.need _ (bif (p.cmp .geq a.2.2.2.2.2.2.2.2.2.2.2.2.1 (0:Int)) then (p.cmp .lss a.2.2.2.2.2.2.2.2.2.2.2.2.1 (p.ofNat (p.len a.2.1))) else Bool.false)<|
 opt.need _ (p.rowOk a.2.1 (p.add 0 (p.nat a.2.2.2.2.2.2.2.2.2.2.2.2.1)) [(CK.list 1)])<|
 opt.need _ (bif (p.cmp .geq a.2.2.2.2.2.2.2.2.2.2.2.2.1 (0:Int)) then (p.cmp .lss a.2.2.2.2.2.2.2.2.2.2.2.2.1 (p.ofNat (p.len a.2.1))) else Bool.false)<|
 opt.need _ (p.rowOk a.2.1 (p.add 0 (p.nat a.2.2.2.2.2.2.2.2.2.2.2.2.1)) [(CK.list 1)])<|
 opt.need _ (p.and (p.cmp .geq (0:Int) (0:Int)) (p.and (p.cmp .leq (0:Int) (p.ofNat (p.len (p.rdL a.2.1 (p.add 0 (p.nat a.2.2.2.2.2.2.2.2.2.2.2.2.1)) 0)))) (p.and (p.cmp .leq (p.ofNat (p.len (p.rdL a.2.1 (p.add 0 (p.nat a.2.2.2.2.2.2.2.2.2.2.2.2.1)) 0))) (p.ofNat (p.len (p.rdL a.2.1 (p.add 0 (p.nat a.2.2.2.2.2.2.2.2.2.2.2.2.1)) 0)))) (p.cmp .leq (p.ofNat (p.len (p.rdL a.2.1 (p.add 0 (p.nat a.2.2.2.2.2.2.2.2.2.2.2.2.1)) 0))) (p.ofNat (p.len (p.rdL a.2.1 (p.add 0 (p.nat a.2.2.2.2.2.2.2.2.2.2.2.2.1)) 0)))))))<|
 opt.ask _ (p.cmp .eql (p.ofNat (p.len (p.rdL a.2.1 (p.add 0 (p.nat a.2.2.2.2.2.2.2.2.2.2.2.2.1)) 0))) (p.ofNat (p.len (p.rdL a.2.1 (p.add 0 (p.nat a.2.2.2.2.2.2.2.2.2.2.2.2.1)) 0)))) (
 opt.need _ (p.and (p.leN (p.add 0 1) (p.len [[(D.int .i64 a.2.2.2.2.2.2.2.2.2.2.2.2.2.2.2.2.1)]])) (p.and (p.leN 1 1) (p.leN (p.add (p.len (p.cut (p.rdL a.2.1 (p.add 0 (p.nat a.2.2.2.2.2.2.2.2.2.2.2.2.1)) 0) (p.nat (0:Int)) (p.sub (p.nat (p.ofNat (p.len (p.rdL a.2.1 (p.add 0 (p.nat a.2.2.2.2.2.2.2.2.2.2.2.2.1)) 0)))) (p.nat (0:Int))))) 1) 1000000)))<|
 opt.need _ (bif (p.cmp .geq a.2.2.2.2.2.2.2.2.2.2.2.2.1 (0:Int)) then (p.cmp .lss a.2.2.2.2.2.2.2.2.2.2.2.2.1 (p.ofNat (p.len a.2.1))) else Bool.false)<|
 opt.need _ (p.rowOk a.2.1 (p.add 0 (p.nat a.2.2.2.2.2.2.2.2.2.2.2.2.1)) [(CK.list 1)])<|
 opt.need _ (p.eqN 0 0)<|
 opt.need _ (p.eqN (p.len a.2.1) (p.len (p.set a.2.1 (p.add 0 (p.nat a.2.2.2.2.2.2.2.2.2.2.2.2.1)) [(D.list Bool.false 1 (p.app (p.cut (p.rdL a.2.1 (p.add 0 (p.nat a.2.2.2.2.2.2.2.2.2.2.2.2.1)) 0) (p.nat (0:Int)) (p.sub (p.nat (p.ofNat (p.len (p.rdL a.2.1 (p.add 0 (p.nat a.2.2.2.2.2.2.2.2.2.2.2.2.1)) 0)))) (p.nat (0:Int)))) (p.cut [[(D.int .i64 a.2.2.2.2.2.2.2.2.2.2.2.2.2.2.2.2.1)]] 0 1)))])))<|
 opt.need _ (p.eqN (p.len a.2.1) (p.len (p.set a.2.1 (p.add 0 (p.nat a.2.2.2.2.2.2.2.2.2.2.2.2.1)) [(D.list Bool.false 1 (p.app (p.cut (p.rdL a.2.1 (p.add 0 (p.nat a.2.2.2.2.2.2.2.2.2.2.2.2.1)) 0) (p.nat (0:Int)) (p.sub (p.nat (p.ofNat (p.len (p.rdL a.2.1 (p.add 0 (p.nat a.2.2.2.2.2.2.2.2.2.2.2.2.1)) 0)))) (p.nat (0:Int)))) (p.cut [[(D.int .i64 a.2.2.2.2.2.2.2.2.2.2.2.2.2.2.2.2.1)]] 0 1)))])))<|
 opt.ret _ (a.1,((p.set a.2.1 (p.add 0 (p.nat a.2.2.2.2.2.2.2.2.2.2.2.2.1)) [(D.list Bool.false 1 (p.app (p.cut (p.rdL a.2.1 (p.add 0 (p.nat a.2.2.2.2.2.2.2.2.2.2.2.2.1)) 0) (p.nat (0:Int)) (p.sub (p.nat (p.ofNat (p.len (p.rdL a.2.1 (p.add 0 (p.nat a.2.2.2.2.2.2.2.2.2.2.2.2.1)) 0)))) (p.nat (0:Int)))) (p.cut [[(D.int .i64 a.2.2.2.2.2.2.2.2.2.2.2.2.2.2.2.2.1)]] 0 1)))]),(a.2.2.1,(a.2.2.2.1,(a.2.2.2.2.1,(a.2.2.2.2.2.1,(a.2.2.2.2.2.2.1,(a.2.2.2.2.2.2.2.1,(a.2.2.2.2.2.2.2.2.1,(a.2.2.2.2.2.2.2.2.2.1,(a.2.2.2.2.2.2.2.2.2.2.1,(a.2.2.2.2.2.2.2.2.2.2.2.1,(a.2.2.2.2.2.2.2.2.2.2.2.2.1,(a.2.2.2.2.2.2.2.2.2.2.2.2.2.1,(a.2.2.2.2.2.2.2.2.2.2.2.2.2.2.1,(a.2.2.2.2.2.2.2.2.2.2.2.2.2.2.2.1,(a.2.2.2.2.2.2.2.2.2.2.2.2.2.2.2.2.1,())))))))))))))))))) (
 opt.no _ 41)) (
 opt.need _ (p.eqN 0 0)<|
 opt.need _ (p.eqN (p.len a.2.1) (p.len a.2.1))<|
 opt.need _ (p.eqN (p.len a.2.1) (p.len a.2.1))<|
 opt.ret _ (a.1,(a.2.1,(a.2.2.1,(a.2.2.2.1,(a.2.2.2.2.1,(a.2.2.2.2.2.1,(a.2.2.2.2.2.2.1,(a.2.2.2.2.2.2.2.1,(a.2.2.2.2.2.2.2.2.1,(a.2.2.2.2.2.2.2.2.2.1,(a.2.2.2.2.2.2.2.2.2.2.1,(a.2.2.2.2.2.2.2.2.2.2.2.1,(a.2.2.2.2.2.2.2.2.2.2.2.2.1,(a.2.2.2.2.2.2.2.2.2.2.2.2.2.1,(a.2.2.2.2.2.2.2.2.2.2.2.2.2.2.1,(a.2.2.2.2.2.2.2.2.2.2.2.2.2.2.2.1,(a.2.2.2.2.2.2.2.2.2.2.2.2.2.2.2.2.1,())))))))))))))))))))) fun b=>
 opt.need _ (p.eqN 0 0)<|
 opt.need _ (p.eqN (p.len b.2.1) (p.len b.2.1))<|
 opt.need _ (p.eqN (p.len b.2.1) (p.len b.2.1))<|
 opt.ret _ (Sum.inl (b.1,(b.2.1,(b.2.2.1,(b.2.2.2.1,(b.2.2.2.2.1,(b.2.2.2.2.2.1,(b.2.2.2.2.2.2.1,(b.2.2.2.2.2.2.2.1,(b.2.2.2.2.2.2.2.2.1,(b.2.2.2.2.2.2.2.2.2.1,(b.2.2.2.2.2.2.2.2.2.2.1,(b.2.2.2.2.2.2.2.2.2.2.2.1,(b.2.2.2.2.2.2.2.2.2.2.2.2.1,(b.2.2.2.2.2.2.2.2.2.2.2.2.2.1,(b.2.2.2.2.2.2.2.2.2.2.2.2.2.2.1,(b.2.2.2.2.2.2.2.2.2.2.2.2.2.2.2.1,((p.ar .add .i64 b.2.2.2.2.2.2.2.2.2.2.2.2.2.2.2.2.1 (1:Int)),()))))))))))))))))))) (
 opt.need _ (p.eqN 0 0)<|
 opt.need _ (p.eqN (p.len a.2.1) (p.len a.2.1))<|
 opt.need _ (p.eqN (p.len a.2.1) (p.len a.2.1))<|
 opt.ret _ (Sum.inr (a.1,(a.2.1,(a.2.2.1,(a.2.2.2.1,(a.2.2.2.2.1,(a.2.2.2.2.2.1,(a.2.2.2.2.2.2.1,(a.2.2.2.2.2.2.2.1,(a.2.2.2.2.2.2.2.2.1,(a.2.2.2.2.2.2.2.2.2.1,(a.2.2.2.2.2.2.2.2.2.2.1,(a.2.2.2.2.2.2.2.2.2.2.2.1,(a.2.2.2.2.2.2.2.2.2.2.2.2.2.1,(a.2.2.2.2.2.2.2.2.2.2.2.2.2.2.1,())))))))))))))))))
def z8k (it:It) (p:Prim):(LD×(LD×T14))→Option ((LD×(LD×T14))⊕(LD×(LD×Unit))):=
 fun a=>opt.run _ (
 opt.ask _ (p.cmp .lss a.2.2.2.2.2.2.2.2.2.2.2.2.2.1 a.2.2.2.2.2.2.2.2.2.2.2.2.1) (
 opt.bnd ((LD×(LD×T14))) _ (
 opt.run ((LD×(LD×T14))) (
 opt.need _ (bif (p.cmp .geq a.2.2.2.2.2.2.2.2.2.2.2.2.2.1 (0:Int)) then (p.cmp .lss a.2.2.2.2.2.2.2.2.2.2.2.2.2.1 (p.ofNat 10)) else Bool.false)<|
 opt.need _ (p.rowOk a.1 (p.add 1 (p.mul (p.nat a.2.2.2.2.2.2.2.2.2.2.2.2.2.1) 10)) [ci])<|
 opt.need _ (p.rowOk a.1 (p.add (p.add 1 (p.mul (p.nat a.2.2.2.2.2.2.2.2.2.2.2.2.2.1) 10)) 1) [ci])<|
 opt.need _ (p.rowOk a.1 (p.add (p.add 1 (p.mul (p.nat a.2.2.2.2.2.2.2.2.2.2.2.2.2.1) 10)) 2) [ci])<|
 opt.need _ (p.rowOk a.1 (p.add (p.add 1 (p.mul (p.nat a.2.2.2.2.2.2.2.2.2.2.2.2.2.1) 10)) 3) [ci])<|
 opt.need _ (p.rowOk a.1 (p.add (p.add 1 (p.mul (p.nat a.2.2.2.2.2.2.2.2.2.2.2.2.2.1) 10)) 4) [ci])<|
 opt.need _ (p.rowOk a.1 (p.add (p.add 1 (p.mul (p.nat a.2.2.2.2.2.2.2.2.2.2.2.2.2.1) 10)) 5) [ci])<|
 opt.need _ (p.rowOk a.1 (p.add (p.add 1 (p.mul (p.nat a.2.2.2.2.2.2.2.2.2.2.2.2.2.1) 10)) 6) [ci])<|
 opt.need _ (p.rowOk a.1 (p.add (p.add 1 (p.mul (p.nat a.2.2.2.2.2.2.2.2.2.2.2.2.2.1) 10)) 7) [ci])<|
 opt.need _ (p.rowOk a.1 (p.add (p.add 1 (p.mul (p.nat a.2.2.2.2.2.2.2.2.2.2.2.2.2.1) 10)) 8) [ci])<|
 opt.need _ (p.rowOk a.1 (p.add (p.add 1 (p.mul (p.nat a.2.2.2.2.2.2.2.2.2.2.2.2.2.1) 10)) 9) [ci])<|
 opt.ask _ (bif (p.cmp .eql (p.rdI a.1 (p.add 1 (p.mul (p.nat a.2.2.2.2.2.2.2.2.2.2.2.2.2.1) 10)) 0) a.2.2.1) then (bif (p.cmp .eql (p.rdI a.1 (p.add (p.add 1 (p.mul (p.nat a.2.2.2.2.2.2.2.2.2.2.2.2.2.1) 10)) 1) 0) a.2.2.2.1) then (bif (p.cmp .eql (p.rdI a.1 (p.add (p.add 1 (p.mul (p.nat a.2.2.2.2.2.2.2.2.2.2.2.2.2.1) 10)) 2) 0) a.2.2.2.2.1) then (bif (p.cmp .eql (p.rdI a.1 (p.add (p.add 1 (p.mul (p.nat a.2.2.2.2.2.2.2.2.2.2.2.2.2.1) 10)) 3) 0) a.2.2.2.2.2.1) then (bif (p.cmp .eql (p.rdI a.1 (p.add (p.add 1 (p.mul (p.nat a.2.2.2.2.2.2.2.2.2.2.2.2.2.1) 10)) 4) 0) a.2.2.2.2.2.2.1) then (bif (p.cmp .eql (p.rdI a.1 (p.add (p.add 1 (p.mul (p.nat a.2.2.2.2.2.2.2.2.2.2.2.2.2.1) 10)) 5) 0) a.2.2.2.2.2.2.2.1) then (bif (p.cmp .eql (p.rdI a.1 (p.add (p.add 1 (p.mul (p.nat a.2.2.2.2.2.2.2.2.2.2.2.2.2.1) 10)) 6) 0) a.2.2.2.2.2.2.2.2.1) then (bif (p.cmp .eql (p.rdI a.1 (p.add (p.add 1 (p.mul (p.nat a.2.2.2.2.2.2.2.2.2.2.2.2.2.1) 10)) 7) 0) a.2.2.2.2.2.2.2.2.2.1) then (bif (p.cmp .eql (p.rdI a.1 (p.add (p.add 1 (p.mul (p.nat a.2.2.2.2.2.2.2.2.2.2.2.2.2.1) 10)) 8) 0) a.2.2.2.2.2.2.2.2.2.2.1) then (bif (p.cmp .eql (p.rdI a.1 (p.add (p.add 1 (p.mul (p.nat a.2.2.2.2.2.2.2.2.2.2.2.2.2.1) 10)) 9) 0) a.2.2.2.2.2.2.2.2.2.2.2.1) then Bool.true else Bool.false) else Bool.false) else Bool.false) else Bool.false) else Bool.false) else Bool.false) else Bool.false) else Bool.false) else Bool.false) else Bool.false) (
 opt.need _ (bif (p.cmp .geq a.2.2.2.2.2.2.2.2.2.2.2.2.2.1 (0:Int)) then (p.cmp .lss a.2.2.2.2.2.2.2.2.2.2.2.2.2.1 (p.ofNat (p.len a.2.1))) else Bool.false)<|
 opt.need _ (p.rowOk a.2.1 (p.add 0 (p.nat a.2.2.2.2.2.2.2.2.2.2.2.2.2.1)) [(CK.list 1)])<|
 opt.need _ (p.eqN 0 0)<|
 opt.need _ (p.eqN (p.len a.2.1) (p.len (p.set a.2.1 (p.add 0 (p.nat a.2.2.2.2.2.2.2.2.2.2.2.2.2.1)) [(D.list Bool.true 1 [])])))<|
 opt.need _ (p.eqN (p.len a.2.1) (p.len (p.set a.2.1 (p.add 0 (p.nat a.2.2.2.2.2.2.2.2.2.2.2.2.2.1)) [(D.list Bool.true 1 [])])))<|
 opt.ret _ (a.1,((p.set a.2.1 (p.add 0 (p.nat a.2.2.2.2.2.2.2.2.2.2.2.2.2.1)) [(D.list Bool.true 1 [])]),(a.2.2.1,(a.2.2.2.1,(a.2.2.2.2.1,(a.2.2.2.2.2.1,(a.2.2.2.2.2.2.1,(a.2.2.2.2.2.2.2.1,(a.2.2.2.2.2.2.2.2.1,(a.2.2.2.2.2.2.2.2.2.1,(a.2.2.2.2.2.2.2.2.2.2.1,(a.2.2.2.2.2.2.2.2.2.2.2.1,(a.2.2.2.2.2.2.2.2.2.2.2.2.1,(a.2.2.2.2.2.2.2.2.2.2.2.2.2.1,()))))))))))))))) (
 opt.need _ (p.rowOk a.1 0 [ci])<|
 opt.need _ (p.eqN 0 0)<|
 opt.need _ (p.eqN (p.len a.2.1) (p.len a.2.1))<|
 opt.need _ (p.eqN (p.len a.2.1) (p.len a.2.1))<|
 opt.bnd ((LD×(LD×T14))) _ (
 it _ _ (x2k p) (a.1,(a.2.1,(a.2.2.1,(a.2.2.2.1,(a.2.2.2.2.1,(a.2.2.2.2.2.1,(a.2.2.2.2.2.2.1,(a.2.2.2.2.2.2.2.1,(a.2.2.2.2.2.2.2.2.1,(a.2.2.2.2.2.2.2.2.2.1,(a.2.2.2.2.2.2.2.2.2.2.1,(a.2.2.2.2.2.2.2.2.2.2.2.1,(a.2.2.2.2.2.2.2.2.2.2.2.2.2.1,(a.2.2.2.2.2.2.2.2.2.2.2.2.1,(a.2.2.2.2.2.2.2.2.2.2.2.2.2.1,((p.rdI a.1 0 0),((0:Int),())))))))))))))))))) fun b=>
 opt.need _ (p.eqN 0 0)<|
 opt.need _ (p.eqN (p.len b.2.1) (p.len b.2.1))<|
 opt.need _ (p.eqN (p.len b.2.1) (p.len b.2.1))<|
 opt.ret _ (b.1,(b.2.1,(b.2.2.1,(b.2.2.2.1,(b.2.2.2.2.1,(b.2.2.2.2.2.1,(b.2.2.2.2.2.2.1,(b.2.2.2.2.2.2.2.1,(b.2.2.2.2.2.2.2.2.1,(b.2.2.2.2.2.2.2.2.2.1,(b.2.2.2.2.2.2.2.2.2.2.1,(b.2.2.2.2.2.2.2.2.2.2.2.1,(b.2.2.2.2.2.2.2.2.2.2.2.2.1,(b.2.2.2.2.2.2.2.2.2.2.2.2.2.1,()))))))))))))))))) fun c=>
 opt.need _ (p.eqN 0 0)<|
 opt.need _ (p.eqN (p.len c.2.1) (p.len c.2.1))<|
 opt.need _ (p.eqN (p.len c.2.1) (p.len c.2.1))<|
 opt.ret _ (Sum.inl (c.1,(c.2.1,(c.2.2.1,(c.2.2.2.1,(c.2.2.2.2.1,(c.2.2.2.2.2.1,(c.2.2.2.2.2.2.1,(c.2.2.2.2.2.2.2.1,(c.2.2.2.2.2.2.2.2.1,(c.2.2.2.2.2.2.2.2.2.1,(c.2.2.2.2.2.2.2.2.2.2.1,(c.2.2.2.2.2.2.2.2.2.2.2.1,(c.2.2.2.2.2.2.2.2.2.2.2.2.1,((p.ar .add .i64 c.2.2.2.2.2.2.2.2.2.2.2.2.2.1 (1:Int)),())))))))))))))))) (
 opt.need _ (p.eqN 0 0)<|
 opt.need _ (p.eqN (p.len a.2.1) (p.len a.2.1))<|
 opt.need _ (p.eqN (p.len a.2.1) (p.len a.2.1))<|
 opt.ret _ (Sum.inr (a.1,(a.2.1,())))))
def g49 (it:It):(p:Prim)→(LD×Unit)→Option ((LD×(LD×Unit))):=
 fun p x=>
 opt.need _ (p.rowOk x.1 0 [ci])<|
 opt.need _ (p.and (p.cmp .geq (p.rdI x.1 0 0) (0:Int)) (p.and (p.cmp .leq (p.rdI x.1 0 0) (p.rdI x.1 0 0)) (p.cmp .leq (p.rdI x.1 0 0) (1000000:Int))))<|
 opt.need _ (p.eqN 0 0)<|
 opt.need _ (p.eqN (p.nat (p.rdI x.1 0 0)) (p.len (p.rep (p.nat (p.rdI x.1 0 0)) [(D.list Bool.true 0 [])])))<|
 opt.need _ (p.eqN (p.nat (p.rdI x.1 0 0)) (p.len (p.rep (p.nat (p.rdI x.1 0 0)) [(D.list Bool.true 0 [])])))<|
 opt.bnd ((LD×(LD×Unit))) _ (
 it _ _ (z8k it p) (x.1,((p.rep (p.nat (p.rdI x.1 0 0)) [(D.list Bool.true 0 [])]),((0:Int),((0:Int),((0:Int),((0:Int),((0:Int),((0:Int),((0:Int),((0:Int),((0:Int),((0:Int),((p.ofNat (p.nat (p.rdI x.1 0 0))),((0:Int),()))))))))))))))) fun a=>
 opt.need _ (p.leN (p.add 0 (p.len a.2.1)) (p.len a.2.1))<|
 opt.ret _ (a.1,((p.cut a.2.1 0 (p.len a.2.1)),()))
def G49:=g49 it0
theorem v94:CtrOk PG v1t (G49 std):=okF (a:=an49) (l:=la49) (gN) (by kernel_rfl) fun _ _=>by kernel_rfl
def v10:Ctr:=
 ⟨30,[.list 1],[],[(.ret,⟨[(0, .tuple [.list 1, .int .i64])],[],1⟩)]⟩
def la30:List LA:=
 [⟨30,[false,true,false,true,true,true,true,true,true],0,⟨⟨[(7, .bptr 0 0),(8, .bptr 1 0),(9, .vec 3 1),(31, .int .i64),(32, .int .i64)],[.row [ci], .box [.sl 2 1], .row [ci], .row [ci]],82⟩,[((AX.exit 0),⟨[(7, .bptr 0 0),(8, .bptr 1 0),(9, .vec 2 1)],[.row [ci], .box [.sl 3 1], .row [ci], .row [ci]],82⟩)]⟩⟩,
 ⟨30,[false,false,true,true,true,true,true,true,true],0,⟨⟨[(7, .bptr 0 0),(8, .bptr 1 0),(9, .sl 2 1)],[.row [ci], .box [.sl 3 1], .row [ci], .row [ci]],82⟩,[((AX.exit 2),⟨[(7, .bptr 0 0)],[.row [ci]],82⟩)]⟩⟩,
 ⟨30,[false,true,true,true,true,false,true,false,false,false,true,true,true,true,true,true,true],0,⟨⟨[(7, .bptr 0 0),(8, .bptr 1 0),(9, .sl 2 1),(11, .int .i64),(51, .sl 2 1),(52, .int .i64),(53, .int .i64)],[.row [ci], .box [.sl 3 1], .row [ci], .row [ci]],82⟩,[((AX.exit 4),⟨[(7, .bptr 0 0),(8, .bptr 1 0),(9, .sl 2 1)],[.row [ci], .box [.sl 3 1], .row [ci], .row [ci]],82⟩)]⟩⟩]
def ja30:List JA:=
 [⟨30,[true,true,false,false,true,true,false,false,true,true,true,true,false,true,false,false,false,true,true,true,true,true,true,true],0,[(AX.normal,⟨[(7, .bptr 0 0),(8, .bptr 1 0),(9, .sl 2 1),(11, .int .i64),(51, .sl 2 1),(52, .int .i64),(53, .int .i64)],[.row [ci], .box [.sl 3 1], .row [ci], .row [ci]],82⟩)]⟩]
def v7m:List CF:=
 [⟨v1t,G49⟩,⟨w4f,u0z⟩,⟨v1q,G65⟩,⟨w7q,G64⟩,⟨w2w,G61⟩]
def an30:Anns:=
 ⟨v7m,ja30,[]⟩
def v85 (p:Prim):(LD×(LD×(LD×T24)))→Option ((LD×(LD×(LD×T24)))⊕(LD×(LD×(LD×T18)))):=
 fun a=>opt.run _ (
 opt.ask _ (p.cmp .lss a.2.2.2.2.2.2.2.2.2.2.2.1 a.2.2.2.2.2.2.2.2.2.2.1) (
 opt.need _ (bif (p.cmp .geq a.2.2.2.2.2.2.2.2.2.2.2.1 (0:Int)) then (p.cmp .lss a.2.2.2.2.2.2.2.2.2.2.2.1 (p.ofNat a.2.2.2.2.2.2.2.2.2.1)) else Bool.false)<|
 opt.need _ (p.rowOk a.2.1 (p.add a.2.2.2.2.2.2.2.2.1 (p.nat a.2.2.2.2.2.2.2.2.2.2.2.1)) [ci])<|
 opt.need _ (bif (p.cmp .geq a.2.2.2.2.2.2.2.1 (0:Int)) then (p.cmp .lss a.2.2.2.2.2.2.2.1 (p.ofNat a.2.2.2.2.1)) else Bool.false)<|
 opt.need _ (p.rowOk a.2.2.1 (p.add a.2.2.2.1 (p.nat a.2.2.2.2.2.2.2.1)) [ci])<|
 opt.bnd ((LD×(LD×(LD×T24)))) _ (
 opt.run ((LD×(LD×(LD×T24)))) (
 opt.ask _ (p.cmp .lss a.2.2.2.2.2.2.2.2.2.2.2.1 (p.rdI a.2.2.1 (p.add a.2.2.2.1 (p.nat a.2.2.2.2.2.2.2.1)) 0)) (
 opt.need _ (bif (p.cmp .geq a.2.2.2.2.2.2.2.1 (0:Int)) then (p.cmp .lss a.2.2.2.2.2.2.2.1 (p.ofNat 10)) else Bool.false)<|
 opt.need _ (bif (p.cmp .geq (p.rdI a.2.1 (p.add a.2.2.2.2.2.2.2.2.1 (p.nat a.2.2.2.2.2.2.2.2.2.2.2.1)) 0) (0:Int)) then (p.cmp .lss (p.rdI a.2.1 (p.add a.2.2.2.2.2.2.2.2.1 (p.nat a.2.2.2.2.2.2.2.2.2.2.2.1)) 0) (p.ofNat 10)) else Bool.false)<|
 opt.need _ (p.rowOk a.1 (p.add (p.add 1 (p.mul (p.nat a.2.2.2.2.2.2.2.1) 10)) (p.nat (p.rdI a.2.1 (p.add a.2.2.2.2.2.2.2.2.1 (p.nat a.2.2.2.2.2.2.2.2.2.2.2.1)) 0))) [ci])<|
 opt.ret _ ((p.set a.1 (p.add (p.add 1 (p.mul (p.nat a.2.2.2.2.2.2.2.1) 10)) (p.nat (p.rdI a.2.1 (p.add a.2.2.2.2.2.2.2.2.1 (p.nat a.2.2.2.2.2.2.2.2.2.2.2.1)) 0))) [k1k]),(a.2.1,(a.2.2.1,(a.2.2.2.1,(a.2.2.2.2.1,(a.2.2.2.2.2.1,(a.2.2.2.2.2.2.1,(a.2.2.2.2.2.2.2.1,(a.2.2.2.2.2.2.2.2.1,(a.2.2.2.2.2.2.2.2.2.1,(a.2.2.2.2.2.2.2.2.2.2.1,(a.2.2.2.2.2.2.2.2.2.2.2.1,()))))))))))))) (
 opt.need _ (bif (p.cmp .geq (p.rdI a.2.1 (p.add a.2.2.2.2.2.2.2.2.1 (p.nat a.2.2.2.2.2.2.2.2.2.2.2.1)) 0) (0:Int)) then (p.cmp .lss (p.rdI a.2.1 (p.add a.2.2.2.2.2.2.2.2.1 (p.nat a.2.2.2.2.2.2.2.2.2.2.2.1)) 0) (p.ofNat 10)) else Bool.false)<|
 opt.need _ (bif (p.cmp .geq a.2.2.2.2.2.2.2.1 (0:Int)) then (p.cmp .lss a.2.2.2.2.2.2.2.1 (p.ofNat 10)) else Bool.false)<|
 opt.need _ (p.rowOk a.1 (p.add (p.add 1 (p.mul (p.nat (p.rdI a.2.1 (p.add a.2.2.2.2.2.2.2.2.1 (p.nat a.2.2.2.2.2.2.2.2.2.2.2.1)) 0)) 10)) (p.nat a.2.2.2.2.2.2.2.1)) [ci])<|
 opt.need _ (bif (p.cmp .geq (p.rdI a.2.1 (p.add a.2.2.2.2.2.2.2.2.1 (p.nat a.2.2.2.2.2.2.2.2.2.2.2.1)) 0) (0:Int)) then (p.cmp .lss (p.rdI a.2.1 (p.add a.2.2.2.2.2.2.2.2.1 (p.nat a.2.2.2.2.2.2.2.2.2.2.2.1)) 0) (p.ofNat a.2.2.2.2.1)) else Bool.false)<|
 opt.need _ (p.rowOk a.2.2.1 (p.add a.2.2.2.1 (p.nat (p.rdI a.2.1 (p.add a.2.2.2.2.2.2.2.2.1 (p.nat a.2.2.2.2.2.2.2.2.2.2.2.1)) 0))) [ci])<|
 opt.need _ (bif (p.cmp .geq (p.rdI a.2.1 (p.add a.2.2.2.2.2.2.2.2.1 (p.nat a.2.2.2.2.2.2.2.2.2.2.2.1)) 0) (0:Int)) then (p.cmp .lss (p.rdI a.2.1 (p.add a.2.2.2.2.2.2.2.2.1 (p.nat a.2.2.2.2.2.2.2.2.2.2.2.1)) 0) (p.ofNat a.2.2.2.2.1)) else Bool.false)<|
 opt.need _ (p.rowOk a.2.2.1 (p.add a.2.2.2.1 (p.nat (p.rdI a.2.1 (p.add a.2.2.2.2.2.2.2.2.1 (p.nat a.2.2.2.2.2.2.2.2.2.2.2.1)) 0))) [ci])<|
 opt.ret _ ((p.set a.1 (p.add (p.add 1 (p.mul (p.nat (p.rdI a.2.1 (p.add a.2.2.2.2.2.2.2.2.1 (p.nat a.2.2.2.2.2.2.2.2.2.2.2.1)) 0)) 10)) (p.nat a.2.2.2.2.2.2.2.1)) [k1k]),(a.2.1,((p.set a.2.2.1 (p.add a.2.2.2.1 (p.nat (p.rdI a.2.1 (p.add a.2.2.2.2.2.2.2.2.1 (p.nat a.2.2.2.2.2.2.2.2.2.2.2.1)) 0))) [(D.int .i64 (p.ar .sub .i64 (p.rdI a.2.2.1 (p.add a.2.2.2.1 (p.nat (p.rdI a.2.1 (p.add a.2.2.2.2.2.2.2.2.1 (p.nat a.2.2.2.2.2.2.2.2.2.2.2.1)) 0))) 0) (1:Int)))]),(a.2.2.2.1,(a.2.2.2.2.1,(a.2.2.2.2.2.1,(a.2.2.2.2.2.2.1,(a.2.2.2.2.2.2.2.1,(a.2.2.2.2.2.2.2.2.1,(a.2.2.2.2.2.2.2.2.2.1,(a.2.2.2.2.2.2.2.2.2.2.1,(a.2.2.2.2.2.2.2.2.2.2.2.1,()))))))))))))))) fun b=>
 opt.ret _ (Sum.inl (b.1,(b.2.1,(b.2.2.1,(b.2.2.2.1,(b.2.2.2.2.1,(b.2.2.2.2.2.1,(b.2.2.2.2.2.2.1,(b.2.2.2.2.2.2.2.1,(b.2.2.2.2.2.2.2.2.1,(b.2.2.2.2.2.2.2.2.2.1,(b.2.2.2.2.2.2.2.2.2.2.1,((p.ar .add .i64 b.2.2.2.2.2.2.2.2.2.2.2.1 (1:Int)),())))))))))))))) (
 opt.ret _ (Sum.inr (a.1,(a.2.1,(a.2.2.1,(a.2.2.2.1,(a.2.2.2.2.1,(a.2.2.2.2.2.1,(a.2.2.2.2.2.2.1,()))))))))))
def w72 (it:It) (p:Prim):(LD×(LD×(LD×T18)))→Option ((LD×(LD×(LD×T18)))⊕(LD×Unit)):=
 fun a=>opt.run _ (
 opt.ask _ (p.cmp .gtr (p.ofNat a.2.2.2.2.2.2.1) (0:Int)) (
 opt.need _ (bif (p.cmp .geq (0:Int) (0:Int)) then (p.cmp .lss (0:Int) (p.ofNat a.2.2.2.2.2.2.1)) else Bool.false)<|
 opt.need _ (p.rowOk a.2.1 (p.add a.2.2.2.2.2.1 (p.nat (0:Int))) [ci])<|
 opt.need _ (p.and (p.cmp .geq (1:Int) (0:Int)) (p.and (p.cmp .leq (1:Int) (p.ofNat a.2.2.2.2.2.2.1)) (p.cmp .leq (p.ofNat a.2.2.2.2.2.2.1) (p.ofNat a.2.2.2.2.2.2.1))))<|
 opt.bnd ((LD×(LD×T5))) _ (v4d it p (a.2.1,(a.2.2.1,(a.2.2.2.1,(a.2.2.2.2.1,((p.add a.2.2.2.2.2.1 (p.nat (1:Int))),((p.sub (p.nat (p.ofNat a.2.2.2.2.2.2.1)) (p.nat (1:Int))),()))))))) fun b=>
 opt.bnd ((LD×(LD×(LD×T18)))) _ (
 it _ _ (v85 p) (a.1,(b.1,(b.2.1,(b.2.2.1,(b.2.2.2.1,((p.add a.2.2.2.2.2.1 (p.nat (1:Int))),((p.sub (p.nat (p.ofNat a.2.2.2.2.2.2.1)) (p.nat (1:Int))),((p.rdI a.2.1 (p.add a.2.2.2.2.2.1 (p.nat (0:Int))) 0),((p.add a.2.2.2.2.2.1 (p.nat (1:Int))),((p.sub (p.nat (p.ofNat a.2.2.2.2.2.2.1)) (p.nat (1:Int))),((p.ofNat (p.sub (p.nat (p.ofNat a.2.2.2.2.2.2.1)) (p.nat (1:Int)))),((0:Int),()))))))))))))) fun c=>
 opt.ret _ (Sum.inl (c.1,(c.2.1,(c.2.2.1,(c.2.2.2.1,(c.2.2.2.2.1,(c.2.2.2.2.2.1,(c.2.2.2.2.2.2.1,()))))))))) (
 opt.ret _ (Sum.inr (a.1,()))))
def v86 (p:Prim):(LD×(LD×(LD×T37)))→Option ((LD×(LD×(LD×T37)))⊕(LD×(LD×(LD×T5)))):=
 fun a=>opt.run _ (
 opt.ask _ (p.cmp .lss a.2.2.2.2.2.2.1 a.2.2.2.2.2.1) (
 opt.need _ (p.and (p.leN (p.add 0 1) (p.len [[(D.int .i64 a.2.2.2.2.2.2.1)]])) (p.and (p.leN (p.add 0 (p.len a.2.2.1)) (p.len a.2.2.1)) (p.and (p.leN 1 1) (p.leN (p.add (p.len a.2.2.1) 1) 1000000))))<|
 opt.need _ (p.eqN 0 0)<|
 opt.need _ (p.eqN (p.add (p.len a.2.2.1) 1) (p.len (p.app (p.cut a.2.2.1 0 (p.len a.2.2.1)) (p.cut [[(D.int .i64 a.2.2.2.2.2.2.1)]] 0 1))))<|
 opt.ret _ (Sum.inl (a.1,(a.2.1,((p.app (p.cut a.2.2.1 0 (p.len a.2.2.1)) (p.cut [[(D.int .i64 a.2.2.2.2.2.2.1)]] 0 1)),(a.2.2.2.1,(a.2.2.2.2.1,(a.2.2.2.2.2.1,((p.ar .add .i64 a.2.2.2.2.2.2.1 (1:Int)),()))))))))) (
 opt.need _ (p.eqN 0 0)<|
 opt.need _ (p.eqN (p.len a.2.2.1) (p.len a.2.2.1))<|
 opt.ret _ (Sum.inr (a.1,(a.2.2.1,(a.2.1,(a.2.2.2.1,(a.2.2.2.2.1,()))))))))
def g30 (it:It):(p:Prim)→(LD×Unit)→Option ((LD×T1)):=
 fun p x=>
 opt.bnd T2 _ (g61 it p (x.1,())) fun a=>
 opt.ask _ (p.cmp .neq a.1 (0:Int)) (
 opt.ret _ ([],(a.1,()))) (
 opt.bnd ((LD×T8)) _ (g64 it p (x.1,())) fun b=>
 opt.ask _ b.2.1 (
 opt.ret _ ([],((13:Int),()))) (
 opt.need _ (p.rowOk (p.rep 101 k0k) 0 [ci])<|
 opt.need _ (p.leN (p.add 0 101) (p.len (p.rep 101 k0k)))<|
 opt.bnd ((LD×T5)) _ (G65 p (x.1,())) fun c=>
 opt.bnd ((LD×(LD×(LD×T5)))) _ (
 it _ _ (v86 p) ((p.splice (p.rep 101 k0k) 0 [[(D.int .i64 (p.ofNat (p.len x.1)))],k0k,k0k,k0k,k0k,k0k,k0k,k0k,k0k,k0k,k0k,k0k,k0k,k0k,k0k,k0k,k0k,k0k,k0k,k0k,k0k,k0k,k0k,k0k,k0k,k0k,k0k,k0k,k0k,k0k,k0k,k0k,k0k,k0k,k0k,k0k,k0k,k0k,k0k,k0k,k0k,k0k,k0k,k0k,k0k,k0k,k0k,k0k,k0k,k0k,k0k,k0k,k0k,k0k,k0k,k0k,k0k,k0k,k0k,k0k,k0k,k0k,k0k,k0k,k0k,k0k,k0k,k0k,k0k,k0k,k0k,k0k,k0k,k0k,k0k,k0k,k0k,k0k,k0k,k0k,k0k,k0k,k0k,k0k,k0k,k0k,k0k,k0k,k0k,k0k,k0k,k0k,k0k,k0k,k0k,k0k,k0k,k0k,k0k,k0k,k0k]),(c.1,([],(c.2.1,(c.2.2.1,((p.ofNat (p.len x.1)),((0:Int),())))))))) fun d=>
 opt.bnd ((LD×Unit)) _ (
 it _ _ (w72 it p) (d.1,(d.2.1,(d.2.2.1,(d.2.2.2.1,(d.2.2.2.2.1,(0,((p.len d.2.1),())))))))) fun e=>
 opt.bnd ((LD×(LD×Unit))) _ (g49 it p (e.1,())) fun f=>
 opt.ret _ (f.2.1,((0:Int),()))))
def G30:=g30 it0
theorem ok30:CtrOk PG v10 (G30 std):=okF (a:=an30) (l:=la30) (gC v94 (gC v42 (gC ok65 (gC v92 (gC v43 (gN)))))) (by kernel_rfl) fun _ _=>by kernel_rfl
end Go.Am
end
section
namespace Go.Am
open T11
def fe:List Int→Bool:=List.isEmpty
def dOf (f:Nat→Nat→Bool) (n:Nat):List (List Int):=(List.range n).map fun i=>toI ((List.range n).filter (f i))
theorem z65 (f:Nat→Nat→Bool) (n:Nat):(dOf f n).length=n:=by simp [dOf]
theorem x9c (f:Nat→Nat→Bool) {n i:Nat} (hi:i<n):(dOf f n)[i]?=some (toI ((List.range n).filter (f i))):=by
 rw [dOf,List.getElem?_map,List.getElem?_range hi]; rfl
def y5j (l:List Int):List D:=[.list l.isEmpty (bif l.isEmpty then 0 else 1) (z2i l)]
theorem y63 (l:List Int):z4e [CK.list 1] (y5j l)=true:=by cases l<;>rfl
theorem w7k (l:List Int):dL ((y5j l)[0]?.getD D.nilp)=z2i l:=rfl
theorem w01 (l:List Int) (k:Int):[D.list false 1 (z2i l++[eI k])]=y5j (l++[k]):=by
 cases l<;>simp [y5j,z2i]
def z39 (f:Nat→Nat→Bool) (i k:Nat):List Int:=toI ((List.range k).filter (f i))
theorem x7f (f:Nat→Nat→Bool) (i k:Nat):(z39 f i k).length≤k:=by
 rw [z39,x1c]
 have:=List.length_filter_le (f i) (List.range k)
 rw [List.length_range] at this; exact this
theorem y1q (f:Nat→Nat→Bool) (i k:Nat):z39 f i (k+1)=z39 f i k++(if f i k=true then [(k:Int)] else []):=by
 rw [z39,List.range_succ,List.filter_append,w45, ←z39]
 congr 1
 cases h:f i k<;>simp [h,toI]
theorem w3d (f:Nat→Nat→Bool) (n i:Nat) (hi:i<n) (hn:n≤10) (A:List (List D)) (hA:A.length=n) (hAi:A[i]?=some (y5j [])):
  y0g (x2k std) (fld n f,(A,((0:Int),((0:Int),((0:Int),((0:Int),((0:Int),((0:Int),((0:Int),((0:Int),((0:Int),((0:Int),((i:Int),((n:Int),((i:Int),((n:Int),((0:Int),())))))))))))))))))=
   some (fld n f,(A.set i (y5j (z39 f i n)),((0:Int),((0:Int),((0:Int),((0:Int),((0:Int),((0:Int),((0:Int),((0:Int),((0:Int),((0:Int),((n:Int),((i:Int),())))))))))))))):=by
 have key:=x13 (b:=x2k std) n (fun k=>(fld n f,(A.set i (y5j (z39 f i k)),((0:Int),((0:Int),((0:Int),((0:Int),((0:Int),((0:Int),((0:Int),((0:Int),((0:Int),((0:Int),((i:Int),((n:Int),((i:Int),((n:Int),((k:Int),()))))))))))))))))))
  (fld n f,(A.set i (y5j (z39 f i n)),((0:Int),((0:Int),((0:Int),((0:Int),((0:Int),((0:Int),((0:Int),((0:Int),((0:Int),((0:Int),((n:Int),((i:Int),())))))))))))))) (fun k hk=>by
  have hw:=z3h (i:=k) (by omega)
  have hlt:(k:Int)<n:=by omega
  have h0:(0:Int)≤k:=by omega
  have h1:(k:Int)<((10:Nat):Int):=by omega
  have h2:(0:Int)≤i:=by omega
  have h3:(i:Int)<((10:Nat):Int):=by omega
  have h4:(i:Int)<n:=by omega
  have hf:=z47 n f i k (by omega) (by omega)
  generalize fld n f=F at hf⊢
  cases hb:f i k with
  |false=>
   rw [hb] at hf
   have e:z39 f i (k+1)=z39 f i k:=by rw [y1q,hb]; simp
   rw [e]
   generalize A.set i (y5j (z39 f i k))=B
   simp only [x2k,z2c,z2d,z3v,y11,eq_self,not_true,not_false_eq_true,decide_true,decide_false,Bool.not_true,Bool.not_false,Int.reduceLT,Int.reduceNeg,Int.reduceGT,cond_true,cond_false,Int.reduceEq,Int.reduceLE,Int.reduceGE,hlt,h0,h1,h2,h3,hf,ge_iff_le,z0i,hw]
  |true=>
   rw [hb] at hf
   have e:z39 f i (k+1)=z39 f i k++[(k:Int)]:=by rw [y1q,hb]; simp
   have hset:A.set i (y5j (z39 f i (k+1)))=(A.set i (y5j (z39 f i k))).set i (y5j (z39 f i k++[(k:Int)])):=by rw [e,List.set_set]
   rw [hset]
   have hll:=x7f f i k
   have hBl:(A.set i (y5j (z39 f i k))).length=n:=by rw [List.length_set,hA]
   have hBi:(A.set i (y5j (z39 f i k)))[i]?=some (y5j (z39 f i k)):=by rw [List.getElem?_set]; simp [hA,hi]
   generalize A.set i (y5j (z39 f i k))=B at hBl hBi⊢
   generalize z39 f i k=R at hll hBi⊢
   have hel:=z9k R
   have hle:R.length+1≤1000000:=by omega
   have hz:(0:Int).toNat=0:=rfl
   have hR0:(0:Int)≤R.length:=by omega
   have ht:(z2i R).take R.length=z2i R:=by rw [←hel,List.take_length]
   have hone:=w01 R k
   simp only [eI] at hone
   simp only [x2k,z2c,z2d,z3v,y11,y63,w7k,eq_self,not_true,not_false_eq_true,decide_true,decide_false,Bool.not_true,Bool.not_false,Int.reduceLT,Int.reduceNeg,Int.reduceGT,cond_true,cond_false,Int.reduceEq,Int.reduceLE,Int.reduceGE,hlt,h0,h1,h2,h3,h4,hf,hBl,hBi,hel,hz,hR0,ge_iff_le,Int.le_refl,z0i,hw,ht,hle,List.drop_zero,Nat.sub_zero,Nat.le_refl,Bool.and_true,
    List.take_succ_cons,List.take_zero,List.length_append,List.length_cons,List.length_nil,Nat.zero_add,hone,List.length_set]) (by
  have hn:¬ (n:Int)<n:=by omega
  simp only [x2k,z2c,z2d,eq_self,not_true,not_false_eq_true,decide_true,decide_false,Bool.not_true,Bool.not_false,Int.reduceLT,Int.reduceNeg,Int.reduceGT,cond_true,cond_false,Int.reduceEq,Int.reduceLE,Int.reduceGE,hn])
 have e0:A.set i (y5j (z39 f i 0))=A:=by
  apply List.ext_getElem?
  intro j
  rw [List.getElem?_set]
  by_cases h:i=j
  ·subst h; rw [if_pos rfl,if_pos (by omega),hAi]; rfl
  ·rw [if_neg h]
 rw [e0] at key
 exact key
end Go.Am
end
section
namespace Go.Am
open T11
theorem x7e {f:Nat→Nat→Bool} {i n:Nat} (h:∀ k,k<n→f i k=false):z39 f i n=[]:=by
 induction n with
 |zero=>rfl
 |succ n ih=>rw [y1q,ih fun k hk=>h k (by omega),h n (by omega)]; rfl
theorem w0z {f:Nat→Nat→Bool} {i n k:Nat} (hk:k<n) (h:f i k=true):(z39 f i n).isEmpty=false:=by
 rw [List.isEmpty_eq_false_iff]
 intro e
 have:(k:Int)∈z39 f i n:=by
  rw [z39,toI,List.mem_map]
  exact ⟨k,List.mem_filter.2 ⟨List.mem_range.2 hk,h⟩,rfl⟩
 rw [e] at this; cases this
def z3o (f:Nat→Nat→Bool) (n i:Nat):List (List D):=z08 fe ((dOf f n).take i)++List.replicate (n - i) (y5j [])
theorem y56 (f:Nat→Nat→Bool) {n i:Nat} (hi:i≤n):(z3o f n i).length=n:=by
 rw [z3o,List.length_append,z4p,List.length_take,z65,List.length_replicate]; omega
theorem x40 (f:Nat→Nat→Bool) {n i:Nat} (hi:i<n):(z3o f n i)[i]?=some (y5j []):=by
 have hl:(z08 fe ((dOf f n).take i)).length=i:=by rw [z4p,List.length_take,z65]; omega
 rw [z3o,List.getElem?_append_right (by omega),hl,Nat.sub_self,List.getElem?_replicate,if_pos (by omega)]
theorem x4z (f:Nat→Nat→Bool) {n i:Nat} (hi:i<n):(z3o f n i).set i (eLf fe (z39 f i n))=z3o f n (i+1):=by
 have hl:(z08 fe ((dOf f n).take i)).length=i:=by rw [z4p,List.length_take,z65]; omega
 have hg:=x9c f hi
 rw [z3o,List.set_append_right (h:=by omega),hl,Nat.sub_self,show n - i=(n - (i+1))+1 by omega,List.replicate_succ,List.set_cons_zero,z3o,
  List.take_succ_eq_append_getElem (by rw [z65]; exact hi),(List.getElem?_eq_some_iff.1 hg).2]
 simp [z08,z39]
theorem x5y (f:Nat→Nat→Bool) (n i:Nat) (hi:i<n) (hn:n≤10) (hsup:∀ k,n≤k→f i k=false):
  z8k it0 std (fld n f,(z3o f n i,((0:Int),((0:Int),((0:Int),((0:Int),((0:Int),((0:Int),((0:Int),((0:Int),((0:Int),((0:Int),((n:Int),((i:Int),()))))))))))))))=
   some (.inl (fld n f,(z3o f n (i+1),((0:Int),((0:Int),((0:Int),((0:Int),((0:Int),((0:Int),((0:Int),((0:Int),((0:Int),((0:Int),((n:Int),(((i+1:Nat):Int),()))))))))))))))):=by
 have hw:=z3h (i:=i) (by omega)
 have hlt:(i:Int)<n:=by omega
 have h2:(0:Int)≤i:=by omega
 have h3:(i:Int)<((10:Nat):Int):=by omega
 have f0:(fld n f)[1+i*10]?=some (eC (f i 0)):=z47 n f i 0 (by omega) (by omega)
 have f1:=z47 n f i 1 (by omega) (by omega)
 have f2:=z47 n f i 2 (by omega) (by omega)
 have f3:=z47 n f i 3 (by omega) (by omega)
 have f4:=z47 n f i 4 (by omega) (by omega)
 have f5:=z47 n f i 5 (by omega) (by omega)
 have f6:=z47 n f i 6 (by omega) (by omega)
 have f7:=z47 n f i 7 (by omega) (by omega)
 have f8:=z47 n f i 8 (by omega) (by omega)
 have f9:=z47 n f i 9 (by omega) (by omega)
 have hBl:=y56 f (i:=i) (n:=n) (by omega)
 have hBi:=x40 f hi
 have hst:=x4z f hi
 have h49:it0 _ _ (x2k std) (fld n f,(z3o f n i,((0:Int),((0:Int),((0:Int),((0:Int),((0:Int),((0:Int),((0:Int),((0:Int),((0:Int),((0:Int),((i:Int),((n:Int),((i:Int),((n:Int),((0:Int),())))))))))))))))))=_:=w3d f n i hi hn (z3o f n i) hBl hBi
 have hF0:(fld n f)[0]?=some (eI n):=rfl
 by_cases hz:∀ k,k<n→f i k=false
 ·have hz:∀ k,f i k=false:=fun k=>by
   by_cases hk:k<n
   ·exact hz k hk
   ·exact hsup k (by omega)
  have he:=x7e (f:=f) (i:=i) (n:=n) fun k _=>hz k
  have hset:(z3o f n i).set i [D.list true 1 []]=z3o f n (i+1):=by
   rw [←hst,he]; rfl
  rw [hz 0] at f0
  rw [hz 1] at f1
  rw [hz 2] at f2
  rw [hz 3] at f3
  rw [hz 4] at f4
  rw [hz 5] at f5
  rw [hz 6] at f6
  rw [hz 7] at f7
  rw [hz 8] at f8
  rw [hz 9] at f9
  rw [←hset]
  generalize z3o f n i=B at hBl hBi⊢
  generalize fld n f=F at f0 f1 f2 f3 f4 f5 f6 f7 f8 f9⊢
  simp only [z8k,z2c,z2d,z3v,y11,y63,eq_self,not_true,not_false_eq_true,decide_true,decide_false,Bool.not_true,Bool.not_false,Int.reduceLT,Int.reduceNeg,Int.reduceGT,cond_true,cond_false,Int.reduceEq,Int.reduceLE,Int.reduceGE,hlt,h2,h3,f0,f1,f2,f3,f4,f5,f6,f7,f8,f9,hBl,hBi,ge_iff_le,z0i,hw,List.length_set]
 ·have hex:∃ k,k<n∧f i k=true:=by
   refine Classical.byContradiction fun hno=>hz fun k hk=>?_
   cases hb:f i k with
   |false=>rfl
   |true=>exact absurd ⟨k,hk,hb⟩ hno
  obtain ⟨k0,hk0,hk1⟩:=hex
  have hne:=w0z (f:=f) (i:=i) (n:=n) hk0 hk1
  have hrow:y5j (z39 f i n)=eLf fe (z39 f i n):=by
   rw [y5j,eLf,fe,hne]; rfl
  rw [hrow,hst] at h49
  have hBl':=y56 f (i:=i+1) (n:=n) (by omega)
  generalize z3o f n (i+1)=B' at h49 hBl'⊢
  generalize z3o f n i=B at hBl hBi h49⊢
  generalize fld n f=F at f0 f1 f2 f3 f4 f5 f6 f7 f8 f9 hF0 h49⊢
  cases b0:f i 0 with
  |true=>
   rw [b0] at f0
   simp only [z8k,z2c,z2d,z3v,y11,z0z,z3c,eq_self,not_true,not_false_eq_true,decide_true,decide_false,Bool.not_true,Bool.not_false,Int.reduceLT,Int.reduceNeg,Int.reduceGT,cond_true,cond_false,Int.reduceEq,Int.reduceLE,Int.reduceGE,hlt,h2,h3,f0,f1,f2,f3,f4,f5,f6,f7,f8,f9,hF0,hBl,hBl',ge_iff_le,z0i,hw,h49]
  |false=>
   rw [b0] at f0
   cases b1:f i 1 with
   |true=>
    rw [b1] at f1
    simp only [z8k,z2c,z2d,z3v,y11,z0z,z3c,eq_self,not_true,not_false_eq_true,decide_true,decide_false,Bool.not_true,Bool.not_false,Int.reduceLT,Int.reduceNeg,Int.reduceGT,cond_true,cond_false,Int.reduceEq,Int.reduceLE,Int.reduceGE,hlt,h2,h3,f0,f1,f2,f3,f4,f5,f6,f7,f8,f9,hF0,hBl,hBl',ge_iff_le,z0i,hw,h49]
   |false=>
    rw [b1] at f1
    cases b2:f i 2 with
    |true=>
     rw [b2] at f2
     simp only [z8k,z2c,z2d,z3v,y11,z0z,z3c,eq_self,not_true,not_false_eq_true,decide_true,decide_false,Bool.not_true,Bool.not_false,Int.reduceLT,Int.reduceNeg,Int.reduceGT,cond_true,cond_false,Int.reduceEq,Int.reduceLE,Int.reduceGE,hlt,h2,h3,f0,f1,f2,f3,f4,f5,f6,f7,f8,f9,hF0,hBl,hBl',ge_iff_le,z0i,hw,h49]
    |false=>
     rw [b2] at f2
     cases b3:f i 3 with
     |true=>
      rw [b3] at f3
      simp only [z8k,z2c,z2d,z3v,y11,z0z,z3c,eq_self,not_true,not_false_eq_true,decide_true,decide_false,Bool.not_true,Bool.not_false,Int.reduceLT,Int.reduceNeg,Int.reduceGT,cond_true,cond_false,Int.reduceEq,Int.reduceLE,Int.reduceGE,hlt,h2,h3,f0,f1,f2,f3,f4,f5,f6,f7,f8,f9,hF0,hBl,hBl',ge_iff_le,z0i,hw,h49]
     |false=>
      rw [b3] at f3
      cases b4:f i 4 with
      |true=>
       rw [b4] at f4
       simp only [z8k,z2c,z2d,z3v,y11,z0z,z3c,eq_self,not_true,not_false_eq_true,decide_true,decide_false,Bool.not_true,Bool.not_false,Int.reduceLT,Int.reduceNeg,Int.reduceGT,cond_true,cond_false,Int.reduceEq,Int.reduceLE,Int.reduceGE,hlt,h2,h3,f0,f1,f2,f3,f4,f5,f6,f7,f8,f9,hF0,hBl,hBl',ge_iff_le,z0i,hw,h49]
      |false=>
       rw [b4] at f4
       cases b5:f i 5 with
       |true=>
        rw [b5] at f5
        simp only [z8k,z2c,z2d,z3v,y11,z0z,z3c,eq_self,not_true,not_false_eq_true,decide_true,decide_false,Bool.not_true,Bool.not_false,Int.reduceLT,Int.reduceNeg,Int.reduceGT,cond_true,cond_false,Int.reduceEq,Int.reduceLE,Int.reduceGE,hlt,h2,h3,f0,f1,f2,f3,f4,f5,f6,f7,f8,f9,hF0,hBl,hBl',ge_iff_le,z0i,hw,h49]
       |false=>
        rw [b5] at f5
        cases b6:f i 6 with
        |true=>
         rw [b6] at f6
         simp only [z8k,z2c,z2d,z3v,y11,z0z,z3c,eq_self,not_true,not_false_eq_true,decide_true,decide_false,Bool.not_true,Bool.not_false,Int.reduceLT,Int.reduceNeg,Int.reduceGT,cond_true,cond_false,Int.reduceEq,Int.reduceLE,Int.reduceGE,hlt,h2,h3,f0,f1,f2,f3,f4,f5,f6,f7,f8,f9,hF0,hBl,hBl',ge_iff_le,z0i,hw,h49]
        |false=>
         rw [b6] at f6
         cases b7:f i 7 with
         |true=>
          rw [b7] at f7
          simp only [z8k,z2c,z2d,z3v,y11,z0z,z3c,eq_self,not_true,not_false_eq_true,decide_true,decide_false,Bool.not_true,Bool.not_false,Int.reduceLT,Int.reduceNeg,Int.reduceGT,cond_true,cond_false,Int.reduceEq,Int.reduceLE,Int.reduceGE,hlt,h2,h3,f0,f1,f2,f3,f4,f5,f6,f7,f8,f9,hF0,hBl,hBl',ge_iff_le,z0i,hw,h49]
         |false=>
          rw [b7] at f7
          cases b8:f i 8 with
          |true=>
           rw [b8] at f8
           simp only [z8k,z2c,z2d,z3v,y11,z0z,z3c,eq_self,not_true,not_false_eq_true,decide_true,decide_false,Bool.not_true,Bool.not_false,Int.reduceLT,Int.reduceNeg,Int.reduceGT,cond_true,cond_false,Int.reduceEq,Int.reduceLE,Int.reduceGE,hlt,h2,h3,f0,f1,f2,f3,f4,f5,f6,f7,f8,f9,hF0,hBl,hBl',ge_iff_le,z0i,hw,h49]
          |false=>
           rw [b8] at f8
           cases b9:f i 9 with
           |true=>
            rw [b9] at f9
            simp only [z8k,z2c,z2d,z3v,y11,z0z,z3c,eq_self,not_true,not_false_eq_true,decide_true,decide_false,Bool.not_true,Bool.not_false,Int.reduceLT,Int.reduceNeg,Int.reduceGT,cond_true,cond_false,Int.reduceEq,Int.reduceLE,Int.reduceGE,hlt,h2,h3,f0,f1,f2,f3,f4,f5,f6,f7,f8,f9,hF0,hBl,hBl',ge_iff_le,z0i,hw,h49]
           |false=>
            rw [b9] at f9
            exfalso
            have hk:k0<10:=by omega
            have hs:k0=0∨k0=1∨k0=2∨k0=3∨k0=4∨k0=5∨k0=6∨k0=7∨k0=8∨k0=9:=by omega
            rcases hs with h|h|h|h|h|h|h|h|h|h<;>subst h<;>simp_all
theorem v3i (f:Nat→Nat→Bool) (n:Nat) (hn:n≤10) (hsup:∀ i k,n≤k→f i k=false):G49 std (fld n f,())=some (fld n f,(z08 fe (dOf f n),())):=by
 have hF0:(fld n f)[0]?=some (eI n):=rfl
 have key:it0 _ _ (z8k it0 std) (fld n f,(z3o f n 0,((0:Int),((0:Int),((0:Int),((0:Int),((0:Int),((0:Int),((0:Int),((0:Int),((0:Int),((0:Int),((n:Int),((0:Int),()))))))))))))))=some (fld n f,(z08 fe (dOf f n),())):=
  x13 (b:=z8k it0 std) n (fun i=>(fld n f,(z3o f n i,((0:Int),((0:Int),((0:Int),((0:Int),((0:Int),((0:Int),((0:Int),((0:Int),((0:Int),((0:Int),((n:Int),((i:Int),()))))))))))))))) (fld n f,(z08 fe (dOf f n),())) (fun i hi=>x5y f n i hi hn (hsup i)) (by
   have hn:¬ (n:Int)<n:=by omega
   have e:z3o f n n=z08 fe (dOf f n):=by
    rw [z3o,Nat.sub_self,List.replicate_zero,List.append_nil,List.take_of_length_le (by rw [z65]; exact Nat.le_refl _)]
   rw [e]
   simp only [z8k,z2c,z2d,eq_self,not_true,not_false_eq_true,decide_true,decide_false,Bool.not_true,Bool.not_false,Int.reduceLT,Int.reduceNeg,Int.reduceGT,cond_true,cond_false,Int.reduceEq,Int.reduceLE,Int.reduceGE,hn])
 have e0:z3o f n 0=List.replicate n [D.list true 0 []]:=by
  rw [z3o,List.take_zero,Nat.sub_zero]; rfl
 rw [e0] at key
 have hn0:(0:Int)≤n:=by omega
 have hnm:(n:Int)≤1000000:=by omega
 have hl:(z08 fe (dOf f n)).length=n:=by rw [z4p,z65]
 have ht:(z08 fe (dOf f n)).take n=z08 fe (dOf f n):=List.take_of_length_le (Nat.le_of_eq hl)
 unfold G49
 generalize fld n f=F at hF0 key⊢
 simp only [g49,z2c,z2d,z0z,z3c,eq_self,not_true,not_false_eq_true,decide_true,decide_false,Bool.not_true,Bool.not_false,Int.reduceLT,Int.reduceNeg,Int.reduceGT,cond_true,cond_false,Int.reduceEq,Int.reduceLE,Int.reduceGE,hF0,hn0,hnm,ge_iff_le,Int.le_refl,Bool.and_true,key,hl,Nat.le_refl,List.drop_zero,ht,List.length_replicate]
end Go.Am
end
section
namespace Go.Am
open T11
theorem x30 (f:Nat→Nat→Bool) {n i:Nat} (hi:i<n):(dOf f n).getD i []=toI ((List.range n).filter (f i)):=by
 rw [List.getD_eq_getElem?_getD,x9c f hi]; rfl
theorem x9d {f:Nat→Nat→Bool} {n i k:Nat} (hi:i<n) (hk:k<n):bt (dOf f n) i k=f i k:=by
 rw [bt,x30 f hi]
 cases h:f i k with
 |true=>exact decide_eq_true (by rw [toI,List.mem_map]; exact ⟨k,List.mem_filter.2 ⟨List.mem_range.2 hk,h⟩,rfl⟩)
 |false=>
  refine decide_eq_false fun hm=>?_
  rw [toI,List.mem_map] at hm
  obtain ⟨j,hj,he⟩:=hm
  have:j=k:=by omega
  subst this
  rw [(List.mem_filter.1 hj).2] at h; cases h
theorem x4p {l:List Nat} {n:Nat} (hp:l.Pairwise (· < ·)) (hl:∀ x∈l,x<n):z7h (toI l) n:=by
 intro i hi
 rw [x1c] at hi
 have hx:∀ j,j<l.length→∃ a,l[j]?=some a∧gI (toI l) j=(a:Int):=fun j hj=>by
  obtain ⟨a,ha⟩:=z1q hj
  refine ⟨a,ha,?_⟩
  rw [gI,toI,List.getD_eq_getElem?_getD,List.getElem?_map,ha]; rfl
 obtain ⟨a,ha,he⟩:=hx i hi
 have hal:=hl a (List.mem_of_getElem? ha)
 refine ⟨?_,?_,fun h0=>?_⟩
 ·show 0≤gI (toI l) i; omega
 ·show gI (toI l) i<n; omega
 ·obtain ⟨b,hb,he'⟩:=hx (i - 1) (by omega)
  show gI (toI l) (i - 1)<gI (toI l) i
  rw [he,he']
  rw [List.pairwise_iff_getElem] at hp
  have:=hp (i - 1) i (by omega) hi (by omega)
  rw [(List.getElem?_eq_some_iff.1 ha).2,(List.getElem?_eq_some_iff.1 hb).2] at this
  omega
theorem w2v {f:Nat→Nat→Bool} {n:Nat} (h1:1≤n) (h10:n≤10) (ht:u0s f n):y4u (dOf f n)=0:=by
 rw [y4u,if_neg (by rw [z65]; omega),if_neg,if_neg]
 ·rintro ⟨i,hi,hb⟩
  rw [z65] at hi
  have hi:=List.mem_range.1 hi
  rcases hb with hb|⟨k,hk,hb⟩
  ·have h2:=ht.1 i hi
   have h3:=x9d (f:=f) hi hi
   rw [bt,decide_eq_true hb,h2] at h3; cases h3
  ·have hk:=List.mem_range.1 hk
   have h2:=ht.2 i k hi (by omega) (by omega)
   have h3:=x9d (f:=f) (i:=i) (k:=k) hi (by omega)
   have h4:=x9d (f:=f) (i:=k) (k:=i) (by omega) hi
   rw [bt] at h3 h4
   rw [h3,h4,h2] at hb
   revert hb
   cases f k i<;>simp
 ·rintro ⟨i,hi,hb⟩
  rw [z65] at hi hb
  have hi:=List.mem_range.1 hi
  refine hb ?_
  rw [x30 f hi]
  exact x4p (List.Pairwise.filter _ List.pairwise_lt_range) fun x hx=>List.mem_range.1 (List.mem_filter.1 hx).1
def x2w (f:Nat→Nat→Bool) (i k:Nat):Nat→Nat→Bool:=fun a b=>f a b||(decide (a=i)&&decide (b=k))
def stG (s v:Nat) (rest:List Nat) (st:(Nat→Nat→Bool)×List Int):Nat→(Nat→Nat→Bool)×List Int
 |0=>st
 |k+1=>if k<v then (x2w (stG s v rest st k).1 s (at_ rest k),(stG s v rest st k).2)
   else (x2w (stG s v rest st k).1 (at_ rest k) s,(stG s v rest st k).2.set (at_ rest k) (gI (stG s v rest st k).2 (at_ rest k) - 1))
theorem x00 {l:List Nat} {q:Nat} (h:q<l.length):at_ l q∈l:=by
 rw [at_,List.getD_eq_getElem?_getD,List.getElem?_eq_getElem h]; exact List.getElem_mem h
theorem x4f {l:List Nat} (hn:l.Nodup) {q r:Nat} (hq:q<l.length) (hr:r<l.length) (h:at_ l q=at_ l r):q=r:=by
 rw [at_,at_,List.getD_eq_getElem?_getD,List.getD_eq_getElem?_getD,List.getElem?_eq_getElem hq,List.getElem?_eq_getElem hr] at h
 exact (List.getElem?_inj hq hn).1 (by rw [List.getElem?_eq_getElem hq,List.getElem?_eq_getElem hr]; exact congrArg some h)
theorem v28 {l:List Nat} {x:Nat} (h:x∈l):∃ q,q<l.length∧at_ l q=x:=by
 obtain ⟨q,hq⟩:=List.getElem?_of_mem h
 refine ⟨q,(List.getElem?_eq_some_iff.1 hq).1,?_⟩
 rw [at_,List.getD_eq_getElem?_getD,hq]; rfl
theorem w4k {n:Nat} {p:Nat→Bool} {x:Nat} (hx:x<n) (hp:p x=false):cnt n (fun b=>p b||decide (b=x))=cnt n p+1:=by
 have h1:cnt n (fun b=>decide (b=x))=1:=by
  have:=x0s x (n - x) (fun b=>decide (b=x))
  rw [show x+(n - x)=n by omega] at this
  rw [this,z4s (n:=x) (q:=fun _=>false) fun i hi=>decide_eq_false (by omega),x0t]
  obtain ⟨m,hm⟩:∃ m,n - x=1+m:=⟨n - x - 1,by omega⟩
  rw [hm,x0s,z4s (n:=m) (q:=fun _=>false) fun i hi=>decide_eq_false (by omega),x0t]
  simp [cnt,sm,o1]
 rw [←h1,cnt,cnt,cnt, ←w86]
 refine z9a fun i hi=>?_
 by_cases e:i=x
 ·subst e; rw [hp]; simp [o1]
 ·simp [e,o1]
structure Step (n s v:Nat) (rest:List Nat) (f0:Nat→Nat→Bool) (l0:List Int) (f:Nat→Nat→Bool) (l:List Int) (k:Nat):Prop where
 len:l.length=n
 sup:∀ a b,f a b=true→a<n∧b<n
 oth:∀ x,x<n→x≠s→(cnt n (f x):Int)+gI l x=(cnt n (f0 x):Int)+gI l0 x
 own:cnt n (f s)=cnt n (f0 s)+min k v
 left:∀ x,x<n→gI l x=if ∃ q∈List.range k,v≤q∧at_ rest q=x then gI l0 x - 1 else gI l0 x
 done:∀ q,q<rest.length→f s (at_ rest q)=decide (q<k∧q<v)∧f (at_ rest q) s=decide (q<k∧v≤q)
 same:∀ a b,(a≠s∨b∉rest)→(b≠s∨a∉rest)→f a b=f0 a b
theorem w84 {n s v:Nat} {rest:List Nat} {f0:Nat→Nat→Bool} {l0:List Int} (hs:s<n) (hsr:s∉rest) (hn:rest.Nodup) (hr:∀ x∈rest,x<n) (hl:l0.length=n)
  (hsup:∀ a b,f0 a b=true→a<n∧b<n) (h0:∀ x∈rest,f0 s x=false∧f0 x s=false) (k:Nat) (hk:k≤rest.length):
  Step n s v rest f0 l0 (stG s v rest (f0,l0) k).1 (stG s v rest (f0,l0) k).2 k:=by
 induction k with
 |zero=>
  refine ⟨hl,hsup,fun x _ _=>rfl,by simp [stG],fun x _=>?_,fun q hq=>?_,fun a b _ _=>rfl⟩
  ·rw [if_neg (by rintro ⟨q,hq,_⟩; simp at hq)]; rfl
  ·obtain ⟨a1,a2⟩:=h0 _ (x00 hq)
   exact ⟨by simp [stG,a1],by simp [stG,a2]⟩
 |succ k ih=>
  have ih:=ih (by omega)
  rw [stG]
  generalize (stG s v rest (f0,l0) k).1=f at ih⊢
  generalize (stG s v rest (f0,l0) k).2=l at ih⊢
  have hxr:=x00 (l:=rest) (q:=k) (by omega)
  have hxn:=hr _ hxr
  have hxs:at_ rest k≠s:=fun e=>hsr (e▸hxr)
  obtain ⟨d1,d2⟩:=ih.done k (by omega)
  have d1:f s (at_ rest k)=false:=by rw [d1]; exact decide_eq_false (by omega)
  have d2:f (at_ rest k) s=false:=by rw [d2]; exact decide_eq_false (by omega)
  by_cases hkv:k<v
  ·rw [if_pos hkv]
   have hother:∀ a,a≠s→x2w f s (at_ rest k) a=f a:=fun a ha=>by
    funext b; simp [x2w,ha]
   have hself:x2w f s (at_ rest k) s=fun b=>f s b||decide (b=at_ rest k):=by
    funext b; simp [x2w]
   refine ⟨ih.len,fun a b hab=>?_,fun x hx hne=>?_,?_,fun x hx=>?_,fun q hq=>?_,fun a b h1 h2=>?_⟩
   ·simp only [x2w,Bool.or_eq_true,Bool.and_eq_true,decide_eq_true_eq] at hab
    rcases hab with hab|⟨rfl,rfl⟩
    ·exact ih.sup a b hab
    ·exact ⟨hs,hxn⟩
   ·simp only [hother x hne]; exact ih.oth x hx hne
   ·simp only [hself]
    rw [w4k hxn d1,ih.own]; omega
   ·simp only
    rw [ih.left x hx]
    by_cases c:∃ q∈List.range k,v≤q∧at_ rest q=x
    ·rw [if_pos c,if_pos]
     obtain ⟨q,hq,h1,h2⟩:=c
     exact ⟨q,by simp at hq⊢; omega,h1,h2⟩
    ·rw [if_neg c,if_neg]
     rintro ⟨q,hq,h1,h2⟩
     simp at hq
     exact c ⟨q,by simp; omega,h1,h2⟩
   ·obtain ⟨e1,e2⟩:=ih.done q hq
    have hqs:at_ rest q≠s:=fun e=>hsr (e▸x00 hq)
    refine ⟨?_,?_⟩
    ·simp only [hself]
     rw [e1]
     by_cases e:q=k
     ·subst e; simp [hkv]
     ·have:at_ rest q≠at_ rest k:=fun h=>e (x4f hn hq (by omega) h)
      simp only [this,decide_false,Bool.or_false]
      congr 1
      exact propext ⟨fun h=>⟨by omega,h.2⟩,fun h=>⟨by omega,h.2⟩⟩
    ·simp only [hother _ hqs]
     rw [e2]
     congr 1
     exact propext ⟨fun h=>⟨by omega,h.2⟩,fun h=>⟨by omega,h.2⟩⟩
   ·simp only [x2w]
    rw [ih.same a b h1 h2]
    have:¬ (a=s∧b=at_ rest k):=by
     rintro ⟨rfl,rfl⟩
     rcases h1 with h1|h1
     ·exact h1 rfl
     ·exact h1 hxr
    cases f0 a b with
    |true=>rfl
    |false=>
     simp only [Bool.false_or]
     cases hq:(decide (a=s)&&decide (b=at_ rest k)) with
     |false=>rfl
     |true=>simp at hq; exact absurd hq this
  ·rw [if_neg hkv]
   have hother:∀ a,a≠at_ rest k→x2w f (at_ rest k) s a=f a:=fun a ha=>by
    funext b; simp [x2w,ha]
   have hself:x2w f (at_ rest k) s (at_ rest k)=fun b=>f (at_ rest k) b||decide (b=s):=by
    funext b; simp [x2w]
   have hlx:gI l (at_ rest k)=gI l0 (at_ rest k):=by
    rw [ih.left _ hxn,if_neg]
    rintro ⟨q,hq,h1,h2⟩
    simp at hq
    have:=x4f hn (by omega) (by omega) h2
    omega
   refine ⟨by rw [List.length_set]; exact ih.len,fun a b hab=>?_,fun x hx hne=>?_,?_,fun x hx=>?_,fun q hq=>?_,fun a b h1 h2=>?_⟩
   ·simp only [x2w,Bool.or_eq_true,Bool.and_eq_true,decide_eq_true_eq] at hab
    rcases hab with hab|⟨rfl,rfl⟩
    ·exact ih.sup a b hab
    ·exact ⟨hxn,hs⟩
   ·have ho:=ih.oth x hx hne
    simp only
    by_cases e:x=at_ rest k
    ·subst e
     rw [hself,w4k hs d2,x8e (by rw [ih.len]; exact hxn),if_pos rfl]
     omega
    ·rw [hother x e,x8e (by rw [ih.len]; exact hxn),if_neg e]; exact ho
   ·simp only
    rw [hother s (Ne.symm hxs),ih.own]; omega
   ·simp only
    rw [x8e (by rw [ih.len]; exact hxn)]
    by_cases e:x=at_ rest k
    ·subst e
     rw [if_pos rfl,if_pos ⟨k,by simp,by omega,rfl⟩,hlx]
    ·rw [if_neg e,ih.left x hx]
     by_cases c:∃ q∈List.range k,v≤q∧at_ rest q=x
     ·rw [if_pos c,if_pos]
      obtain ⟨q,hq,h1,h2⟩:=c
      exact ⟨q,by simp at hq⊢; omega,h1,h2⟩
     ·rw [if_neg c,if_neg]
      rintro ⟨q,hq,h1,h2⟩
      simp at hq
      by_cases e2:q=k
      ·subst e2; exact e h2.symm
      ·exact c ⟨q,by simp; omega,h1,h2⟩
   ·obtain ⟨e1,e2⟩:=ih.done q hq
    refine ⟨?_,?_⟩
    ·simp only
     rw [hother s (Ne.symm hxs),e1]
     congr 1
     exact propext ⟨fun h=>⟨by omega,h.2⟩,fun h=>⟨by omega,h.2⟩⟩
    ·simp only
     by_cases e:q=k
     ·subst e
      rw [hself]
      simp; omega
     ·have:at_ rest q≠at_ rest k:=fun h=>e (x4f hn hq (by omega) h)
      rw [hother _ this,e2]
      congr 1
      exact propext ⟨fun h=>⟨by omega,h.2⟩,fun h=>⟨by omega,h.2⟩⟩
   ·simp only [x2w]
    rw [ih.same a b h1 h2]
    have:¬ (a=at_ rest k∧b=s):=by
     rintro ⟨rfl,rfl⟩
     rcases h2 with h2|h2
     ·exact h2 rfl
     ·exact h2 hxr
    cases f0 a b with
    |true=>rfl
    |false=>
     simp only [Bool.false_or]
     cases hq:(decide (a=at_ rest k)&&decide (b=s)) with
     |false=>rfl
     |true=>simp at hq; exact absurd hq this
end Go.Am
end
noncomputable section
namespace Go.Am
def v17:Ctr:=
 ⟨19,[.agg [.int .i64, .int .i64, .int .i64, .list 3]],[],[(.ret,⟨[(0, .int .i64)],[],1⟩)]⟩
def la19:List LA:=
 [⟨81,[false,true,false,true],1,⟨⟨[(0, .list 3),(1, .clo 51 [] [.bptr 0 0]),(7, .int .i64),(8, .int .i64)],[.box [.int .i64, .int .i64, .int .i64, .list 3]],19⟩,[(AX.ret,⟨[(4, .int .i64)],[.box [.int .i64, .int .i64, .int .i64, .list 3]],19⟩),((AX.exit 0),⟨[],[.box [.int .i64, .int .i64, .int .i64, .list 3]],19⟩)]⟩⟩]
def ja19:List JA:=
 [⟨19,[false,true,true,false,false,true,true],0,[(AX.normal,⟨[(10, .bool)],[],36⟩)]⟩,
 ⟨51,[false,true],1,[(AX.normal,⟨[(3, .bool)],[.box [.int .i64, .int .i64, .int .i64, .list 3]],31⟩)]⟩,
 ⟨19,[true,false,false,true,true],0,[(AX.ret,⟨[(2, .int .i64)],[],36⟩),(AX.normal,⟨[],[],36⟩)]⟩]
def v7w:List CF:=
 [⟨w7r,G52⟩]
def an19:Anns:=
 ⟨v7w,ja19,[]⟩
def y5q (it:It) (p:Prim):(Int×(Int×(Int×(LD×(LD×(Int×(Int×Unit)))))))→Option ((Int×(Int×(Int×(LD×(LD×(Int×(Int×Unit)))))))⊕((Int×(Int×(Int×(LD×(Int×Unit)))))⊕(Int×(Int×(Int×(LD×Unit)))))):=
 fun a=>opt.run _ (
 opt.ask _ (p.cmp .lss a.2.2.2.2.2.2.1 a.2.2.2.2.2.1) (
 opt.need _ (p.rowOk a.2.2.2.2.1 (p.nat a.2.2.2.2.2.2.1) [ci,ci,ci])<|
 opt.need _ (p.cmp .geq a.2.2.2.2.2.2.1 (0:Int))<|
 opt.bnd T25 _ (
 opt.run T25 (
 opt.bnd T0 _ (g52 it p ((0:Int),((p.ar .sub .i64 a.2.1 (1:Int)),([[(D.int .i64 (p.rdI a.2.2.2.2.1 (p.nat a.2.2.2.2.2.2.1) 0))]],())))) fun b=>
 opt.ask _ (bif b.1 then Bool.false else Bool.true) (
 opt.ret _ (a.1,(a.2.1,(a.2.2.1,(a.2.2.2.1,(Bool.true,())))))) (
 opt.bnd T0 _ (g52 it p ((0:Int),((p.ar .sub .i64 a.1 (1:Int)),([[(D.int .i64 (p.rdI a.2.2.2.2.1 (p.nat a.2.2.2.2.2.2.1) 1))],[(D.int .i64 (p.rdI a.2.2.2.2.1 (p.nat a.2.2.2.2.2.2.1) 2))]],())))) fun c=>
 opt.ask _ (bif c.1 then Bool.false else Bool.true) (
 opt.ret _ (a.1,(a.2.1,(a.2.2.1,(a.2.2.2.1,(Bool.true,())))))) (
 opt.ret _ (a.1,(a.2.1,(a.2.2.1,(a.2.2.2.1,((p.cmp .eql (p.rdI a.2.2.2.2.1 (p.nat a.2.2.2.2.2.2.1) 1) (p.rdI a.2.2.2.2.1 (p.nat a.2.2.2.2.2.2.1) 2)),()))))))))) fun d=>
 opt.ask _ d.2.2.2.2.1 (
 opt.ret _ (Sum.inr (Sum.inl (d.1,(d.2.1,(d.2.2.1,(d.2.2.2.1,(a.2.2.2.2.2.2.1,())))))))) (
 opt.ret _ (Sum.inl (d.1,(d.2.1,(d.2.2.1,(d.2.2.2.1,(a.2.2.2.2.1,(a.2.2.2.2.2.1,((p.ar .add .i64 a.2.2.2.2.2.2.1 (1:Int)),())))))))))) (
 opt.ret _ (Sum.inr (Sum.inr (a.1,(a.2.1,(a.2.2.1,(a.2.2.2.1,()))))))))
def g19 (it:It):(p:Prim)→T38→Option T2:=
 fun p x=>
 opt.alt T2 (Unit) _ (
 opt.run (((Int×Unit)⊕Unit)) (
 opt.ask _ (p.cmp .gtr (p.ofNat (p.len x.2.2.2.1)) (80:Int)) (
 opt.ret _ (Sum.inl ((6:Int),()))) (
 opt.bnd T0 _ (
 opt.run T0 (
 opt.bnd T0 _ (g52 it p ((1:Int),((10:Int),([[(D.int .i64 x.1)]],())))) fun a=>
 opt.ask _ (bif a.1 then Bool.false else Bool.true) (
 opt.ret _ (Bool.true,())) (
 opt.bnd T0 _ (g52 it p ((1:Int),((12:Int),([[(D.int .i64 x.2.1)]],())))) fun b=>
 opt.ask _ (bif b.1 then Bool.false else Bool.true) (
 opt.ret _ (Bool.true,())) (
 opt.bnd T0 _ (g52 it p ((0:Int),((45:Int),([[(D.int .i64 x.2.2.1)]],())))) fun c=>
 opt.ask _ (bif c.1 then Bool.false else Bool.true) (
 opt.ret _ (Bool.true,())) (
 opt.alt ((Int×(Int×(Int×(LD×(Int×Unit)))))) T19 _ (
 it _ _ (y5q it p) (x.1,(x.2.1,(x.2.2.1,(x.2.2.2.1,(x.2.2.2.1,((p.ofNat (p.len x.2.2.2.1)),((0:Int),())))))))) (fun d=>
 opt.ret _ ((p.cmp .geq d.2.2.2.2.1 (0:Int)),())) (fun e=>
 opt.bnd T19 _ (some e) fun f=>
 opt.ret _ ((p.cmp .geq (-1:Int) (0:Int)),()))))))) fun g=>
 opt.ask _ g.1 (
 opt.ret _ (Sum.inl ((2:Int),()))) (
 opt.ret _ (Sum.inr ()))))) (fun h=>
 opt.ret _ (h.1,())) (fun i=>
 opt.bnd (Unit) _ (some i) fun j=>
 opt.ret _ ((0:Int),()))
def G19:=g19 it0
theorem ok19:CtrOk PG v17 (G19 std):=okF (a:=an19) (l:=la19) (gC v93 (gN)) (by kernel_rfl) fun _ _=>by kernel_rfl
def v16:Ctr:=
 ⟨20,[.agg [.int .i64, .int .i64, .int .i64, .list 3]],[],[(.ret,⟨[(0, .int .i64)],[],1⟩)]⟩
def la20:List LA:=
 [⟨20,[false,true,false,true,true,true],0,⟨⟨[(1, .bptr 0 0),(3, .int .i64)],[.box [.int .i64, .int .i64, .int .i64, .list 3]],90⟩,[(AX.ret,⟨[(2, .int .i64)],[],90⟩),((AX.exit 0),⟨[],[],90⟩)]⟩⟩]
def ja20:List JA:=
 [⟨20,[false,false,true,true],0,[(AX.normal,⟨[(1, .bptr 0 0),(36, .bool)],[.box [.int .i64, .int .i64, .int .i64, .list 3]],90⟩)]⟩,
 ⟨20,[false,true,false,false,true,false,false,true,false,true,true,true],0,[(AX.normal,⟨[(1, .bptr 0 0),(3, .int .i64),(89, .bool)],[.box [.int .i64, .int .i64, .int .i64, .list 3]],90⟩)]⟩]
def v7v:List CF:=
 []
def an20:Anns:=
 ⟨v7v,ja20,[]⟩
def y16 (p:Prim):(Int×(Int×(Int×(LD×(Int×Unit)))))→Option ((Int×(Int×(Int×(LD×(Int×Unit)))))⊕((Int×Unit)⊕Unit)):=
 fun a=>opt.run _ (
 opt.ask _ (p.cmp .lss a.2.2.2.2.1 (p.ofNat (p.len a.2.2.2.1))) (
 opt.need _ (p.rowOk a.2.2.2.1 (p.nat a.2.2.2.2.1) [ci,ci,ci])<|
 opt.need _ (p.cmp .geq a.2.2.2.2.1 (0:Int))<|
 opt.bnd T39 _ (
 opt.run T39 (
 opt.ask _ (p.cmp .lss (p.rdI a.2.2.2.1 (p.nat a.2.2.2.2.1) 0) (0:Int)) (
 opt.ret _ (a.1,(a.2.1,(a.2.2.1,(a.2.2.2.1,(a.2.2.2.2.1,(Bool.true,()))))))) (
 opt.ask _ (p.cmp .geq (p.rdI a.2.2.2.1 (p.nat a.2.2.2.2.1) 0) a.2.1) (
 opt.ret _ (a.1,(a.2.1,(a.2.2.1,(a.2.2.2.1,(a.2.2.2.2.1,(Bool.true,()))))))) (
 opt.ask _ (p.cmp .lss (p.rdI a.2.2.2.1 (p.nat a.2.2.2.2.1) 1) (0:Int)) (
 opt.ret _ (a.1,(a.2.1,(a.2.2.1,(a.2.2.2.1,(a.2.2.2.2.1,(Bool.true,()))))))) (
 opt.ask _ (p.cmp .geq (p.rdI a.2.2.2.1 (p.nat a.2.2.2.2.1) 1) a.1) (
 opt.ret _ (a.1,(a.2.1,(a.2.2.1,(a.2.2.2.1,(a.2.2.2.2.1,(Bool.true,()))))))) (
 opt.ask _ (p.cmp .lss (p.rdI a.2.2.2.1 (p.nat a.2.2.2.2.1) 2) (0:Int)) (
 opt.ret _ (a.1,(a.2.1,(a.2.2.1,(a.2.2.2.1,(a.2.2.2.2.1,(Bool.true,()))))))) (
 opt.ask _ (p.cmp .geq (p.rdI a.2.2.2.1 (p.nat a.2.2.2.2.1) 2) a.1) (
 opt.ret _ (a.1,(a.2.1,(a.2.2.1,(a.2.2.2.1,(a.2.2.2.2.1,(Bool.true,()))))))) (
 opt.ret _ (a.1,(a.2.1,(a.2.2.1,(a.2.2.2.1,(a.2.2.2.2.1,((p.cmp .eql (p.rdI a.2.2.2.1 (p.nat a.2.2.2.2.1) 1) (p.rdI a.2.2.2.1 (p.nat a.2.2.2.2.1) 2)),())))))))))))))) fun b=>
 opt.ask _ b.2.2.2.2.2.1 (
 opt.ret _ (Sum.inr (Sum.inl ((2:Int),())))) (
 opt.ret _ (Sum.inl (b.1,(b.2.1,(b.2.2.1,(b.2.2.2.1,((p.ar .add .i64 b.2.2.2.2.1 (1:Int)),())))))))) (
 opt.ret _ (Sum.inr (Sum.inr ()))))
def g20 (it:It):(p:Prim)→T38→Option T2:=
 fun p x=>
 opt.ask _ (p.cmp .gtr (p.ofNat (p.len x.2.2.2.1)) (80:Int)) (
 opt.ret _ ((6:Int),())) (
 opt.bnd T25 _ (
 opt.run T25 (
 opt.ask _ (p.cmp .lss x.1 (1:Int)) (
 opt.ret _ (x.1,(x.2.1,(x.2.2.1,(x.2.2.2.1,(Bool.true,())))))) (
 opt.ask _ (p.cmp .gtr x.1 (10:Int)) (
 opt.ret _ (x.1,(x.2.1,(x.2.2.1,(x.2.2.2.1,(Bool.true,())))))) (
 opt.ask _ (p.cmp .lss x.2.1 (1:Int)) (
 opt.ret _ (x.1,(x.2.1,(x.2.2.1,(x.2.2.2.1,(Bool.true,())))))) (
 opt.ask _ (p.cmp .gtr x.2.1 (12:Int)) (
 opt.ret _ (x.1,(x.2.1,(x.2.2.1,(x.2.2.2.1,(Bool.true,())))))) (
 opt.ask _ (p.cmp .lss x.2.2.1 (0:Int)) (
 opt.ret _ (x.1,(x.2.1,(x.2.2.1,(x.2.2.2.1,(Bool.true,())))))) (
 opt.ret _ (x.1,(x.2.1,(x.2.2.1,(x.2.2.2.1,((p.cmp .gtr x.2.2.1 (45:Int)),())))))))))))) fun a=>
 opt.ask _ a.2.2.2.2.1 (
 opt.ret _ ((2:Int),())) (
 opt.alt T2 (Unit) _ (
 it _ _ (y16 p) (a.1,(a.2.1,(a.2.2.1,(a.2.2.2.1,((0:Int),())))))) (fun b=>
 opt.ret _ (b.1,())) (fun c=>
 opt.bnd (Unit) _ (some c) fun d=>
 opt.ret _ ((0:Int),()))))
def G20:=g20 it0
theorem ok20:CtrOk PG v16 (G20 std):=okF (a:=an20) (l:=la20) (gN) (by kernel_rfl) fun _ _=>by kernel_rfl
def v1v:Ctr:=
 ⟨41,[],[],[(.ret,⟨[(0, .list 1)],[],1⟩)]⟩
def la41:List LA:=
 []
def ja41:List JA:=
 []
def v7e:List CF:=
 []
def an41:Anns:=
 ⟨v7e,ja41,[]⟩
def G41:(p:Prim)→Unit→Option ((LD×Unit)):=
 fun p x=>
 opt.need _ (p.leN (p.add 0 4) (p.len [[(D.list Bool.true 1 [[k1k]])],[(D.list Bool.true 1 [[k3k],k4k])],[(D.list Bool.true 1 [k0k,k4k])],[(D.list Bool.true 1 [k0k])]]))<|
 opt.ret _ ((p.cut [[(D.list Bool.true 1 [[k1k]])],[(D.list Bool.true 1 [[k3k],k4k])],[(D.list Bool.true 1 [k0k,k4k])],[(D.list Bool.true 1 [k0k])]] 0 4),())
theorem ok41:CtrOk PG v1v (G41 std):=okF (a:=an41) (l:=la41) (gN) (by kernel_rfl) fun _ _=>by kernel_rfl
def v1u:Ctr:=
 ⟨45,[],[],[(.ret,⟨[(0, .agg [.int .i64, .int .i64, .int .i64, .list 3])],[],1⟩)]⟩
def la45:List LA:=
 []
def ja45:List JA:=
 []
def v7d:List CF:=
 []
def an45:Anns:=
 ⟨v7d,ja45,[]⟩
def G45:(p:Prim)→Unit→Option T19:=
 fun p x=>
 opt.need _ (p.leN (p.add 0 5) (p.len [[k2k,k2k,k1k],[k2k,k1k,k3k],[k2k,k3k,k2k],[k1k,k2k,k1k],[k1k,k1k,k2k]]))<|
 opt.ret _ ((3:Int),((2:Int),((0:Int),((p.cut [[k2k,k2k,k1k],[k2k,k1k,k3k],[k2k,k3k,k2k],[k1k,k2k,k1k],[k1k,k1k,k2k]] 0 5),()))))
theorem ok45:CtrOk PG v1u (G45 std):=okF (a:=an45) (l:=la45) (gN) (by kernel_rfl) fun _ _=>by kernel_rfl
end Go.Am
end
section
namespace Go.Am
open T11
abbrev Vt:=Int×Int×Int
def eVt (v:Vt):List D:=[.int .i64 v.1, .int .i64 v.2.1, .int .i64 v.2.2]
def z0g (l:List Vt):List (List D):=l.map eVt
theorem z04 (l:List Vt):(z0g l).length=l.length:=by simp [z0g]
theorem z9j {l:List Vt} {i:Nat} {v:Vt} (h:l[i]?=some v):(z0g l)[i]?=some (eVt v):=by rw [z0g,List.getElem?_map,h]; rfl
theorem z2k (v:Vt):z4e [CK.int IntKind.i64,CK.int IntKind.i64,CK.int IntKind.i64] (eVt v)=true:=rfl
theorem z4d (v:Vt):dI ((eVt v)[0]?.getD D.nilp)=v.1:=rfl
theorem z4c (v:Vt):dI ((eVt v)[1]?.getD D.nilp)=v.2.1:=rfl
theorem z4b (v:Vt):dI ((eVt v)[2]?.getD D.nilp)=v.2.2:=rfl
def z3k (l:List Vt) (j a b:Int):Bool:=decide ((j,a,b)∈l)
def z38 (l:List Vt) (N:Nat) (j:Int):Nat:=sm N fun i=>cnt i fun (k:Nat)=>z3k l j i k&&z3k l j k i
end Go.Am
end
section
namespace Go.Am
open Go.ChangeShapes Go.WideShapes Go.ChangeAt
theorem w0h {x:D} (h:DK (.list [.int .i64, .int .i64, .int .i64]) x):∃ l:List Vt,x= .list false 3 (z0g l):=by
 match x,h with
 | .list f z es,h=>
  obtain ⟨rfl,rfl,hl,hr⟩:=h
  rw [y2b] at hr
  clear hl
  have:∃ l:List Vt,es=z0g l:=by
   induction es with
   |nil=>exact ⟨[],rfl⟩
   |cons r es ih=>
    obtain ⟨l,rfl⟩:=ih fun r hr'=>hr r (List.mem_cons_of_mem _ hr')
    have h0:=hr r (List.mem_cons_self ..)
    match r,h0 with
    |[y,z,w],h0=>
     obtain ⟨a,rfl,_⟩:=y6p h0.1
     obtain ⟨b,rfl,_⟩:=y6p h0.2.1
     obtain ⟨c,rfl,_⟩:=y6p h0.2.2.1
     exact ⟨(a,b,c)::l,rfl⟩
  obtain ⟨l,rfl⟩:=this
  exact ⟨l,rfl⟩
theorem w79 {x:D} (h:∃ ds,x= .agg ds∧DKs [.int .i64, .int .i64, .int .i64, .list [.int .i64, .int .i64, .int .i64]] ds):∃ (a b c:Int) (l:List Vt),x= .agg [.int .i64 a, .int .i64 b, .int .i64 c, .list false 3 (z0g l)]:=by
 obtain ⟨ds,rfl,h⟩:=h
 match ds,h with
 |[x,y,z,w],h=>
  obtain ⟨a,rfl,_⟩:=y6p h.1
  obtain ⟨b,rfl,_⟩:=y6p h.2.1
  obtain ⟨c,rfl,_⟩:=y6p h.2.2.1
  obtain ⟨l,rfl⟩:=w0h h.2.2.2.1
  exact ⟨a,b,c,l,rfl⟩
end Go.Am
end
section
namespace Go.Am
noncomputable def x9f:Ctr:=
 ⟨15,[.agg [.int .i64, .int .i64, .int .i64, .list 3]],[],[(.ret,⟨[(0, .tuple [.list 1, .int .i64])],[],1⟩)]⟩
noncomputable def x9e:Ctr:=
 ⟨17,[.agg [.int .i64, .int .i64, .int .i64, .list 3]],[],[(.ret,⟨[(0, .tuple [.list 1, .int .i64])],[],1⟩)]⟩
noncomputable def G15:(p:Prim)→(Int×(Int×(Int×(List (List D)×Unit))))→Option (List (List D)×(Int×Unit)):=
 fun p x=>bodyRun opt std (autoEnvD [] Go.Proofs.Try.prog) (w1g opt) 3000 x9f x
noncomputable def G17:(p:Prim)→(Int×(Int×(Int×(List (List D)×Unit))))→Option (List (List D)×(Int×Unit)):=
 fun p x=>bodyRun opt std (autoEnvD [] Go.Proofs.Try.prog) (w1g opt) 3000 x9e x
noncomputable def F15:Prim→Tup (x9f).scs→Option (STup (scss (x9f).outs)):=fun p x=>G15 p x
noncomputable def F17:Prim→Tup (x9e).scs→Option (STup (scss (x9e).outs)):=fun p x=>G17 p x
theorem w2k:z13 Go.Proofs.Try.prog 15:=enters_auto (b:=_) rfl (by kernel_rfl)
theorem w2j:z13 Go.Proofs.Try.prog 17:=enters_auto (b:=_) rfl (by kernel_rfl)
theorem ok15:CtrOk Go.Proofs.Try.prog x9f (F15 std):=ctr_of_body (autoEnvD_ok follows_mixed) y4c w2k fun x=>rfl
theorem ok17:CtrOk Go.Proofs.Try.prog x9e (F17 std):=ctr_of_body (autoEnvD_ok follows_mixed) y4c w2j fun x=>rfl
end Go.Am
end
section
namespace Go.Am
open Go.Proofs Go.Shelf
structure x94 (P:Program) (f:FuncId) (t:TypeId):Prop where
 shift:∀ (b off n c i vb voff vc:Nat) (cs:List Value) (v:Value) (w:World),i<n→n+1≤c→n+1≤9223372036854775807→vb≠b→cs.length=n→
  (∀ j v,cs[j]?=some v→w.cell? ⟨b,off+j,none⟩=some v)→(∀ j,j<n+1→(w.cell? ⟨b,off+j,none⟩).isSome=true)→(∀ j,j<n+1→w.frozen? ⟨b,off+j,none⟩=false)→
  w.cell? ⟨vb,voff,none⟩=some v→(∀ v∈cs,v.oneCell'=true)→v.oneCell'=true→
  (∀ x,w.frozen? ⟨vb,x,none⟩=false)→(∃ tA kA,w.shape? vb=some (tA,kA))→(∃ tB kB,w.shape? b=some (tB,kB)∧kB≠0)→
  Calls P f #[.slice (some ⟨b,off,none⟩) n c, .int .i64 i, .slice (some ⟨vb,voff,none⟩) 1 vc] w fun e w'=>
   e= .returned (.slice (some ⟨b,off,none⟩) (n+1) c)∧w'=(w.drew.setCells b (off+(i+1)) (cs.drop i)).setCells b (off+i) [v]
 room:∀ (b off n c vb voff vc:Nat) (v:Value) (w:World),n+1≤c→n+1≤9223372036854775807→(w.cell? ⟨b,off+n,none⟩).isSome=true→w.frozen? ⟨b,off+n,none⟩=false→
  w.cell? ⟨vb,voff,none⟩=some v→v.oneCell'=true→
  Calls P f #[.slice (some ⟨b,off,none⟩) n c, .int .i64 n, .slice (some ⟨vb,voff,none⟩) 1 vc] w fun e w'=>
   e= .returned (.slice (some ⟨b,off,none⟩) (n+1) c)∧w'=w.setCells b (off+n) [v]
 last:∀ (base:Option Addr) (n c vb voff vc:Nat) (cs:List Value) (v:Value) (w:World),n≤c→c<n+1→(n+1)*8≤140737488355328→cs.length=n→(base=none→n=0)→
  (∀ a,base=some a→∀ j v,cs[j]?=some v→w.cell? (a.add j)=some v)→w.cell? ⟨vb,voff,none⟩=some v→v.oneCell'=true→
  Calls P f #[.slice base n c, .int .i64 n, .slice (some ⟨vb,voff,none⟩) 1 vc] w fun e w'=>
   e= .returned (.slice (some ⟨w.heap.size,0,none⟩) (n+1) (grownCap w (n+1) c t))∧
   w'=w.drew.alloc (.cells ((cs++[v]).toArray++Builtin.zeroCells (Value.int .i64 0).cells (grownCap w (n+1) c t - (n+1))) t)
 grow:∀ (b off n c i vb voff vc:Nat) (cs:List Value) (v:Value) (w:World),i<n→n≤c→c<n+1→(n+1)*8≤140737488355328→cs.length=n→
  (∀ j v,cs[j]?=some v→w.cell? ⟨b,off+j,none⟩=some v)→w.cell? ⟨vb,voff,none⟩=some v→(∀ v∈cs,v.oneCell'=true)→v.oneCell'=true→
  Calls P f #[.slice (some ⟨b,off,none⟩) n c, .int .i64 i, .slice (some ⟨vb,voff,none⟩) 1 vc] w fun e w'=>
   e= .returned (.slice (some ⟨w.heap.size,0,none⟩) (n+1) (grownCap w (n+1) c t))∧
   w'=(((w.alloc (.cells ((cs.take i).toArray++Builtin.zeroCells (Value.int .i64 0).cells (n+1 - i)++Builtin.zeroCells (Value.int .i64 0).cells (grownCap w (n+1) c t - (n+1))) t)).drew.setCells w.heap.size i [v]).drew).setCells w.heap.size (i+1) (cs.drop i)
 cap:∀ (w:World) (n c:Nat),c<n→n≤1000001→n≤grownCap w n c t
theorem y0y (w:World) (b:Nat) (x y:Obj):World.setObj (World.setObj w b x) b y=World.setObj w b y:=by
 unfold World.setObj
 congr 1
 apply Array.ext_getElem?
 intro i
 simp only [Array.getElem?_setIfInBounds,Array.size_setIfInBounds]
 by_cases h:b=i
 ·subst h; simp
 ·simp [h]
theorem z4i (b:Nat) (t:TypeId):∀ (vs:List Value) (o:Nat) (w:World) (c:Array Value),w.heap[b]?=some (.cells c t (0,0))→o+vs.length≤c.size→
  ∃ c':Array Value,c'.size=c.size∧(∀ j,c'[j]?=if o≤j∧j<o+vs.length then vs[j - o]? else c[j]?)∧w.setCells b o vs=World.setObj w b (.cells c' t (0,0))
 |[],o,w,c,h,hl=>by
  refine ⟨c,rfl,fun j=>by simp; omega,?_⟩
  simp only [World.setCells,World.setObj]
  have hlt:b<w.heap.size:=(Array.getElem?_eq_some_iff.1 h).1
  have:w.heap.setIfInBounds b (.cells c t (0,0))=w.heap:=by
   apply Array.ext_getElem?
   intro i
   rw [Array.getElem?_setIfInBounds]
   by_cases hi:b=i
   ·subst hi; rw [h]; simp [hlt]
   ·simp [hi]
  rw [this]
 |v::vs,o,w,c,h,hl=>by
  have hlt:b<w.heap.size:=(Array.getElem?_eq_some_iff.1 h).1
  have h1:w.setCell ⟨b,o,none⟩ v=World.setObj w b (.cells (c.setIfInBounds o v) t (0,0)):=by
   unfold World.setCell World.setObj
   congr 1
   apply Array.ext_getElem?
   intro i
   rw [Array.getElem?_modify,Array.getElem?_setIfInBounds]
   by_cases hi:b=i
   ·subst hi; rw [h]; simp [hlt]
   ·simp [hi]
  simp only [List.length_cons] at hl
  obtain ⟨c',a1,a2,a3⟩:=z4i b t vs (o+1) (World.setObj w b (.cells (c.setIfInBounds o v) t (0,0))) (c.setIfInBounds o v) (z0s _ _ _ hlt) (by simp; omega)
  refine ⟨c',by rw [a1]; simp,fun j=>?_,by rw [World.setCells,h1,a3,y0y]⟩
  rw [a2 j]
  by_cases hj:o+1≤j∧j<o+1+vs.length
  ·rw [if_pos hj,if_pos (by simp; omega)]
   rw [show j - o=(j - (o+1))+1 by omega]; rfl
  ·rw [if_neg hj,Array.getElem?_setIfInBounds]
   by_cases he:o=j
   ·subst he
    rw [if_pos rfl,if_pos (by omega),if_pos (by simp)]; simp
   ·rw [if_neg he,if_neg (by simp; omega)]
section
variable {P:Program}
theorem y3a {es:List (List D)} {x:D} {i:Nat} (hi:i≤es.length) (k:Nat):(es.take i++[x]::es.drop i)[k]?=if k<i then es[k]? else if k=i then some [x] else es[k - 1]?:=by
 rw [List.getElem?_append]
 have hl:(es.take i).length=i:=by simp; omega
 rw [hl]
 by_cases h1:k<i
 ·rw [if_pos h1,if_pos h1,List.getElem?_take,if_pos h1]
 ·rw [if_neg h1,if_neg h1]
  by_cases h2:k=i
  ·subst h2; simp
  ·rw [if_neg h2,show k - i=(k - i - 1)+1 by omega,List.getElem?_cons_succ,List.getElem?_drop]
   congr 1; omega
theorem w1z {f:FuncId} {t:TypeId} (hS:x94 P f t) {es:List (List D)} {x:D} {i:Nat} (hi:i≤es.length) (hn:es.length≤1000000):
  z6m P f [.slice 0 1 0 es.length none, .d (.int .i64 i), .slice 1 1 0 1 (some 1)] [.row es, .row [[x]]] (.slice 2 1 0 (es.length+1) none) [.dead, .row [[x]], .row (es.take i++[x]::es.drop i)]:=⟨by
 intro ρ vs w cs0 hr hdm har
 obtain ⟨hv1,hv2⟩:=har
 have hs1:vs.size=3:=hv1
 have hnew:ρ 2=none:=by
  cases hq:ρ 2 with
  |none=>rfl
  |some L=>have:=hdm 2 (by rw [hq]; simp); simp at this
 obtain ⟨L1,vc,hL1,hz1,hvs2⟩:∃ L vc,ρ 1=some L∧L.esz=1∧vs.getD 2 undef= .slice (some ⟨L.blk,L.base,none⟩) 1 vc:=by
  have hv:=hv2 2 _ rfl
  generalize hq:vs.getD 2 undef=q at hv
  cases hv with
  |slice _ _ _ _ _ L a c h1 h2 h3 h4 h5=>
   refine ⟨L,c,h1,h2,?_⟩
   rw [h3 (by omega)]; simp
 have hvs1:vs.getD 1 undef= .int .i64 i:=by
  have hv:=hv2 1 _ rfl
  generalize hq:vs.getD 1 undef=q at hv
  cases hv with|d hv=>cases hv; rfl
 obtain ⟨hlt1,ho1⟩:=hr.obj 1 L1 hL1
 obtain ⟨_,c1,t1,hcb1,_,hcell1⟩:=(show z15 P ρ _ w L1 (.row [[x]]) from ho1)
 obtain ⟨v,hv,hvone,hvrel⟩:=hcell1 0 [x] 0 x rfl rfl
 rw [hz1] at hv
 simp only [Nat.zero_mul,Nat.add_zero] at hv
 have hvc:w.cell? ⟨L1.blk,L1.base,none⟩=some v:=z81 hcb1 hv
 have hargs:∀ q,vs.getD 0 undef=q→vs=#[q, .int .i64 i, .slice (some ⟨L1.blk,L1.base,none⟩) 1 vc]:=by
  intro q hq
  apply Array.ext (by simpa using hs1)
  intro k h1 h2
  simp only [Array.getD_eq_getD_getElem?] at hq hvs1 hvs2
  match k,h1,h2 with
  |0,h1,h2=>rw [Array.getElem?_eq_getElem h1] at hq; simpa using hq
  |1,h1,h2=>rw [Array.getElem?_eq_getElem h1] at hvs1; simpa using hvs1
  |2,h1,h2=>rw [Array.getElem?_eq_getElem h1] at hvs2; simpa using hvs2
  |k+3,h1,h2=>simp at h2; omega
 have grown:∀ (c:Nat) (cs:List Value) (cells:Array Value) (d nc:Nat),cs.length=es.length→(∀ (k:Nat) (r:List D),es[k]?=some r→∃ y u,r=[y]∧cs[k]?=some u∧u.oneCell'=true∧z14 (z0k ρ [.row es, .row [[x]]]) w y u)→
   z0x w.drawn d→es.length+1≤nc→(∀ k,k<es.length+1→cells[k]?=if k<i then cs[k]? else if k=i then some v else cs[k - 1]?)→cells.size=nc→
   ∀ fr,Comes P (lone (Frame.enter P f vs .normal) cs0 w) (lone fr cs0 { World.push w (.cells cells t) with drawn:=d }) (.returned (.slice (some ⟨w.heap.size,0,none⟩) (es.length+1) nc))→fr.fn=f→fr.leaving P { World.push w (.cells cells t) with drawn:=d } (.returned (.slice (some ⟨w.heap.size,0,none⟩) (es.length+1) nc))→
   ∃ ρ' v w' fr,Steps P (lone (Frame.enter P f vs .normal) cs0 w) (lone fr cs0 w')∧fr.fn=f∧fr.leaving P w' (.returned v)∧z0w ρ' (z0k ρ' [.dead, .row [[x]], .row (es.take i++[x]::es.drop i)]) w' (.slice 2 1 0 (es.length+1) none) v∧
    z0d P ρ' [.dead, .row [[x]], .row (es.take i++[x]::es.drop i)] w'∧Dom ρ' [.dead, .row [[x]], .row (es.take i++[x]::es.drop i)]∧Ext (· <2) ρ [.row es, .row [[x]]] w ρ' [.dead, .row [[x]], .row (es.take i++[x]::es.drop i)] w':=by
  intro c cs cells d nc hcs hrows hd hnc hcells hsz fr h1 h2 h3
  have hr0:=hr.kill 0
  have hx0:=Ext.kill (· <2) ρ [.row es, .row [[x]]] w 0
  have hk0:=hx0.keep
  have hkp:=z6a hr0 hnew ⟨w.heap.size,0,1⟩ (.row (es.take i++[x]::es.drop i)) (.cells cells t) rfl
  have hobj:z15 P (ρ.put 2 ⟨w.heap.size,0,1⟩) (z0k (ρ.put 2 ⟨w.heap.size,0,1⟩) (z0o [.dead, .row [[x]]] 2 (.row (es.take i++[x]::es.drop i)))) (World.push w (.cells cells t)) ⟨w.heap.size,0,1⟩ (.row (es.take i++[x]::es.drop i)):=by
   refine ⟨Nat.one_pos,cells,t,z2o _ _,fun k r hk=>?_,fun k r j y hk hy=>?_⟩
   ·rw [y3a hi] at hk
    split at hk
    ·obtain ⟨y,_,rfl,_⟩:=hrows k r hk; rfl
    ·split at hk
     ·cases hk; rfl
     ·obtain ⟨y,_,rfl,_⟩:=hrows _ r hk; rfl
   ·have hkl:k<es.length+1:=by
     have:=(List.getElem?_eq_some_iff.1 hk).1
     simp at this; omega
    rw [Nat.mul_one,Nat.zero_add]
    rw [y3a hi] at hk
    have hc:=hcells k hkl
    have fin:∀ (y0:D) (u:Value),r=[y0]→u.oneCell'=true→z14 (z0k ρ [.row es, .row [[x]]]) w y0 u→cells[k]?=some u→∃ v,cells[k+j]?=some v∧v.oneCell'=true∧z14 (z0k (ρ.put 2 ⟨w.heap.size,0,1⟩) (z0o [.dead, .row [[x]]] 2 (.row (es.take i++[x]::es.drop i)))) (World.push w (.cells cells t)) y v:=by
     intro y0 u hr1 hu hrel hcu
     subst hr1
     cases j with
     |succ j=>simp at hy
     |zero=>simp at hy; subst hy; exact ⟨u,hcu,hu,(hrel.keep hk0).keep hkp⟩
    split at hk
    ·rename_i hlt
     obtain ⟨y0,u,hr1,hcu,hu,hrel⟩:=hrows k r hk
     exact fin y0 u hr1 hu hrel (by rw [hc,if_pos hlt]; exact hcu)
    ·rename_i hge
     split at hk
     ·rename_i hki
      cases hk
      exact fin x v rfl hvone hvrel (by rw [hc,if_neg hge,if_pos hki])
     ·rename_i hne
      obtain ⟨y0,u,hr1,hcu,hu,hrel⟩:=hrows _ r hk
      exact fin y0 u hr1 hu hrel (by rw [hc,if_neg hge,if_neg hne]; exact hcu)
  have hnw:=hr0.new hnew 1 _ _ hobj
  have hnw2:=hnw.drawn d hd
  refine ⟨ρ.put 2 ⟨w.heap.size,0,1⟩,_,_,fr,h1,h2,h3,?_,hnw2,?_,?_⟩
  ·refine .slice 2 1 0 _ none ⟨w.heap.size,0,1⟩ _ nc (Rho.put_same _ _ _) rfl (fun _=>by simp) (.inr ⟨rfl,nc,?_,by simp⟩) hnc
   show z1l (World.push w _) _=_
   rw [z0y (z2o _ _),hsz]
  ·intro id hid
   by_cases he:id=2
   ·subst he; simp
   ·rw [Rho.put_ne _ _ _ _ he] at hid
    have:=hdm id hid
    simp at this⊢; omega
  ·exact hx0.trans (((Ext.new hr0 hnew ⟨w.heap.size,0,1⟩ (.row (es.take i++[x]::es.drop i)) (.cells cells t) rfl).trans (Ext.drawn _ _ _ _ d hd)).mono (fun id hid=>by show id≠2; have hid:id<2:=hid; omega))
 have hv0:=hv2 0 _ rfl
 generalize hq0:vs.getD 0 undef=q0 at hv0
 have hva:=hargs q0 hq0
 have key:∀ n,n=es.length→z0w ρ (z0k ρ [.row es, .row [[x]]]) w (.slice 0 1 0 n none) q0→(n=0∧∃ a,q0= .slice a 0 0)∨(∃ L a c,ρ 0=some L∧L.esz=1∧q0= .slice a n c∧n≤c∧(0<c→a=some ⟨L.blk,L.base,none⟩)∧∃ m,z1l w L.blk=some m∧L.base+c≤m):=by
  intro n hn hv
  cases hv with
  |nils _ _ _ _ a _=>exact .inl ⟨rfl,_,rfl⟩
  |slice _ _ _ _ _ L a c h1 h2 h3 h4 h5=>
   rcases h4 with h4|⟨_,m,hm,hle⟩
   ·cases h4
   ·exact .inr ⟨L,a,c,h1,h2,rfl,h5,fun h=>by rw [h3 h]; simp,m,hm,by rw [h2] at hle; omega⟩
 rcases key _ rfl hv0 with ⟨h0,a,rfl⟩|⟨L,a,c,hL,hz,rfl,hnc,haa,m,hm,hroom⟩
 ·
  have hes:es=[]:=List.length_eq_zero_iff.1 h0
  have hi0:i=0:=by omega
  subst hes; subst hi0
  rw [hva] at grown⊢
  obtain ⟨e,w',fr,⟨rfl,hw'⟩,hcm,hfn,hlv⟩:=hS.last a 0 0 L1.blk L1.base vc [] v w (by omega) (by omega) (by omega) rfl (fun _=>rfl) (fun _ _ j u hj=>by simp at hj) hvc hvone cs0
  subst hw'
  have hcp:=hS.cap w 1 0 (by omega) (by omega)
  refine grown 0 [] _ (w.drawn+1) _ rfl (fun k r hk=>by simp at hk) (Nat.le_succ _) hcp (fun k hk=>?_) ?_ fr hcm hfn hlv
  ·have:k=0:=by simp at hk; omega
   subst this
   rw [Array.getElem?_append_left (by simp)]; simp
  ·simp [Builtin.zeroCells,Value.cells]; omega
 ·obtain ⟨hlt,ho⟩:=hr.obj 0 L hL
  obtain ⟨_,c0,t0,hcb,hlen,hcell⟩:=(show z15 P ρ _ w L (.row es) from ho)
  rw [hz] at hlen hcell
  rw [z0y hcb] at hm; cases hm
  have hrow:∀ (k:Nat) (r:List D),es[k]?=some r→∃ y u,r=[y]∧c0[L.base+k]?=some u∧u.oneCell'=true∧z14 (z0k ρ [.row es, .row [[x]]]) w y u:=by
   intro k r hk
   have hl:=hlen k r hk
   match r,hl with
   |[y],_=>
    obtain ⟨u,hu,h1,hrel⟩:=hcell k [y] 0 y hk rfl
    exact ⟨y,u,rfl,by simpa using hu,h1,hrel⟩
  let cs:=(c0.toList.drop L.base).take es.length
  have hcsg:∀ k,k<es.length→cs[k]?=c0[L.base+k]?:=by
   intro k hk
   show ((c0.toList.drop L.base).take es.length)[k]?=_
   rw [List.getElem?_take,if_pos hk,List.getElem?_drop]; simp
  have hcsl:cs.length=es.length:=by
   show ((c0.toList.drop L.base).take es.length).length=_
   rw [List.length_take,List.length_drop]; simp; omega
  have hcs1:∀ u∈cs,u.oneCell'=true:=by
   intro u hu
   obtain ⟨k,hk⟩:=List.getElem?_of_mem hu
   have hkl:k<es.length:=by rw [←hcsl]; exact (List.getElem?_eq_some_iff.1 hk).1
   obtain ⟨y,u',_,h2,h3,_⟩:=hrow k _ (List.getElem?_eq_getElem hkl)
   rw [hcsg k hkl,h2] at hk; cases hk; exact h3
  have hcsc:∀ j u,cs[j]?=some u→w.cell? ⟨L.blk,L.base+j,none⟩=some u:=by
   intro j u hj
   have hjl:j<es.length:=by rw [←hcsl]; exact (List.getElem?_eq_some_iff.1 hj).1
   rw [hcsg j hjl] at hj
   exact z81 hcb hj
  have hrows:∀ (k:Nat) (r:List D),es[k]?=some r→∃ y u,r=[y]∧cs[k]?=some u∧u.oneCell'=true∧z14 (z0k ρ [.row es, .row [[x]]]) w y u:=by
   intro k r hk
   obtain ⟨y,u,h1,h2,h3,h4⟩:=hrow k r hk
   exact ⟨y,u,h1,by rw [hcsg k (List.getElem?_eq_some_iff.1 hk).1]; exact h2,h3,h4⟩
  have hne:L1.blk≠L.blk:=fun e=>by have:=hr.inj 1 0 L1 L hL1 hL rfl rfl e; omega
  have place:∀ (c':Array Value) (d:Nat),c'.size=c0.size→z0x w.drawn d→(∀ k,k<es.length+1→c'[L.base+k]?=if k<i then cs[k]? else if k=i then some v else cs[k - 1]?)→a=some ⟨L.blk,L.base,none⟩→es.length+1≤c→
    ∀ fr,Comes P (lone (Frame.enter P f vs .normal) cs0 w) (lone fr cs0 (World.setObj { w with drawn:=d } L.blk (.cells c' t0 (0,0)))) (.returned (.slice a (es.length+1) c))→fr.fn=f→fr.leaving P (World.setObj { w with drawn:=d } L.blk (.cells c' t0 (0,0))) (.returned (.slice a (es.length+1) c))→
    ∃ ρ' v w' fr,Steps P (lone (Frame.enter P f vs .normal) cs0 w) (lone fr cs0 w')∧fr.fn=f∧fr.leaving P w' (.returned v)∧z0w ρ' (z0k ρ' [.dead, .row [[x]], .row (es.take i++[x]::es.drop i)]) w' (.slice 2 1 0 (es.length+1) none) v∧
     z0d P ρ' [.dead, .row [[x]], .row (es.take i++[x]::es.drop i)] w'∧Dom ρ' [.dead, .row [[x]], .row (es.take i++[x]::es.drop i)]∧Ext (· <2) ρ [.row es, .row [[x]]] w ρ' [.dead, .row [[x]], .row (es.take i++[x]::es.drop i)] w':=by
   intro c' d hsz hd hcells hae hroom1 fr h1 h2 h3
   have hr1:=hr.drawn d hd
   have hx1:Ext (· <2) ρ [.row es, .row [[x]]] w ρ [.row es, .row [[x]]] { w with drawn:=d }:=Ext.drawn _ _ _ _ d hd
   have hbs:∀ k,z1l { w with drawn:=d } L.blk=some k→z1l (World.setObj { w with drawn:=d } L.blk (.cells c' t0 (0,0))) L.blk=some k:=by
    intro k hk
    rw [z0y (w:={ w with drawn:=d }) hcb] at hk; cases hk
    rw [z0y (z0s { w with drawn:=d } L.blk _ hlt),hsz]
   obtain ⟨g1,g2⟩:=hr1.move hL rfl hnew L.base 1 (.row (es.take i++[x]::es.drop i)) rfl (.cells c' t0 (0,0)) hbs (fun kp=>by
    refine ⟨Nat.one_pos,c',t0,z0s _ _ _ hlt,fun k r hk=>?_,fun k r j y hk hy=>?_⟩
    ·rw [y3a hi] at hk
     split at hk
     ·obtain ⟨y,_,rfl,_⟩:=hrows k r hk; rfl
     ·split at hk
      ·cases hk; rfl
      ·obtain ⟨y,_,rfl,_⟩:=hrows _ r hk; rfl
    ·have hkl:k<es.length+1:=by
      have:=(List.getElem?_eq_some_iff.1 hk).1
      simp at this; omega
     rw [Nat.mul_one]
     rw [y3a hi] at hk
     have hc:=hcells k hkl
     have fin:∀ (y0:D) (u:Value),r=[y0]→u.oneCell'=true→z14 (z0k ρ [.row es, .row [[x]]]) w y0 u→c'[L.base+k]?=some u→∃ v,c'[L.base+k+j]?=some v∧v.oneCell'=true∧z14 (z0k (ρ.put 2 ⟨L.blk,L.base,1⟩) (z0o (z0o [.row es, .row [[x]]] 0 .dead) 2 (.row (es.take i++[x]::es.drop i)))) (World.setObj { w with drawn:=d } L.blk (.cells c' t0 (0,0))) y v:=by
      intro y0 u hr1 hu hrel hcu
      subst hr1
      cases j with
      |succ j=>simp at hy
      |zero=>simp at hy; subst hy; exact ⟨u,hcu,hu,(hrel.keep hx1.keep).keep kp⟩
     split at hk
     ·rename_i hlt
      obtain ⟨y0,u,hr1,hcu,hu,hrel⟩:=hrows k r hk
      exact fin y0 u hr1 hu hrel (by rw [hc,if_pos hlt]; exact hcu)
     ·rename_i hge
      split at hk
      ·rename_i hki
       cases hk
       exact fin x v rfl hvone hvrel (by rw [hc,if_neg hge,if_pos hki])
      ·rename_i hne
       obtain ⟨y0,u,hr1,hcu,hu,hrel⟩:=hrows _ r hk
       exact fin y0 u hr1 hu hrel (by rw [hc,if_neg hge,if_neg hne]; exact hcu))
   refine ⟨ρ.put 2 ⟨L.blk,L.base,1⟩,_,_,fr,h1,h2,h3,?_,g1,?_,hx1.trans (g2.mono (fun id hid=>by show id≠2; have hid:id<2:=hid; omega))⟩
   ·refine .slice 2 1 0 _ none ⟨L.blk,L.base,1⟩ _ c (Rho.put_same _ _ _) rfl (fun _=>by rw [hae]; simp) (.inr ⟨rfl,c0.size,?_,by simp; omega⟩) hroom1
    rw [z0y (z0s { w with drawn:=d } L.blk _ hlt),hsz]
   ·intro id hid
    by_cases he:id=2
    ·subst he; simp
    ·rw [Rho.put_ne _ _ _ _ he] at hid
     have:=hdm id hid
     simp at this⊢; omega
  have hin:∀ j,j<c→∃ u,c0[L.base+j]?=some u:=fun j hj=>⟨_,Array.getElem?_eq_getElem (by omega)⟩
  have hsp:∀ j,j<c→(w.cell? ⟨L.blk,L.base+j,none⟩).isSome=true:=fun j hj=>by
   obtain ⟨u,hu⟩:=hin j hj
   rw [z81 hcb hu]; rfl
  have hfz:∀ b ct tt,w.heap[b]?=some (.cells ct tt (0,0))→∀ k,w.frozen? ⟨b,k,none⟩=false:=fun b ct tt hb k=>by
   unfold World.frozen?; simp only [hb]; simp
  by_cases hfit:es.length+1≤c
  ·have hae:=haa (by omega)
   by_cases hlast:i=es.length
   ·
    have hva':vs=#[.slice (some ⟨L.blk,L.base,none⟩) es.length c, .int .i64 es.length, .slice (some ⟨L1.blk,L1.base,none⟩) 1 vc]:=by rw [hva,hae,hlast]
    obtain ⟨e,w',fr,⟨rfl,hw'⟩,hcm,hfn,hlv⟩:=hS.room L.blk L.base es.length c L1.blk L1.base vc v w hfit (by omega) (hsp _ (by omega)) (hfz _ _ _ hcb _) hvc hvone cs0
    rw [←hva'] at hcm
    obtain ⟨c',g1,g2,g3⟩:=z4i L.blk t0 [v] (L.base+es.length) w c0 hcb (by simp; omega)
    rw [g3] at hw'
    subst hw'
    refine place c' w.drawn g1 (z0x.refl _) (fun k hk=>?_) hae hfit fr (by rw [hae]; exact hcm) hfn (by rw [hae]; exact hlv)
    rw [g2]
    by_cases hki:k=es.length
    ·subst hki
     rw [if_pos (by simp),if_neg (by omega),if_pos hlast.symm]; simp
    ·rw [if_neg (by simp; omega),if_pos (by omega),hcsg k (by omega)]
   ·
    have hva':vs=#[.slice (some ⟨L.blk,L.base,none⟩) es.length c, .int .i64 i, .slice (some ⟨L1.blk,L1.base,none⟩) 1 vc]:=by rw [hva,hae]
    obtain ⟨e,w',fr,⟨rfl,hw'⟩,hcm,hfn,hlv⟩:=hS.shift L.blk L.base es.length c i L1.blk L1.base vc cs v w (by omega) hfit (by omega) hne hcsl hcsc (fun j hj=>hsp j (by omega)) (fun j _=>hfz _ _ _ hcb _) hvc hcs1 hvone
     (hfz _ _ _ hcb1) ⟨t1,c1.size,by unfold World.shape?; rw [hcb1]⟩ ⟨t0,c0.size,by unfold World.shape?; rw [hcb],by omega⟩ cs0
    rw [←hva'] at hcm
    have hcbd:w.drew.heap[L.blk]?=some (.cells c0 t0 (0,0)):=hcb
    have hdl:(cs.drop i).length=es.length - i:=by rw [List.length_drop,hcsl]
    obtain ⟨c',g1,g2,g3⟩:=z4i L.blk t0 (cs.drop i) (L.base+(i+1)) w.drew c0 hcbd (by rw [hdl]; omega)
    have hlt':L.blk<w.drew.heap.size:=hlt
    obtain ⟨c2,k1,k2,k3⟩:=z4i L.blk t0 [v] (L.base+i) (World.setObj w.drew L.blk (.cells c' t0 (0,0))) c' (z0s _ _ _ hlt') (by simp; omega)
    rw [g3,k3,y0y] at hw'
    subst hw'
    refine place c2 (w.drawn+1) (k1.trans g1) (Nat.le_succ _) (fun k hk=>?_) hae hfit fr (by rw [hae]; exact hcm) hfn (by rw [hae]; exact hlv)
    rw [k2]
    by_cases hki:k=i
    ·subst hki
     rw [if_pos (by simp),if_neg (by omega),if_pos rfl]; simp
    ·rw [if_neg (by simp; omega),g2]
     by_cases hlt2:k<i
     ·rw [if_neg (by omega),if_pos hlt2,hcsg k (by omega)]
     ·rw [if_pos (by rw [hdl]; omega),if_neg hlt2,if_neg hki,List.getElem?_drop]
      congr 1; omega
  ·have hce:c=es.length:=by omega
   have hcap:=hS.cap w (es.length+1) c (by omega) (by omega)
   by_cases hlast:i=es.length
   ·
    have hva':vs=#[.slice a es.length c, .int .i64 es.length, .slice (some ⟨L1.blk,L1.base,none⟩) 1 vc]:=by rw [hva,hlast]
    obtain ⟨e,w',fr,⟨rfl,hw'⟩,hcm,hfn,hlv⟩:=hS.last a es.length c L1.blk L1.base vc cs v w hnc (by omega) (by omega) hcsl (fun ha=>by
      by_cases h0:0<c
      ·rw [haa h0] at ha; cases ha
      ·omega) (fun a' ha' j u hj=>by
      have hjl:j<es.length:=by rw [←hcsl]; exact (List.getElem?_eq_some_iff.1 hj).1
      rw [haa (by omega)] at ha'
      cases ha'
      rw [z4u]; exact hcsc j u hj) hvc hvone cs0
    rw [←hva'] at hcm
    subst hw'
    refine grown c cs _ (w.drawn+1) _ hcsl hrows (Nat.le_succ _) hcap (fun k hk=>?_) ?_ fr hcm hfn hlv
    ·have hkk:k<(cs++[v]).length:=by simp [hcsl]; omega
     have e1:((cs++[v]).toArray++Builtin.zeroCells (Value.int .i64 0).cells (grownCap w (es.length+1) c t - (es.length+1)))[k]?=(cs++[v])[k]?:=by
      rw [Array.getElem?_append_left (by simpa using hkk)]; simp
     rw [e1,List.getElem?_append,hcsl]
     by_cases hkn:k<es.length
     ·rw [if_pos hkn,if_pos (by omega)]
     ·rw [if_neg hkn,if_neg (by omega),if_pos (by omega),show k - es.length=0 by omega]; rfl
    ·simp [Builtin.zeroCells,Value.cells,hcsl]; omega
   ·
    have hae:=haa (by omega)
    have hva':vs=#[.slice (some ⟨L.blk,L.base,none⟩) es.length c, .int .i64 i, .slice (some ⟨L1.blk,L1.base,none⟩) 1 vc]:=by rw [hva,hae]
    obtain ⟨e,w',fr,⟨rfl,hw'⟩,hcm,hfn,hlv⟩:=hS.grow L.blk L.base es.length c i L1.blk L1.base vc cs v w (by omega) hnc (by omega) (by omega) hcsl hcsc hvc hcs1 hvone cs0
    rw [←hva'] at hcm
    generalize hG:grownCap w (es.length+1) c t=G at hw' hcm hlv hcap
    generalize hROW:(cs.take i).toArray++Builtin.zeroCells (Value.int .i64 0).cells (es.length+1 - i)++Builtin.zeroCells (Value.int .i64 0).cells (G - (es.length+1))=ROW at hw'
    have hRs:ROW.size=G:=by
     rw [←hROW]; simp [Builtin.zeroCells,Value.cells,hcsl]; omega
    have hRg:∀ k,k<i→ROW[k]?=cs[k]?:=by
     intro k hk
     rw [←hROW,Array.append_assoc,Array.getElem?_append_left (by simp [hcsl]; omega)]
     simp [List.getElem?_take,hk]
    have hb0:(w.alloc (.cells ROW t)).drew.heap[w.heap.size]?=some (.cells ROW t (0,0)):=by
     show (w.heap.push _)[w.heap.size]?=_
     simp
    obtain ⟨c',g1,g2,g3⟩:=z4i w.heap.size t [v] i _ ROW hb0 (by simp; omega)
    have hdl:(cs.drop i).length=es.length - i:=by rw [List.length_drop,hcsl]
    have hb1:(World.setObj (w.alloc (.cells ROW t)).drew w.heap.size (.cells c' t (0,0))).drew.heap[w.heap.size]?=some (.cells c' t (0,0)):=by
     show (World.setObj (w.alloc (.cells ROW t)).drew w.heap.size (.cells c' t (0,0))).heap[w.heap.size]?=_
     exact z0s _ _ _ (by show _<(w.heap.push _).size; simp)
    obtain ⟨c2,k1,k2,k3⟩:=z4i w.heap.size t (cs.drop i) (i+1) _ c' hb1 (by rw [hdl,g1]; omega)
    rw [g3,k3] at hw'
    have hwe:World.setObj (World.setObj (w.alloc (.cells ROW t)).drew w.heap.size (.cells c' t (0,0))).drew w.heap.size (.cells c2 t (0,0))={ World.push w (.cells c2 t) with drawn:=w.drawn+2 }:=by
     unfold World.setObj World.drew World.alloc World.push
     simp only
     congr 1
     apply Array.ext_getElem?
     intro k
     simp only [Array.getElem?_setIfInBounds,Array.getElem?_push,Array.size_push,Array.size_setIfInBounds]
     by_cases hk:w.heap.size=k
     ·subst hk; simp
     ·have hk2:¬ k=w.heap.size:=fun e=>hk e.symm
      simp [hk,hk2]
    rw [hwe] at hw'
    subst hw'
    refine grown c cs c2 (w.drawn+2) G hcsl hrows (by show w.drawn≤_; omega) hcap (fun k hk=>?_) (by rw [k1,g1,hRs]) fr hcm hfn hlv
    rw [k2]
    by_cases hgt:i+1≤k
    ·rw [if_pos (by rw [hdl]; omega),if_neg (by omega),if_neg (by omega),List.getElem?_drop]
     congr 1; omega
    ·rw [if_neg (by omega),g2]
     by_cases hki:k=i
     ·subst hki
      rw [if_pos (by simp),if_neg (by omega),if_pos rfl]; simp
     ·rw [if_neg (by simp; omega),if_pos (by omega),hRg k (by omega)]⟩
end
end Go.Am
end
section
namespace Go.Proofs
open Go.Shelf Go.RowKit Go.Lib
def x74:Go.Shelf.Ren:=⟨fun|39=>72|35=>103|28=>85|27=>84|21=>60|n=>n,fun|0=>0|4=>4|3=>3|22=>26|n=>n,fun|n=>n⟩
theorem x3o : Go.Proofs.Lays2.n21 Try.prog x74 :=
  { mixed := by kernel_rfl,
    f21 := by first | exact ⟨Try.f60.name, by decide, Try.func60.trans (congrArg some (by kernel_rfl))⟩ | exact Try.func60.trans (congrArg some (by kernel_rfl)),
    f27 := by first | exact ⟨Try.f84.name, by decide, Try.func84.trans (congrArg some (by kernel_rfl))⟩ | exact Try.func84.trans (congrArg some (by kernel_rfl)),
    f28 := by first | exact ⟨Try.f85.name, by decide, Try.func85.trans (congrArg some (by kernel_rfl))⟩ | exact Try.func85.trans (congrArg some (by kernel_rfl)),
    f35 := by first | exact ⟨Try.f103.name, by decide, Try.func103.trans (congrArg some (by kernel_rfl))⟩ | exact Try.func103.trans (congrArg some (by kernel_rfl)),
    f39 := by first | exact ⟨Try.f72.name, by decide, Try.func72.trans (congrArg some (by kernel_rfl))⟩ | exact Try.func72.trans (congrArg some (by kernel_rfl)),
    t0 := by exact Try.underlying0,
    a0 := by exact Try.isAgg0,
    z0 := by exact Try.sizeOf0,
    v0 := by exact Try.zeroValue0,
    t3 := by exact Try.underlying3,
    a3 := by exact Try.isAgg3,
    z3 := by exact Try.sizeOf3,
    v3 := by exact Try.zeroValue3,
    t4 := by exact Try.underlying4,
    a4 := by exact Try.isAgg4,
    z4 := by exact Try.sizeOf4,
    v4 := by exact Try.zeroValue4,
    t22 := by exact Try.underlying26,
    a22 := by exact Try.isAgg26,
    z22 := by exact Try.sizeOf26,
    v22 := by exact Try.zeroValue26,
    i3 := by kernel_rfl }
variable {P:Program} {ρ:Ren}
set_option maxHeartbeats 4000000 in
set_option maxRecDepth 100000 in
theorem x77 (L:Lays2.n21 P ρ) (b off n c i vb voff m vc:Nat) (cs vs:List Value) (w:World) (hi:i<n) (hm:0<m) (hroom:n+m≤c) (hc63:n+m≤9223372036854775807) (hvb:vb≠b)
  (hcl:cs.length=n) (hvl:vs.length=m) (hcs:∀ j v,cs[j]?=some v→w.cell? ⟨b,off+j,none⟩=some v) (hsp:∀ j,j<n+m→(w.cell? ⟨b,off+j,none⟩).isSome=true) (hfz:∀ j,j<n+m→w.frozen? ⟨b,off+j,none⟩=false)
  (hvs:∀ j v,vs[j]?=some v→w.cell? ⟨vb,voff+j,none⟩=some v) (h1c:∀ v∈cs,v.oneCell'=true) (h1v:∀ v∈vs,v.oneCell'=true)
  (tA tB:TypeId) (kA kB:Nat) (hsa:w.shape? vb=some (tA,kA)) (hsb:w.shape? b=some (tB,kB)) (hkB:kB≠0) (hfa:w.frozen? ⟨vb,voff,none⟩=false) (hfe:w.frozen? ⟨vb,kA,none⟩=false):
  Calls P (ρ.f 21) #[.slice (some ⟨b,off,none⟩) n c, .int .i64 i, .slice (some ⟨vb,voff,none⟩) m vc] w fun e w'=>
   e= .returned (.slice (some ⟨b,off,none⟩) (n+m) c)∧w'=(w.drew.setCells b (off+(i+m)) (cs.drop i)).setCells b (off+i) vs:=by
 have t0:=L.t0; have a0:=L.a0; have z0:=L.z0; have v0:=L.v0; have t3:=L.t3; have a3:=L.a3; have z3:=L.z3; have v3:=L.v3; have t4:=L.t4; have a4:=L.a4; have z4:=L.z4; have v4:=L.v4; have t22:=L.t22; have a22:=L.a22; have z22:=L.z22; have v22:=L.v22
 have u0:=run_underlying L.t0; have u3:=run_underlying L.t3; have u4:=run_underlying L.t4; have u22:=run_underlying L.t22
 have hz1:¬ ((m:Int)=0):=by omega
 have hz2:¬ ((i:Int)=(n:Int)):=by omega
 have hsz:(P.info? (ρ.t 3)).map (·.size)=some 1:=by
  obtain ⟨i0,hi0,h0,h1,h2⟩:=info_parts L.i3
  rw [hi0]; simp [h1]
 have hov:∀ lb cb,(callFunc (ρ.f 27) #[.slice (some ⟨vb,voff,none⟩) m vc, .slice (some ⟨b,off+(i+m),none⟩) lb cb]).run P w= .ok (.value (.bool false)) w:=fun lb cb=>by
  rw [run_callFunc_extern L.f27 (by kernel_rfl) (by kernel_rfl) (by kernel_rfl) (e:=Extern.SlicesOverlaps.overlaps #[(ρ.t 22),(ρ.t 22)] #[(ρ.t 4)]) (by kernel_rfl),
   Lib.run_overlaps_apart w (ρ.t 22) (ρ.t 4) (ρ.t 3) L.t22 1 L.z3 ⟨vb,voff,none⟩ ⟨b,off+(i+m),none⟩ m vc lb cb hvb tA tB kA kB hsa hsb hkB hfa hfe]
  rfl
 have hdl:(cs.drop i).length=n - i:=by rw [List.length_drop,hcl]
 have mixed:=L.mixed
 have hw1:IntKind.i64.wrap ((i:Int)+(m:Int))=(i:Int)+(m:Int):=by rw [IntKind.wrap_i64]; omega
 have hb1:(0:Int)≤(i:Int)+(m:Int):=by omega
 have hin:i≤n:=by omega
 have htn:((i:Int)+(m:Int)).toNat=i+m:=by omega
 have hb2:¬ (c=i+m):=by omega
 have hb3:(i:Int)≤(n:Int)+(m:Int):=by omega
 have hb4:¬ (c=i):=by omega
 have hcp1:∀ ty dc sc,(Builtin.copy_ #[(ρ.t 22),(ρ.t 22)] ty #[.slice (some ⟨b,off+(i+m),none⟩) (n+m - (i+m)) dc, .slice (some ⟨b,off+i,none⟩) (n+m - i) sc]).run P w.drew= .ok (goInt (cs.drop i).length) (w.drew.setCells b (off+(i+m)) (cs.drop i)):=fun ty dc sc=>
  run_copy_cells w.drew _ _ ty (ρ.t 3) b (off+(i+m)) (n+m - (i+m)) dc ⟨b,off+i,none⟩ (n+m - i) sc (cs.drop i) L.t22 hsz (by rw [hdl]; simp only [Nat.min_def]; split<;>omega)
   (fun j v hj=>by rw [Addr.add_lit,Nat.add_assoc]; exact hcs (i+j) v (by rwa [List.getElem?_drop] at hj))
   (fun j hj=>by rw [Nat.add_assoc]; exact hsp _ (by omega)) (fun j hj=>by rw [Nat.add_assoc]; exact hfz _ (by omega)) (fun v hv=>h1c v (List.mem_of_mem_drop hv))
 obtain ⟨W1,hW1⟩:∃ W1,W1=w.drew.setCells b (off+(i+m)) (cs.drop i):=⟨_,rfl⟩
 have hsp1:∀ k,k<n+m→(W1.cell? ⟨b,off+k,none⟩).isSome=true:=fun k hk=>by
  rw [hW1]
  exact isSome_setCells b _ _ _ (fun j hj=>by rw [Nat.add_assoc]; exact hsp _ (by omega)) _ (hsp k hk)
 have hcp2:∀ (W:World),(∀ x,W.cell? x=W1.cell? x)→(∀ x,W.frozen? x=W1.frozen? x)→∀ ty dc,(Builtin.copy_ #[(ρ.t 22),(ρ.t 22)] ty #[.slice (some ⟨b,off+i,none⟩) (n+m - i) dc, .slice (some ⟨vb,voff,none⟩) m vc]).run P W= .ok (goInt vs.length) (W.setCells b (off+i) vs):=fun W hWc hWf ty dc=>
  run_copy_cells W _ _ ty (ρ.t 3) b (off+i) (n+m - i) dc ⟨vb,voff,none⟩ m vc vs L.t22 hsz (by rw [hvl]; simp only [Nat.min_def]; split<;>omega)
   (fun j v hj=>by
    rw [Addr.add_lit,hWc,hW1,World.cell?_setCells_out b _ _ _ _ (fun h _=>absurd h hvb)]
    exact hvs j v hj)
   (fun j hj=>by rw [hWc,Nat.add_assoc]; exact hsp1 _ (by omega)) (fun j hj=>by rw [hWf,hW1,World.frozen?_setCells,Nat.add_assoc]; exact hfz _ (by omega)) h1v
 rw [←hW1] at hcp1
 go_enter L.f21,Body2.n21_ntmps ρ
 go_wp2_with (simp only [hov])
 go_region_law_o (refine step_copy_runI rfl _ _ (ρ.t 22) (ρ.t 22) rfl _ _ (by simp [Act.eval,Act.put]) (by simp [Act.eval,Act.put]) (hcp1 _ _ _) ?_)
 go_wp2_with (at_builtin; refine wpList_copy_runI _ rfl _ _ (ρ.t 22) (ρ.t 22) rfl _ _ rfl rfl (hcp2 _ (fun _=>rfl) (fun _=>rfl) _ _) ?_)
 go_ret
 first|exact ⟨rfl,rfl⟩|exact ⟨rfl,by rw [hW1]⟩
set_option maxHeartbeats 4000000 in
set_option maxRecDepth 100000 in
theorem w1y (L:Lays2.n21 P ρ) (b off n c vb voff m vc:Nat) (vs:List Value) (w:World) (hm:0<m) (hroom:n+m≤c) (hc63:n+m≤9223372036854775807)
  (hvl:vs.length=m) (hsp:∀ j,j<m→(w.cell? ⟨b,off+n+j,none⟩).isSome=true) (hfz:∀ j,j<m→w.frozen? ⟨b,off+n+j,none⟩=false)
  (hvs:∀ j v,vs[j]?=some v→w.cell? ⟨vb,voff+j,none⟩=some v) (h1v:∀ v∈vs,v.oneCell'=true):
  Calls P (ρ.f 21) #[.slice (some ⟨b,off,none⟩) n c, .int .i64 n, .slice (some ⟨vb,voff,none⟩) m vc] w fun e w'=>
   e= .returned (.slice (some ⟨b,off,none⟩) (n+m) c)∧w'=w.setCells b (off+n) vs:=by
 have t0:=L.t0; have a0:=L.a0; have z0:=L.z0; have v0:=L.v0; have t3:=L.t3; have a3:=L.a3; have z3:=L.z3; have v3:=L.v3; have t4:=L.t4; have a4:=L.a4; have z4:=L.z4; have v4:=L.v4; have t22:=L.t22; have a22:=L.a22; have z22:=L.z22; have v22:=L.v22
 have u0:=run_underlying L.t0; have u3:=run_underlying L.t3; have u4:=run_underlying L.t4; have u22:=run_underlying L.t22
 have mixed:=L.mixed
 have hz1:¬ ((m:Int)=0):=by omega
 have hsrc:Src P 1 (ρ.t 22) (.slice (some ⟨vb,voff,none⟩) m vc) m vs w:=Src.ofSlice w L.t22 ⟨vb,voff,none⟩ m vc vs (by omega) (fun j u hj=>by rw [Addr.add_lit]; exact hvs j u hj) h1v
 go_enter L.f21,Body2.n21_ntmps ρ
 go_wp2_with (at_builtin; refine wpList_append_room1 _ rfl _ _ (ρ.t 22) (ρ.t 22) rfl (ρ.t 3) _ _ L.t22 L.i3 b off n c rfl _ rfl m vs hsrc hroom (by rw [hvl]; exact hsp) (by rw [hvl]; exact hfz) ?_)
 go_ret
 exact ⟨rfl,rfl⟩
end Go.Proofs
namespace Go.Am
open Go.Proofs Go.Shelf
theorem w61:x94 Try.prog 60 3 where
 shift:=fun b off n c i vb voff vc cs v w h1 h2 h3 h4 h5 h6 h7 h8 h9 h10 h11 h12 ⟨tA,kA,h13⟩ ⟨tB,kB,h14,h15⟩=>x77 x3o b off n c i vb voff 1 vc cs [v] w h1 (by omega) h2 h3 h4 h5 rfl h6 h7 h8 (fun j u hj=>by
  cases j with
  |zero=>cases hj; exact h9
  |succ j=>simp at hj) h10 (by simpa using h11) tA tB kA kB h13 h14 h15 (h12 _) (h12 _)
 room:=fun b off n c vb voff vc v w h1 h2 h3 h4 h5 h6=>w1y x3o b off n c vb voff 1 vc [v] w (by omega) h1 h2 rfl (fun j hj=>by
   have:j=0:=by omega
   subst this; exact h3) (fun j hj=>by
   have:j=0:=by omega
   subst this; exact h4) (fun j u hj=>by
   cases j with
   |zero=>cases hj; exact h5
   |succ j=>simp at hj) (by simpa using h6)
 last:=fun base n c vb voff vc cs v w h1 h2 h3 h4 h5 h6 h7 h8=>Any2.slices_Insert_int_end_grow x3o base n c vb voff 1 vc cs [v] w (by omega) h1 h2 h3 h4 rfl h5 h6 (fun j u hj=>by
  cases j with
  |zero=>cases hj; exact h7
  |succ j=>simp at hj) (by simpa using h8)
 grow:=fun b off n c i vb voff vc cs v w h1 h2 h3 h4 h5 h6 h7 h8 h9=>Any2.slices_Insert_int_grow x3o b off n c i vb voff 1 vc cs [v] w h1 (by omega) h2 h3 h4 h5 rfl h6 (fun j u hj=>by
  cases j with
  |zero=>cases hj; exact h7
  |succ j=>simp at hj) h8 (by simpa using h9)
 cap:=fun w n c h1 h2=>by unfold grownCap; simp [Question.cut]
noncomputable def y1d:Ctr:=
 ⟨60,[.vec 0 1, .int .i64, .full 1 1],[.row [(Go.Am.CK.int Go.IntKind.i64)], .row [(Go.Am.CK.int Go.IntKind.i64)]],[(.ret,⟨[(0, .vec 2 1)],[.dead, .row [(Go.Am.CK.int Go.IntKind.i64)], .row [(Go.Am.CK.int Go.IntKind.i64)]],1⟩)]⟩
def q60 (x:List (List D)×(List (List D)×(Int×Unit))):Option (List (List D)×(List (List D)×Unit)):=
 match x.2.1 with
 |[[v]]=>bif decide (0≤x.2.2.1)&&(Nat.ble x.2.2.1.toNat x.1.length&&Nat.ble x.1.length 1000000) then some ([[v]],(x.1.take x.2.2.1.toNat++[v]::x.1.drop x.2.2.1.toNat,())) else none
 |_=>none
noncomputable def G60:(p:Prim)→(List (List D)×(List (List D)×(Int×Unit)))→Option (List (List D)×(List (List D)×Unit)):=
 fun p x=>q60 x
noncomputable def F60:Prim→Tup (y1d).scs→Option (STup (scss (y1d).outs)):=
 fun p x=>G60 p x
theorem w2h:z13 Go.Proofs.Try.prog 60:=enters_auto (b:=_) rfl (by kernel_rfl)
theorem ok60:CtrOk Go.Proofs.Try.prog y1d (F60 std):=by
 have key:∀ (es r:List (List D)) (i:Int) (y:STup (scss (y1d).outs)),q60 (es,(r,(i,())))=some y→(y2z std y1d (z91 (y1d).scs (es,(r,(i,()))))).2.length≤(z1s std (y1d).outs y).2.s.heap.length∧
   z6m Try.prog 60 (y2z std y1d (z91 (y1d).scs (es,(r,(i,()))))).1 (y2z std y1d (z91 (y1d).scs (es,(r,(i,()))))).2 (z0r (z1s std (y1d).outs y).2.s.env 0) (z1s std (y1d).outs y).2.s.heap:=by
  intro es r i y hy
  unfold q60 at hy
  simp only at hy
  match r,hy with
  |[[v]],hy=>
   simp only at hy
   cases hb:(decide (0≤i)&&(Nat.ble i.toNat es.length&&Nat.ble es.length 1000000)) with
   |false=>rw [hb] at hy; cases hy
   |true=>
    rw [hb] at hy; cases hy
    simp only [Bool.and_eq_true,decide_eq_true_eq] at hb
    obtain ⟨h0,h1,h2⟩:=hb
    have h1:=Nat.le_of_ble_eq_true h1
    have h2:=Nat.le_of_ble_eq_true h2
    have hi:((i.toNat:Nat):Int)=i:=by omega
    have:=w1z w61 (es:=es) (x:=v) (i:=i.toNat) h1 h2
    have hl:es.length+1=(es.take i.toNat++[v]::es.drop i.toNat).length:=by simp; omega
    rw [hl,hi] at this
    exact ⟨(by show 2≤3; omega),this⟩
 exact ⟨w2h,fun x y hy=>key x.1 x.2.1 x.2.2.1 y hy⟩
end Go.Am
end
noncomputable section
namespace Go.Am
def v13:Ctr:=
 ⟨26,[.list 1],[],[(.ret,⟨[(0, .tuple [.vec 0 1, .int .i64])],[.row [ci]],1⟩)]⟩
def la26:List LA:=
 [⟨26,[false,true,false,true,true,true,true,true],0,⟨⟨[(6, .bptr 0 0),(7, .vec 2 1),(23, .int .i64),(24, .int .i64)],[.box [.clo 57 [.bptr 1 0] []], .row [ci], .row [ci]],37⟩,[((AX.exit 0),⟨[(7, .vec 0 1)],[.row [ci]],37⟩)]⟩⟩,
 ⟨58,[false,true,false,true],4,⟨⟨[(0, .vec 2 1),(1, .clo 59 [] [.bptr 0 0, .bptr 3 0]),(7, .vec 2 1),(8, .int .i64),(9, .int .i64)],[.box [.clo 57 [.bptr 1 0] []], .row [ci], .row [ci], .box [.int .i64]],21⟩,[(AX.ret,⟨[(4, .int .i64)],[.box [.clo 57 [.bptr 1 0] []], .row [ci], .row [ci], .box [.int .i64]],21⟩),((AX.exit 0),⟨[(0, .vec 2 1)],[.box [.clo 57 [.bptr 1 0] []], .row [ci], .row [ci], .box [.int .i64]],21⟩)]⟩⟩]
def ja26:List JA:=
 [⟨26,[false,true,true,false,false,true,false,true,true,true,true,true],0,[(AX.normal,⟨[(6, .bptr 0 0),(7, .vec 1 1),(23, .int .i64),(24, .int .i64)],[.box [.clo 57 [.bptr 2 0] []], .row [ci], .row [ci]],37⟩)]⟩]
def v7q:List CF:=
 [⟨y1d,F60⟩,⟨w2y,G54⟩]
def an26:Anns:=
 ⟨v7q,ja26,[]⟩
def v88 (p:Prim):(LD×(LD×T4))→Option ((LD×(LD×T4))⊕((LD×(LD×T3))⊕(LD×(LD×T1)))):=
 fun a=>opt.run _ (
 opt.ask _ (p.cmp .lss a.2.2.2.2.1 a.2.2.2.1) (
 opt.need _ (bif (p.cmp .geq a.2.2.2.2.1 (0:Int)) then (p.cmp .lss a.2.2.2.2.1 (p.ofNat (p.len a.2.1))) else Bool.false)<|
 opt.need _ (p.rowOk a.2.1 (p.add 0 (p.nat a.2.2.2.2.1)) [ci])<|
 opt.need _ (bif (p.cmp .geq a.2.2.1 (0:Int)) then (p.cmp .lss a.2.2.1 (p.ofNat 10)) else Bool.false)<|
 opt.need _ (bif (p.cmp .geq (p.rdI a.2.1 (p.add 0 (p.nat a.2.2.2.2.1)) 0) (0:Int)) then (p.cmp .lss (p.rdI a.2.1 (p.add 0 (p.nat a.2.2.2.2.1)) 0) (p.ofNat 10)) else Bool.false)<|
 opt.need _ (p.rowOk a.1 (p.add (p.add 1 (p.mul (p.nat a.2.2.1) 10)) (p.nat (p.rdI a.2.1 (p.add 0 (p.nat a.2.2.2.2.1)) 0))) [ci])<|
 opt.ask _ (p.cmp .eql (p.rdI a.1 (p.add (p.add 1 (p.mul (p.nat a.2.2.1) 10)) (p.nat (p.rdI a.2.1 (p.add 0 (p.nat a.2.2.2.2.1)) 0))) 0) (1:Int)) (
 opt.ret _ (Sum.inr (Sum.inl (a.1,(a.2.1,(a.2.2.1,(a.2.2.2.2.1,()))))))) (
 opt.need _ (p.eqN 0 0)<|
 opt.need _ (p.eqN (p.len a.2.1) (p.len a.2.1))<|
 opt.need _ (p.eqN 0 0)<|
 opt.need _ (p.eqN (p.len a.2.1) (p.len a.2.1))<|
 opt.ret _ (Sum.inl (a.1,(a.2.1,(a.2.2.1,(a.2.2.2.1,((p.ar .add .i64 a.2.2.2.2.1 (1:Int)),())))))))) (
 opt.need _ (p.eqN 0 0)<|
 opt.need _ (p.eqN (p.len a.2.1) (p.len a.2.1))<|
 opt.ret _ (Sum.inr (Sum.inr (a.1,(a.2.1,(a.2.2.1,())))))))
def w73 (it:It) (p:Prim):(LD×(LD×T3))→Option ((LD×(LD×T3))⊕(LD×Unit)):=
 fun a=>opt.run _ (
 opt.ask _ (p.cmp .lss a.2.2.2.1 a.2.2.1) (
 opt.bnd ((LD×(LD×T3))) _ (
 opt.run ((LD×(LD×T3))) (
 opt.need _ (p.eqN 0 0)<|
 opt.need _ (p.eqN (p.len a.2.1) (p.len a.2.1))<|
 opt.need _ (p.eqN 0 0)<|
 opt.need _ (p.eqN (p.len a.2.1) (p.len a.2.1))<|
 opt.alt ((LD×(LD×T3))) ((LD×(LD×T1))) _ (
 it _ _ (v88 p) (a.1,(a.2.1,(a.2.2.2.1,((p.ofNat (p.len a.2.1)),((0:Int),())))))) (fun b=>
 opt.need _ (p.eqN 0 0)<|
 opt.need _ (p.eqN (p.len a.2.1) (p.len b.2.1))<|
 opt.need _ (p.eqN 0 0)<|
 opt.need _ (p.eqN 1 (p.len [[(D.int .i64 b.2.2.1)]]))<|
 opt.need _ (p.eqN 1 (p.len [[(D.int .i64 b.2.2.1)]]))<|
 opt.bnd ((LD×(LD×Unit))) _ (G60 p (b.2.1,([[(D.int .i64 b.2.2.1)]],(b.2.2.2.1,())))) fun c=>
 opt.need _ (p.eqN 0 0)<|
 opt.need _ (p.eqN (p.len c.2.1) (p.len c.2.1))<|
 opt.ret _ (c.2.1,(b.1,(a.2.2.1,(a.2.2.2.1,()))))) (fun d=>
 opt.bnd ((LD×(LD×T1))) _ (some d) fun e=>
 opt.need _ (p.eqN 0 0)<|
 opt.need _ (p.eqN (p.len a.2.1) (p.len e.2.1))<|
 opt.need _ (p.eqN 0 0)<|
 opt.need _ (p.eqN 1 (p.len [[(D.int .i64 e.2.2.1)]]))<|
 opt.need _ (p.eqN 1 (p.len [[(D.int .i64 e.2.2.1)]]))<|
 opt.bnd ((LD×(LD×Unit))) _ (G60 p (e.2.1,([[(D.int .i64 e.2.2.1)]],((p.ofNat (p.len e.2.1)),())))) fun f=>
 opt.need _ (p.eqN 0 0)<|
 opt.need _ (p.eqN (p.len f.2.1) (p.len f.2.1))<|
 opt.ret _ (f.2.1,(e.1,(a.2.2.1,(a.2.2.2.1,()))))))) fun g=>
 opt.need _ (p.eqN 0 0)<|
 opt.need _ (p.eqN (p.len g.1) (p.len g.1))<|
 opt.ret _ (Sum.inl (g.2.1,(g.1,(g.2.2.1,((p.ar .add .i64 g.2.2.2.1 (1:Int)),())))))) (
 opt.need _ (p.eqN 0 0)<|
 opt.need _ (p.eqN (p.len a.2.1) (p.len a.2.1))<|
 opt.ret _ (Sum.inr (a.2.1,()))))
def g26 (it:It):(p:Prim)→(LD×Unit)→Option ((LD×T1)):=
 fun p x=>
 opt.alt T2 ((LD×T1)) _ (g54 it p (x.1,())) (fun a=>
 opt.ask _ (p.cmp .neq a.1 (0:Int)) (
 opt.ret _ ([],(a.1,()))) (
 opt.no _ 41)) (fun b=>
 opt.bnd ((LD×T1)) _ (some b) fun c=>
 opt.ask _ (p.cmp .neq c.2.1 (0:Int)) (
 opt.ret _ ([],(c.2.1,()))) (
 opt.need _ (p.rowOk c.1 0 [ci])<|
 opt.bnd ((LD×Unit)) _ (
 it _ _ (w73 it p) (c.1,([],((p.rdI c.1 0 0),((0:Int),()))))) fun d=>
 opt.need _ (p.eqN 0 0)<|
 opt.need _ (p.eqN (p.len d.1) (p.len d.1))<|
 opt.ret _ (d.1,((0:Int),()))))
def G26:=g26 it0
theorem ok26:CtrOk PG v13 (G26 std):=okF (a:=an26) (l:=la26) (gC ok60 (gC v47 (gN))) (by kernel_rfl) fun _ _=>by kernel_rfl
end Go.Am
end
noncomputable section
namespace Go.Am
def v18:Ctr:=
 ⟨14,[],[],[(.ret,⟨[(0, .bool)],[],1⟩)]⟩
def la14:List LA:=
 []
def ja14:List JA:=
 [⟨14,[false,false,true,true,true,true,true,true,true,true,true,true,true,true],0,[(AX.normal,⟨[(1, .list 1),(3, .list 1),(5, .vec 0 1),(7, .int .i64),(10, .vec 1 1),(12, .list 1),(14, .list 1),(18, .list 1),(115, .bool)],[.row [ci], .row [ci]],168⟩)]⟩,
 ⟨14,[false,true,true,true,true,true,true,true,true,true,true,true,true,true,true],0,[(AX.normal,⟨[(0, .bool)],[],168⟩)]⟩]
def v7x:List CF:=
 [⟨v11,G29⟩,⟨v14,G25⟩,⟨w7u,G22⟩,⟨w21,G21⟩,⟨v1y,G33⟩,⟨v12,G28⟩,⟨v1z,G31⟩,⟨v10,G30⟩,⟨v1w,G37⟩,⟨v13,G26⟩,⟨v15,G24⟩,⟨v1x,G36⟩,⟨w2z,G35⟩,⟨v1v,G41⟩,⟨x9e,F17⟩,⟨x9f,F15⟩,⟨v1u,G45⟩]
def an14:Anns:=
 ⟨v7x,ja14,[]⟩
def g14 (it:It):(p:Prim)→Unit→Option T0:=
 fun p x=>
 opt.bnd T19 _ (G45 p ()) fun a=>
 opt.bnd ((LD×T1)) _ (G15 p (a.1,(a.2.1,(a.2.2.1,(a.2.2.2.1,()))))) fun b=>
 opt.bnd T19 _ (G45 p ()) fun c=>
 opt.bnd ((LD×T1)) _ (G17 p (c.1,(c.2.1,(c.2.2.1,(c.2.2.2.1,()))))) fun d=>
 opt.bnd ((LD×Unit)) _ (G41 p ()) fun e=>
 opt.bnd ((LD×T1)) _ (g35 it p (e.1,())) fun f=>
 opt.bnd ((LD×Unit)) _ (G41 p ()) fun g=>
 opt.bnd T9 _ (g36 it p (g.1,())) fun h=>
 opt.bnd ((LD×Unit)) _ (G41 p ()) fun i=>
 opt.bnd T2 _ (g24 it p (i.1,([k0k,[k1k],[k3k],k4k],()))) fun j=>
 opt.bnd ((LD×Unit)) _ (G41 p ()) fun k=>
 opt.bnd ((LD×T1)) _ (g26 it p (k.1,())) fun l=>
 opt.bnd ((LD×Unit)) _ (G41 p ()) fun m=>
 opt.bnd ((LD×T1)) _ (g37 it p (m.1,())) fun n=>
 opt.bnd ((LD×T1)) _ (g30 it p ([[k1k],[k1k],[k1k]],())) fun o=>
 opt.bnd ((LD×T1)) _ (g30 it p ([k0k,k0k,k4k],())) fun q=>
 opt.bnd ((LD×T1)) _ (g31 it p ([k0k,k0k,k4k],())) fun r=>
 opt.bnd T2 _ (g28 it p ([k0k,k0k,k4k],([k0k,[k1k]],()))) fun t=>
 opt.bnd ((LD×(LD×(LD×(LD×T40))))) _ (
 opt.run ((LD×(LD×(LD×(LD×T40))))) (
 opt.ask _ (p.cmp .neq b.2.1 (0:Int)) (
 opt.need _ (p.eqN 0 0)<|
 opt.need _ (p.eqN (p.len f.1) (p.len f.1))<|
 opt.need _ (p.eqN 0 0)<|
 opt.need _ (p.eqN (p.len l.1) (p.len l.1))<|
 opt.ret _ (f.1,(l.1,(b.1,(d.1,(h.1,(n.1,(o.1,(r.1,(Bool.true,())))))))))) (
 opt.ask _ (p.cmp .neq d.2.1 (0:Int)) (
 opt.need _ (p.eqN 0 0)<|
 opt.need _ (p.eqN (p.len f.1) (p.len f.1))<|
 opt.need _ (p.eqN 0 0)<|
 opt.need _ (p.eqN (p.len l.1) (p.len l.1))<|
 opt.ret _ (f.1,(l.1,(b.1,(d.1,(h.1,(n.1,(o.1,(r.1,(Bool.true,())))))))))) (
 opt.ask _ (p.cmp .neq f.2.1 (0:Int)) (
 opt.need _ (p.eqN 0 0)<|
 opt.need _ (p.eqN (p.len f.1) (p.len f.1))<|
 opt.need _ (p.eqN 0 0)<|
 opt.need _ (p.eqN (p.len l.1) (p.len l.1))<|
 opt.ret _ (f.1,(l.1,(b.1,(d.1,(h.1,(n.1,(o.1,(r.1,(Bool.true,())))))))))) (
 opt.ask _ (p.cmp .neq h.2.1 (0:Int)) (
 opt.need _ (p.eqN 0 0)<|
 opt.need _ (p.eqN (p.len f.1) (p.len f.1))<|
 opt.need _ (p.eqN 0 0)<|
 opt.need _ (p.eqN (p.len l.1) (p.len l.1))<|
 opt.ret _ (f.1,(l.1,(b.1,(d.1,(h.1,(n.1,(o.1,(r.1,(Bool.true,())))))))))) (
 opt.ask _ (p.cmp .neq j.1 (0:Int)) (
 opt.need _ (p.eqN 0 0)<|
 opt.need _ (p.eqN (p.len f.1) (p.len f.1))<|
 opt.need _ (p.eqN 0 0)<|
 opt.need _ (p.eqN (p.len l.1) (p.len l.1))<|
 opt.ret _ (f.1,(l.1,(b.1,(d.1,(h.1,(n.1,(o.1,(r.1,(Bool.true,())))))))))) (
 opt.ask _ (p.cmp .neq l.2.1 (0:Int)) (
 opt.need _ (p.eqN 0 0)<|
 opt.need _ (p.eqN (p.len f.1) (p.len f.1))<|
 opt.need _ (p.eqN 0 0)<|
 opt.need _ (p.eqN (p.len l.1) (p.len l.1))<|
 opt.ret _ (f.1,(l.1,(b.1,(d.1,(h.1,(n.1,(o.1,(r.1,(Bool.true,())))))))))) (
 opt.ask _ (p.cmp .neq n.2.1 (0:Int)) (
 opt.need _ (p.eqN 0 0)<|
 opt.need _ (p.eqN (p.len f.1) (p.len f.1))<|
 opt.need _ (p.eqN 0 0)<|
 opt.need _ (p.eqN (p.len l.1) (p.len l.1))<|
 opt.ret _ (f.1,(l.1,(b.1,(d.1,(h.1,(n.1,(o.1,(r.1,(Bool.true,())))))))))) (
 opt.ask _ (p.cmp .neq o.2.1 (0:Int)) (
 opt.need _ (p.eqN 0 0)<|
 opt.need _ (p.eqN (p.len f.1) (p.len f.1))<|
 opt.need _ (p.eqN 0 0)<|
 opt.need _ (p.eqN (p.len l.1) (p.len l.1))<|
 opt.ret _ (f.1,(l.1,(b.1,(d.1,(h.1,(n.1,(o.1,(r.1,(Bool.true,())))))))))) (
 opt.ask _ (p.cmp .neq q.2.1 (13:Int)) (
 opt.need _ (p.eqN 0 0)<|
 opt.need _ (p.eqN (p.len f.1) (p.len f.1))<|
 opt.need _ (p.eqN 0 0)<|
 opt.need _ (p.eqN (p.len l.1) (p.len l.1))<|
 opt.ret _ (f.1,(l.1,(b.1,(d.1,(h.1,(n.1,(o.1,(r.1,(Bool.true,())))))))))) (
 opt.ask _ (p.cmp .neq r.2.1 (0:Int)) (
 opt.need _ (p.eqN 0 0)<|
 opt.need _ (p.eqN (p.len f.1) (p.len f.1))<|
 opt.need _ (p.eqN 0 0)<|
 opt.need _ (p.eqN (p.len l.1) (p.len l.1))<|
 opt.ret _ (f.1,(l.1,(b.1,(d.1,(h.1,(n.1,(o.1,(r.1,(Bool.true,())))))))))) (
 opt.need _ (p.eqN 0 0)<|
 opt.need _ (p.eqN (p.len f.1) (p.len f.1))<|
 opt.need _ (p.eqN 0 0)<|
 opt.need _ (p.eqN (p.len l.1) (p.len l.1))<|
 opt.ret _ (f.1,(l.1,(b.1,(d.1,(h.1,(n.1,(o.1,(r.1,((p.cmp .neq t.1 (0:Int)),()))))))))))))))))))))) fun u=>
 opt.ask _ u.2.2.2.2.2.2.2.2.1 (
 opt.ret _ (Bool.false,())) (
 opt.bnd ((LD×T1)) _ (g33 it p (u.2.2.2.2.2.2.1,())) fun v=>
 opt.bnd T0 _ (
 opt.run T0 (
 opt.ask _ (p.cmp .eql v.2.1 (0:Int)) (
 opt.need _ (p.and (p.leN (p.add 0 (p.len v.1)) (p.len v.1)) (p.and Bool.true Bool.true))<|
 opt.bnd T0 _ (g21 it p ((p.cut v.1 0 (p.len v.1)),([[k1k],[k1k],[k1k]],()))) fun w=>
 opt.ask _ w.1 (
 opt.bnd T0 _ (g21 it p (u.2.2.1,([k0k,[k1k]],()))) fun z=>
 opt.ask _ z.1 (
 opt.bnd T0 _ (g22 it p (u.2.2.2.1,([[(D.list Bool.true 1 [[k1k]])],[(D.list Bool.true 1 [[k3k]])],[(D.list Bool.true 1 [k0k])]],()))) fun a1=>
 opt.ask _ a1.1 (
 opt.need _ (p.and (p.leN (p.add 0 (p.len u.1)) (p.len u.1)) (p.and Bool.true Bool.true))<|
 opt.bnd T0 _ (g21 it p ((p.cut u.1 0 (p.len u.1)),([[k1k],[k3k],[k3k],[k1k]],()))) fun b1=>
 opt.ask _ b1.1 (
 opt.ask _ (p.cmp .eql u.2.2.2.2.1 (2:Int)) (
 opt.bnd ((LD×Unit)) _ (G41 p ()) fun c1=>
 opt.need _ (p.and Bool.true (p.and (p.leN (p.add 0 (p.len u.2.1)) (p.len u.2.1)) Bool.true))<|
 opt.bnd T2 _ (g25 it p (c1.1,((p.cut u.2.1 0 (p.len u.2.1)),()))) fun d1=>
 opt.ask _ (p.cmp .eql d1.1 (0:Int)) (
 opt.bnd T0 _ (g22 it p (u.2.2.2.2.2.1,([[(D.list Bool.true 1 [k0k,[k1k],[k3k],k4k])]],()))) fun e1=>
 opt.ask _ e1.1 (
 opt.bnd T2 _ (g29 it p ([k0k,k0k,k4k],(u.2.2.2.2.2.2.2.1,()))) fun f1=>
 opt.ret _ ((p.cmp .eql f1.1 (0:Int)),())) (
 opt.ret _ (Bool.false,()))) (
 opt.ret _ (Bool.false,()))) (
 opt.ret _ (Bool.false,()))) (
 opt.ret _ (Bool.false,()))) (
 opt.ret _ (Bool.false,()))) (
 opt.ret _ (Bool.false,()))) (
 opt.ret _ (Bool.false,()))) (
 opt.ret _ (Bool.false,())))) fun g1=>
 opt.ret _ (g1.1,()))
def G14:=g14 it0
theorem ok14:CtrOk PG v18 (G14 std):=okF (a:=an14) (l:=la14) (gC ok29 (gC ok25 (gC v97 (gC v5a (gC ok33 (gC ok28 (gC ok31 (gC ok30 (gC ok37 (gC ok26 (gC ok24 (gC ok36 (gC v48 (gC ok41 (gC ok17 (gC ok15 (gC ok45 (gN)))))))))))))))))) (by kernel_rfl) fun _ _=>by kernel_rfl
end Go.Am
end
noncomputable section
namespace Go.Am
def g4 (it:It):(p:Prim)→(LD×(LD×Unit))→Option T0:=
 fun p x=>
 opt.bnd ((LD×(LD×T8))) _ (
 opt.run ((LD×(LD×T8))) (
 opt.bnd T0 _ (g23 it p (x.1,())) fun a=>
 opt.ask _ a.1 (
 opt.ret _ (x.1,(x.2.1,(Bool.true,())))) (
 opt.ask _ (p.cmp .gtr (p.ofNat (p.len x.2.1)) (14:Int)) (
 opt.ret _ (x.1,(x.2.1,(Bool.true,())))) (
 opt.bnd T2 _ (g24 it p (x.1,(x.2.1,()))) fun b=>
 opt.bnd T2 _ (g25 it p (x.1,(x.2.1,()))) fun c=>
 opt.ret _ (x.1,(x.2.1,((p.cmp .neq b.1 c.1),()))))))) fun d=>
 opt.ask _ d.2.2.1 (
 opt.bnd T0 _ (
 opt.run T0 (
 opt.bnd T0 _ (g23 it p (d.1,())) fun e=>
 opt.ask _ e.1 (
 opt.bnd T0 _ (g14 it p ()) fun f=>
 opt.ret _ (f.1,())) (
 opt.ask _ (p.cmp .gtr (p.ofNat (p.len d.2.1)) (14:Int)) (
 opt.bnd T0 _ (g14 it p ()) fun g=>
 opt.ret _ (g.1,())) (
 opt.ret _ (Bool.false,()))))) fun h=>
 opt.ret _ (h.1,())) (
 opt.bnd ((LD×T1)) _ (g26 it p (d.1,())) fun i=>
 opt.bnd T2 _ (g27 it p (d.1,())) fun j=>
 opt.ask _ (p.cmp .neq j.1 (0:Int)) (
 opt.bnd T0 _ (
 opt.run T0 (
 opt.bnd T2 _ (g27 it p (d.1,())) fun k=>
 opt.ask _ (p.cmp .eql i.2.1 k.1) (
 opt.ask _ (p.cmp .eql (p.ofNat (p.len i.1)) (0:Int)) (
 opt.bnd T0 _ (g14 it p ()) fun l=>
 opt.ret _ (l.1,())) (
 opt.ret _ (Bool.false,()))) (
 opt.ret _ (Bool.false,())))) fun m=>
 opt.ret _ (m.1,())) (
 opt.bnd T0 _ (
 opt.run T0 (
 opt.ask _ (p.cmp .eql i.2.1 (0:Int)) (
 opt.need _ (p.and Bool.true (p.and (p.leN (p.add 0 (p.len i.1)) (p.len i.1)) Bool.true))<|
 opt.bnd T2 _ (g25 it p (d.1,((p.cut i.1 0 (p.len i.1)),()))) fun n=>
 opt.ask _ (p.cmp .eql n.1 (0:Int)) (
 opt.bnd T0 _ (g14 it p ()) fun o=>
 opt.ret _ (o.1,())) (
 opt.ret _ (Bool.false,()))) (
 opt.ret _ (Bool.false,())))) fun q=>
 opt.ret _ (q.1,())))
def g5 (it:It):(p:Prim)→(LD×(LD×Unit))→Option T0:=
 fun p x=>
 opt.bnd ((LD×(LD×T8))) _ (
 opt.run ((LD×(LD×T8))) (
 opt.ask _ (p.cmp .gtr (p.ofNat (p.len x.1)) (14:Int)) (
 opt.ret _ (x.1,(x.2.1,(Bool.true,())))) (
 opt.ret _ (x.1,(x.2.1,((p.cmp .gtr (p.ofNat (p.len x.2.1)) (14:Int)),())))))) fun a=>
 opt.ask _ a.2.2.1 (
 opt.bnd T0 _ (g14 it p ()) fun b=>
 opt.ret _ (b.1,())) (
 opt.bnd T2 _ (g28 it p (a.1,(a.2.1,()))) fun c=>
 opt.bnd T2 _ (g29 it p (a.1,(a.2.1,()))) fun d=>
 opt.ask _ (p.cmp .neq c.1 d.1) (
 opt.ret _ (Bool.false,())) (
 opt.bnd ((LD×T1)) _ (g30 it p (a.1,())) fun e=>
 opt.bnd ((LD×T1)) _ (g31 it p (a.1,())) fun f=>
 opt.bnd T2 _ (g32 it p (a.1,())) fun g=>
 opt.ask _ (p.cmp .neq e.2.1 g.1) (
 opt.ret _ (Bool.false,())) (
 opt.ask _ (p.cmp .eql g.1 (0:Int)) (
 opt.bnd ((LD×T1)) _ (g33 it p (e.1,())) fun h=>
 opt.bnd T0 _ (
 opt.run T0 (
 opt.ask _ (p.cmp .eql h.2.1 (0:Int)) (
 opt.need _ (p.and (p.leN (p.add 0 (p.len h.1)) (p.len h.1)) (p.and Bool.true Bool.true))<|
 opt.bnd T0 _ (g21 it p ((p.cut h.1 0 (p.len h.1)),(a.1,()))) fun i=>
 opt.ask _ i.1 (
 opt.ask _ (p.cmp .eql f.2.1 (5:Int)) (
 opt.ask _ (p.cmp .eql (p.ofNat (p.len f.1)) (0:Int)) (
 opt.bnd T0 _ (g14 it p ()) fun j=>
 opt.ret _ (j.1,())) (
 opt.ret _ (Bool.false,()))) (
 opt.ret _ (Bool.false,()))) (
 opt.ret _ (Bool.false,()))) (
 opt.ret _ (Bool.false,())))) fun k=>
 opt.ret _ (k.1,())) (
 opt.ask _ (p.cmp .eql g.1 (13:Int)) (
 opt.bnd T0 _ (
 opt.run T0 (
 opt.ask _ (p.cmp .eql (p.ofNat (p.len e.1)) (0:Int)) (
 opt.ask _ (p.cmp .eql f.2.1 (0:Int)) (
 opt.bnd T2 _ (g29 it p (a.1,(f.1,()))) fun l=>
 opt.ask _ (p.cmp .eql l.1 (0:Int)) (
 opt.bnd T0 _ (g14 it p ()) fun m=>
 opt.ret _ (m.1,())) (
 opt.ret _ (Bool.false,()))) (
 opt.ret _ (Bool.false,()))) (
 opt.ret _ (Bool.false,())))) fun n=>
 opt.ret _ (n.1,())) (
 opt.bnd T0 _ (
 opt.run T0 (
 opt.ask _ (p.cmp .eql (p.ofNat (p.len e.1)) (0:Int)) (
 opt.ask _ (p.cmp .eql f.2.1 g.1) (
 opt.ask _ (p.cmp .eql (p.ofNat (p.len f.1)) (0:Int)) (
 opt.bnd T0 _ (g14 it p ()) fun o=>
 opt.ret _ (o.1,())) (
 opt.ret _ (Bool.false,()))) (
 opt.ret _ (Bool.false,()))) (
 opt.ret _ (Bool.false,())))) fun q=>
 opt.ret _ (q.1,()))))))
end Go.Am
end
section
namespace Go.Am
noncomputable abbrev P34:Program:=Go.Proofs.Try.prog
noncomputable def E34:Env:=autoEnvD [] P34
theorem w8u:y22 P34 E34:=autoEnvD_ok follows_mixed
theorem x3r:z9t P34 E34.T:=w8u.ti
def ti26:TI:=⟨1,24,false,[.list true 0 []], .slc 3 1 8 false [.int .i64 0],none⟩
theorem w3r:E34.T 26=some ti26:=by kernel_rfl
theorem z3w {ops:Array Oper} {i:Nat} {rest:List Nat} {s:AS} {Q:AS→Prop} {o:Oper} {dst:Option Tmp} {op:Op} (ho:ops[i]?=some o∧o.dst=dst∧o.op=op∧o.guard=none)
  {q:Bool} {r:List D} {ra:List AV} {res:Res} (hw:(z1b std E34.T s.env s.heap op).ok q r ra) (hs:z0j std E34.T s.env s.heap s.heap.length q r ra op=some res) (hc:res.c=true) (hd:z4x s.nt dst=true)
  (h:z4v P34 0 ops rest (z5p s dst res.v res.u) Q):z4v P34 0 ops (i::rest) s Q:=by
 obtain ⟨h1,rfl,rfl,hg⟩:=ho
 exact y4b x3r h1 (by rw [hg]; rfl) (Nat.zero_le _) hw hs hc hd h
theorem z06 {env' env:List (Nat×AV)} (h:∀ x∈env',z0r env x.1=x.2):y23 env' env:=by
 intro t
 induction env' with
 |nil=>exact .inl rfl
 |cons x r ih=>
  obtain ⟨k,v⟩:=x
  simp only [z0r]
  cases hb:Nat.beq k t with
  |true=>
   have:=Nat.eq_of_beq_eq_true hb
   subst this
   exact .inr (h (k,v) (List.mem_cons_self ..)).symm
  |false=>exact ih fun x hx=>h x (List.mem_cons_of_mem _ hx)
theorem w8k {i:Nat} (h:i≤1000000):std.ar .add .i64 (i:Int) 1=((i+1:Nat):Int):=by rw [z0i]; exact z3h (by omega)
end Go.Am
end
section
namespace Go.Am
section
variable {κ ν:Type} [DecidableEq κ]
def y82:List (κ×ν)→κ→Nat→Option (Nat×ν)
 |[],_,_=>none
 |(k',v)::r,k,i=>if k=k' then some (i,v) else y82 r k (i+1)
def z3g:List (κ×ν)→κ→Option ν
 |[],_=>none
 |(k',v)::r,k=>if k=k' then some v else z3g r k
def w3j:List (κ×ν)→κ→ν→List (κ×ν)
 |[],_,_=>[]
 |(k',w)::r,k,v=>if k=k' then (k,v)::r else (k',w)::w3j r k v
def x55:List (κ×ν)→κ→List (κ×ν)
 |[],_=>[]
 |(k',w)::r,k=>if k=k' then r else (k',w)::x55 r k
def x04 (m:List (κ×ν)) (k:κ) (v:ν):List (κ×ν):=match z3g m k with
 |some _=>w3j m k v
 |none=>m++[(k,v)]
theorem z9p (k:κ):∀ (m:List (κ×ν)) (i:Nat),(y82 m k i).map (·.2)=z3g m k
 |[],i=>rfl
 |(k',v)::r,i=>by
  simp only [y82,z3g]
  split
  ·rfl
  ·exact z9p k r (i+1)
theorem x2m {k:κ}:∀ {m:List (κ×ν)} {i j:Nat} {v:ν},y82 m k i=some (j,v)→i≤j∧j<i+m.length
 |(k',w)::r,i,j,v,h=>by
  simp only [y82] at h
  split at h
  ·cases h; simp
  ·have:=x2m h; simp only [List.length_cons]; omega
theorem x4i {k:κ}:∀ {m:List (κ×ν)} {i j:Nat} {v:ν},y82 m k i=some (j,v)→∀ w,m.set (j - i) (k,w)=w3j m k w
 |(k',u)::r,i,j,v,h,w=>by
  simp only [y82] at h
  simp only [w3j]
  split at h
  ·rename_i e; cases h; rw [if_pos e,Nat.sub_self]; rfl
  ·rename_i e
   have:=x2m h
   rw [if_neg e, ←x4i h w]
   have:j - i=(j - (i+1))+1:=by omega
   rw [this]; rfl
theorem x4j {k:κ}:∀ {m:List (κ×ν)} {i j:Nat} {v:ν},y82 m k i=some (j,v)→m.eraseIdx (j - i)=x55 m k
 |(k',u)::r,i,j,v,h=>by
  simp only [y82] at h
  simp only [x55]
  split at h
  ·rename_i e; cases h; rw [if_pos e,Nat.sub_self]; rfl
  ·rename_i e
   have:=x2m h
   rw [if_neg e, ←x4j h]
   have:j - i=(j - (i+1))+1:=by omega
   rw [this]; rfl
theorem x4g (k:κ) (v:ν) (k':κ):∀ m:List (κ×ν),z3g (w3j m k v) k'=if k'=k then (z3g m k).map fun _=>v else z3g m k'
 |[]=>by simp [w3j,z3g]
 |(x,w)::r=>by
  have ih:=x4g k v k' r
  simp only [w3j]
  by_cases h:k=x
  ·rw [if_pos h]; subst h
   by_cases h':k'=k
   ·simp [z3g,h']
   ·simp [z3g,h']
  ·rw [if_neg h]
   simp only [z3g]
   rw [ih]
   by_cases h':k'=x
   ·subst h'
    rw [if_pos rfl,if_neg (fun e=>h e.symm)]
    simp
   ·rw [if_neg h']
    by_cases h'':k'=k
    ·subst h''; rw [if_pos rfl,if_pos rfl,if_neg h]
    ·rw [if_neg h'',if_neg h'',if_neg h']
theorem y41 (k':κ) (l:List (κ×ν)):∀ m:List (κ×ν),z3g (m++l) k'=(z3g m k').or (z3g l k')
 |[]=>by simp [z3g]
 |(x,w)::r=>by
  simp only [List.cons_append,z3g,y41 k' l r]
  split<;>rfl
theorem x4h (m:List (κ×ν)) (k:κ) (v:ν) (k':κ):z3g (x04 m k v) k'=if k'=k then some v else z3g m k':=by
 unfold x04
 cases h:z3g m k with
 |some w=>simp only [x4g,h,Option.map_some]
 |none=>
  simp only [y41,z3g]
  by_cases e:k'=k
  ·subst e; simp [h]
  ·simp [e]
theorem x03 (k:κ) (v:ν):∀ m:List (κ×ν),(w3j m k v).map (·.1)=m.map (·.1)
 |[]=>rfl
 |(x,w)::r=>by
  simp only [w3j]
  split
  ·rename_i h; subst h; rfl
  ·simp [x03 k v r]
theorem z82 {k:κ}:∀ {m:List (κ×ν)},z3g m k=none↔k∉m.map (·.1)
 |[]=>by simp [z3g]
 |(x,w)::r=>by
  simp only [z3g,List.map_cons,List.mem_cons,not_or]
  split
  ·rename_i h; simp [h]
  ·rename_i h; simp only [z82 (m:=r)]; simp [h]
theorem x91 {k:κ} {m:List (κ×ν)}:(∃ v,z3g m k=some v)↔k∈m.map (·.1):=by
 cases h:z3g m k with
 |none=>have:=z82.1 h; simp only [this,iff_false]; rintro ⟨_,h⟩; cases h
 |some v=>
  constructor
  ·intro _
   exact Classical.byContradiction fun hn=>by rw [z82.2 hn] at h; cases h
  ·intro _; exact ⟨v,rfl⟩
theorem z7w {m:List (κ×ν)} (h:(m.map (·.1)).Nodup) (k:κ) (v:ν):((x04 m k v).map (·.1)).Nodup:=by
 unfold x04
 cases hv:z3g m k with
 |some w=>simp only [x03]; exact h
 |none=>
  simp only [List.map_append,List.map_cons,List.map_nil]
  refine List.nodup_append.2 ⟨h,by simp,fun a ha b hb=>?_⟩
  simp only [List.mem_singleton] at hb
  subst hb
  intro e; subst e
  exact z82.1 hv ha
theorem y8u (k:κ):∀ (m:List (κ×ν)),((x55 m k).map (·.1)).Sublist (m.map (·.1))
 |[]=> .slnil
 |(x,w)::r=>by
  simp only [x55]
  split
  ·exact List.sublist_cons_self _ _
  ·exact (y8u k r).cons_cons _
theorem y8t {k:κ} (k':κ):∀ {m:List (κ×ν)},(m.map (·.1)).Nodup→z3g (x55 m k) k'=if k'=k then none else z3g m k'
 |[],_=>by simp [x55,z3g]
 |(x,w)::r,h=>by
  simp only [List.map_cons,List.nodup_cons] at h
  have ih:=y8t (k:=k) k' h.2
  simp only [x55]
  by_cases e:k=x
  ·rw [if_pos e]; subst e
   simp only [z3g]
   by_cases e':k'=k
   ·subst e'; rw [if_pos rfl]; exact z82.2 h.1
   ·rw [if_neg e',if_neg e']
  ·rw [if_neg e]
   simp only [z3g,ih]
   by_cases e':k'=x
   ·subst e'; rw [if_pos rfl,if_neg (fun h=>e h.symm),if_pos rfl]
   ·rw [if_neg e',if_neg e']
end
structure x93 (κ ν:Type) where
 ke:κ→D
 ve:ν→D
 ks:List SK
 ka:Bool
 va:Bool
 ck:List CK
structure x93.Ok {κ ν:Type} [DecidableEq κ] (E:x93 κ ν):Prop where
 agg:∀ k,z1p (E.ke k)=E.ka
 kinds:∀ k,z1f E.ks (z01 (E.ke k))=true
 eq:∀ a b,z8d E.ks (z01 (E.ke a)) (z01 (E.ke b))=some (decide (a=b))
 vagg:∀ v,z1p (E.ve v)=E.va
 vok:∀ v,z4e E.ck (z01 (E.ve v))=true
def x93.enc {κ ν:Type} (E:x93 κ ν) (m:List (κ×ν)):List (D×D):=m.map fun e=>(E.ke e.1,E.ve e.2)
section
variable {κ ν:Type} [DecidableEq κ] {E:x93 κ ν} (h:E.Ok)
include h
theorem y1a (k:κ):∀ (m:List (κ×ν)) (i:Nat),y4o E.ks E.ka (E.ke k) (E.enc m) i=some ((y82 m k i).map fun x=>(x.1,E.ve x.2))
 |[],i=>rfl
 |(k',v)::r,i=>by
  have ih:=y1a k r (i+1)
  unfold x93.enc at ih⊢
  simp only [List.map_cons,y4o,h.agg,beq_self_eq_true,Bool.and_self,cond_true,h.eq,y82]
  by_cases e:k=k'
  ·simp [e]
  ·simp [e,ih]
theorem x70 (m:List (κ×ν)) (k:κ):std.mOk (E.enc m) E.ks E.ka (E.ke k) E.va E.ck=true:=by
 show ((z1p (E.ke k)==E.ka)&&z1f E.ks (z01 (E.ke k))&&match y4o E.ks E.ka (E.ke k) (E.enc m) 0 with|some none=>true|some (some (_,v))=>(z1p v==E.va)&&z4e E.ck (z01 v)|none=>false)=true
 rw [y1a h,h.agg,h.kinds]
 cases y82 m k 0 with
 |none=>simp
 |some x=>simp [h.vagg,h.vok]
theorem y27 (m:List (κ×ν)) (k:κ):x6e (E.enc m) E.ks E.ka (E.ke k)=(y82 m k 0).map fun x=>(x.1,E.ve x.2):=by
 unfold x6e; rw [y1a h]; rfl
theorem x3k (m:List (κ×ν)) (k:κ):std.mhas (E.enc m) E.ks E.ka (E.ke k)=(z3g m k).isSome:=by
 show (x6e _ _ _ _).isSome=_
 rw [y27 h, ←z9p k m 0]; simp
theorem x7z (m:List (κ×ν)) (k:κ) (j:Nat) {v:ν} (hv:z3g m k=some v):y5k (E.enc m) E.ks E.ka (E.ke k) j=((z01 (E.ve v))[j]?).getD .nilp:=by
 unfold y5k
 rw [y27 h]
 rw [←z9p k m 0] at hv
 cases ha:y82 m k 0 with
 |none=>rw [ha] at hv; cases hv
 |some x=>rw [ha] at hv; cases hv; rfl
theorem w31 (m:List (κ×ν)) (k:κ) (j:Nat) {v:ν} (hv:z3g m k=some v):std.mI (E.enc m) E.ks E.ka (E.ke k) j=dI (((z01 (E.ve v))[j]?).getD .nilp):=by
 show dI (y5k _ _ _ _ _)=_
 rw [x7z h m k j hv]
theorem x3g (m:List (κ×ν)) (k:κ) {v:ν} (hv:z3g m k=some v) (w:ν):std.mset (E.enc m) (std.nat (std.ofNat (std.mpos (E.enc m) E.ks E.ka (E.ke k)))) (E.ke k) (E.ve w)=E.enc (x04 m k w):=by
 show (E.enc m).set (Int.toNat ((((x6e (E.enc m) E.ks E.ka (E.ke k)).map (·.1)).getD 0:Nat):Int)) (E.ke k,E.ve w)=_
 rw [y27 h]
 have hv':=hv
 rw [←z9p k m 0] at hv
 cases ha:y82 m k 0 with
 |none=>rw [ha] at hv; cases hv
 |some x=>
  obtain ⟨j,u⟩:=x
  simp only [Option.map_some,Option.getD_some,Int.toNat_natCast,x04,hv',x93.enc]
  rw [←x4i ha w,Nat.sub_zero,List.map_set]
theorem x3m (m:List (κ×ν)) (k:κ) (hv:z3g m k=none) (w:ν):std.madd (E.enc m) (E.ke k) (E.ve w)=E.enc (x04 m k w):=by
 show E.enc m++[(E.ke k,E.ve w)]=_
 simp [x04,hv,x93.enc]
theorem w1j (m:List (κ×ν)) (k:κ) {v:ν} (hv:z3g m k=some v):std.mdel (E.enc m) (std.nat (std.ofNat (std.mpos (E.enc m) E.ks E.ka (E.ke k))))=E.enc (x55 m k):=by
 show (E.enc m).eraseIdx (Int.toNat ((((x6e (E.enc m) E.ks E.ka (E.ke k)).map (·.1)).getD 0:Nat):Int))=_
 rw [y27 h]
 rw [←z9p k m 0] at hv
 cases ha:y82 m k 0 with
 |none=>rw [ha] at hv; cases hv
 |some x=>
  obtain ⟨j,u⟩:=x
  simp only [Option.map_some,Option.getD_some,Int.toNat_natCast,x93.enc]
  rw [←x4j ha,Nat.sub_zero]
  apply List.ext_getElem?
  intro i
  simp only [List.getElem?_eraseIdx,List.getElem?_map]
  split<;>rfl
end
end Go.Am
end
noncomputable section
namespace Go.Am
def v8d:Ctr:=
 ⟨76,[.agg [.map 0, .map 1], .int .i64, .int .i64],[.map, .map],[(.ret,⟨[(0, .tuple [])],[.map, .map],1⟩)]⟩
def la76:List LA:=
 []
def ja76:List JA:=
 [⟨76,[true,false,true,true,true,true],2,[(AX.normal,⟨[],[.map, .map],49⟩)]⟩,
 ⟨76,[true,false,true,true],2,[(AX.normal,⟨[(3, .bptr 2 0),(6, .bptr 3 0),(7, .int .i64)],[.map, .map, .box [.map 0, .map 1], .box [.int .i64, .int .i64]],49⟩)]⟩,
 ⟨76,[true,true,true,true],2,[(AX.normal,⟨[],[.map, .map],49⟩)]⟩,
 ⟨76,[true,true,true,false,true,true,true,true],2,[(AX.normal,⟨[],[.map, .map],49⟩)]⟩]
def v6y:List CF:=
 []
def an76:Anns:=
 ⟨v6y,ja76,[]⟩
def G76:(p:Prim)→(List ((D×D))×(List ((D×D))×(Int×(Int×Unit))))→Option T6:=
 fun p x=>
 opt.bnd T41 _ (
 opt.run T41 (
 opt.ask _ (p.cmp .gtr x.2.2.1 x.2.2.2.1) (
 opt.ret _ (x.1,(x.2.1,(x.2.2.2.1,(x.2.2.1,((-1:Int),())))))) (
 opt.ret _ (x.1,(x.2.1,(x.2.2.1,(x.2.2.2.1,((1:Int),())))))))) fun a=>
 opt.need _ (p.mOk a.1 [SK.i,SK.i] Bool.true (D.agg [(D.int .i64 a.2.2.1),(D.int .i64 a.2.2.2.1)]) Bool.false [ci])<|
 opt.ask _ (p.mhas a.1 [SK.i,SK.i] Bool.true (D.agg [(D.int .i64 a.2.2.1),(D.int .i64 a.2.2.2.1)])) (
 opt.bnd T6 _ (
 opt.run T6 (
 opt.need _ (p.mOk a.2.1 [SK.i,SK.i] Bool.true (D.agg [(D.int .i64 a.2.2.1),(D.int .i64 a.2.2.2.1)]) Bool.false [ci])<|
 opt.ask _ (p.mhas a.2.1 [SK.i,SK.i] Bool.true (D.agg [(D.int .i64 a.2.2.1),(D.int .i64 a.2.2.2.1)])) (
 opt.bnd T6 _ (
 opt.run T6 (
 opt.ask _ (p.cmp .gtr (p.mI a.2.1 [SK.i,SK.i] Bool.true (D.agg [(D.int .i64 a.2.2.1),(D.int .i64 a.2.2.2.1)]) 0) (0:Int)) (
 opt.ret _ (a.1,(a.2.1,()))) (
 opt.bnd T6 _ (
 opt.run T6 (
 opt.ask _ (p.cmp .neq (p.mI a.1 [SK.i,SK.i] Bool.true (D.agg [(D.int .i64 a.2.2.1),(D.int .i64 a.2.2.2.1)]) 0) a.2.2.2.2.1) (
 opt.need _ (p.mOk a.2.1 [SK.i,SK.i] Bool.true (D.agg [(D.int .i64 a.2.2.1),(D.int .i64 a.2.2.2.1)]) Bool.false [ci])<|
 opt.ask _ (p.mhas a.2.1 [SK.i,SK.i] Bool.true (D.agg [(D.int .i64 a.2.2.1),(D.int .i64 a.2.2.2.1)])) (
 opt.need _ (p.mOk a.1 [SK.i,SK.i] Bool.true (D.agg [(D.int .i64 a.2.2.1),(D.int .i64 a.2.2.2.1)]) Bool.false [ci])<|
 opt.ask _ (p.mhas a.1 [SK.i,SK.i] Bool.true (D.agg [(D.int .i64 a.2.2.1),(D.int .i64 a.2.2.2.1)])) (
 opt.ret _ ((p.mdel a.1 (p.nat (p.ofNat (p.mpos a.1 [SK.i,SK.i] Bool.true (D.agg [(D.int .i64 a.2.2.1),(D.int .i64 a.2.2.2.1)]))))),((p.mset a.2.1 (p.nat (p.ofNat (p.mpos a.2.1 [SK.i,SK.i] Bool.true (D.agg [(D.int .i64 a.2.2.1),(D.int .i64 a.2.2.2.1)])))) (D.agg [(D.int .i64 a.2.2.1),(D.int .i64 a.2.2.2.1)]) k1k),()))) (
 opt.ret _ (a.1,((p.mset a.2.1 (p.nat (p.ofNat (p.mpos a.2.1 [SK.i,SK.i] Bool.true (D.agg [(D.int .i64 a.2.2.1),(D.int .i64 a.2.2.2.1)])))) (D.agg [(D.int .i64 a.2.2.1),(D.int .i64 a.2.2.2.1)]) k1k),())))) (
 opt.need _ (p.mOk a.1 [SK.i,SK.i] Bool.true (D.agg [(D.int .i64 a.2.2.1),(D.int .i64 a.2.2.2.1)]) Bool.false [ci])<|
 opt.ask _ (p.mhas a.1 [SK.i,SK.i] Bool.true (D.agg [(D.int .i64 a.2.2.1),(D.int .i64 a.2.2.2.1)])) (
 opt.ret _ ((p.mdel a.1 (p.nat (p.ofNat (p.mpos a.1 [SK.i,SK.i] Bool.true (D.agg [(D.int .i64 a.2.2.1),(D.int .i64 a.2.2.2.1)]))))),((p.madd a.2.1 (D.agg [(D.int .i64 a.2.2.1),(D.int .i64 a.2.2.2.1)]) k1k),()))) (
 opt.ret _ (a.1,((p.madd a.2.1 (D.agg [(D.int .i64 a.2.2.1),(D.int .i64 a.2.2.2.1)]) k1k),()))))) (
 opt.need _ (p.mOk a.1 [SK.i,SK.i] Bool.true (D.agg [(D.int .i64 a.2.2.1),(D.int .i64 a.2.2.2.1)]) Bool.false [ci])<|
 opt.ask _ (p.mhas a.1 [SK.i,SK.i] Bool.true (D.agg [(D.int .i64 a.2.2.1),(D.int .i64 a.2.2.2.1)])) (
 opt.ret _ ((p.mset a.1 (p.nat (p.ofNat (p.mpos a.1 [SK.i,SK.i] Bool.true (D.agg [(D.int .i64 a.2.2.1),(D.int .i64 a.2.2.2.1)])))) (D.agg [(D.int .i64 a.2.2.1),(D.int .i64 a.2.2.2.1)]) (D.int .i64 a.2.2.2.2.1)),(a.2.1,()))) (
 opt.ret _ ((p.madd a.1 (D.agg [(D.int .i64 a.2.2.1),(D.int .i64 a.2.2.2.1)]) (D.int .i64 a.2.2.2.2.1)),(a.2.1,())))))) fun b=>
 opt.ret _ (b.1,(b.2.1,()))))) fun c=>
 opt.ret _ (c.1,(c.2.1,()))) (
 opt.bnd T6 _ (
 opt.run T6 (
 opt.ask _ (p.cmp .gtr (0:Int) (0:Int)) (
 opt.ret _ (a.1,(a.2.1,()))) (
 opt.bnd T6 _ (
 opt.run T6 (
 opt.ask _ (p.cmp .neq (p.mI a.1 [SK.i,SK.i] Bool.true (D.agg [(D.int .i64 a.2.2.1),(D.int .i64 a.2.2.2.1)]) 0) a.2.2.2.2.1) (
 opt.need _ (p.mOk a.2.1 [SK.i,SK.i] Bool.true (D.agg [(D.int .i64 a.2.2.1),(D.int .i64 a.2.2.2.1)]) Bool.false [ci])<|
 opt.ask _ (p.mhas a.2.1 [SK.i,SK.i] Bool.true (D.agg [(D.int .i64 a.2.2.1),(D.int .i64 a.2.2.2.1)])) (
 opt.need _ (p.mOk a.1 [SK.i,SK.i] Bool.true (D.agg [(D.int .i64 a.2.2.1),(D.int .i64 a.2.2.2.1)]) Bool.false [ci])<|
 opt.ask _ (p.mhas a.1 [SK.i,SK.i] Bool.true (D.agg [(D.int .i64 a.2.2.1),(D.int .i64 a.2.2.2.1)])) (
 opt.ret _ ((p.mdel a.1 (p.nat (p.ofNat (p.mpos a.1 [SK.i,SK.i] Bool.true (D.agg [(D.int .i64 a.2.2.1),(D.int .i64 a.2.2.2.1)]))))),((p.mset a.2.1 (p.nat (p.ofNat (p.mpos a.2.1 [SK.i,SK.i] Bool.true (D.agg [(D.int .i64 a.2.2.1),(D.int .i64 a.2.2.2.1)])))) (D.agg [(D.int .i64 a.2.2.1),(D.int .i64 a.2.2.2.1)]) k1k),()))) (
 opt.ret _ (a.1,((p.mset a.2.1 (p.nat (p.ofNat (p.mpos a.2.1 [SK.i,SK.i] Bool.true (D.agg [(D.int .i64 a.2.2.1),(D.int .i64 a.2.2.2.1)])))) (D.agg [(D.int .i64 a.2.2.1),(D.int .i64 a.2.2.2.1)]) k1k),())))) (
 opt.need _ (p.mOk a.1 [SK.i,SK.i] Bool.true (D.agg [(D.int .i64 a.2.2.1),(D.int .i64 a.2.2.2.1)]) Bool.false [ci])<|
 opt.ask _ (p.mhas a.1 [SK.i,SK.i] Bool.true (D.agg [(D.int .i64 a.2.2.1),(D.int .i64 a.2.2.2.1)])) (
 opt.ret _ ((p.mdel a.1 (p.nat (p.ofNat (p.mpos a.1 [SK.i,SK.i] Bool.true (D.agg [(D.int .i64 a.2.2.1),(D.int .i64 a.2.2.2.1)]))))),((p.madd a.2.1 (D.agg [(D.int .i64 a.2.2.1),(D.int .i64 a.2.2.2.1)]) k1k),()))) (
 opt.ret _ (a.1,((p.madd a.2.1 (D.agg [(D.int .i64 a.2.2.1),(D.int .i64 a.2.2.2.1)]) k1k),()))))) (
 opt.need _ (p.mOk a.1 [SK.i,SK.i] Bool.true (D.agg [(D.int .i64 a.2.2.1),(D.int .i64 a.2.2.2.1)]) Bool.false [ci])<|
 opt.ask _ (p.mhas a.1 [SK.i,SK.i] Bool.true (D.agg [(D.int .i64 a.2.2.1),(D.int .i64 a.2.2.2.1)])) (
 opt.ret _ ((p.mset a.1 (p.nat (p.ofNat (p.mpos a.1 [SK.i,SK.i] Bool.true (D.agg [(D.int .i64 a.2.2.1),(D.int .i64 a.2.2.2.1)])))) (D.agg [(D.int .i64 a.2.2.1),(D.int .i64 a.2.2.2.1)]) (D.int .i64 a.2.2.2.2.1)),(a.2.1,()))) (
 opt.ret _ ((p.madd a.1 (D.agg [(D.int .i64 a.2.2.1),(D.int .i64 a.2.2.2.1)]) (D.int .i64 a.2.2.2.2.1)),(a.2.1,())))))) fun d=>
 opt.ret _ (d.1,(d.2.1,()))))) fun e=>
 opt.ret _ (e.1,(e.2.1,()))))) fun f=>
 opt.ret _ (f.1,(f.2.1,()))) (
 opt.bnd T6 _ (
 opt.run T6 (
 opt.need _ (p.mOk a.2.1 [SK.i,SK.i] Bool.true (D.agg [(D.int .i64 a.2.2.1),(D.int .i64 a.2.2.2.1)]) Bool.false [ci])<|
 opt.ask _ (p.mhas a.2.1 [SK.i,SK.i] Bool.true (D.agg [(D.int .i64 a.2.2.1),(D.int .i64 a.2.2.2.1)])) (
 opt.bnd T6 _ (
 opt.run T6 (
 opt.ask _ (p.cmp .gtr (p.mI a.2.1 [SK.i,SK.i] Bool.true (D.agg [(D.int .i64 a.2.2.1),(D.int .i64 a.2.2.2.1)]) 0) (0:Int)) (
 opt.ret _ (a.1,(a.2.1,()))) (
 opt.bnd T6 _ (
 opt.run T6 (
 opt.need _ (p.mOk a.1 [SK.i,SK.i] Bool.true (D.agg [(D.int .i64 a.2.2.1),(D.int .i64 a.2.2.2.1)]) Bool.false [ci])<|
 opt.ask _ (p.mhas a.1 [SK.i,SK.i] Bool.true (D.agg [(D.int .i64 a.2.2.1),(D.int .i64 a.2.2.2.1)])) (
 opt.ret _ ((p.mset a.1 (p.nat (p.ofNat (p.mpos a.1 [SK.i,SK.i] Bool.true (D.agg [(D.int .i64 a.2.2.1),(D.int .i64 a.2.2.2.1)])))) (D.agg [(D.int .i64 a.2.2.1),(D.int .i64 a.2.2.2.1)]) (D.int .i64 a.2.2.2.2.1)),(a.2.1,()))) (
 opt.ret _ ((p.madd a.1 (D.agg [(D.int .i64 a.2.2.1),(D.int .i64 a.2.2.2.1)]) (D.int .i64 a.2.2.2.2.1)),(a.2.1,()))))) fun g=>
 opt.ret _ (g.1,(g.2.1,()))))) fun h=>
 opt.ret _ (h.1,(h.2.1,()))) (
 opt.bnd T6 _ (
 opt.run T6 (
 opt.ask _ (p.cmp .gtr (0:Int) (0:Int)) (
 opt.ret _ (a.1,(a.2.1,()))) (
 opt.bnd T6 _ (
 opt.run T6 (
 opt.need _ (p.mOk a.1 [SK.i,SK.i] Bool.true (D.agg [(D.int .i64 a.2.2.1),(D.int .i64 a.2.2.2.1)]) Bool.false [ci])<|
 opt.ask _ (p.mhas a.1 [SK.i,SK.i] Bool.true (D.agg [(D.int .i64 a.2.2.1),(D.int .i64 a.2.2.2.1)])) (
 opt.ret _ ((p.mset a.1 (p.nat (p.ofNat (p.mpos a.1 [SK.i,SK.i] Bool.true (D.agg [(D.int .i64 a.2.2.1),(D.int .i64 a.2.2.2.1)])))) (D.agg [(D.int .i64 a.2.2.1),(D.int .i64 a.2.2.2.1)]) (D.int .i64 a.2.2.2.2.1)),(a.2.1,()))) (
 opt.ret _ ((p.madd a.1 (D.agg [(D.int .i64 a.2.2.1),(D.int .i64 a.2.2.2.1)]) (D.int .i64 a.2.2.2.2.1)),(a.2.1,()))))) fun i=>
 opt.ret _ (i.1,(i.2.1,()))))) fun j=>
 opt.ret _ (j.1,(j.2.1,()))))) fun k=>
 opt.ret _ (k.1,(k.2.1,())))
theorem w2g:z13 Go.Proofs.Try.prog 76:=enters_auto (b:=_) rfl (by kernel_rfl)
theorem ok76:CtrOk PG v8d (G76 std):=okF (a:=an76) (l:=la76) (gN) (by kernel_rfl) fun _ _=>by kernel_rfl
end Go.Am
end
section
namespace Go.Am
def EJ:x93 (Int×Int) Int:=⟨fun k=> .agg [.int .i64 k.1, .int .i64 k.2],fun v=> .int .i64 v,[.i, .i],true,false,[.int .i64]⟩
theorem y1j:EJ.Ok where
 agg:=fun _=>rfl
 kinds:=fun _=>rfl
 eq:=fun a b=>by
  show some (decide (a.1=b.1)&&(decide (a.2=b.2)&&true))=_
  rw [Bool.and_true, ←Bool.decide_and,Option.some.injEq,decide_eq_decide,Prod.ext_iff]
 vagg:=fun _=>rfl
 vok:=fun _=>rfl
abbrev JM:=List ((Int×Int)×Int)
def prJ (a b:Int):Int×Int:=if a>b then (b,a) else (a,b)
def wdJ (a b:Int):Int:=if a>b then -1 else 1
def y0h (s:JM×JM) (a b:Int):JM×JM:=
 if (z3g s.2 (prJ a b)).getD 0>0 then s
 else match z3g s.1 (prJ a b) with
  |some w=>if w≠wdJ a b then (x55 s.1 (prJ a b),x04 s.2 (prJ a b) 1) else (x04 s.1 (prJ a b) (wdJ a b),s.2)
  |none=>(x04 s.1 (prJ a b) (wdJ a b),s.2)
theorem v3h (s:JM×JM) (a b:Int):G76 std (EJ.enc s.1,(EJ.enc s.2,(a,(b,()))))=some (EJ.enc (y0h s a b).1,(EJ.enc (y0h s a b).2,())):=by
 obtain ⟨sd,sl⟩:=s
 have step:∀ (p:Int×Int) (w:Int) (hp:prJ a b=p) (hw:wdJ a b=w) (hab:(a>b∧p=(b,a)∧w= -1)∨(¬ a>b∧p=(a,b)∧w=1)),
   G76 std (EJ.enc sd,(EJ.enc sl,(a,(b,()))))=some (EJ.enc (y0h (sd,sl) a b).1,(EJ.enc (y0h (sd,sl) a b).2,())):=by
  intro p w hp hw hab
  have k1:=x70 y1j sd p
  have k2:=x70 y1j sl p
  have m1:=x3k y1j sd p
  have m2:=x3k y1j sl p
  have hsd:∀ v,z3g sd p=some v→std.mI (EJ.enc sd) EJ.ks EJ.ka (EJ.ke p) 0=v:=fun v hv=>w31 y1j sd p 0 hv
  have hsl:∀ v,z3g sl p=some v→std.mI (EJ.enc sl) EJ.ks EJ.ka (EJ.ke p) 0=v:=fun v hv=>w31 y1j sl p 0 hv
  have pd1:∀ v,z3g sd p=some v→∀ x:Int,std.mset (EJ.enc sd) (std.nat (std.ofNat (std.mpos (EJ.enc sd) EJ.ks EJ.ka (EJ.ke p)))) (EJ.ke p) (EJ.ve x)=EJ.enc (x04 sd p x):=fun v hv x=>x3g y1j sd p hv x
  have pl1:∀ v,z3g sl p=some v→∀ x:Int,std.mset (EJ.enc sl) (std.nat (std.ofNat (std.mpos (EJ.enc sl) EJ.ks EJ.ka (EJ.ke p)))) (EJ.ke p) (EJ.ve x)=EJ.enc (x04 sl p x):=fun v hv x=>x3g y1j sl p hv x
  have pd0:z3g sd p=none→∀ x:Int,std.madd (EJ.enc sd) (EJ.ke p) (EJ.ve x)=EJ.enc (x04 sd p x):=fun hv x=>x3m y1j sd p hv x
  have pl0:z3g sl p=none→∀ x:Int,std.madd (EJ.enc sl) (EJ.ke p) (EJ.ve x)=EJ.enc (x04 sl p x):=fun hv x=>x3m y1j sl p hv x
  have dd:∀ v,z3g sd p=some v→std.mdel (EJ.enc sd) (std.nat (std.ofNat (std.mpos (EJ.enc sd) EJ.ks EJ.ka (EJ.ke p))))=EJ.enc (x55 sd p):=fun v hv=>w1j y1j sd p hv
  have eke:EJ.ke p= .agg [.int .i64 p.1, .int .i64 p.2]:=rfl
  have eks:EJ.ks=[.i, .i]:=rfl
  have eka:EJ.ka=true:=rfl
  have eva:EJ.va=false:=rfl
  have eck:EJ.ck=[.int .i64]:=rfl
  have eve:∀ x:Int,EJ.ve x= .int .i64 x:=fun _=>rfl
  simp only [eke,eks,eka,eva,eck,eve] at k1 k2 m1 m2 hsd hsl pd1 pl1 pd0 pl0 dd
  have z0:¬ (0:Int)>0:=by decide
  have en:∀ n:Nat,std.nat (std.ofNat n)=n:=fun _=>rfl
  simp only [en] at pd1 pl1 dd
  unfold y0h G76
  simp only [hp,hw]
  generalize hSD:EJ.enc sd=SD at*
  generalize hSL:EJ.enc sl=SL at*
  cases h1:z3g sd p with
  |none=>
   rw [h1] at m1
   have q1:=pd0 h1
   cases h2:z3g sl p with
   |none=>
    rw [h2] at m2
    have q2:=pl0 h2
    rcases hab with ⟨hc,rfl,rfl⟩|⟨hc,rfl,rfl⟩<;>
     simp only [z2c,z2d,eq_self,not_true,not_false_eq_true,decide_true,decide_false,Bool.not_true,Bool.not_false,Int.reduceLT,Int.reduceLE,Int.reduceNeg,Int.reduceGT,cond_true,cond_false,Int.reduceEq,hSD,hSL,hc,k1,k2,m1,m2,q1,q2,z0,Option.isSome_none,Option.getD_none,Int.negSucc_eq,Int.reduceAdd,Int.ofNat_eq_natCast,Int.natCast_one,Int.natCast_zero]
   |some v=>
    rw [h2] at m2
    have q2:=pl1 v h2
    have g2:=hsl v h2
    by_cases hv:v>0
    ·rcases hab with ⟨hc,rfl,rfl⟩|⟨hc,rfl,rfl⟩<;>
      simp only [z2c,z2d,eq_self,not_true,not_false_eq_true,decide_true,decide_false,Bool.not_true,Bool.not_false,Int.reduceLT,Int.reduceLE,Int.reduceNeg,Int.reduceGT,cond_true,cond_false,Int.reduceEq,hSD,hSL,hc,k1,k2,m1,m2,q1,q2,g2,hv,z0,Option.isSome_none,Option.isSome_some,Option.getD_some]
    ·rcases hab with ⟨hc,rfl,rfl⟩|⟨hc,rfl,rfl⟩<;>
      simp only [z2c,z2d,eq_self,not_true,not_false_eq_true,decide_true,decide_false,Bool.not_true,Bool.not_false,Int.reduceLT,Int.reduceLE,Int.reduceNeg,Int.reduceGT,cond_true,cond_false,Int.reduceEq,hSD,hSL,hc,k1,k2,m1,m2,q1,q2,g2,hv,z0,Option.isSome_none,Option.isSome_some,Option.getD_some]
  |some u=>
   rw [h1] at m1
   have q1:=pd1 u h1
   have g1:=hsd u h1
   have d1:=dd u h1
   cases h2:z3g sl p with
   |none=>
    rw [h2] at m2
    have q2:=pl0 h2
    by_cases hu:u=w
    ·rcases hab with ⟨hc,rfl,rfl⟩|⟨hc,rfl,rfl⟩<;>
      simp only [z2c,z2d,eq_self,not_true,not_false_eq_true,decide_true,decide_false,Bool.not_true,Bool.not_false,Int.reduceLT,Int.reduceLE,Int.reduceNeg,Int.reduceGT,cond_true,cond_false,Int.reduceEq,hSD,hSL,hc,k1,k2,m1,m2,q1,q2,g1,d1,hu,z0,Option.isSome_none,Option.isSome_some,Option.getD_none,ne_eq]
    ·rcases hab with ⟨hc,rfl,rfl⟩|⟨hc,rfl,rfl⟩<;>
      simp only [z2c,z2d,eq_self,not_true,not_false_eq_true,decide_true,decide_false,Bool.not_true,Bool.not_false,Int.reduceLT,Int.reduceLE,Int.reduceNeg,Int.reduceGT,cond_true,cond_false,Int.reduceEq,hSD,hSL,hc,k1,k2,m1,m2,q1,q2,g1,d1,hu,z0,Option.isSome_none,Option.isSome_some,Option.getD_none,ne_eq]
   |some v=>
    rw [h2] at m2
    have q2:=pl1 v h2
    have g2:=hsl v h2
    by_cases hv:v>0
    ·rcases hab with ⟨hc,rfl,rfl⟩|⟨hc,rfl,rfl⟩<;>
      simp only [z2c,z2d,eq_self,not_true,not_false_eq_true,decide_true,decide_false,Bool.not_true,Bool.not_false,Int.reduceLT,Int.reduceLE,Int.reduceNeg,Int.reduceGT,cond_true,cond_false,Int.reduceEq,hSD,hSL,hc,k1,k2,m1,m2,q1,q2,g1,g2,hv,z0,Option.isSome_none,Option.isSome_some,Option.getD_some]
    ·by_cases hu:u=w
     ·rcases hab with ⟨hc,rfl,rfl⟩|⟨hc,rfl,rfl⟩<;>
       simp only [z2c,z2d,eq_self,not_true,not_false_eq_true,decide_true,decide_false,Bool.not_true,Bool.not_false,Int.reduceLT,Int.reduceLE,Int.reduceNeg,Int.reduceGT,cond_true,cond_false,Int.reduceEq,hSD,hSL,hc,k1,k2,m1,m2,q1,q2,g1,g2,d1,hu,hv,z0,Option.isSome_none,Option.isSome_some,Option.getD_some,ne_eq]
     ·rcases hab with ⟨hc,rfl,rfl⟩|⟨hc,rfl,rfl⟩<;>
       simp only [z2c,z2d,eq_self,not_true,not_false_eq_true,decide_true,decide_false,Bool.not_true,Bool.not_false,Int.reduceLT,Int.reduceLE,Int.reduceNeg,Int.reduceGT,cond_true,cond_false,Int.reduceEq,hSD,hSL,hc,k1,k2,m1,m2,q1,q2,g1,g2,d1,hu,hv,z0,Option.isSome_none,Option.isSome_some,Option.getD_some,ne_eq]
 by_cases hc:a>b
 ·exact step (b,a) (-1) (by rw [prJ,if_pos hc]) (by rw [wdJ,if_pos hc]) (.inl ⟨hc,rfl,rfl⟩)
 ·exact step (a,b) 1 (by rw [prJ,if_neg hc]) (by rw [wdJ,if_neg hc]) (.inr ⟨hc,rfl,rfl⟩)
end Go.Am
end
