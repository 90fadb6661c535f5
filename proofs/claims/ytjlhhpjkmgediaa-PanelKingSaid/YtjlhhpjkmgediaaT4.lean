/- Texts of this claim. -/
import Derived.Test.YtjlhhpjkmgediaaT3
import Derived.Test.YtjlhhpjkmgediaaProg
import Derived.KernelRfl
import Derived.Shelf.Spec.SlicesInsertGrow
set_option linter.unusedVariables false
set_option linter.unusedSimpArgs false
set_option linter.unusedSectionVars false
set_option maxRecDepth 100000
set_option maxHeartbeats 0
noncomputable section
namespace Go.Am
def w7q:Ctr:=
 ⟨52,[.int .i64, .int .i64, .list 1],[],[(.ret,⟨[(0, .bool)],[],1⟩)]⟩
def la52:List LA:=
 [⟨91,[false,true,false,true],2,⟨⟨[(0, .list 1),(1, .clo 80 [] [.bptr 0 0, .bptr 1 0]),(7, .int .i64),(8, .int .i64)],[.box [.int .i64], .box [.int .i64]],19⟩,[(AX.ret,⟨[(4, .int .i64)],[.box [.int .i64], .box [.int .i64]],19⟩),((AX.exit 0),⟨[],[.box [.int .i64], .box [.int .i64]],19⟩)]⟩⟩]
def ja52:List JA:=
 [⟨80,[false,true],2,[(AX.normal,⟨[(4, .bool)],[.box [.int .i64], .box [.int .i64]],13⟩)]⟩]
def v2j:List CF:=
 []
def an52:Anns:=
 ⟨v2j,ja52,[]⟩
def v31 (p:Prim):T9→Option ((Int×(Int×(LD×(Int×(Int×Unit)))))⊕((Int×(Int×(Int×Unit)))⊕(Int×(Int×Unit)))):=
 fun a=>opt.run _ (
 opt.ask _ (p.cmp .lss a.2.2.2.2.1 a.2.2.2.1) (
 opt.need _ (p.rowOk a.2.2.1 (p.nat a.2.2.2.2.1) [ci])<|
 opt.need _ (p.cmp .geq a.2.2.2.2.1 (0:Int))<|
 opt.bnd T33 _ (
 opt.run T33 (
 opt.ask _ (p.cmp .lss (p.rdI a.2.2.1 (p.nat a.2.2.2.2.1) 0) a.1) (
 opt.ret _ (a.1,(a.2.1,(Bool.true,())))) (
 opt.ret _ (a.1,(a.2.1,((p.cmp .gtr (p.rdI a.2.2.1 (p.nat a.2.2.2.2.1) 0) a.2.1),())))))) fun b=>
 opt.ask _ b.2.2.1 (
 opt.ret _ (Sum.inr (Sum.inl (b.1,(b.2.1,(a.2.2.2.2.1,())))))) (
 opt.ret _ (Sum.inl (b.1,(b.2.1,(a.2.2.1,(a.2.2.2.1,((p.ar .add .i64 a.2.2.2.2.1 (1:Int)),())))))))) (
 opt.ret _ (Sum.inr (Sum.inr (a.1,(a.2.1,()))))))
def g52 (it:It):(p:Prim)→(Int×(Int×(LD×Unit)))→Option T0:=
 fun p x=>
 opt.alt ((Int×(Int×(Int×Unit)))) T8 _ (
 it _ _ (v31 p) (x.1,(x.2.1,(x.2.2.1,((p.ofNat (p.len x.2.2.1)),((0:Int),())))))) (fun a=>
 opt.ret _ ((bif (p.cmp .geq a.2.2.1 (0:Int)) then Bool.false else Bool.true),())) (fun b=>
 opt.bnd T8 _ (some b) fun c=>
 opt.ret _ ((bif (p.cmp .geq (-1:Int) (0:Int)) then Bool.false else Bool.true),()))
def G52:=g52 it0
theorem ok52:CtrOk PG w7q (G52 std):=okF (a:=an52) (l:=la52) (gN) (by kernel_rfl) fun _ _=>by kernel_rfl
def w0a:Ctr:=
 ⟨56,[.list 1, .int .i64],[],[(.ret,⟨[(0, .bool)],[],1⟩)]⟩
def la56:List LA:=
 [⟨56,[false,true,false,true,true],0,⟨⟨[(1, .int .i64),(5, .int .i64),(8, .list 1),(9, .int .i64),(10, .int .i64)],[],24⟩,[(AX.ret,⟨[(4, .bool)],[],24⟩),((AX.exit 0),⟨[],[],24⟩)]⟩⟩]
def ja56:List JA:=
 [⟨56,[false,false,true,false,false,true,true,false,false,true,false,true,true],0,[(AX.normal,⟨[(1, .int .i64),(7, .int .i64),(8, .list 1),(9, .int .i64),(10, .int .i64),(21, .bool)],[],24⟩)]⟩]
def v2h:List CF:=
 []
def an56:Anns:=
 ⟨v2h,ja56,[]⟩
def y87 (p:Prim):T9→Option ((Int×(Int×(LD×(Int×(Int×Unit)))))⊕((Bool×Unit)⊕Unit)):=
 fun a=>opt.run _ (
 opt.ask _ (p.cmp .lss a.2.2.2.2.1 a.2.2.2.1) (
 opt.need _ (p.rowOk a.2.2.1 (p.nat a.2.2.2.2.1) [ci])<|
 opt.need _ (p.cmp .geq a.2.2.2.2.1 (0:Int))<|
 opt.bnd T34 _ (
 opt.run T34 (
 opt.ask _ (p.cmp .leq (p.rdI a.2.2.1 (p.nat a.2.2.2.2.1) 0) a.2.1) (
 opt.ret _ (a.1,((p.rdI a.2.2.1 (p.nat a.2.2.2.2.1) 0),(a.2.2.1,(a.2.2.2.1,(a.2.2.2.2.1,(Bool.true,()))))))) (
 opt.ret _ (a.1,((p.rdI a.2.2.1 (p.nat a.2.2.2.2.1) 0),(a.2.2.1,(a.2.2.2.1,(a.2.2.2.2.1,((p.cmp .geq (p.rdI a.2.2.1 (p.nat a.2.2.2.2.1) 0) a.1),()))))))))) fun b=>
 opt.ask _ b.2.2.2.2.2.1 (
 opt.ret _ (Sum.inr (Sum.inl (Bool.false,())))) (
 opt.ret _ (Sum.inl (b.1,(b.2.1,(b.2.2.1,(b.2.2.2.1,((p.ar .add .i64 b.2.2.2.2.1 (1:Int)),())))))))) (
 opt.ret _ (Sum.inr (Sum.inr ()))))
def g56 (it:It):(p:Prim)→(LD×T1)→Option T0:=
 fun p x=>
 opt.alt T0 (Unit) _ (
 it _ _ (y87 p) (x.2.1,((-1:Int),(x.1,((p.ofNat (p.len x.1)),((0:Int),())))))) (fun a=>
 opt.ret _ (a.1,())) (fun b=>
 opt.bnd (Unit) _ (some b) fun c=>
 opt.ret _ (Bool.true,()))
def G56:=g56 it0
theorem v0j:CtrOk PG w0a (G56 std):=okF (a:=an56) (l:=la56) (gN) (by kernel_rfl) fun _ _=>by kernel_rfl
def w7l:Ctr:=
 ⟨70,[.list 1],[],[(.ret,⟨[(0, .int .i64)],[],1⟩)]⟩
def la70:List LA:=
 [⟨70,[false,true,false,true,true],0,⟨⟨[(3, .int .i64),(6, .list 1),(7, .int .i64),(8, .int .i64)],[],17⟩,[((AX.exit 0),⟨[(3, .int .i64)],[],17⟩)]⟩⟩]
def ja70:List JA:=
 []
def v2a:List CF:=
 []
def an70:Anns:=
 ⟨v2a,ja70,[]⟩
def x7u (p:Prim):T28→Option ((Int×(LD×(Int×(Int×Unit))))⊕(Int×Unit)):=
 fun a=>opt.run _ (
 opt.ask _ (p.cmp .lss a.2.2.2.1 a.2.2.1) (
 opt.need _ (p.rowOk a.2.1 (p.nat a.2.2.2.1) [ci])<|
 opt.need _ (p.cmp .geq a.2.2.2.1 (0:Int))<|
 opt.ret _ (Sum.inl ((p.ar .add .i64 a.1 (p.rdI a.2.1 (p.nat a.2.2.2.1) 0)),(a.2.1,(a.2.2.1,((p.ar .add .i64 a.2.2.2.1 (1:Int)),())))))) (
 opt.ret _ (Sum.inr (a.1,()))))
def g70 (it:It):(p:Prim)→(LD×Unit)→Option T2:=
 fun p x=>
 opt.bnd T2 _ (
 it _ _ (x7u p) ((0:Int),(x.1,((p.ofNat (p.len x.1)),((0:Int),()))))) fun a=>
 opt.ret _ (a.1,())
def G70:=g70 it0
theorem ok70:CtrOk PG w7l (G70 std):=okF (a:=an70) (l:=la70) (gN) (by kernel_rfl) fun _ _=>by kernel_rfl
def x99:Ctr:=
 ⟨61,[.list 1],[],[(.ret,⟨[(0, .int .i64)],[],1⟩)]⟩
def la61:List LA:=
 []
def ja61:List JA:=
 [⟨61,[false,false,false,true],0,[(AX.normal,⟨[(0, .list 1),(3, .bool)],[],16⟩)]⟩,
 ⟨61,[true,false,false,true],0,[(AX.ret,⟨[(2, .int .i64)],[],16⟩),(AX.normal,⟨[],[],16⟩)]⟩]
def v2g:List CF:=
 [⟨w7q,G52⟩]
def an61:Anns:=
 ⟨v2g,ja61,[]⟩
def g61 (it:It):(p:Prim)→(LD×Unit)→Option T2:=
 fun p x=>
 opt.bnd ((LD×T6)) _ (
 opt.run ((LD×T6)) (
 opt.ask _ (p.cmp .eql (p.ofNat (p.len x.1)) (0:Int)) (
 opt.ret _ (x.1,(Bool.true,()))) (
 opt.ret _ (x.1,((p.cmp .gtr (p.ofNat (p.len x.1)) (10:Int)),()))))) fun a=>
 opt.alt T2 (Unit) _ (
 opt.run (((Int×Unit)⊕Unit)) (
 opt.ask _ a.2.1 (
 opt.ret _ (Sum.inl ((6:Int),()))) (
 opt.bnd T0 _ (g52 it p ((0:Int),((9:Int),(a.1,())))) fun b=>
 opt.ask _ (bif b.1 then Bool.false else Bool.true) (
 opt.ret _ (Sum.inl ((3:Int),()))) (
 opt.ret _ (Sum.inr ()))))) (fun c=>
 opt.ret _ (c.1,())) (fun d=>
 opt.bnd (Unit) _ (some d) fun e=>
 opt.ret _ ((0:Int),()))
def G61:=g61 it0
theorem v0i:CtrOk PG x99 (G61 std):=okF (a:=an61) (l:=la61) (gC ok52 (gN)) (by kernel_rfl) fun _ _=>by kernel_rfl
def w1w:Ctr:=
 ⟨102,[.int .u64],[],[(.ret,⟨[(0, .int .i64)],[],1⟩)]⟩
def v1j:List LA:=
 []
def v1v:List JA:=
 [⟨102,[true,false,true,true,true],0,[(AX.normal,⟨[(0, .int .u64),(2, .int .i64)],[],25⟩)]⟩,
 ⟨102,[true,false,true],0,[(AX.normal,⟨[(0, .int .u64),(2, .int .i64)],[],25⟩)]⟩,
 ⟨102,[true,false,true,true],0,[(AX.normal,⟨[(0, .int .u64),(2, .int .i64)],[],25⟩)]⟩]
def w61:List CF:=
 []
def v4o:Anns:=
 ⟨w61,v1v,[]⟩
def v4q:(p:Prim)→T1→Option T2:=
 fun p x=>
 opt.bnd T8 _ (
 opt.run T8 (
 opt.ask _ (p.cmp .geq x.1 (4294967296:Int)) (
 opt.need _ (p.cmp .geq (32:Int) (0:Int))<|
 opt.ret _ ((p.ar .shr .u64 x.1 (32:Int)),((32:Int),()))) (
 opt.ret _ (x.1,((0:Int),()))))) fun a=>
 opt.bnd T8 _ (
 opt.run T8 (
 opt.ask _ (p.cmp .geq a.1 (65536:Int)) (
 opt.need _ (p.cmp .geq (16:Int) (0:Int))<|
 opt.ret _ ((p.ar .shr .u64 a.1 (16:Int)),((p.ar .add .i64 a.2.1 (16:Int)),()))) (
 opt.ret _ (a.1,(a.2.1,()))))) fun b=>
 opt.bnd T8 _ (
 opt.run T8 (
 opt.ask _ (p.cmp .geq b.1 (256:Int)) (
 opt.need _ (p.cmp .geq (8:Int) (0:Int))<|
 opt.ret _ ((p.ar .shr .u64 b.1 (8:Int)),((p.ar .add .i64 b.2.1 (8:Int)),()))) (
 opt.ret _ (b.1,(b.2.1,()))))) fun c=>
 opt.need _ (bif (p.cmp .geq (p.cvt .u8 c.1) (0:Int)) then (p.cmp .lss (p.cvt .u8 c.1) (p.ofNat 256)) else Bool.false)<|
 opt.ret _ ((p.ar .add .i64 c.2.1 (p.cvt .i64 (p.byte (ByteArray.mk #[0,1,2,2,3,3,3,3,4,4,4,4,4,4,4,4,5,5,5,5,5,5,5,5,5,5,5,5,5,5,5,5,6,6,6,6,6,6,6,6,6,6,6,6,6,6,6,6,6,6,6,6,6,6,6,6,6,6,6,6,6,6,6,6,7,7,7,7,7,7,7,7,7,7,7,7,7,7,7,7,7,7,7,7,7,7,7,7,7,7,7,7,7,7,7,7,7,7,7,7,7,7,7,7,7,7,7,7,7,7,7,7,7,7,7,7,7,7,7,7,7,7,7,7,7,7,7,7,8,8,8,8,8,8,8,8,8,8,8,8,8,8,8,8,8,8,8,8,8,8,8,8,8,8,8,8,8,8,8,8,8,8,8,8,8,8,8,8,8,8,8,8,8,8,8,8,8,8,8,8,8,8,8,8,8,8,8,8,8,8,8,8,8,8,8,8,8,8,8,8,8,8,8,8,8,8,8,8,8,8,8,8,8,8,8,8,8,8,8,8,8,8,8,8,8,8,8,8,8,8,8,8,8,8,8,8,8,8,8,8,8,8,8,8,8,8,8,8,8,8,8,8,8,8,8,8]) (p.cvt .u8 c.1)))),())
theorem v0q:CtrOk PG w1w (v4q std):=okF (a:=v4o) (l:=v1j) (gN) (by kernel_rfl) fun _ _=>by kernel_rfl
def w4h:Ctr:=
 ⟨83,[.int .u64],[],[(.ret,⟨[(0, .int .i64)],[],1⟩)]⟩
def la83:List LA:=
 []
def ja83:List JA:=
 []
def v16:List CF:=
 [⟨w1w,v4q⟩]
def an83:Anns:=
 ⟨v16,ja83,[]⟩
def G83:(p:Prim)→T1→Option T2:=
 fun p x=>
 opt.bnd T2 _ (v4q p (x.1,())) fun a=>
 opt.ret _ (a.1,())
theorem v4v:CtrOk PG w4h (G83 std):=okF (a:=an83) (l:=la83) (gC v0q (gN)) (by kernel_rfl) fun _ _=>by kernel_rfl
def w4g:Ctr:=
 ⟨98,[.int .i64, .int .i64],[],[(.ret,⟨[(0, .bool)],[],1⟩)]⟩
def la98:List LA:=
 []
def ja98:List JA:=
 [⟨98,[false,true],0,[(AX.normal,⟨[(4, .bool)],[],17⟩)]⟩]
def v14:List CF:=
 []
def an98:Anns:=
 ⟨v14,ja98,[]⟩
def G98:(p:Prim)→T3→Option T0:=
 fun p x=>
 opt.bnd T0 _ (
 opt.run T0 (
 opt.ask _ (p.cmp .neq x.1 x.1) (
 opt.ask _ (bif (p.cmp .neq x.2.1 x.2.1) then Bool.false else Bool.true) (
 opt.ret _ (Bool.true,())) (
 opt.ret _ ((p.cmp .lss x.1 x.2.1),()))) (
 opt.ret _ ((p.cmp .lss x.1 x.2.1),())))) fun a=>
 opt.ret _ (a.1,())
theorem v4u:CtrOk PG w4g (G98 std):=okF (a:=an98) (l:=la98) (gN) (by kernel_rfl) fun _ _=>by kernel_rfl
def w7n:Ctr:=
 ⟨65,[.list 1],[],[(.ret,⟨[(0, .sl 0 1)],[.row [ci]],1⟩)]⟩
def la65:List LA:=
 []
def ja65:List JA:=
 []
def v2c:List CF:=
 []
def an65:Anns:=
 ⟨v2c,ja65,[]⟩
def G65:(p:Prim)→(LD×Unit)→Option ((LD×T5)):=
 fun p x=>
 opt.need _ (p.leN 1 (p.len x.1))<|
 opt.ask _ (p.leN (p.add 0 (p.len x.1)) 0) (
 opt.need _ (p.and Bool.true (p.and (p.leN (p.add 0 0) (p.len [])) (p.and (p.leN 1 (p.len x.1)) (p.leN (p.add 0 0) (p.len [])))))<|
 opt.need _ (p.leN (p.add 0 0) (p.len (p.splice [] (p.add 0 0) x.1)))<|
 opt.ret _ ((p.splice [] (p.add 0 0) x.1),(0,((p.add 0 (p.len x.1)),())))) (
 opt.need _ (p.and Bool.true (p.and (p.leN (p.add 0 0) (p.len [])) (p.and (p.leN 1 (p.len x.1)) (p.leN (p.add 0 (p.len x.1)) 1000000))))<|
 opt.ret _ ((p.app (p.cut [] 0 0) x.1),(0,((p.add 0 (p.len x.1)),()))))
theorem ok65:CtrOk PG w7n (G65 std):=okF (a:=an65) (l:=la65) (gN) (by kernel_rfl) fun _ _=>by kernel_rfl
def w0b:Ctr:=
 ⟨54,[.list 1],[],[(.ret,⟨[(0, .tuple [.nilp, .int .i64])],[],1⟩),(.ret,⟨[(0, .tuple [.bptr 0 0, .int .i64])],[.row [ci]],1⟩)]⟩
def la54:List LA:=
 [⟨54,[false,true,false,true,true,true,true],0,⟨⟨[(2, .bptr 0 0),(3, .bptr 1 0),(4, .int .i64),(5, .bptr 2 0),(23, .list 1),(24, .int .i64),(25, .int .i64)],[.box [.nilp], .box [.int .i64], .box [.bptr 3 0], .row [ci]],75⟩,[(AX.ret,⟨[(2, .bptr 0 0),(3, .bptr 1 0)],[.box [.nilp], .box [.int .i64]],75⟩),((AX.exit 0),⟨[(2, .bptr 0 0),(3, .bptr 1 0),(4, .int .i64),(5, .bptr 2 0)],[.box [.nilp], .box [.int .i64], .box [.bptr 3 0], .row [ci]],75⟩)]⟩⟩,
 ⟨54,[false,true,true,true,false,false,true,true,false,false,true,false,true,true,true,true],0,⟨⟨[(2, .bptr 0 0),(3, .bptr 1 0),(4, .int .i64),(5, .bptr 2 0),(6, .int .i64),(23, .list 1),(24, .int .i64),(25, .int .i64),(34, .list 1),(35, .int .i64),(36, .int .i64)],[.box [.nilp], .box [.int .i64], .box [.bptr 3 0], .row [ci]],75⟩,[((AX.exit 2),⟨[(2, .bptr 0 0),(3, .bptr 1 0),(4, .int .i64),(5, .bptr 2 0),(23, .list 1),(24, .int .i64),(25, .int .i64)],[.box [.nilp], .box [.int .i64], .box [.bptr 3 0], .row [ci]],75⟩)]⟩⟩,
 ⟨54,[false,true,false,true,true,true,true,true],0,⟨⟨[(2, .bptr 0 0),(3, .bptr 1 0),(5, .bptr 2 0),(49, .int .i64),(50, .int .i64)],[.box [.nilp], .box [.int .i64], .box [.bptr 3 0], .row [ci]],75⟩,[(AX.ret,⟨[(2, .bptr 0 0),(3, .bptr 1 0)],[.box [.nilp], .box [.int .i64]],75⟩),((AX.exit 4),⟨[(2, .bptr 0 0),(3, .bptr 1 0),(5, .bptr 2 0)],[.box [.nilp], .box [.int .i64], .box [.bptr 3 0], .row [ci]],75⟩)]⟩⟩,
 ⟨78,[false,true],6,⟨⟨[(0, .yld 5),(8, .int .i64),(9, .int .i64)],[.box [.nilp], .box [.int .i64], .box [.bptr 3 0], .row [ci], .box [.bptr 3 0], .loop Go.LoopState.ready Option.none 54 [Bool.false,Bool.true,Bool.false,Bool.true,Bool.true,Bool.true,Bool.true,Bool.true,Bool.true] 75 [(59, .clo 78 [] [.bptr 4 0]),(2, .bptr 0 0),(3, .bptr 1 0),(5, .bptr 2 0)]],24⟩,[(AX.ret,⟨[],[.box [.nilp], .box [.int .i64], .box [.bptr 3 0], .row [ci], .box [.bptr 3 0], .loop Go.LoopState.done (Option.some Go.Code.ret) 54 [Bool.false,Bool.true,Bool.false,Bool.true,Bool.true,Bool.true,Bool.true,Bool.true,Bool.true] 75 [(59, .clo 78 [] [.bptr 4 0]),(2, .bptr 0 0),(3, .bptr 1 0),(5, .bptr 2 0)]],24⟩),((AX.exit 0),⟨[],[.box [.nilp], .box [.int .i64], .box [.bptr 3 0], .row [ci], .box [.bptr 3 0], .loop Go.LoopState.ready Option.none 54 [Bool.false,Bool.true,Bool.false,Bool.true,Bool.true,Bool.true,Bool.true,Bool.true,Bool.true] 75 [(59, .clo 78 [] [.bptr 4 0]),(2, .bptr 0 0),(3, .bptr 1 0),(5, .bptr 2 0)]],24⟩)]⟩⟩,
 ⟨78,[false,true,true,false,false,true,true,false,false,true],6,⟨⟨[(0, .yld 5),(3, .int .i64),(8, .int .i64),(9, .int .i64),(12, .int .i64),(13, .int .i64)],[.box [.nilp], .box [.int .i64], .box [.bptr 3 0], .row [ci], .box [.bptr 3 0], .loop Go.LoopState.ready Option.none 54 [Bool.false,Bool.true,Bool.false,Bool.true,Bool.true,Bool.true,Bool.true,Bool.true,Bool.true] 75 [(59, .clo 78 [] [.bptr 4 0]),(2, .bptr 0 0),(3, .bptr 1 0),(5, .bptr 2 0)]],24⟩,[(AX.ret,⟨[],[.box [.nilp], .box [.int .i64], .box [.bptr 3 0], .row [ci], .box [.bptr 3 0], .loop Go.LoopState.done (Option.some Go.Code.ret) 54 [Bool.false,Bool.true,Bool.false,Bool.true,Bool.true,Bool.true,Bool.true,Bool.true,Bool.true] 75 [(59, .clo 78 [] [.bptr 4 0]),(2, .bptr 0 0),(3, .bptr 1 0),(5, .bptr 2 0)]],24⟩),((AX.exit 2),⟨[(0, .yld 5),(8, .int .i64),(9, .int .i64)],[.box [.nilp], .box [.int .i64], .box [.bptr 3 0], .row [ci], .box [.bptr 3 0], .loop Go.LoopState.ready Option.none 54 [Bool.false,Bool.true,Bool.false,Bool.true,Bool.true,Bool.true,Bool.true,Bool.true,Bool.true] 75 [(59, .clo 78 [] [.bptr 4 0]),(2, .bptr 0 0),(3, .bptr 1 0),(5, .bptr 2 0)]],24⟩)]⟩⟩]
def ja54:List JA:=
 [⟨54,[false,false,true,true],0,[(AX.normal,⟨[(0, .list 1),(2, .bptr 0 0),(3, .bptr 1 0),(4, .int .i64),(19, .bool)],[.box [.nilp], .box [.int .i64]],75⟩)]⟩]
def v2i:List CF:=
 [⟨w0a,G56⟩]
def an54:Anns:=
 ⟨v2i,ja54,[]⟩
def x38 (p:Prim):(LD×T35)→Option ((LD×T35)⊕((LD×T1)⊕(LD×T4))):=
 fun a=>opt.run _ (
 opt.ask _ (p.cmp .lss a.2.2.2.2.2.2.1 a.2.2.2.2.2.1) (
 opt.need _ (p.and Bool.true (p.and Bool.true (p.and Bool.true Bool.true)))<|
 opt.need _ (bif (p.cmp .geq a.2.2.2.2.2.2.1 (0:Int)) then (p.cmp .lss a.2.2.2.2.2.2.1 (p.ofNat 10)) else Bool.false)<|
 opt.need _ (bif (p.cmp .geq a.2.2.1 (0:Int)) then (p.cmp .lss a.2.2.1 (p.ofNat 10)) else Bool.false)<|
 opt.need _ (p.rowOk a.1 (p.add (p.add 1 (p.mul (p.nat a.2.2.2.2.2.2.1) 10)) (p.nat a.2.2.1)) [ci])<|
 opt.need _ (bif (p.cmp .geq a.2.2.1 (0:Int)) then (p.cmp .lss a.2.2.1 (p.ofNat 10)) else Bool.false)<|
 opt.need _ (bif (p.cmp .geq a.2.2.2.2.2.2.1 (0:Int)) then (p.cmp .lss a.2.2.2.2.2.2.1 (p.ofNat 10)) else Bool.false)<|
 opt.need _ (p.rowOk a.1 (p.add (p.add 1 (p.mul (p.nat a.2.2.1) 10)) (p.nat a.2.2.2.2.2.2.1)) [ci])<|
 opt.ask _ (bif (p.bEq (p.cmp .eql (p.rdI a.1 (p.add (p.add 1 (p.mul (p.nat a.2.2.2.2.2.2.1) 10)) (p.nat a.2.2.1)) 0) (1:Int)) (p.cmp .eql (p.rdI a.1 (p.add (p.add 1 (p.mul (p.nat a.2.2.1) 10)) (p.nat a.2.2.2.2.2.2.1)) 0) (1:Int))) then Bool.true else Bool.false) (
 opt.ret _ (Sum.inr (Sum.inl (a.1,((16:Int),()))))) (
 opt.ret _ (Sum.inl (a.1,(a.2.1,(a.2.2.1,(a.2.2.2.1,(a.2.2.2.2.1,(a.2.2.2.2.2.1,((p.ar .add .i64 a.2.2.2.2.2.2.1 (1:Int)),())))))))))) (
 opt.ret _ (Sum.inr (Sum.inr (a.1,(a.2.1,(a.2.2.2.1,(a.2.2.2.2.1,()))))))))
def y6w (it:It) (p:Prim):(LD×T4)→Option ((LD×T4)⊕((LD×T1)⊕(LD×T1))):=
 fun a=>opt.run _ (
 opt.ask _ (p.cmp .lss a.2.2.2.1 a.2.2.1) (
 opt.alt ((LD×T1)) ((LD×T4)) _ (
 it _ _ (x38 p) (a.1,(a.2.1,(a.2.2.2.1,(a.2.2.1,(a.2.2.2.1,(a.2.2.2.1,((0:Int),())))))))) (fun b=>
 opt.ret _ (Sum.inr (Sum.inl (b.1,(b.2.1,()))))) (fun c=>
 opt.bnd ((LD×T4)) _ (some c) fun d=>
 opt.ret _ (Sum.inl (d.1,(d.2.1,(d.2.2.1,((p.ar .add .i64 d.2.2.2.1 (1:Int)),()))))))) (
 opt.ret _ (Sum.inr (Sum.inr (a.1,(a.2.1,()))))))
def x39 (p:Prim):(LD×T4)→Option ((LD×T4)⊕T32):=
 fun a=>opt.run _ (
 opt.ask _ (p.cmp .lss a.2.2.2.1 a.2.2.1) (
 opt.need _ (bif (p.cmp .geq a.2.2.2.1 (0:Int)) then (p.cmp .lss a.2.2.2.1 (p.ofNat 10)) else Bool.false)<|
 opt.need _ (bif (p.cmp .geq a.2.2.2.1 (0:Int)) then (p.cmp .lss a.2.2.2.1 (p.ofNat 10)) else Bool.false)<|
 opt.need _ (p.rowOk a.1 (p.add (p.add 1 (p.mul (p.nat a.2.2.2.1) 10)) (p.nat a.2.2.2.1)) [ci])<|
 opt.ask _ (p.cmp .eql (p.rdI a.1 (p.add (p.add 1 (p.mul (p.nat a.2.2.2.1) 10)) (p.nat a.2.2.2.1)) 0) (1:Int)) (
 opt.ret _ (Sum.inr (Sum.inl ((16:Int),())))) (
 opt.ret _ (Sum.inl (a.1,(a.2.1,(a.2.2.1,((p.ar .add .i64 a.2.2.2.1 (1:Int)),()))))))) (
 opt.ret _ (Sum.inr (Sum.inr (a.1,(a.2.1,()))))))
def x4a (p:Prim):(LD×T36)→Option ((LD×T36)⊕(LD×T9)):=
 fun a=>opt.run _ (
 opt.ask _ (p.cmp .lss a.2.2.2.2.2.2.2.2.2.1 a.2.2.2.2.2.2.2.2.1) (
 opt.need _ (p.rowOk a.2.2.2.2.2.2.2.1 (p.nat a.2.2.2.2.2.2.2.2.2.1) [ci])<|
 opt.need _ (p.cmp .geq a.2.2.2.2.2.2.2.2.2.1 (0:Int))<|
 opt.need _ (bif (p.cmp .geq a.2.2.2.1 (0:Int)) then (p.cmp .lss a.2.2.2.1 (p.ofNat 10)) else Bool.false)<|
 opt.need _ (bif (p.cmp .geq (p.rdI a.2.2.2.2.2.2.2.1 (p.nat a.2.2.2.2.2.2.2.2.2.1) 0) (0:Int)) then (p.cmp .lss (p.rdI a.2.2.2.2.2.2.2.1 (p.nat a.2.2.2.2.2.2.2.2.2.1) 0) (p.ofNat 10)) else Bool.false)<|
 opt.need _ (p.rowOk a.1 (p.add (p.add 1 (p.mul (p.nat a.2.2.2.1) 10)) (p.nat (p.rdI a.2.2.2.2.2.2.2.1 (p.nat a.2.2.2.2.2.2.2.2.2.1) 0))) [ci])<|
 opt.ret _ (Sum.inl ((p.set a.1 (p.add (p.add 1 (p.mul (p.nat a.2.2.2.1) 10)) (p.nat (p.rdI a.2.2.2.2.2.2.2.1 (p.nat a.2.2.2.2.2.2.2.2.2.1) 0))) [k1k]),(a.2.1,(a.2.2.1,(a.2.2.2.1,(a.2.2.2.2.1,(a.2.2.2.2.2.1,(a.2.2.2.2.2.2.1,(a.2.2.2.2.2.2.2.1,(a.2.2.2.2.2.2.2.2.1,((p.ar .add .i64 a.2.2.2.2.2.2.2.2.2.1 (1:Int)),())))))))))))) (
 opt.ret _ (Sum.inr (a.1,(a.2.1,(a.2.2.1,(a.2.2.2.2.1,(a.2.2.2.2.2.1,(a.2.2.2.2.2.2.1,())))))))))
def y6x (it:It) (p:Prim):(LD×T9)→Option ((LD×T9)⊕T31):=
 fun a=>opt.run _ (
 opt.ask _ (p.cmp .lss a.2.2.2.2.2.1 a.2.2.2.2.1) (
 opt.need _ (p.rowOk a.2.2.2.1 (p.nat a.2.2.2.2.2.1) [(CK.list 1)])<|
 opt.need _ (p.cmp .geq a.2.2.2.2.2.1 (0:Int))<|
 opt.bnd T0 _ (g56 it p ((p.rdL a.2.2.2.1 (p.nat a.2.2.2.2.2.1) 0),(a.2.2.1,()))) fun b=>
 opt.ask _ (bif b.1 then Bool.false else Bool.true) (
 opt.ret _ (Sum.inr (Sum.inl ((3:Int),())))) (
 opt.bnd ((LD×T9)) _ (
 it _ _ (x4a p) (a.1,(a.2.1,(a.2.2.1,(a.2.2.2.2.2.1,(a.2.2.2.1,(a.2.2.2.2.1,(a.2.2.2.2.2.1,((p.rdL a.2.2.2.1 (p.nat a.2.2.2.2.2.1) 0),((p.ofNat (p.len (p.rdL a.2.2.2.1 (p.nat a.2.2.2.2.2.1) 0))),((0:Int),()))))))))))) fun c=>
 opt.ret _ (Sum.inl (c.1,(c.2.1,(c.2.2.1,(c.2.2.2.1,(c.2.2.2.2.1,((p.ar .add .i64 c.2.2.2.2.2.1 (1:Int)),()))))))))) (
 opt.ret _ (Sum.inr (Sum.inr (a.1,(a.2.1,(a.2.2.1,())))))))
def g54 (it:It):(p:Prim)→(LD×Unit)→Option (((Int×Unit)⊕(LD×(Int×Unit)))):=
 fun p x=>
 opt.bnd T37 _ (
 opt.run T37 (
 opt.ask _ (p.cmp .eql (p.ofNat (p.len x.1)) (0:Int)) (
 opt.ret _ ((0:Int),(x.1,((p.ofNat (p.len x.1)),(Bool.true,()))))) (
 opt.ret _ ((0:Int),(x.1,((p.ofNat (p.len x.1)),((p.cmp .gtr (p.ofNat (p.len x.1)) (10:Int)),()))))))) fun a=>
 opt.ask _ a.2.2.2.1 (
 opt.ret _ (Sum.inl ((6:Int),()))) (
 opt.alt T2 ((LD×T3)) _ (
 it _ _ (y6x it p) ([[(D.int .i64 a.2.2.1)],k0k,k0k,k0k,k0k,k0k,k0k,k0k,k0k,k0k,k0k,k0k,k0k,k0k,k0k,k0k,k0k,k0k,k0k,k0k,k0k,k0k,k0k,k0k,k0k,k0k,k0k,k0k,k0k,k0k,k0k,k0k,k0k,k0k,k0k,k0k,k0k,k0k,k0k,k0k,k0k,k0k,k0k,k0k,k0k,k0k,k0k,k0k,k0k,k0k,k0k,k0k,k0k,k0k,k0k,k0k,k0k,k0k,k0k,k0k,k0k,k0k,k0k,k0k,k0k,k0k,k0k,k0k,k0k,k0k,k0k,k0k,k0k,k0k,k0k,k0k,k0k,k0k,k0k,k0k,k0k,k0k,k0k,k0k,k0k,k0k,k0k,k0k,k0k,k0k,k0k,k0k,k0k,k0k,k0k,k0k,k0k,k0k,k0k,k0k,k0k],(a.1,(a.2.2.1,(a.2.1,((p.ofNat (p.len a.2.1)),((0:Int),()))))))) (fun b=>
 opt.ret _ (Sum.inl (b.1,()))) (fun c=>
 opt.bnd ((LD×T3)) _ (some c) fun d=>
 opt.alt T2 ((LD×T1)) _ (
 it _ _ (x39 p) (d.1,(d.2.1,(d.2.2.1,((0:Int),()))))) (fun e=>
 opt.ret _ (Sum.inl (e.1,()))) (fun f=>
 opt.bnd ((LD×T1)) _ (some f) fun g=>
 opt.need _ (p.rowOk g.1 0 [ci])<|
 opt.alt ((LD×T1)) ((LD×T1)) _ (
 it _ _ (y6w it p) (g.1,(g.2.1,((p.rdI g.1 0 0),((0:Int),()))))) (fun h=>
 opt.ret _ (Sum.inl (h.2.1,()))) (fun i=>
 opt.bnd ((LD×T1)) _ (some i) fun j=>
 opt.ret _ (Sum.inr (j.1,((0:Int),())))))))
def G54:=g54 it0
theorem v0m:CtrOk PG w0b (G54 std):=okF (a:=an54) (l:=la54) (gC v0j (gN)) (by kernel_rfl) fun _ _=>by kernel_rfl
def x62:Ctr:=
 ⟨35,[.list 1],[],[(.ret,⟨[(0, .tuple [.vec 0 1, .int .i64])],[.row [ci]],1⟩)]⟩
def la35:List LA:=
 [⟨35,[false,true,false,true,true,true,true],0,⟨⟨[(4, .bptr 0 0),(6, .full 1 1),(22, .int .i64),(23, .int .i64)],[.row [ci], .row [ci]],38⟩,[((AX.exit 0),⟨[(6, .full 0 1)],[.row [ci]],38⟩)]⟩⟩]
def ja35:List JA:=
 []
def v2r:List CF:=
 [⟨w7l,G70⟩,⟨w0b,G54⟩]
def an35:Anns:=
 ⟨v2r,ja35,[]⟩
def x0n (it:It) (p:Prim):(LD×(LD×T3))→Option ((LD×(LD×T3))⊕(LD×Unit)):=
 fun a=>opt.run _ (
 opt.ask _ (p.cmp .lss a.2.2.2.1 a.2.2.1) (
 opt.need _ (bif (p.cmp .geq a.2.2.2.1 (0:Int)) then (p.cmp .lss a.2.2.2.1 (p.ofNat 10)) else Bool.false)<|
 opt.need _ (p.rowOk a.1 (p.add 1 (p.mul (p.nat a.2.2.2.1) 10)) [ci])<|
 opt.need _ (p.and (p.leN (p.add (p.add 1 (p.mul (p.nat a.2.2.2.1) 10)) 10) (p.len a.1)) Bool.true)<|
 opt.bnd T2 _ (g70 it p ((p.cut a.1 (p.add 1 (p.mul (p.nat a.2.2.2.1) 10)) 10),())) fun b=>
 opt.need _ (bif (p.cmp .geq a.2.2.2.1 (0:Int)) then (p.cmp .lss a.2.2.2.1 (p.ofNat (p.len a.2.1))) else Bool.false)<|
 opt.need _ (p.rowOk a.2.1 (p.add 0 (p.nat a.2.2.2.1)) [ci])<|
 opt.need _ (p.eqN 0 0)<|
 opt.need _ (p.eqN (p.len a.2.1) (p.len (p.set a.2.1 (p.add 0 (p.nat a.2.2.2.1)) [(D.int .i64 b.1)])))<|
 opt.need _ (p.eqN (p.len a.2.1) (p.len (p.set a.2.1 (p.add 0 (p.nat a.2.2.2.1)) [(D.int .i64 b.1)])))<|
 opt.ret _ (Sum.inl (a.1,((p.set a.2.1 (p.add 0 (p.nat a.2.2.2.1)) [(D.int .i64 b.1)]),(a.2.2.1,((p.ar .add .i64 a.2.2.2.1 (1:Int)),())))))) (
 opt.need _ (p.eqN 0 0)<|
 opt.need _ (p.eqN (p.len a.2.1) (p.len a.2.1))<|
 opt.need _ (p.eqN (p.len a.2.1) (p.len a.2.1))<|
 opt.ret _ (Sum.inr (a.2.1,()))))
def g35 (it:It):(p:Prim)→(LD×Unit)→Option ((LD×T1)):=
 fun p x=>
 opt.alt T2 ((LD×T1)) _ (g54 it p (x.1,())) (fun a=>
 opt.ask _ (p.cmp .neq a.1 (0:Int)) (
 opt.ret _ ([],(a.1,()))) (
 opt.no _ 41)) (fun b=>
 opt.bnd ((LD×T1)) _ (some b) fun c=>
 opt.ask _ (p.cmp .neq c.2.1 (0:Int)) (
 opt.ret _ ([],(c.2.1,()))) (
 opt.need _ (p.rowOk c.1 0 [ci])<|
 opt.need _ (p.and (p.cmp .geq (p.rdI c.1 0 0) (0:Int)) (p.and (p.cmp .leq (p.rdI c.1 0 0) (p.rdI c.1 0 0)) (p.cmp .leq (p.rdI c.1 0 0) (1000000:Int))))<|
 opt.need _ (p.eqN 0 0)<|
 opt.need _ (p.eqN (p.nat (p.rdI c.1 0 0)) (p.len (p.rep (p.nat (p.rdI c.1 0 0)) k0k)))<|
 opt.need _ (p.eqN (p.nat (p.rdI c.1 0 0)) (p.len (p.rep (p.nat (p.rdI c.1 0 0)) k0k)))<|
 opt.bnd ((LD×Unit)) _ (
 it _ _ (x0n it p) (c.1,((p.rep (p.nat (p.rdI c.1 0 0)) k0k),((p.ofNat (p.nat (p.rdI c.1 0 0))),((0:Int),()))))) fun d=>
 opt.need _ (p.eqN 0 0)<|
 opt.need _ (p.eqN (p.len d.1) (p.len d.1))<|
 opt.need _ (p.leN (p.add 0 (p.len d.1)) (p.len d.1))<|
 opt.ret _ (d.1,((0:Int),()))))
def G35:=g35 it0
theorem w9d:CtrOk PG x62 (G35 std):=okF (a:=an35) (l:=la35) (gC ok70 (gC v0m (gN))) (by kernel_rfl) fun _ _=>by kernel_rfl
def w7u:Ctr:=
 ⟨36,[.list 1],[],[(.ret,⟨[(0, .tuple [.int .i64, .int .i64])],[],1⟩)]⟩
def la36:List LA:=
 [⟨36,[false,true,false,true,true,true,true,true],0,⟨⟨[(7, .int .i64),(28, .vec 0 1),(29, .int .i64),(30, .int .i64)],[.row [ci]],43⟩,[((AX.exit 0),⟨[(7, .int .i64)],[],43⟩)]⟩⟩]
def ja36:List JA:=
 []
def v2q:List CF:=
 [⟨x62,G35⟩]
def an36:Anns:=
 ⟨v2q,ja36,[]⟩
def v34 (p:Prim):(LD×T4)→Option ((LD×T4)⊕T1):=
 fun a=>opt.run _ (
 opt.ask _ (p.cmp .lss a.2.2.2.1 a.2.2.1) (
 opt.need _ (bif (p.cmp .geq a.2.2.2.1 (0:Int)) then (p.cmp .lss a.2.2.2.1 (p.ofNat (p.len a.1))) else Bool.false)<|
 opt.need _ (p.rowOk a.1 (p.add 0 (p.nat a.2.2.2.1)) [ci])<|
 opt.need _ (p.cmp .neq (2:Int) (0:Int))<|
 opt.need _ (p.eqN 0 0)<|
 opt.need _ (p.eqN (p.len a.1) (p.len a.1))<|
 opt.ret _ (Sum.inl (a.1,((p.ar .sub .i64 a.2.1 (p.ar .quo .i64 (p.ar .mul .i64 (p.rdI a.1 (p.add 0 (p.nat a.2.2.2.1)) 0) (p.ar .sub .i64 (p.rdI a.1 (p.add 0 (p.nat a.2.2.2.1)) 0) (1:Int))) (2:Int))),(a.2.2.1,((p.ar .add .i64 a.2.2.2.1 (1:Int)),())))))) (
 opt.ret _ (Sum.inr (a.2.1,()))))
def g36 (it:It):(p:Prim)→(LD×Unit)→Option T8:=
 fun p x=>
 opt.bnd ((LD×T1)) _ (g35 it p (x.1,())) fun a=>
 opt.ask _ (p.cmp .neq a.2.1 (0:Int)) (
 opt.ret _ ((0:Int),(a.2.1,()))) (
 opt.need _ (p.cmp .neq (6:Int) (0:Int))<|
 opt.need _ (p.eqN 0 0)<|
 opt.need _ (p.eqN (p.len a.1) (p.len a.1))<|
 opt.bnd T2 _ (
 it _ _ (v34 p) (a.1,((p.ar .quo .i64 (p.ar .mul .i64 (p.ar .mul .i64 (p.ofNat (p.len a.1)) (p.ar .sub .i64 (p.ofNat (p.len a.1)) (1:Int))) (p.ar .sub .i64 (p.ofNat (p.len a.1)) (2:Int))) (6:Int)),((p.ofNat (p.len a.1)),((0:Int),()))))) fun b=>
 opt.ret _ (b.1,((0:Int),())))
def G36:=g36 it0
theorem ok36:CtrOk PG w7u (G36 std):=okF (a:=an36) (l:=la36) (gC w9d (gN)) (by kernel_rfl) fun _ _=>by kernel_rfl
end Go.Am
end
section
namespace Go.Am
variable {fl:List Int→Bool}
def z93 (l:List Int):Nat→Int
 |0=> -1
 |i+1=>l.getD i 0
def z8r (l:List Int) (n:Int) (i:Nat):Prop:=l.getD i 0≤z93 l i∨n≤l.getD i 0
instance (l:List Int) (n:Int) (i:Nat):Decidable (z8r l n i):=by unfold z8r; infer_instance
theorem y4l (l:List Int) (n:Int):z3a l n↔∀ i,i<l.length→¬ z8r l n i:=by
 constructor
 ·intro h i hi
  obtain ⟨h1,h2,h3⟩:=h i hi
  cases i with
  |zero=>rw [z8r,z93]; omega
  |succ i=>
   have:=h3 (by omega)
   rw [z8r,z93]
   rw [Nat.add_sub_cancel] at this
   omega
 ·intro h
  have h0:∀ i,i<l.length→0≤l.getD i 0:=by
   intro i
   induction i with
   |zero=>
    intro hi
    have:=h 0 hi
    rw [z8r,z93] at this; omega
   |succ i ih=>
    intro hi
    have:=h (i+1) hi
    have:=ih (by omega)
    rw [z8r,z93] at*; omega
  intro i hi
  have hf:=h i hi
  refine ⟨h0 i hi,?_,fun h1=>?_⟩
  ·rw [z8r] at hf; omega
  ·cases i with
   |zero=>omega
   |succ i=>
    rw [z8r,z93] at hf
    rw [Nat.add_sub_cancel]
    omega
theorem w8x (l:List Int) (n:Int) (hL:l.length≤1000000):G56 std (z0k l,(n,()))=some (decide (z3a l n),()):=by
 unfold G56
 have key:=z5g (b:=y87 std) l.length (fun i=>(n,(z93 l i,(z0k l,((l.length:Int),((i:Int),())))))) (fun i=>decide (z8r l n i)) (fun i=> .inl (false,())) (.inr ()) (fun i hi=>by
  obtain ⟨m,hm⟩:=z2h hi
  have hw:=z1g (i:=i) (by omega)
  have hlt:(i:Int)<l.length:=by omega
  have h0:(0:Int)≤i:=by omega
  have hla:z93 l (i+1)=m:=z3x hm
  by_cases h1:m≤z93 l i
  ·have hr:z8r l n i:=by rw [z8r,z3x hm]; exact .inl h1
   simp only [hr,y87,z1z,z10,z0k,z0v,z3q,z5l,z07,z0s,hm,hlt,h0,ge_iff_le,z0i,hw,h1,hla,decide_true]
  ·by_cases h2:n≤m
   ·have hr:z8r l n i:=by rw [z8r,z3x hm]; exact .inr h2
    simp only [hr,y87,z1z,z10,z0k,z0v,z3q,z5l,z07,z0s,hm,hlt,h0,ge_iff_le,z0i,hw,h1,h2,hla,decide_true]
   ·have hr:¬ z8r l n i:=by rw [z8r,z3x hm]; omega
    simp only [hr,y87,z1z,z10,z0k,z0v,z3q,z5l,z07,z0s,hm,hlt,h0,ge_iff_le,z0i,hw,h1,h2,hla,decide_false]) (by
  have hn:¬ (l.length:Int)<l.length:=by omega
  simp only [y87,z1z,z10,z0k,z0v,z3q,z5l,z07,z0s,hn])
 have e:∀ {r:(Bool×Unit)⊕Unit},z5i (y87 std) (n,((-1:Int),(z0k l,((l.length:Int),((0:Int),())))))=some r→g56 it0 std (z0k l,(n,()))=some (match r with| .inl y=>y| .inr _=>(true,())):=by
  intro r hr
  have hr':it0 _ _ (y87 std) (n,((-1:Int),(z0k l,((l.length:Int),((0:Int),())))))=some r:=hr
  simp only [g56,z1z,z10,z05,hr']
  rcases r with ⟨y,u⟩|u<;>rfl
 rcases key with ⟨i,h1,h2,_,h4⟩|⟨h1,h2⟩
 ·have:¬ z3a l n:=fun h=>(y4l l n).1 h i h1 (by simpa using h2)
  rw [e h4]
  simp [this]
 ·have:z3a l n:=(y4l l n).2 fun i hi=>by simpa using h1 i hi
  rw [e h2]
  simp [this]
end Go.Am
end
section
namespace Go.Am
variable {fl:List Int→Bool}
def eC (b:Bool):List D:=eI (bif b then 1 else 0)
def fld (n:Int) (f:Nat→Nat→Bool):List (List D):=eI n::(List.range 100).map fun j=>eC (f (j / 10) (j % 10))
theorem w32 (n:Int) (f:Nat→Nat→Bool):(fld n f).length=101:=by simp [fld]
theorem x9l (n:Int):fld n (fun _ _=>false)=eI n::List.replicate 100 (eI 0):=rfl
theorem y0y (n:Int) (f:Nat→Nat→Bool) (i k:Nat) (hi:i<10) (hk:k<10):(fld n f)[1+i*10+k]?=some (eC (f i k)):=by
 have h:1+i*10+k=(i*10+k)+1:=by omega
 have h1:(i*10+k) / 10=i:=by omega
 have h2:(i*10+k) % 10=k:=by omega
 rw [h,fld,List.getElem?_cons_succ,List.getElem?_map,List.getElem?_range (by omega)]
 simp only [Option.map_some,h1,h2]
theorem w30 (n:Int) (f:Nat→Nat→Bool) (i k:Nat) (hi:i<10) (hk:k<10):(fld n f).set (1+i*10+k) (eI 1)=fld n (fun a b=>f a b||(decide (a=i)&&decide (b=k))):=by
 have h:1+i*10+k=(i*10+k)+1:=by omega
 rw [h,fld,fld,List.set_cons_succ]
 congr 1
 apply List.ext_getElem?
 intro j
 rw [List.getElem?_set,List.getElem?_map,List.getElem?_map,List.length_map,List.length_range]
 by_cases hj:i*10+k=j
 ·subst hj
  rw [if_pos rfl,if_pos (by omega),List.getElem?_range (by omega)]
  have h1:(i*10+k) / 10=i:=by omega
  have h2:(i*10+k) % 10=k:=by omega
  simp [h1,h2,eC]
 ·rw [if_neg hj]
  by_cases hl:j<100
  ·rw [List.getElem?_range hl]
   have:¬ (j / 10=i∧j % 10=k):=by omega
   have:(decide (j / 10=i)&&decide (j % 10=k))=false:=by
    cases h:(decide (j / 10=i)&&decide (j % 10=k)) with
    |false=>rfl
    |true=>simp at h; exact absurd h this
   simp [this]
  ·rw [List.getElem?_eq_none (by simp; omega)]; rfl
theorem y19 (b:Bool):z5n [CK.int IntKind.i64] (eC b)=true:=rfl
theorem w7i (b:Bool):dI ((eC b)[0]?.getD D.nilp)=bif b then 1 else 0:=rfl
theorem w0w (d:List (List Int)) (n:Int) (i:Nat) (l:List Int) (hi:i<10) (hL:l.length≤1000000) (hg:∀ x∈l,0≤x∧x<10) (f:Nat→Nat→Bool):
  z5i (x4a std) (fld n f,((0:Int),(n,((i:Int),(z0s fl d,(n,((i:Int),(z0k l,((l.length:Int),((0:Int),()))))))))))=
   some (fld n (fun a b=>f a b||(decide (a=i)&&decide ((b:Int)∈l))),((0:Int),(n,(z0s fl d,(n,((i:Int),())))))):=by
 have key:=z4v (b:=x4a std) l.length (fun j=>(fld n (fun a b=>f a b||(decide (a=i)&&decide ((b:Int)∈l.take j))),((0:Int),(n,((i:Int),(z0s fl d,(n,((i:Int),(z0k l,((l.length:Int),((j:Int),()))))))))))) (fld n (fun a b=>f a b||(decide (a=i)&&decide ((b:Int)∈l))),((0:Int),(n,(z0s fl d,(n,((i:Int),())))))) (fun j hj=>by
  obtain ⟨m,hm⟩:=z2h hj
  have hw:=z1g (i:=j) (by omega)
  have hlt:(j:Int)<l.length:=by omega
  have h0:(0:Int)≤j:=by omega
  obtain ⟨hm0,hm1⟩:=hg m (List.mem_of_getElem? hm)
  obtain ⟨k,rfl⟩:∃ k:Nat,m=(k:Int):=⟨m.toNat,by omega⟩
  have hk:k<10:=by omega
  have hi0:(0:Int)≤i:=by omega
  have hi1:(i:Int)<((10:Nat):Int):=by omega
  have hk1:(k:Int)<((10:Nat):Int):=by omega
  have ht:l.take (j+1)=l.take j++[(k:Int)]:=by
   obtain ⟨h1,h2⟩:=List.getElem?_eq_some_iff.1 hm
   rw [List.take_succ_eq_append_getElem h1,h2]
  have hfe:(fun a b=>f a b||(decide (a=i)&&decide ((b:Int)∈l.take (j+1))))=(fun a b=>(f a b||(decide (a=i)&&decide ((b:Int)∈l.take j)))||(decide (a=i)&&decide (b=k))):=by
   funext a b
   have:decide ((b:Int)∈l.take (j+1))=(decide ((b:Int)∈l.take j)||decide (b=k)):=by
    rw [ht]
    by_cases x:(b:Int)∈l.take j<;>by_cases y:b=k<;>simp [x,y]<;>omega
   rw [this]
   cases f a b<;>cases decide (a=i)<;>rfl
  rw [hfe, ←w30 _ _ _ _ hi hk]
  have hg':=y0y n (fun a b=>f a b||(decide (a=i)&&decide ((b:Int)∈l.take j))) i k hi hk
  generalize fld n (fun a b=>f a b||(decide (a=i)&&decide ((b:Int)∈l.take j)))=F at hg'⊢
  simp only [x4a,z1z,z10,z0k,z0v,z3q,z5l,z07,z0s,hm,hlt,h0,hi0,hi1,hm0,hk1,ge_iff_le,z0i,hw,hg',y19,show [D.int IntKind.i64 (1:Int)]=eI 1 from rfl]) (by
  have hn:¬ (l.length:Int)<l.length:=by omega
  simp only [x4a,z1z,z10,z0k,z0v,z3q,z5l,z07,z0s,hn,List.take_length])
 simpa using key
theorem w11 {d:List (List Int)} {i:Nat} {m:List Int} (hm:d[i]?=some m) (k:Nat):bt d i k=decide ((k:Int)∈m):=by rw [bt,z3x hm]
theorem w12 {d:List (List Int)} {i:Nat} (h:d.length≤i) (k:Nat):bt d i k=false:=by
 rw [bt,List.getD_eq_getElem?_getD,List.getElem?_eq_none h]; simp
theorem w0k (d:List (List Int)) (hr:∀ l∈d,l.length≤1000000) (hl:d.length≤10):
  z5i (y6x it0 std) (fld d.length (fun _ _=>false),((0:Int),((d.length:Int),(z0s fl d,((d.length:Int),((0:Int),()))))))=
   if ∃ i∈List.range d.length,¬ z3a (d.getD i []) d.length then some (.inl (3,())) else some (.inr (fld d.length (bt d),((0:Int),((d.length:Int),())))):=by
 have hz:(fun (_ _:Nat)=>false)=(fun a b=>decide (a<0)&&bt d a b):=by
  funext a b; simp
 have hz':bt d=(fun a b=>decide (a<d.length)&&bt d a b):=by
  funext a b
  by_cases h:a<d.length
  ·simp [h]
  ·rw [w12 (by omega)]; simp
 have key:=z5g (b:=y6x it0 std) d.length (fun i=>(fld d.length (fun a b=>decide (a<i)&&bt d a b),((0:Int),((d.length:Int),(z0s fl d,((d.length:Int),((i:Int),()))))))) (fun i=>decide (¬ z3a (d.getD i []) d.length)) (fun i=> .inl (3,())) (.inr (fld d.length (bt d),((0:Int),((d.length:Int),())))) (fun i hi=>by
  obtain ⟨m,hm⟩:=z2h hi
  have hw:=z1g (i:=i) (by omega)
  have hlt:(i:Int)<d.length:=by omega
  have h0:(0:Int)≤i:=by omega
  have h1:g56 it0 std (z0k m,((d.length:Int),()))=some (decide (z3a m d.length),()):=w8x m d.length (hr m (List.mem_of_getElem? hm))
  simp only [z0k] at h1
  by_cases a:z3a m d.length
  ·have hg:∀ x∈m,0≤x∧x<10:=fun x hx=>by
    obtain ⟨j,hj⟩:=List.getElem?_of_mem hx
    obtain ⟨q1,q2,_⟩:=a j (List.getElem?_eq_some_iff.1 hj).1
    rw [z3x hj] at q1 q2
    omega
   have h2:it0 _ _ (x4a std) (fld d.length (fun a b=>decide (a<i)&&bt d a b),((0:Int),((d.length:Int),((i:Int),(z0s fl d,((d.length:Int),((i:Int),(z0k m,((m.length:Int),((0:Int),()))))))))))=_:=
    w0w d d.length i m (by omega) (hr m (List.mem_of_getElem? hm)) hg _
   have hfe:(fun x b=>(decide (x<i)&&bt d x b)||(decide (x=i)&&decide ((b:Int)∈m)))=(fun x b=>decide (x<i+1)&&bt d x b):=by
    funext x b
    by_cases e:x=i
    ·subst e; simp [w11 hm]
    ·have:decide (x<i+1)=decide (x<i):=by
      by_cases q:x<i
      ·simp [q]; omega
      ·simp [q]; omega
     simp [e,this]
   rw [hfe] at h2
   simp only [z0s,z0k] at h2
   simp only [z3x hm,y6x,z1z,z10,z0k,z0v,z3q,z5l,z07,z0s,hm,hlt,h0,ge_iff_le,z0i,hw,h1,h2,a,List.length_map,decide_true,not_true,decide_false]
  ·simp only [z3x hm,y6x,z1z,z10,z0k,z0v,z3q,z5l,z07,z0s,hm,hlt,h0,ge_iff_le,z0i,hw,h1,a,decide_true,not_false_eq_true,decide_false]) (by
  have hn:¬ (d.length:Int)<d.length:=by omega
  rw [←hz']
  simp only [y6x,z1z,z10,z0k,z0v,z3q,z5l,z07,z0s,hn])
 rw [←hz] at key
 rcases key with ⟨k,h1,h2,_,h4⟩|⟨h1,h2⟩
 ·rw [if_pos ⟨k,List.mem_range.2 h1,of_decide_eq_true h2⟩]
  exact h4
 ·rw [if_neg]
  ·exact h2
  ·rintro ⟨k,hk,h⟩
   exact of_decide_eq_false (h1 k (List.mem_range.1 hk)) h
theorem w0v (d:List (List Int)) (hl:d.length≤10) (f:Nat→Nat→Bool):
  z5i (x39 std) (fld d.length f,((0:Int),((d.length:Int),((0:Int),()))))=
   if ∃ i∈List.range d.length,f i i=true then some (.inl (16,())) else some (.inr (fld d.length f,((0:Int),()))):=by
 have key:=z5g (b:=x39 std) d.length (fun i=>(fld d.length f,((0:Int),((d.length:Int),((i:Int),()))))) (fun i=>f i i) (fun i=> .inl (16,())) (.inr (fld d.length f,((0:Int),()))) (fun i hi=>by
  have hw:=z1g (i:=i) (by omega)
  have hlt:(i:Int)<d.length:=by omega
  have h0:(0:Int)≤i:=by omega
  have hi1:(i:Int)<((10:Nat):Int):=by omega
  have hg:=y0y d.length f i i (by omega) (by omega)
  generalize fld d.length f=F at hg⊢
  revert hg
  cases f i i<;>intro hg<;>simp only [x39,z1z,z10,hlt,h0,hi1,ge_iff_le,z0i,hw,hg,y19,w7i,cond_true,cond_false]<;>rfl) (by
  have hn:¬ (d.length:Int)<d.length:=by omega
  simp only [x39,z1z,z10,hn])
 rcases key with ⟨k,h1,h2,_,h4⟩|⟨h1,h2⟩
 ·rw [if_pos ⟨k,List.mem_range.2 h1,h2⟩]
  exact h4
 ·rw [if_neg]
  ·exact h2
  ·rintro ⟨k,hk,h⟩
   rw [h1 k (List.mem_range.1 hk)] at h
   exact Bool.noConfusion h
theorem w0u (n:Int) (N k:Nat) (hk:k<10) (f:Nat→Nat→Bool):
  z5i (x38 std) (fld n f,((0:Int),((k:Int),((N:Int),((k:Int),((k:Int),((0:Int),())))))))=
   if ∃ i∈List.range k,f i k=f k i then some (.inl (fld n f,(16,()))) else some (.inr (fld n f,((0:Int),((N:Int),((k:Int),()))))):=by
 have key:=z5g (b:=x38 std) k (fun i=>(fld n f,((0:Int),((k:Int),((N:Int),((k:Int),((k:Int),((i:Int),())))))))) (fun i=>f i k==f k i) (fun i=> .inl (fld n f,(16,()))) (.inr (fld n f,((0:Int),((N:Int),((k:Int),()))))) (fun i hi=>by
  have hw:=z1g (i:=i) (by omega)
  have hlt:(i:Int)<k:=by omega
  have h0:(0:Int)≤i:=by omega
  have h0':(0:Int)≤k:=by omega
  have hi1:(i:Int)<((10:Nat):Int):=by omega
  have hk1:(k:Int)<((10:Nat):Int):=by omega
  have hg:=y0y n f i k (by omega) (by omega)
  have hg':=y0y n f k i (by omega) (by omega)
  generalize fld n f=F at hg hg'⊢
  revert hg hg'
  cases f i k<;>cases f k i<;>intro hg hg'<;>simp only [x38,z1z,z10,hlt,h0,h0',hi1,hk1,ge_iff_le,z0i,hw,hg,hg',y19,w7i,cond_true,cond_false]<;>rfl) (by
  have hn:¬ (k:Int)<k:=by omega
  simp only [x38,z1z,z10,hn])
 rcases key with ⟨i,h1,h2,_,h4⟩|⟨h1,h2⟩
 ·rw [if_pos ⟨i,List.mem_range.2 h1,by simpa using h2⟩]
  exact h4
 ·rw [if_neg]
  ·exact h2
  ·rintro ⟨i,hi,h⟩
   have:=h1 i (List.mem_range.1 hi)
   simp [h] at this
theorem w0j (n:Int) (N:Nat) (hN:N≤10) (f:Nat→Nat→Bool):
  z5i (y6w it0 std) (fld n f,((0:Int),((N:Int),((0:Int),()))))=
   if ∃ k∈List.range N,∃ i∈List.range k,f i k=f k i then some (.inl (fld n f,(16,()))) else some (.inr (fld n f,((0:Int),()))):=by
 have key:=z5g (b:=y6w it0 std) N (fun k=>(fld n f,((0:Int),((N:Int),((k:Int),()))))) (fun k=>decide (∃ i∈List.range k,f i k=f k i)) (fun k=> .inl (fld n f,(16,()))) (.inr (fld n f,((0:Int),()))) (fun k hk=>by
  have hw:=z1g (i:=k) (by omega)
  have hlt:(k:Int)<N:=by omega
  have h1:it0 _ _ (x38 std) (fld n f,((0:Int),((k:Int),((N:Int),((k:Int),((k:Int),((0:Int),())))))))=_:=w0u n N k (by omega) f
  by_cases a:∃ i∈List.range k,f i k=f k i
  ·rw [if_pos a] at h1
   simp only [y6w,z1z,z10,hlt,z0i,hw,h1,a,decide_true]
  ·rw [if_neg a] at h1
   simp only [y6w,z1z,z10,hlt,z0i,hw,h1,a,decide_false]) (by
  have hn:¬ (N:Int)<N:=by omega
  simp only [y6w,z1z,z10,hn])
 rcases key with ⟨i,h1,h2,_,h4⟩|⟨h1,h2⟩
 ·rw [if_pos ⟨i,List.mem_range.2 h1,of_decide_eq_true h2⟩]
  exact h4
 ·rw [if_neg]
  ·exact h2
  ·rintro ⟨i,hi,h⟩
   exact of_decide_eq_false (h1 i (List.mem_range.1 hi)) h
theorem w8y (d:List (List Int)) (hr:∀ l∈d,l.length≤1000000):G54 std (z0s fl d,())=some (if z06 d=0 then .inr (fld d.length (bt d),((0:Int),())) else .inl (z06 d,())):=by
 unfold G54
 by_cases h1:d.length=0
 ·have h1':((d.length:Nat):Int)=0:=by omega
  have hd:z06 d=6:=by rw [z06,if_pos (.inl (by omega))]
  rw [hd]
  simp only [g54,z1z,z10,z41,h1']
  rfl
 ·have h1':¬ ((d.length:Nat):Int)=0:=by omega
  by_cases h2:10<d.length
  ·have h2':((d.length:Nat):Int)>10:=by omega
   have hd:z06 d=6:=by rw [z06,if_pos (.inr h2)]
   rw [hd]
   simp only [g54,z1z,z10,z41,h1',h2']
   rfl
  ·have h2':¬ ((d.length:Nat):Int)>10:=by omega
   have e1:it0 _ _ (y6x it0 std) (fld d.length (fun _ _=>false),((0:Int),((d.length:Int),(z0s fl d,((d.length:Int),((0:Int),()))))))=_:=w0k d hr (by omega)
   have e2:it0 _ _ (x39 std) (fld d.length (bt d),((0:Int),((d.length:Int),((0:Int),()))))=_:=w0v d (by omega) (bt d)
   have e3:it0 _ _ (y6w it0 std) (fld d.length (bt d),((0:Int),((d.length:Int),((0:Int),()))))=_:=w0j d.length d.length (by omega) (bt d)
   have hf0:(fld d.length (bt d))[0]?=some (eI d.length):=rfl
   rw [x9l] at e1
   simp only [List.replicate_succ,List.replicate_zero] at e1
   have hd:z06 d=if ∃ i∈List.range d.length,¬ z3a (d.getD i []) d.length then 3 else if ∃ i∈List.range d.length,y62 d i then 16 else 0:=by
    rw [z06,if_neg (by omega)]
   rw [hd]
   simp only [eI] at e1
   by_cases a:∃ i∈List.range d.length,¬ z3a (d.getD i []) d.length
   ·rw [if_pos a] at e1⊢
    simp only [g54,z1z,z10,z41,h1',h2',e1]
    rfl
   ·rw [if_neg a] at e1⊢
    by_cases b:∃ i∈List.range d.length,bt d i i=true
    ·rw [if_pos b] at e2
     have hb:∃ i∈List.range d.length,y62 d i:=by
      obtain ⟨i,hi,h⟩:=b
      exact ⟨i,hi, .inl (by rw [bt] at h; exact of_decide_eq_true h)⟩
     rw [if_pos hb]
     simp only [g54,z1z,z10,z41,h1',h2',e1,e2]
     rfl
    ·rw [if_neg b] at e2
     by_cases c:∃ k∈List.range d.length,∃ i∈List.range k,bt d i k=bt d k i
     ·rw [if_pos c] at e3
      have hb:∃ i∈List.range d.length,y62 d i:=by
       obtain ⟨k,hk,i,hi,h⟩:=c
       exact ⟨k,hk, .inr ⟨i,hi,h⟩⟩
      rw [if_pos hb]
      simp only [g54,z1z,z10,z41,h1',h2',e1,e2,e3,hf0,z0v,z3q]
      rfl
     ·rw [if_neg c] at e3
      have hb:¬ ∃ i∈List.range d.length,y62 d i:=by
       rintro ⟨k,hk,h|⟨i,hi,h⟩⟩
       ·exact b ⟨k,hk,by rw [bt]; exact decide_eq_true h⟩
       ·exact c ⟨k,hk,i,hi,h⟩
      rw [if_neg hb]
      simp only [g54,z1z,z10,z41,h1',h2',e1,e2,e3,hf0,z0v,z3q]
end Go.Am
end
section
namespace Go.Am
variable {fl:List Int→Bool}
theorem w2e {l:List Int} (h:∀ x∈l,0≤x∧x≤100):0≤l.sum∧l.sum≤100*l.length:=by
 induction l with
 |nil=>simp
 |cons a l ih=>
  have h1:=h a (List.mem_cons_self ..)
  have h2:=ih fun x hx=>h x (List.mem_cons_of_mem _ hx)
  rw [List.sum_cons,List.length_cons]
  omega
theorem w8w (l:List Int) (hL:l.length≤1000) (h:∀ x∈l,0≤x∧x≤100):G70 std (z0k l,())=some (l.sum,()):=by
 unfold G70
 have key:it0 _ _ (x7u std) ((0:Int),(z0k l,((l.length:Int),((0:Int),()))))=some (l.sum,()):=by
  have:=z4v (b:=x7u std) l.length (fun i=>((l.take i).sum,(z0k l,((l.length:Int),((i:Int),()))))) (l.sum,()) (fun i hi=>by
   obtain ⟨m,hm⟩:=z2h hi
   have hw:=z1g (i:=i) (by omega)
   have hlt:(i:Int)<l.length:=by omega
   have h0:(0:Int)≤i:=by omega
   have ht:(l.take (i+1)).sum=(l.take i).sum+m:=by
    obtain ⟨h1,h2⟩:=List.getElem?_eq_some_iff.1 hm
    rw [List.take_succ_eq_append_getElem h1,h2,List.sum_append]
    simp
   have hb:=w2e (l:=l.take (i+1)) fun x hx=>h x (List.mem_of_mem_take hx)
   rw [ht,List.length_take] at hb
   have hw':IntKind.i64.wrap ((l.take i).sum+m)=(l.take i).sum+m:=y9i _ (by omega) (by omega)
   rw [ht]
   simp only [x7u,z1z,z10,z0k,z0v,z3q,z5l,z07,z0s,hm,hlt,h0,ge_iff_le,z0i,hw,hw']) (by
   have hn:¬ (l.length:Int)<l.length:=by omega
   simp only [x7u,z1z,z10,z0k,z0v,z3q,z5l,z07,z0s,hn,List.take_length])
  exact this
 simp only [g70,z1z,z10,z05,key]
end Go.Am
end
section
namespace Go.Am.T11
def o1 (b:Bool):Nat:=bif b then 1 else 0
def sm (n:Nat) (f:Nat→Nat):Nat:=
 match n with
 |0=>0
 |n+1=>sm n f+f n
def cnt (n:Nat) (p:Nat→Bool):Nat:=sm n fun i=>o1 (p i)
theorem z27 (n:Nat) (f:Nat→Nat):sm (n+1) f=sm n f+f n:=rfl
theorem z4f {n:Nat} {f g:Nat→Nat} (h:∀ i,i<n→f i=g i):sm n f=sm n g:=by
 induction n with
 |zero=>rfl
 |succ n ih=>rw [z27,z27,ih fun i hi=>h i (by omega),h n (by omega)]
theorem x8o {n:Nat} {f g:Nat→Nat} (h:∀ i,i<n→f i≤g i):sm n f≤sm n g:=by
 induction n with
 |zero=>exact Nat.le_refl _
 |succ n ih=>
  have:=ih fun i hi=>h i (by omega)
  have:=h n (by omega)
  rw [z27,z27]; omega
theorem y7z (n:Nat) (f g:Nat→Nat):sm n (fun i=>f i+g i)=sm n f+sm n g:=by
 induction n with
 |zero=>rfl
 |succ n ih=>rw [z27,z27,z27,ih]; omega
theorem x44 (n:Nat):sm n (fun _=>0)=0:=by
 induction n with
 |zero=>rfl
 |succ n ih=>rw [z27,ih]
theorem z8c (n c:Nat):sm n (fun _=>c)=n*c:=by
 induction n with
 |zero=>simp [sm]
 |succ n ih=>rw [z27,ih,Nat.succ_mul]
theorem y1x {n:Nat} {f g:Nat→Nat} (h:∀ i,i<n→f i≤g i) (he:sm n f=sm n g):∀ i,i<n→f i=g i:=by
 induction n with
 |zero=>intro i hi; omega
 |succ n ih=>
  intro i hi
  have h1:=x8o (n:=n) fun i hi=>h i (by omega)
  have h2:=h n (by omega)
  rw [z27,z27] at he
  by_cases e:i=n
  ·subst e; omega
  ·exact ih (fun i hi=>h i (by omega)) (by omega) i (by omega)
theorem x0z (n k:Nat) (f:Nat→Nat):sm (n+k) f=sm n f+sm k fun i=>f (n+i):=by
 induction k with
 |zero=>rfl
 |succ k ih=>rw [←Nat.add_assoc,z27,z27,ih]; omega
theorem w54 (b:Bool):o1 b≤1:=by cases b<;>simp [o1]
theorem y18 (n:Nat) (p:Nat→Bool):cnt (n+1) p=cnt n p+o1 (p n):=rfl
theorem z3d {n:Nat} {p q:Nat→Bool} (h:∀ i,i<n→p i=q i):cnt n p=cnt n q:=z4f fun i hi=>by rw [h i hi]
theorem y80 (n:Nat) (p:Nat→Bool):cnt n p≤n:=by
 have:=x8o (n:=n) (f:=fun i=>o1 (p i)) (g:=fun _=>1) fun i _=>w54 _
 rw [z8c] at this; rw [cnt]; omega
theorem y0c {n:Nat} {p q:Nat→Bool} (h:∀ i,i<n→p i=true→q i=true):cnt n p≤cnt n q:=
 x8o fun i hi=>by
  have:=h i hi
  cases hp:p i with
  |false=>simp [o1]
  |true=>rw [this hp]; exact Nat.le_refl _
theorem y17 (n:Nat):cnt n (fun _=>true)=n:=by
 rw [cnt]
 have:=z8c n 1
 simpa [o1] using this
theorem z71 (n:Nat):cnt n (fun _=>false)=0:=x44 n
theorem y6r (n:Nat) (p:Nat→Bool):cnt n p+cnt n (fun i=>!p i)=n:=by
 rw [cnt,cnt, ←y7z]
 rw [z4f (g:=fun _=>1) fun i _=>by cases p i<;>rfl,z8c,Nat.mul_one]
theorem w0h {n:Nat} {p:Nat→Bool} (h:cnt n p=n):∀ i,i<n→p i=true:=by
 intro i hi
 have:=y1x (n:=n) (f:=fun i=>o1 (p i)) (g:=fun _=>1) (fun i _=>w54 _) (by rw [z8c,Nat.mul_one]; exact h) i hi
 cases hp:p i with
 |true=>rfl
 |false=>simp [hp,o1] at this
theorem w0g {n:Nat} {p:Nat→Bool} (h:cnt n p=0):∀ i,i<n→p i=false:=by
 intro i hi
 have:=y1x (n:=n) (f:=fun _=>0) (g:=fun i=>o1 (p i)) (fun i _=>Nat.zero_le _) (by rw [x44]; exact h.symm) i hi
 cases hp:p i with
 |false=>rfl
 |true=>simp [hp,o1] at this
theorem y6q {n:Nat} {p:Nat→Bool} {i:Nat} (hi:i<n) (h:p i=true):0<cnt n p:=by
 refine Nat.pos_of_ne_zero fun h0=>?_
 rw [w0g h0 i hi] at h; cases h
def c2:Nat→Nat
 |0=>0
 |n+1=>c2 n+n
def c3:Nat→Nat
 |0=>0
 |n+1=>c3 n+c2 n
theorem w8d (n:Nat):2*c2 n=n*(n - 1):=by
 induction n with
 |zero=>rfl
 |succ n ih=>
  rw [c2,Nat.mul_add,ih,Nat.add_sub_cancel]
  cases n with
  |zero=>rfl
  |succ n=>rw [Nat.add_sub_cancel,Nat.mul_comm (n+1) n, ←Nat.add_mul]
section
variable (b:Nat→Nat→Bool)
def y4a (n:Nat):Prop:=(∀ i,i<n→b i i=false)∧∀ i k,i<n→k<n→i≠k→b i k=!b k i
end
variable {b:Nat→Nat→Bool} {N:Nat}
end Go.Am.T11
end
section
namespace Go.Am.T11
variable {b:Nat→Nat→Bool} {N n:Nat}
theorem x8g (h:y4a b N) (k:Nat) (hk:k≤N):sm k (fun q=>cnt k (b q))=c2 k:=by
 induction k with
 |zero=>rfl
 |succ k ih=>
  rw [z27,c2]
  simp only [y18]
  rw [y7z,ih (by omega),h.1 k (by omega)]
  have:sm k (fun i=>o1 (b i k))+cnt k (b k)=k:=by
   have:=y6r k (b k)
   have e:sm k (fun i=>o1 (b i k))=cnt k fun i=>!b k i:=z4f fun i hi=>by rw [h.2 i k (by omega) (by omega) (by omega)]
   rw [e]; omega
  simp only [o1,cond_false] at this⊢
  omega
theorem z5m (k m:Nat) (p:Nat→Bool):cnt (k+m) p=cnt k p+cnt m fun j=>p (k+j):=x0z k m _
def cut (b:Nat→Nat→Bool) (n k:Nat):Prop:=sm k (fun q=>cnt n (b q))=c2 k+k*(n - k)
instance (b:Nat→Nat→Bool) (n k:Nat):Decidable (cut b n k):=by unfold cut; infer_instance
theorem x15 (b:Nat→Nat→Bool) (n:Nat):cut b n 0:=by simp [cut,sm,c2]
theorem y6o (h:y4a b n) {k:Nat} (hk:k≤n):cut b n k↔∀ q r,q<k→k≤r→r<n→b q r=true:=by
 have e:sm k (fun q=>cnt n (b q))=c2 k+sm k (fun q=>cnt (n - k) fun j=>b q (k+j)):=by
  rw [←x8g h k hk, ←y7z]
  refine z4f fun q hq=>?_
  rw [←z5m]; congr 1; omega
 rw [cut,e]
 have e2:k*(n - k)=sm k (fun _=>n - k):=(z8c _ _).symm
 rw [e2]
 constructor
 ·intro he q r hq hr hrn
  have:=y1x (n:=k) (f:=fun q=>cnt (n - k) fun j=>b q (k+j)) (g:=fun _=>n - k) (fun i _=>y80 _ _) (by omega) q hq
  have:=w0h this (r - k) (by omega)
  rwa [show k+(r - k)=r by omega] at this
 ·intro hall
  congr 1
  refine z4f fun q hq=>?_
  have:cnt (n - k) (fun j=>b q (k+j))=cnt (n - k) (fun _=>true):=z3d fun j hj=>hall q (k+j) hq (by omega) (by omega)
  rw [this,y17]
theorem w4e (h:y4a b n):cut b n n:=(y6o h (Nat.le_refl _)).2 fun q r _ h1 h2=>by omega
theorem x28 (S:Nat→Bool) (n:Nat) (h:∀ q r,q<n→r<q→S q=true→S r=true):∀ q,q<n→S q=decide (q<cnt n S):=by
 induction n with
 |zero=>intro q hq; omega
 |succ n ih=>
  intro q hq
  have ih':=ih fun q r hq=>h q r (by omega)
  rw [y18]
  cases hn:S n with
  |true=>
   have hall:∀ i,i<n→S i=true:=fun i hi=>h n i (by omega) hi hn
   have hc:cnt n S=n:=by
    rw [z3d (q:=fun _=>true) hall,y17]
   rw [hc]
   simp only [o1,cond_true]
   by_cases e:q=n
   ·subst e; simp [hn]
   ·rw [hall q (by omega)]; exact (decide_eq_true (by omega)).symm
  |false=>
   simp only [o1,cond_false,Nat.add_zero]
   by_cases e:q=n
   ·subst e
    have:=y80 q S
    rw [hn]; exact (decide_eq_false (by omega)).symm
   ·exact ih' q (by omega)
theorem x3w (h:y4a b n) (hw:∀ q r,q≤r→r<n→cnt n (b r)≤cnt n (b q)) (S:Nat→Bool)
  (hd:∀ q r,q<n→r<n→S q=true→S r=false→b q r=true):(∀ q,q<n→S q=decide (q<cnt n S))∧cut b n (cnt n S):=by
 have hin:∀ q,q<n→S q=true→cnt n (fun i=>!S i)≤cnt n (b q):=fun q hq hs=>y0c fun i hi hi'=>hd q i hq hi hs (by simpa using hi')
 have hout:∀ r,r<n→S r=false→cnt n (b r)+1≤cnt n (fun i=>!S i):=by
  intro r hr hs
  have h1:cnt n (fun i=>b r i||decide (i=r))≤cnt n (fun i=>!S i):=y0c fun i hi hi'=>by
   by_cases e:i=r
   ·subst e; simp [hs]
   ·cases hS:S i with
    |false=>rfl
    |true=>
     have:=hd i r hi hr hS hs
     have h2:=h.2 r i hr hi (Ne.symm e)
     rw [this] at h2
     simp [e,h2] at hi'
  have h2:cnt n (fun i=>b r i||decide (i=r))=cnt n (b r)+cnt n (fun i=>decide (i=r)):=by
   rw [cnt,cnt,cnt, ←y7z]
   refine z4f fun i hi=>?_
   by_cases e:i=r
   ·subst e; simp [h.1 i hi,o1]
   ·simp [e,o1]
  have:=y6q (n:=n) (p:=fun i=>decide (i=r)) hr (by simp)
  omega
 have hp:=x28 S n fun q r hq hr hs=>by
  cases hS:S r with
  |true=>rfl
  |false=>
   have h1:=hin q hq hs
   have h2:=hout r (by omega) hS
   have h3:=hw r q (by omega) hq
   omega
 refine ⟨hp,(y6o h (y80 _ _)).2 fun q r hq hr hrn=>hd q r (by omega) hrn ?_ ?_⟩
 ·rw [hp q (by omega)]; simpa using hq
 ·rw [hp r hrn]; simp; omega
def y0h (b:Nat→Nat→Bool) (n:Nat) (R:Nat→Bool):Prop:=∀ i k,i<n→k<n→R i=true→b i k=true→R k=true
def Rch (b:Nat→Nat→Bool) (n i:Nat) (R:Nat→Bool):Prop:=R i=true∧y0h b n R∧∀ C,y0h b n C→C i=true→∀ k,k<n→R k=true→C k=true
theorem x8w (h:y4a b n) (hw:∀ q r,q≤r→r<n→cnt n (b r)≤cnt n (b q)) {p:Nat} (hp:p<n) {R:Nat→Bool} (hR:Rch b n p R):
  ∃ m,m≤p∧cut b n m∧cnt n R=n - m∧(∀ q,q<n→R q=decide (m≤q))∧∀ k,k≤p→cut b n k→k≤m:=by
 obtain ⟨h1,h2,h3⟩:=hR
 obtain ⟨e1,e2⟩:=x3w h hw (fun i=>!R i) fun q r hq hr hs hs'=>by
  have hRr:R r=true:=by simpa using hs'
  have hRq:R q=false:=by simpa using hs
  have hne:q≠r:=by rintro rfl; rw [hRq] at hRr; cases hRr
  rw [h.2 q r hq hr hne]
  cases hb:b r q with
  |false=>rfl
  |true=>
   have:=h2 r q hr hq hRr hb
   rw [hRq] at this; cases this
 have hc:=y6r n R
 refine ⟨cnt n (fun i=>!R i),?_,e2,by omega,fun q hq=>?_,fun k hk hcut=>?_⟩
 ·have:=e1 p hp
  rw [h1] at this
  simp at this
  exact this
 ·have:=e1 q hq
  cases hRq:R q with
  |true=>rw [hRq] at this; simp at this; exact (decide_eq_true this).symm
  |false=>rw [hRq] at this; simp at this; exact (decide_eq_false (by omega)).symm
 ·have hcl:y0h b n (fun q=>decide (k≤q)):=fun i j hi hj hik hb=>by
   simp only [decide_eq_true_eq] at hik⊢
   refine Nat.le_of_not_lt fun hlt=>?_
   have h4:=(y6o h (by omega)).1 hcut j i hlt hik hi
   have h5:=h.2 i j hi hj (by omega)
   rw [hb,h4] at h5; cases h5
  have h6:=h3 _ hcl (by simpa using hk)
  have h7:cnt n R≤cnt n (fun q=>decide (k≤q)):=y0c h6
  have h8:cnt n (fun q=>decide (k≤q))=n - k:=by
   have e:n=k+(n - k):=by omega
   have:=z5m k (n - k) (fun q=>decide (k≤q))
   rw [←e] at this
   rw [this,z3d (n:=k) (q:=fun _=>false) fun i hi=>by simp; omega,z71,z3d (n:=n - k) (q:=fun _=>true) fun i hi=>by simp,y17]
   omega
  omega
def at_ (s:List Nat) (q:Nat):Nat:=s.getD q 0
theorem x45 (l:List Nat) (f:Nat→Nat):sm l.length (fun q=>f (at_ l q))=(l.map f).sum:=by
 induction l with
 |nil=>rfl
 |cons a l ih=>
  rw [List.length_cons,Nat.add_comm,x0z,List.map_cons,List.sum_cons, ←ih]
  congr 1
  ·simp [sm,at_]
  ·refine z4f fun i hi=>?_
   simp [at_,Nat.add_comm 1 i]
theorem x8n (n:Nat) (f:Nat→Nat):sm n f=((List.range n).map f).sum:=by
 have:=x45 (List.range n) f
 rw [List.length_range] at this
 rw [←this]
 refine z4f fun i hi=>?_
 rw [at_,List.getD_eq_getElem?_getD,List.getElem?_range hi]; rfl
def y4b (n:Nat) (s:List Nat):Prop:=s.Perm (List.range n)
variable {s:List Nat}
theorem y4b.len (h:y4b n s):s.length=n:=by rw [h.length_eq,List.length_range]
theorem y4b.sum (h:y4b n s) (f:Nat→Nat):sm n (fun q=>f (at_ s q))=sm n f:=by
 have:=x45 s f
 rw [h.len] at this
 rw [this,x8n]
 exact (h.map f).sum_nat
theorem y4b.count (h:y4b n s) (p:Nat→Bool):cnt n (fun q=>p (at_ s q))=cnt n p:=h.sum fun i=>o1 (p i)
theorem y4b.get (h:y4b n s) {q:Nat} (hq:q<n):s[q]?=some (at_ s q):=by
 rw [at_,List.getD_eq_getElem?_getD,List.getElem?_eq_getElem (by rw [h.len]; exact hq)]; rfl
theorem y4b.lt (h:y4b n s) {q:Nat} (hq:q<n):at_ s q<n:=List.mem_range.1 (h.mem_iff.1 (List.mem_of_getElem? (h.get hq)))
theorem y4b.nodup (h:y4b n s):s.Nodup:=h.nodup_iff.2 List.nodup_range
theorem y4b.inj (h:y4b n s) {q r:Nat} (hq:q<n) (hr:r<n) (he:at_ s q=at_ s r):q=r:=by
 have h1:=h.get hq
 have h2:=h.get hr
 rw [←he] at h2
 exact (List.getElem?_inj (by rw [h.len]; exact hq) h.nodup).1 (h1.trans h2.symm)
theorem y4b.ex (h:y4b n s) {i:Nat} (hi:i<n):∃ q,q<n∧at_ s q=i:=by
 have:=h.mem_iff.2 (List.mem_range.2 hi)
 obtain ⟨q,hq⟩:=List.getElem?_of_mem this
 have hl:q<n:=by rw [←h.len]; exact (List.getElem?_eq_some_iff.1 hq).1
 refine ⟨q,hl,?_⟩
 have:=h.get hl
 rw [hq] at this; cases this; rfl
def byR (b:Nat→Nat→Bool) (s:List Nat) (q r:Nat):Bool:=b (at_ s q) (at_ s r)
theorem y6z (h:y4a b n) (hs:y4b n s):y4a (byR b s) n:=
 ⟨fun i hi=>h.1 _ (hs.lt hi),fun i k hi hk hne=>h.2 _ _ (hs.lt hi) (hs.lt hk) fun e=>hne (hs.inj hi hk e)⟩
theorem y60 (hs:y4b n s) (q:Nat):cnt n (byR b s q)=cnt n (b (at_ s q)):=hs.count (b (at_ s q))
theorem x5j (hs:y4b n s) {p:Nat} (hp:p<n) {R:Nat→Bool} (hR:Rch b n (at_ s p) R):Rch (byR b s) n p (fun q=>R (at_ s q)):=by
 obtain ⟨h1,h2,h3⟩:=hR
 refine ⟨h1,fun i k hi hk hRi hb=>h2 _ _ (hs.lt hi) (hs.lt hk) hRi hb,fun C hC hCp k hk hRk=>?_⟩
 have key:=h3 (fun i=>decide (∃ q∈List.range n,at_ s q=i∧C q=true)) (fun i k hi hk hCi hb=>by
  simp only [decide_eq_true_eq] at hCi⊢
  obtain ⟨q,hq,rfl,hCq⟩:=hCi
  obtain ⟨r,hr,rfl⟩:=hs.ex hk
  exact ⟨r,List.mem_range.2 hr,rfl,hC q r (List.mem_range.1 hq) hr hCq hb⟩) (by
  simp only [decide_eq_true_eq]
  exact ⟨p,List.mem_range.2 hp,rfl,hCp⟩) (at_ s k) (hs.lt hk) hRk
 simp only [decide_eq_true_eq] at key
 obtain ⟨q,hq,he,hCq⟩:=key
 rw [←hs.inj (List.mem_range.1 hq) hk he]; exact hCq
def x76 (b:Nat→Nat→Bool) (n:Nat) (s:List Nat):Prop:=y4b n s∧∀ q r,q≤r→r<n→cnt n (b (at_ s r))≤cnt n (b (at_ s q))
theorem x26 (h:y4a b n) (hs:x76 b n s) {p:Nat} (hp:p<n) {R:Nat→Bool} (hR:Rch b n (at_ s p) R):
  ∃ m,m≤p∧cut (byR b s) n m∧cnt n R=n - m∧(∀ q,q<n→R (at_ s q)=decide (m≤q))∧∀ k,k≤p→cut (byR b s) n k→k≤m:=by
 obtain ⟨m,h1,h2,h3,h4,h5⟩:=x8w (y6z h hs.1) (fun q r hq hr=>by rw [y60 hs.1,y60 hs.1]; exact hs.2 q r hq hr) hp (x5j hs.1 hp hR)
 refine ⟨m,h1,h2,?_,h4,h5⟩
 rw [←hs.1.count R]; exact h3
theorem w1a {l l':List Nat} (h:l.Pairwise (· < ·)) (h':l'.Pairwise (· < ·)) (he:∀ x,x∈l↔x∈l'):l=l':=by
 induction l generalizing l' with
 |nil=>cases l' with
  |nil=>rfl
  |cons a l'=>exact absurd ((he a).2 (List.mem_cons_self ..)) (by simp)
 |cons a l ih=>cases l' with
  |nil=>exact absurd ((he a).1 (List.mem_cons_self ..)) (by simp)
  |cons a' l'=>
   rw [List.pairwise_cons] at h h'
   have e:a=a':=by
    have h1:=(he a).1 (List.mem_cons_self ..)
    have h2:=(he a').2 (List.mem_cons_self ..)
    rcases List.mem_cons.1 h1 with h1|h1
    ·exact h1
    ·rcases List.mem_cons.1 h2 with h2|h2
     ·exact h2.symm
     ·have:=h.1 _ h2; have:=h'.1 _ h1; omega
   subst e
   rw [ih h.2 h'.2 fun x=>?_]
   have:=he x
   simp only [List.mem_cons] at this
   constructor
   ·intro hx
    rcases this.1 (.inr hx) with rfl|h1
    ·have:=h.1 _ hx; omega
    ·exact h1
   ·intro hx
    rcases this.2 (.inr hx) with rfl|h1
    ·have:=h'.1 _ hx; omega
    ·exact h1
def lG (rc:Nat→Nat) (n j:Nat):List Nat:=(List.range n).filter fun i=>rc i==n - j
def RG (rc:Nat→Nat) (n:Nat):Nat→List (List Nat)
 |0=>[]
 |j+1=>bif (lG rc n j).isEmpty then RG rc n j else RG rc n j++[lG rc n j]
theorem v1l (rc:Nat→Nat) (n j:Nat):(lG rc n j).Pairwise (· < ·):=List.Pairwise.filter _ List.pairwise_lt_range
theorem x1s {rc:Nat→Nat} {j i:Nat}:i∈lG rc n j↔i<n∧rc i=n - j:=by simp [lG]
def RC (b:Nat→Nat→Bool) (n:Nat) (rc:Nat→Nat):Prop:=∀ i,i<n→∃ R,Rch b n i R∧rc i=cnt n R
variable {rc:Nat→Nat}
theorem y2y (h:y4a b n) (hs:x76 b n s) (hrc:RC b n rc) {p:Nat} (hp:p<n):
  ∃ m,m≤p∧cut (byR b s) n m∧rc (at_ s p)=n - m∧∀ k,k≤p→cut (byR b s) n k→k≤m:=by
 obtain ⟨R,h1,h2⟩:=hrc _ (hs.1.lt hp)
 obtain ⟨m,h3,h4,h5,_,h6⟩:=x26 h hs hp h1
 exact ⟨m,h3,h4,h2.trans h5,h6⟩
theorem w3j (h:y4a b n) (hs:x76 b n s) (hrc:RC b n rc) {j:Nat} (hj:j<n) (hc:¬ cut (byR b s) n j):lG rc n j=[]:=by
 refine List.eq_nil_iff_forall_not_mem.2 fun i hi=>?_
 obtain ⟨h1,h2⟩:=x1s.1 hi
 obtain ⟨p,hp,rfl⟩:=hs.1.ex h1
 obtain ⟨m,h3,h4,h5,_⟩:=y2y h hs hrc hp
 have:m=j:=by omega
 subst this; exact hc h4
theorem w1f (h:y4a b n) (hs:x76 b n s) (hrc:RC b n rc) {j k:Nat} (hj:j<k) (hk:k≤n) (hc:cut (byR b s) n j) (hck:cut (byR b s) n k)
  (hno:∀ m,j<m→m<k→¬ cut (byR b s) n m) (i:Nat):i∈lG rc n j↔i∈(s.drop j).take (k - j):=by
 have hmem:i∈(s.drop j).take (k - j)↔∃ q,j≤q∧q<k∧at_ s q=i:=by
  constructor
  ·intro hi
   obtain ⟨q,hq⟩:=List.getElem?_of_mem hi
   have hlt:q<k - j:=by
    have:=(List.getElem?_eq_some_iff.1 hq).1
    rw [List.length_take] at this; omega
   rw [List.getElem?_take_of_lt hlt,List.getElem?_drop,hs.1.get (by omega)] at hq
   cases hq
   exact ⟨j+q,by omega,by omega,rfl⟩
  ·rintro ⟨q,h1,h2,rfl⟩
   refine List.mem_of_getElem? (i:=q - j) ?_
   rw [List.getElem?_take_of_lt (by omega),List.getElem?_drop,show j+(q - j)=q by omega,hs.1.get (by omega)]
 rw [hmem,x1s]
 constructor
 ·rintro ⟨h1,h2⟩
  obtain ⟨p,hp,rfl⟩:=hs.1.ex h1
  obtain ⟨m,h3,h4,h5,h6⟩:=y2y h hs hrc hp
  have:m=j:=by omega
  subst this
  refine ⟨p,h3,Nat.lt_of_not_le fun hge=>?_,rfl⟩
  have:=h6 k hge hck
  omega
 ·rintro ⟨q,h1,h2,rfl⟩
  refine ⟨hs.1.lt (by omega),?_⟩
  obtain ⟨m,h3,h4,h5,h6⟩:=y2y h hs hrc (p:=q) (by omega)
  have h7:=h6 j h1 hc
  have:m=j:=by
   refine Nat.le_antisymm (Nat.le_of_not_lt fun hlt=>hno m hlt (by omega) h4) h7
  rw [h5,this]
theorem w48 (h:y4a b n) (hs:x76 b n s) (hrc:RC b n rc) {j k:Nat} (hj:j≤k) (hk:k≤n) (hno:∀ m,j≤m→m<k→¬ cut (byR b s) n m):RG rc n k=RG rc n j:=by
 induction k with
 |zero=>rw [show j=0 by omega]
 |succ k ih=>
  by_cases e:j=k+1
  ·rw [e]
  ·rw [RG,w3j h hs hrc (by omega) (hno k (by omega) (by omega))]
   exact ih (by omega) (by omega) fun m h1 h2=>hno m h1 (by omega)
theorem w8r (h:y4a b n) (hs:x76 b n s) (hrc:RC b n rc) {j k:Nat} (hj:j<k) (hk:k≤n) (hc:cut (byR b s) n j) (hck:cut (byR b s) n k)
  (hno:∀ m,j<m→m<k→¬ cut (byR b s) n m):RG rc n k=RG rc n j++[lG rc n j]:=by
 rw [w48 h hs hrc (j:=j+1) (by omega) hk fun m h1 h2=>hno m (by omega) h2,RG]
 have:(lG rc n j).isEmpty=false:=by
  rw [List.isEmpty_eq_false_iff]
  intro e
  have:=(w1f h hs hrc hj hk hc hck hno (at_ s j)).2 (by
   refine List.mem_of_getElem? (i:=0) ?_
   rw [List.getElem?_take_of_lt (by omega),List.getElem?_drop,Nat.add_zero,hs.1.get (by omega)])
  rw [e] at this; cases this
 rw [this]; rfl
end Go.Am.T11
end
section
namespace Go.Am.T11
def Lan (L:List Int):Prop:=(∀ T:List Int,T.Sublist L→(c2 T.length:Int)≤T.sum)∧L.sum=c2 L.length
theorem y5o {L L':List Int} (h:L.Perm L'):L.sum=L'.sum:=by
 induction h with
 |nil=>rfl
 |cons a _ ih=>simp [ih]
 |swap a b l=>simp; omega
 |trans _ _ h1 h2=>exact h1.trans h2
theorem Lan.perm {L L':List Int} (h:Lan L) (hp:L.Perm L'):Lan L':=by
 refine ⟨fun T hT=>?_,?_⟩
 ·obtain ⟨T',h1,h2⟩:=List.exists_perm_sublist hT hp.symm
  have:=h.1 T' h2
  rw [h1.length_eq,y5o h1] at this
  exact this
 ·rw [←y5o hp,h.2,hp.length_eq]
theorem x81 {T K:List Int} (h:T.Sublist K) (hne:T≠K):∃ (y:Int) (K1:List Int),y∈K∧K1.Sublist K∧K1.Perm (y::T):=by
 induction h with
 |slnil=>exact absurd rfl hne
 |cons a hs ih=>exact ⟨a,a::_,List.mem_cons_self .., .cons_cons a hs, .refl _⟩
 |cons_cons a hs ih=>
  obtain ⟨y,K1,h1,h2,h3⟩:=ih fun e=>hne (by rw [e])
  exact ⟨y,a::K1,List.mem_cons_of_mem _ h1, .cons_cons a h2,(h3.cons a).trans (.swap _ _ _)⟩
theorem x4u (L:List Int):(L.map (· - 1)).sum=L.sum - L.length:=by
 induction L with
 |nil=>rfl
 |cons a L ih=>simp [ih]; omega
theorem Lan.step {v:Int} {L:List Int} (h:Lan (v::L)) (hs:L.Pairwise (· ≤ ·)):
  0≤v∧v≤L.length∧Lan (L.take v.toNat++(L.drop v.toNat).map (· - 1)):=by
 have h0:0≤v:=by
  have:=h.1 [v] (.cons_cons v (List.nil_sublist _))
  simpa [c2] using this
 have htot:=h.2
 rw [List.sum_cons,List.length_cons,c2] at htot
 have h1:v≤L.length:=by
  have:=h.1 L (.cons v (List.Sublist.refl _))
  omega
 refine ⟨h0,h1,?_,?_⟩
 ·intro T hT
  obtain ⟨T1,T2',rfl,hT1,hT2'⟩:=List.sublist_append_iff.1 hT
  obtain ⟨T2,hT2,rfl⟩:=List.sublist_map_iff.1 hT2'
  rw [List.length_append,List.length_map,List.sum_append,x4u]
  have hKD:∀ y∈L.take v.toNat,∀ z∈L.drop v.toNat,y≤z:=by
   intro y hy z hz
   have:=hs
   rw [←List.take_append_drop v.toNat L,List.pairwise_append] at this
   exact this.2.2 y hy z hz
  have hKl:(L.take v.toNat).length=v.toNat:=by rw [List.length_take]; omega
  have hDl:(L.drop v.toNat).length=L.length - v.toNat:=List.length_drop ..
  have hall:∀ T1 T2:List Int,T1.Sublist (L.take v.toNat)→T2.Sublist (L.drop v.toNat)→(T1++T2).Sublist L:=fun T1 T2 a b=>by
   have:=a.append b
   rwa [List.take_append_drop] at this
  have key:∀ m:Nat,∀ T1 T2:List Int,T1.Sublist (L.take v.toNat)→T2.Sublist (L.drop v.toNat)→
    (T1.sum+T2.sum - T2.length - c2 (T1.length+T2.length)+L.length).toNat*(L.length+1)+(T1.length+T2.length)≤m→
    (c2 (T1.length+T2.length):Int)≤T1.sum+(T2.sum - T2.length):=by
   intro m
   induction m with
   |zero=>
    intro T1 T2 a b hm
    have e1:T1.length+T2.length=0:=by omega
    have e2:T1=[]:=List.length_eq_zero_iff.1 (by omega)
    have e3:T2=[]:=List.length_eq_zero_iff.1 (by omega)
    subst e2 e3; simp [c2]
   |succ m ih=>
    intro T1 T2 a b hm
    have hsub:=h.1 (T1++T2) (.cons v (hall T1 T2 a b))
    rw [List.length_append,List.sum_append] at hsub
    have hl1:=a.length_le
    have hl2:=b.length_le
    refine Int.not_lt.1 fun hneg=>?_
    match T2,b with
    |[],_=>simp at hneg hsub; omega
    |z::T2,b=>
     rw [List.length_cons,List.sum_cons] at*
     have hz:z∈L.drop v.toNat:=b.subset (List.mem_cons_self ..)
     by_cases hK:T1=L.take v.toNat
     ·have:=h.1 (v::(T1++(z::T2))) (.cons_cons v (hall T1 (z::T2) a b))
      rw [List.length_cons,List.sum_cons,List.length_append,List.sum_append,c2,List.length_cons,List.sum_cons] at this
      have hTl:T1.length=v.toNat:=by rw [hK,hKl]
      push_cast at*
      omega
     ·obtain ⟨y,K1,hy,hK1,hp⟩:=x81 a hK
      have hyz:=hKD y hy z hz
      have hv1:=List.length_pos_of_mem hy
      rw [hKl] at hv1
      rw [hDl] at hl2
      have hKl1:=hp.length_eq
      have hKs:=y5o hp
      rw [List.length_cons] at hKl1
      rw [List.sum_cons] at hKs
      by_cases hyk:y<(T1.length+(T2.length+1):Nat)
      ·have:=ih K1 (z::T2) hK1 b (by
        rw [List.length_cons,List.sum_cons,hKl1,hKs,show T1.length+1+(T2.length+1)=T1.length+(T2.length+1)+1 by omega,c2]
        generalize c2 (T1.length+(T2.length+1))=C at*
        have hd:(y+T1.sum+(z+T2.sum) - ((T2.length+1:Nat):Int) - ((C+(T1.length+(T2.length+1)):Nat):Int)+(L.length:Int)).toNat+1≤
          (T1.sum+(z+T2.sum) - ((T2.length+1:Nat):Int) - (C:Int)+(L.length:Int)).toNat:=by omega
        have hmul:=Nat.mul_le_mul_right (L.length+1) hd
        rw [Nat.add_mul,Nat.one_mul] at hmul
        have:0<L.length:=by
         have:=List.length_pos_of_mem hz
         omega
        omega)
       rw [List.length_cons,List.sum_cons,hKl1,hKs,show T1.length+1+(T2.length+1)=T1.length+(T2.length+1)+1 by omega,c2] at this
       push_cast at*
       omega
      ·have b':T2.Sublist (L.drop v.toNat):=(List.sublist_cons_self z T2).trans b
       have e1:T1.length+(T2.length+1)=T1.length+T2.length+1:=by omega
       have hc2:c2 (T1.length+(T2.length+1))=c2 (T1.length+T2.length)+(T1.length+T2.length):=by rw [e1,c2]
       rw [hc2] at hneg hm hsub
       have hsub':=h.1 (T1++T2) (.cons v (hall T1 T2 a b'))
       rw [List.length_append,List.sum_append] at hsub'
       have:=ih T1 T2 a b' (by
        generalize c2 (T1.length+T2.length)=C at*
        have hd:(T1.sum+T2.sum - ((T2.length:Nat):Int) - (C:Int)+(L.length:Int)).toNat≤
          (T1.sum+(z+T2.sum) - ((T2.length+1:Nat):Int) - ((C+(T1.length+T2.length):Nat):Int)+(L.length:Int)).toNat:=by omega
        have hmul:=Nat.mul_le_mul_right (L.length+1) hd
        omega)
       push_cast at*
       omega
  exact key _ T1 T2 hT1 hT2 (Nat.le_refl _)
 ·have hl:(L.take v.toNat++(L.drop v.toNat).map (· - 1)).length=L.length:=by
   rw [List.length_append,List.length_map, ←List.length_append,List.take_append_drop]
  have hsum:(L.take v.toNat).sum+(L.drop v.toNat).sum=L.sum:=by
   rw [←List.sum_append,List.take_append_drop]
  rw [hl,List.sum_append,x4u,List.length_drop]
  push_cast at*
  omega
def w09 (n k:Nat) (sum:Int):Prop:=sum<c2 k∨k=n∧sum≠c2 k
instance (n k:Nat) (sum:Int):Decidable (w09 n k sum):=by unfold w09; infer_instance
end Go.Am.T11
end
section
namespace Go.Am.T11
def gI (l:List Int) (q:Nat):Int:=l.getD q 0
def sw (l:List Int) (j:Nat):List Int:=(l.set (j+1) (gI l j)).set j (gI l (j+1))
def y6g (κ:Int→Int):Nat→List Int→List Int
 |0,l=>l
 |j+1,l=>if κ (gI l (j+1))<κ (gI l j) then y6g κ j (sw l j) else l
def x1u (κ:Int→Int):Nat→Nat→List Int→List Int
 |0,_,l=>l
 |k+1,i,l=>x1u κ k (i+1) (y6g κ i l)
def z33 (κ:Int→Int) (l:List Int):List Int:=x1u κ (l.length - 1) 1 l
theorem z7k (l:List Int) (j:Nat):(sw l j).length=l.length:=by simp [sw]
theorem x3r {l:List Int} {j:Nat} (hj:j+1<l.length) (q:Nat):gI (sw l j) q=if q=j then gI l (j+1) else if q=j+1 then gI l j else gI l q:=by
 have e:gI (sw l j) q=((sw l j)[q]?).getD 0:=by rw [gI,List.getD_eq_getElem?_getD]
 rw [e,sw,List.getElem?_set,List.getElem?_set,List.length_set]
 by_cases h1:q=j
 ·subst h1; rw [if_pos rfl,if_pos (by omega),if_pos rfl]; rfl
 ·by_cases h2:q=j+1
  ·subst h2; rw [if_neg (by omega),if_pos rfl,if_pos hj,if_neg h1,if_pos rfl]; rfl
  ·rw [if_neg (by omega),if_neg (by omega),if_neg h1,if_neg h2,gI,List.getD_eq_getElem?_getD]
theorem y8l {l l':List Int} (hl:l.length=l'.length) (h:∀ q,q<l.length→gI l q=gI l' q):l=l':=by
 apply List.ext_getElem hl
 intro i h1 h2
 have:=h i h1
 simpa [gI,List.getD_eq_getElem?_getD,h1,h2] using this
theorem w2d {l:List Int} {j:Nat} (hj:j+1<l.length):(sw l j).Perm l:=by
 have e:l=l.take j++(gI l j::gI l (j+1)::l.drop (j+2)):=by
  conv=>lhs; rw [←List.take_append_drop j l]
  congr 1
  rw [List.drop_eq_getElem_cons (by omega),List.drop_eq_getElem_cons (by omega)]
  simp [gI,List.getD_eq_getElem?_getD,show j<l.length by omega,hj]
 have e2:sw l j=l.take j++(gI l (j+1)::gI l j::l.drop (j+2)):=by
  apply y8l
  ·simp only [z7k,List.length_append,List.length_take,List.length_cons,List.length_drop]; omega
  ·intro q hq
   rw [z7k] at hq
   rw [x3r hj]
   have hlt:(l.take j).length=j:=by rw [List.length_take]; omega
   have hR:gI (l.take j++(gI l (j+1)::gI l j::l.drop (j+2))) q=((l.take j++(gI l (j+1)::gI l j::l.drop (j+2)))[q]?).getD 0:=by rw [gI,List.getD_eq_getElem?_getD]
   rw [hR,List.getElem?_append,hlt]
   by_cases h1:q<j
   ·rw [if_neg (by omega),if_neg (by omega),if_pos h1,List.getElem?_take_of_lt h1,gI,List.getD_eq_getElem?_getD]
   ·rw [if_neg h1]
    by_cases h2:q=j
    ·subst h2; rw [if_pos rfl,Nat.sub_self]; rfl
    ·by_cases h3:q=j+1
     ·subst h3; rw [if_neg h2,if_pos rfl,show j+1 - j=1 by omega]; rfl
     ·rw [if_neg h2,if_neg h3]
      obtain ⟨m,rfl⟩:∃ m,q=j+2+m:=⟨q - (j+2),by omega⟩
      rw [show j+2+m - j=m+2 by omega,List.getElem?_cons_succ,List.getElem?_cons_succ,List.getElem?_drop,gI,List.getD_eq_getElem?_getD]
 rw [e2]
 conv=>rhs; rw [e]
 exact List.Perm.append_left _ (.swap _ _ _)
theorem z96 (κ:Int→Int) (j:Nat) (l:List Int):(y6g κ j l).length=l.length:=by
 induction j generalizing l with
 |zero=>rfl
 |succ j ih=>
  rw [y6g]
  split
  ·rw [ih,z7k]
  ·rfl
theorem x9j (κ:Int→Int) (k i:Nat) (l:List Int):(x1u κ k i l).length=l.length:=by
 induction k generalizing i l with
 |zero=>rfl
 |succ k ih=>rw [x1u,ih,z96]
theorem x55 (κ:Int→Int) (j:Nat) (l:List Int) (hj:j<l.length):(y6g κ j l).Perm l:=by
 induction j generalizing l with
 |zero=>exact .refl _
 |succ j ih=>
  rw [y6g]
  split
  ·exact (ih _ (by rw [z7k]; omega)).trans (w2d hj)
  ·exact .refl _
theorem x54 (κ:Int→Int) (k i:Nat) (l:List Int) (h:i+k≤l.length):(x1u κ k i l).Perm l:=by
 induction k generalizing i l with
 |zero=>exact .refl _
 |succ k ih=>
  rw [x1u]
  exact (ih _ _ (by rw [z96]; omega)).trans (x55 κ i l (by omega))
def w2t (κ:Int→Int) (l:List Int) (i:Nat):Prop:=∀ p q,p<q→q≤i→κ (gI l p)≤κ (gI l q)
theorem x9k (κ:Int→Int) (i j:Nat) (l:List Int) (hj:j≤i) (hi:i<l.length)
  (h1:∀ p q,p<q→q≤i→p≠j→q≠j→κ (gI l p)≤κ (gI l q)) (h2:∀ q,j<q→q≤i→κ (gI l j)≤κ (gI l q)):w2t κ (y6g κ j l) i:=by
 induction j generalizing l with
 |zero=>
  intro p q hpq hq
  by_cases hp:p=0
  ·subst hp; exact h2 q hpq hq
  ·exact h1 p q hpq hq hp (by omega)
 |succ j ih=>
  rw [y6g]
  split
  ·rename_i hlt
   refine ih _ (by omega) (by rw [z7k]; exact hi) (fun p q hpq hq hp hqj=>?_) (fun q hjq hq=>?_)
   ·rw [x3r (by omega),x3r (by omega),if_neg hp,if_neg hqj]
    by_cases e:p=j+1
    ·rw [if_pos e,if_neg (by omega)]
     exact h1 j q (by omega) hq (by omega) (by omega)
    ·rw [if_neg e]
     by_cases e2:q=j+1
     ·rw [if_pos e2]
      exact h1 p j (by omega) (by omega) e (by omega)
     ·rw [if_neg e2]
      exact h1 p q hpq hq e e2
   ·rw [x3r (by omega),x3r (by omega),if_pos rfl,if_neg (by omega)]
    by_cases e2:q=j+1
    ·rw [if_pos e2]; omega
    ·rw [if_neg e2]; exact h2 q (by omega) hq
  ·rename_i hge
   intro p q hpq hq
   by_cases e:q=j+1
   ·subst e
    by_cases e2:p=j
    ·subst e2; omega
    ·have:=h1 p j (by omega) (by omega) (by omega) (by omega)
     omega
   ·by_cases e2:p=j+1
    ·subst e2; exact h2 q hpq hq
    ·exact h1 p q hpq hq e2 e
theorem x9i (κ:Int→Int) (k i:Nat) (l:List Int) (hi:1≤i) (h:i+k≤l.length) (ho:w2t κ l (i - 1)):w2t κ (x1u κ k i l) (i+k - 1):=by
 induction k generalizing i l with
 |zero=>exact ho
 |succ k ih=>
  rw [x1u]
  have:=ih (i+1) (y6g κ i l) (by omega) (by rw [z96]; omega) (by
   rw [Nat.add_sub_cancel]
   exact x9k κ i i l (Nat.le_refl _) (by omega) (fun p q hpq hq hp hqi=>ho p q hpq (by omega)) (fun q h1 h2=>by omega))
  rwa [show i+1+k - 1=i+(k+1) - 1 by omega] at this
theorem z7l (κ:Int→Int) (l:List Int):(z33 κ l).length=l.length:=x9j ..
theorem z8b (κ:Int→Int) (l:List Int):(z33 κ l).Perm l:=by
 cases hl:l.length with
 |zero=>
  have:l=[]:=List.length_eq_zero_iff.1 hl
  subst this; exact .refl _
 |succ n=>exact x54 κ _ _ _ (by omega)
theorem y7y (κ:Int→Int) (l:List Int):∀ p q,p≤q→q<l.length→κ (gI (z33 κ l) p)≤κ (gI (z33 κ l) q):=by
 intro p q hpq hq
 by_cases e:p=q
 ·subst e; exact Int.le_refl _
 ·exact x9i κ (l.length - 1) 1 l (Nat.le_refl _) (by omega) (fun p q h1 h2=>by omega) p q (by omega) (by omega)
theorem x0y (κ:Int→Int) (l:List Int):(z33 κ l).Pairwise fun a b=>κ a≤κ b:=by
 rw [List.pairwise_iff_getElem]
 intro i j hi hj hij
 have:=y7y κ l i j (by omega) (by rw [z7l] at hj; exact hj)
 simpa [gI,List.getD_eq_getElem?_getD,hi,hj] using this
end Go.Am.T11
end
noncomputable section
namespace Go.Am
def x2c:Ctr:=
 ⟨93,[.full 0 1, .int .i64, .int .i64],[.row [ci]],[]⟩
def v5v:Prim→Tup (x2c).scs→Option (STup (scss (x2c).outs)):=
 fun _ _=>none
theorem x6v:z2c Go.Proofs.Try.prog 93:=enters_auto (b:=_) rfl (by kernel_rfl)
theorem v0b:CtrOk Go.Proofs.Try.prog x2c (v5v std):=⟨x6v,fun x y h=>by cases h⟩
def x2a:Ctr:=
 ⟨94,[.full 0 1, .int .i64, .int .i64],[.row [ci]],[]⟩
def v5t:Prim→Tup (x2a).scs→Option (STup (scss (x2a).outs)):=
 fun _ _=>none
theorem x6t:z2c Go.Proofs.Try.prog 94:=enters_auto (b:=_) rfl (by kernel_rfl)
theorem w99:CtrOk Go.Proofs.Try.prog x2a (v5t std):=⟨x6t,fun x y h=>by cases h⟩
def x18:Ctr:=
 ⟨95,[.full 0 1, .int .i64, .int .i64],[.row [ci]],[]⟩
def v5r:Prim→Tup (x18).scs→Option (STup (scss (x18).outs)):=
 fun _ _=>none
theorem x6r:z2c Go.Proofs.Try.prog 95:=enters_auto (b:=_) rfl (by kernel_rfl)
theorem w97:CtrOk Go.Proofs.Try.prog x18 (v5r std):=⟨x6r,fun x y h=>by cases h⟩
def w1o:Ctr:=
 ⟨92,[.full 0 1, .int .i64, .int .i64],[.row [ci]],[(.ret,⟨[(0, .tuple [])],[.row [ci]],1⟩)]⟩
def v1b:List LA:=
 [⟨92,[false,true],1,⟨⟨[(0, .full 0 1),(1, .int .i64),(2, .int .i64),(6, .int .i64)],[.row [ci]],49⟩,[((AX.exit 0),⟨[],[.row [ci]],49⟩)]⟩⟩,
 ⟨92,[false,true,false,false,true,false,false,true],1,⟨⟨[(0, .full 0 1),(1, .int .i64),(2, .int .i64),(6, .int .i64),(7, .int .i64)],[.row [ci]],49⟩,[((AX.exit 2),⟨[(0, .full 0 1),(1, .int .i64),(2, .int .i64),(6, .int .i64)],[.row [ci]],49⟩)]⟩⟩]
def v1n:List JA:=
 []
def w6t:List CF:=
 [⟨w4g,G98⟩]
def v4g:Anns:=
 ⟨w6t,v1n,[]⟩
def w8j (p:Prim):(LD×T7)→Option ((LD×T7)⊕(LD×T4)):=
 fun a=>opt.run _ (
 opt.ask _ (p.cmp .gtr a.2.2.2.2.1 a.2.1) (
 opt.need _ (bif (p.cmp .geq a.2.2.2.2.1 (0:Int)) then (p.cmp .lss a.2.2.2.2.1 (p.ofNat (p.len a.1))) else Bool.false)<|
 opt.need _ (p.rowOk a.1 (p.add 0 (p.nat a.2.2.2.2.1)) [ci])<|
 opt.need _ (bif (p.cmp .geq (p.ar .sub .i64 a.2.2.2.2.1 (1:Int)) (0:Int)) then (p.cmp .lss (p.ar .sub .i64 a.2.2.2.2.1 (1:Int)) (p.ofNat (p.len a.1))) else Bool.false)<|
 opt.need _ (p.rowOk a.1 (p.add 0 (p.nat (p.ar .sub .i64 a.2.2.2.2.1 (1:Int)))) [ci])<|
 opt.bnd T0 _ (G98 p ((p.rdI a.1 (p.add 0 (p.nat a.2.2.2.2.1)) 0),((p.rdI a.1 (p.add 0 (p.nat (p.ar .sub .i64 a.2.2.2.2.1 (1:Int)))) 0),()))) fun b=>
 opt.ask _ b.1 (
 opt.need _ (bif (p.cmp .geq (p.ar .sub .i64 a.2.2.2.2.1 (1:Int)) (0:Int)) then (p.cmp .lss (p.ar .sub .i64 a.2.2.2.2.1 (1:Int)) (p.ofNat (p.len a.1))) else Bool.false)<|
 opt.need _ (p.rowOk a.1 (p.add 0 (p.nat (p.ar .sub .i64 a.2.2.2.2.1 (1:Int)))) [ci])<|
 opt.need _ (bif (p.cmp .geq a.2.2.2.2.1 (0:Int)) then (p.cmp .lss a.2.2.2.2.1 (p.ofNat (p.len a.1))) else Bool.false)<|
 opt.need _ (p.rowOk a.1 (p.add 0 (p.nat a.2.2.2.2.1)) [ci])<|
 opt.need _ (bif (p.cmp .geq a.2.2.2.2.1 (0:Int)) then (p.cmp .lss a.2.2.2.2.1 (p.ofNat (p.len a.1))) else Bool.false)<|
 opt.need _ (p.rowOk a.1 (p.add 0 (p.nat a.2.2.2.2.1)) [ci])<|
 opt.need _ (bif (p.cmp .geq (p.ar .sub .i64 a.2.2.2.2.1 (1:Int)) (0:Int)) then (p.cmp .lss (p.ar .sub .i64 a.2.2.2.2.1 (1:Int)) (p.ofNat (p.len a.1))) else Bool.false)<|
 opt.need _ (p.rowOk (p.set a.1 (p.add 0 (p.nat a.2.2.2.2.1)) [(D.int .i64 (p.rdI a.1 (p.add 0 (p.nat (p.ar .sub .i64 a.2.2.2.2.1 (1:Int)))) 0))]) (p.add 0 (p.nat (p.ar .sub .i64 a.2.2.2.2.1 (1:Int)))) [ci])<|
 opt.need _ (p.eqN 0 0)<|
 opt.need _ (p.eqN (p.len a.1) (p.len (p.set (p.set a.1 (p.add 0 (p.nat a.2.2.2.2.1)) [(D.int .i64 (p.rdI a.1 (p.add 0 (p.nat (p.ar .sub .i64 a.2.2.2.2.1 (1:Int)))) 0))]) (p.add 0 (p.nat (p.ar .sub .i64 a.2.2.2.2.1 (1:Int)))) [(D.int .i64 (p.rdI a.1 (p.add 0 (p.nat a.2.2.2.2.1)) 0))])))<|
 opt.need _ (p.eqN (p.len a.1) (p.len (p.set (p.set a.1 (p.add 0 (p.nat a.2.2.2.2.1)) [(D.int .i64 (p.rdI a.1 (p.add 0 (p.nat (p.ar .sub .i64 a.2.2.2.2.1 (1:Int)))) 0))]) (p.add 0 (p.nat (p.ar .sub .i64 a.2.2.2.2.1 (1:Int)))) [(D.int .i64 (p.rdI a.1 (p.add 0 (p.nat a.2.2.2.2.1)) 0))])))<|
 opt.ret _ (Sum.inl ((p.set (p.set a.1 (p.add 0 (p.nat a.2.2.2.2.1)) [(D.int .i64 (p.rdI a.1 (p.add 0 (p.nat (p.ar .sub .i64 a.2.2.2.2.1 (1:Int)))) 0))]) (p.add 0 (p.nat (p.ar .sub .i64 a.2.2.2.2.1 (1:Int)))) [(D.int .i64 (p.rdI a.1 (p.add 0 (p.nat a.2.2.2.2.1)) 0))]),(a.2.1,(a.2.2.1,(a.2.2.2.1,((p.ar .sub .i64 a.2.2.2.2.1 (1:Int)),()))))))) (
 opt.need _ (p.eqN 0 0)<|
 opt.need _ (p.eqN (p.len a.1) (p.len a.1))<|
 opt.need _ (p.eqN (p.len a.1) (p.len a.1))<|
 opt.ret _ (Sum.inr (a.1,(a.2.1,(a.2.2.1,(a.2.2.2.1,()))))))) (
 opt.need _ (p.eqN 0 0)<|
 opt.need _ (p.eqN (p.len a.1) (p.len a.1))<|
 opt.need _ (p.eqN (p.len a.1) (p.len a.1))<|
 opt.ret _ (Sum.inr (a.1,(a.2.1,(a.2.2.1,(a.2.2.2.1,())))))))
def x7f (it:It) (p:Prim):(LD×T4)→Option ((LD×T4)⊕(LD×Unit)):=
 fun a=>opt.run _ (
 opt.ask _ (p.cmp .lss a.2.2.2.1 a.2.2.1) (
 opt.need _ (p.eqN 0 0)<|
 opt.need _ (p.eqN (p.len a.1) (p.len a.1))<|
 opt.need _ (p.eqN (p.len a.1) (p.len a.1))<|
 opt.bnd ((LD×T4)) _ (
 it _ _ (w8j p) (a.1,(a.2.1,(a.2.2.1,(a.2.2.2.1,(a.2.2.2.1,())))))) fun b=>
 opt.need _ (p.eqN 0 0)<|
 opt.need _ (p.eqN (p.len b.1) (p.len b.1))<|
 opt.need _ (p.eqN (p.len b.1) (p.len b.1))<|
 opt.ret _ (Sum.inl (b.1,(b.2.1,(b.2.2.1,((p.ar .add .i64 b.2.2.2.1 (1:Int)),())))))) (
 opt.ret _ (Sum.inr (a.1,()))))
def w9k (it:It):(p:Prim)→(LD×T3)→Option ((LD×Unit)):=
 fun p x=>
 opt.need _ (p.eqN 0 0)<|
 opt.need _ (p.eqN (p.len x.1) (p.len x.1))<|
 opt.need _ (p.eqN (p.len x.1) (p.len x.1))<|
 opt.bnd ((LD×Unit)) _ (
 it _ _ (x7f it p) (x.1,(x.2.1,(x.2.2.1,((p.ar .add .i64 x.2.1 (1:Int)),()))))) fun a=>
 opt.ret _ (a.1,())
def v5j:=w9k it0
theorem v0d:CtrOk PG w1o (v5j std):=okF (a:=v4g) (l:=v1b) (gC v4u (gN)) (by kernel_rfl) fun _ _=>by kernel_rfl
def w1r:Ctr:=
 ⟨82,[.full 0 1, .int .i64, .int .i64, .int .i64],[.row [ci]],[(.ret,⟨[(0, .tuple [])],[.row [ci]],1⟩)]⟩
def v1e:List LA:=
 [⟨82,[false,true,true],1,⟨⟨[(0, .full 0 1),(1, .int .i64),(2, .int .i64),(3, .int .i64),(8, .bool),(9, .bool)],[.row [ci]],134⟩,[(AX.ret,⟨[],[.row [ci]],134⟩)]⟩⟩]
def v1q:List JA:=
 []
def w6w:List CF:=
 [⟨x18,v5r⟩,⟨x2a,v5t⟩,⟨x2c,v5v⟩,⟨w1o,v5j⟩]
def v4j:Anns:=
 ⟨w6w,v1q,[]⟩
def x7k (it:It) (p:Prim):(LD×T21)→Option ((LD×T21)⊕(LD×Unit)):=
 fun a=>opt.run _ (
 opt.ask _ (p.cmp .leq (p.ar .sub .i64 a.2.2.1 a.2.1) (12:Int)) (
 opt.need _ (p.eqN 0 0)<|
 opt.need _ (p.eqN (p.len a.1) (p.len a.1))<|
 opt.need _ (p.eqN (p.len a.1) (p.len a.1))<|
 opt.bnd ((LD×Unit)) _ (w9k it p (a.1,(a.2.1,(a.2.2.1,())))) fun b=>
 opt.ret _ (Sum.inr (b.1,()))) (
 opt.ask _ (p.cmp .eql a.2.2.2.1 (0:Int)) (
 opt.need _ (p.eqN 0 0)<|
 opt.need _ (p.eqN (p.len a.1) (p.len a.1))<|
 opt.need _ (p.eqN (p.len a.1) (p.len a.1))<|
 opt.no _ 81) (
 opt.ask _ (bif a.2.2.2.2.1 then Bool.false else Bool.true) (
 opt.need _ (p.eqN 0 0)<|
 opt.need _ (p.eqN (p.len a.1) (p.len a.1))<|
 opt.need _ (p.eqN (p.len a.1) (p.len a.1))<|
 opt.no _ 81) (
 opt.need _ (p.eqN 0 0)<|
 opt.need _ (p.eqN (p.len a.1) (p.len a.1))<|
 opt.need _ (p.eqN (p.len a.1) (p.len a.1))<|
 opt.no _ 81))))
def w9m (it:It):(p:Prim)→(LD×T4)→Option ((LD×Unit)):=
 fun p x=>
 opt.need _ (p.eqN 0 0)<|
 opt.need _ (p.eqN (p.len x.1) (p.len x.1))<|
 opt.need _ (p.eqN (p.len x.1) (p.len x.1))<|
 opt.bnd ((LD×Unit)) _ (
 it _ _ (x7k it p) (x.1,(x.2.1,(x.2.2.1,(x.2.2.2.1,(Bool.true,(Bool.true,()))))))) fun a=>
 opt.ret _ (a.1,())
def v5m:=w9m it0
theorem v0g:CtrOk PG w1r (v5m std):=okF (a:=v4j) (l:=v1e) (gC w97 (gC w99 (gC v0b (gC v0d (gN))))) (by kernel_rfl) fun _ _=>by kernel_rfl
def w1u:Ctr:=
 ⟨55,[.full 0 1],[.row [ci]],[(.ret,⟨[(0, .tuple [])],[.row [ci]],1⟩)]⟩
def v1h:List LA:=
 []
def v1t:List JA:=
 []
def w6z:List CF:=
 [⟨w1r,v5m⟩,⟨w4h,G83⟩]
def v4m:Anns:=
 ⟨w6z,v1t,[]⟩
def w64 (it:It):(p:Prim)→(LD×Unit)→Option ((LD×Unit)):=
 fun p x=>
 opt.bnd T2 _ (G83 p ((p.cvt .u64 (p.ofNat (p.len x.1))),())) fun a=>
 opt.need _ (p.eqN 0 0)<|
 opt.need _ (p.eqN (p.len x.1) (p.len x.1))<|
 opt.need _ (p.eqN (p.len x.1) (p.len x.1))<|
 opt.bnd ((LD×Unit)) _ (w9m it p (x.1,((0:Int),((p.ofNat (p.len x.1)),(a.1,()))))) fun b=>
 opt.ret _ (b.1,())
def v5o:=w64 it0
theorem v0l:CtrOk PG w1u (v5o std):=okF (a:=v4m) (l:=v1h) (gC v0g (gC v4v (gN))) (by kernel_rfl) fun _ _=>by kernel_rfl
end Go.Am
end
noncomputable section
namespace Go.Am
def x2b:Ctr:=
 ⟨93,[.vec 0 1, .int .i64, .int .i64],[.row [ci]],[]⟩
def v5u:Prim→Tup (x2b).scs→Option (STup (scss (x2b).outs)):=
 fun _ _=>none
theorem x6u:z2c Go.Proofs.Try.prog 93:=enters_auto (b:=_) rfl (by kernel_rfl)
theorem v0a:CtrOk Go.Proofs.Try.prog x2b (v5u std):=⟨x6u,fun x y h=>by cases h⟩
def x19:Ctr:=
 ⟨94,[.vec 0 1, .int .i64, .int .i64],[.row [ci]],[]⟩
def v5s:Prim→Tup (x19).scs→Option (STup (scss (x19).outs)):=
 fun _ _=>none
theorem x6s:z2c Go.Proofs.Try.prog 94:=enters_auto (b:=_) rfl (by kernel_rfl)
theorem w98:CtrOk Go.Proofs.Try.prog x19 (v5s std):=⟨x6s,fun x y h=>by cases h⟩
def x17:Ctr:=
 ⟨95,[.vec 0 1, .int .i64, .int .i64],[.row [ci]],[]⟩
def v5q:Prim→Tup (x17).scs→Option (STup (scss (x17).outs)):=
 fun _ _=>none
theorem x6q:z2c Go.Proofs.Try.prog 95:=enters_auto (b:=_) rfl (by kernel_rfl)
theorem w96:CtrOk Go.Proofs.Try.prog x17 (v5q std):=⟨x6q,fun x y h=>by cases h⟩
def w1n:Ctr:=
 ⟨92,[.vec 0 1, .int .i64, .int .i64],[.row [ci]],[(.ret,⟨[(0, .tuple [])],[.row [ci]],1⟩)]⟩
def v1a:List LA:=
 [⟨92,[false,true],1,⟨⟨[(0, .vec 0 1),(1, .int .i64),(2, .int .i64),(6, .int .i64)],[.row [ci]],49⟩,[((AX.exit 0),⟨[],[.row [ci]],49⟩)]⟩⟩,
 ⟨92,[false,true,false,false,true,false,false,true],1,⟨⟨[(0, .vec 0 1),(1, .int .i64),(2, .int .i64),(6, .int .i64),(7, .int .i64)],[.row [ci]],49⟩,[((AX.exit 2),⟨[(0, .vec 0 1),(1, .int .i64),(2, .int .i64),(6, .int .i64)],[.row [ci]],49⟩)]⟩⟩]
def v1m:List JA:=
 []
def w6s:List CF:=
 [⟨w4g,G98⟩]
def v4f:Anns:=
 ⟨w6s,v1m,[]⟩
def y0d (p:Prim):(LD×T7)→Option ((LD×T7)⊕(LD×T4)):=
 fun a=>opt.run _ (
 opt.ask _ (p.cmp .gtr a.2.2.2.2.1 a.2.1) (
 opt.need _ (bif (p.cmp .geq a.2.2.2.2.1 (0:Int)) then (p.cmp .lss a.2.2.2.2.1 (p.ofNat (p.len a.1))) else Bool.false)<|
 opt.need _ (p.rowOk a.1 (p.add 0 (p.nat a.2.2.2.2.1)) [ci])<|
 opt.need _ (bif (p.cmp .geq (p.ar .sub .i64 a.2.2.2.2.1 (1:Int)) (0:Int)) then (p.cmp .lss (p.ar .sub .i64 a.2.2.2.2.1 (1:Int)) (p.ofNat (p.len a.1))) else Bool.false)<|
 opt.need _ (p.rowOk a.1 (p.add 0 (p.nat (p.ar .sub .i64 a.2.2.2.2.1 (1:Int)))) [ci])<|
 opt.bnd T0 _ (G98 p ((p.rdI a.1 (p.add 0 (p.nat a.2.2.2.2.1)) 0),((p.rdI a.1 (p.add 0 (p.nat (p.ar .sub .i64 a.2.2.2.2.1 (1:Int)))) 0),()))) fun b=>
 opt.ask _ b.1 (
 opt.need _ (bif (p.cmp .geq (p.ar .sub .i64 a.2.2.2.2.1 (1:Int)) (0:Int)) then (p.cmp .lss (p.ar .sub .i64 a.2.2.2.2.1 (1:Int)) (p.ofNat (p.len a.1))) else Bool.false)<|
 opt.need _ (p.rowOk a.1 (p.add 0 (p.nat (p.ar .sub .i64 a.2.2.2.2.1 (1:Int)))) [ci])<|
 opt.need _ (bif (p.cmp .geq a.2.2.2.2.1 (0:Int)) then (p.cmp .lss a.2.2.2.2.1 (p.ofNat (p.len a.1))) else Bool.false)<|
 opt.need _ (p.rowOk a.1 (p.add 0 (p.nat a.2.2.2.2.1)) [ci])<|
 opt.need _ (bif (p.cmp .geq a.2.2.2.2.1 (0:Int)) then (p.cmp .lss a.2.2.2.2.1 (p.ofNat (p.len a.1))) else Bool.false)<|
 opt.need _ (p.rowOk a.1 (p.add 0 (p.nat a.2.2.2.2.1)) [ci])<|
 opt.need _ (bif (p.cmp .geq (p.ar .sub .i64 a.2.2.2.2.1 (1:Int)) (0:Int)) then (p.cmp .lss (p.ar .sub .i64 a.2.2.2.2.1 (1:Int)) (p.ofNat (p.len a.1))) else Bool.false)<|
 opt.need _ (p.rowOk (p.set a.1 (p.add 0 (p.nat a.2.2.2.2.1)) [(D.int .i64 (p.rdI a.1 (p.add 0 (p.nat (p.ar .sub .i64 a.2.2.2.2.1 (1:Int)))) 0))]) (p.add 0 (p.nat (p.ar .sub .i64 a.2.2.2.2.1 (1:Int)))) [ci])<|
 opt.need _ (p.eqN 0 0)<|
 opt.need _ (p.eqN (p.len a.1) (p.len (p.set (p.set a.1 (p.add 0 (p.nat a.2.2.2.2.1)) [(D.int .i64 (p.rdI a.1 (p.add 0 (p.nat (p.ar .sub .i64 a.2.2.2.2.1 (1:Int)))) 0))]) (p.add 0 (p.nat (p.ar .sub .i64 a.2.2.2.2.1 (1:Int)))) [(D.int .i64 (p.rdI a.1 (p.add 0 (p.nat a.2.2.2.2.1)) 0))])))<|
 opt.ret _ (Sum.inl ((p.set (p.set a.1 (p.add 0 (p.nat a.2.2.2.2.1)) [(D.int .i64 (p.rdI a.1 (p.add 0 (p.nat (p.ar .sub .i64 a.2.2.2.2.1 (1:Int)))) 0))]) (p.add 0 (p.nat (p.ar .sub .i64 a.2.2.2.2.1 (1:Int)))) [(D.int .i64 (p.rdI a.1 (p.add 0 (p.nat a.2.2.2.2.1)) 0))]),(a.2.1,(a.2.2.1,(a.2.2.2.1,((p.ar .sub .i64 a.2.2.2.2.1 (1:Int)),()))))))) (
 opt.need _ (p.eqN 0 0)<|
 opt.need _ (p.eqN (p.len a.1) (p.len a.1))<|
 opt.ret _ (Sum.inr (a.1,(a.2.1,(a.2.2.1,(a.2.2.2.1,()))))))) (
 opt.need _ (p.eqN 0 0)<|
 opt.need _ (p.eqN (p.len a.1) (p.len a.1))<|
 opt.ret _ (Sum.inr (a.1,(a.2.1,(a.2.2.1,(a.2.2.2.1,())))))))
def z7f (it:It) (p:Prim):(LD×T4)→Option ((LD×T4)⊕(LD×Unit)):=
 fun a=>opt.run _ (
 opt.ask _ (p.cmp .lss a.2.2.2.1 a.2.2.1) (
 opt.need _ (p.eqN 0 0)<|
 opt.need _ (p.eqN (p.len a.1) (p.len a.1))<|
 opt.bnd ((LD×T4)) _ (
 it _ _ (y0d p) (a.1,(a.2.1,(a.2.2.1,(a.2.2.2.1,(a.2.2.2.1,())))))) fun b=>
 opt.need _ (p.eqN 0 0)<|
 opt.need _ (p.eqN (p.len b.1) (p.len b.1))<|
 opt.ret _ (Sum.inl (b.1,(b.2.1,(b.2.2.1,((p.ar .add .i64 b.2.2.2.1 (1:Int)),())))))) (
 opt.ret _ (Sum.inr (a.1,()))))
def w3x (it:It):(p:Prim)→(LD×T3)→Option ((LD×Unit)):=
 fun p x=>
 opt.need _ (p.eqN 0 0)<|
 opt.need _ (p.eqN (p.len x.1) (p.len x.1))<|
 opt.bnd ((LD×Unit)) _ (
 it _ _ (z7f it p) (x.1,(x.2.1,(x.2.2.1,((p.ar .add .i64 x.2.1 (1:Int)),()))))) fun a=>
 opt.ret _ (a.1,())
def v5i:=w3x it0
theorem v0c:CtrOk PG w1n (v5i std):=okF (a:=v4f) (l:=v1a) (gC v4u (gN)) (by kernel_rfl) fun _ _=>by kernel_rfl
def w1q:Ctr:=
 ⟨82,[.vec 0 1, .int .i64, .int .i64, .int .i64],[.row [ci]],[(.ret,⟨[(0, .tuple [])],[.row [ci]],1⟩)]⟩
def v1d:List LA:=
 [⟨82,[false,true,true],1,⟨⟨[(0, .vec 0 1),(1, .int .i64),(2, .int .i64),(3, .int .i64),(8, .bool),(9, .bool)],[.row [ci]],134⟩,[(AX.ret,⟨[],[.row [ci]],134⟩)]⟩⟩]
def v1p:List JA:=
 []
def w6v:List CF:=
 [⟨x17,v5q⟩,⟨x19,v5s⟩,⟨x2b,v5u⟩,⟨w1n,v5i⟩]
def v4i:Anns:=
 ⟨w6v,v1p,[]⟩
def y84 (it:It) (p:Prim):(LD×T21)→Option ((LD×T21)⊕(LD×Unit)):=
 fun a=>opt.run _ (
 opt.ask _ (p.cmp .leq (p.ar .sub .i64 a.2.2.1 a.2.1) (12:Int)) (
 opt.need _ (p.eqN 0 0)<|
 opt.need _ (p.eqN (p.len a.1) (p.len a.1))<|
 opt.bnd ((LD×Unit)) _ (w3x it p (a.1,(a.2.1,(a.2.2.1,())))) fun b=>
 opt.ret _ (Sum.inr (b.1,()))) (
 opt.ask _ (p.cmp .eql a.2.2.2.1 (0:Int)) (
 opt.need _ (p.eqN 0 0)<|
 opt.need _ (p.eqN (p.len a.1) (p.len a.1))<|
 opt.no _ 81) (
 opt.ask _ (bif a.2.2.2.2.1 then Bool.false else Bool.true) (
 opt.need _ (p.eqN 0 0)<|
 opt.need _ (p.eqN (p.len a.1) (p.len a.1))<|
 opt.no _ 81) (
 opt.need _ (p.eqN 0 0)<|
 opt.need _ (p.eqN (p.len a.1) (p.len a.1))<|
 opt.no _ 81))))
def w62 (it:It):(p:Prim)→(LD×T4)→Option ((LD×Unit)):=
 fun p x=>
 opt.need _ (p.eqN 0 0)<|
 opt.need _ (p.eqN (p.len x.1) (p.len x.1))<|
 opt.bnd ((LD×Unit)) _ (
 it _ _ (y84 it p) (x.1,(x.2.1,(x.2.2.1,(x.2.2.2.1,(Bool.true,(Bool.true,()))))))) fun a=>
 opt.ret _ (a.1,())
def v5l:=w62 it0
theorem v0f:CtrOk PG w1q (v5l std):=okF (a:=v4i) (l:=v1d) (gC w96 (gC w98 (gC v0a (gC v0c (gN))))) (by kernel_rfl) fun _ _=>by kernel_rfl
def w1t:Ctr:=
 ⟨55,[.vec 0 1],[.row [ci]],[(.ret,⟨[(0, .tuple [])],[.row [ci]],1⟩)]⟩
def v1g:List LA:=
 []
def v1s:List JA:=
 []
def w6y:List CF:=
 [⟨w1q,v5l⟩,⟨w4h,G83⟩]
def v4l:Anns:=
 ⟨w6y,v1s,[]⟩
def w5g (it:It):(p:Prim)→(LD×Unit)→Option ((LD×Unit)):=
 fun p x=>
 opt.bnd T2 _ (G83 p ((p.cvt .u64 (p.ofNat (p.len x.1))),())) fun a=>
 opt.need _ (p.eqN 0 0)<|
 opt.need _ (p.eqN (p.len x.1) (p.len x.1))<|
 opt.bnd ((LD×Unit)) _ (w62 it p (x.1,((0:Int),((p.ofNat (p.len x.1)),(a.1,()))))) fun b=>
 opt.ret _ (b.1,())
def w9r:=w5g it0
theorem v0k:CtrOk PG w1t (w9r std):=okF (a:=v4l) (l:=v1g) (gC v0f (gC v4v (gN))) (by kernel_rfl) fun _ _=>by kernel_rfl
end Go.Am
end
noncomputable section
namespace Go.Am
def x2d:Ctr:=
 ⟨105,[.vec 0 1, .int .i64, .int .i64, .int .i64, .clo 88 [] [.bptr 1 0]],[.row [ci], .box [.list 1]],[]⟩
def v5w:Prim→Tup (x2d).scs→Option (STup (scss (x2d).outs)):=
 fun _ _=>none
theorem x6w:z2c Go.Proofs.Try.prog 105:=enters_auto (b:=_) rfl (by kernel_rfl)
theorem v0o:CtrOk Go.Proofs.Try.prog x2d (v5w std):=⟨x6w,fun x y h=>by cases h⟩
def w1v:Ctr:=
 ⟨104,[.vec 0 1, .int .i64, .int .i64, .clo 88 [] [.bptr 1 0]],[.row [ci], .box [.list 1]],[(.ret,⟨[(0, .tuple [])],[.row [ci], .box [.list 1]],1⟩)]⟩
def v1i:List LA:=
 [⟨104,[false,true],2,⟨⟨[(0, .vec 0 1),(1, .int .i64),(2, .int .i64),(3, .clo 88 [] [.bptr 1 0]),(8, .int .i64)],[.row [ci], .box [.list 1]],53⟩,[((AX.exit 0),⟨[],[.row [ci], .box [.list 1]],53⟩)]⟩⟩,
 ⟨104,[false,true,false,false,true,false,false,true],2,⟨⟨[(0, .vec 0 1),(1, .int .i64),(2, .int .i64),(3, .clo 88 [] [.bptr 1 0]),(8, .int .i64),(9, .int .i64)],[.row [ci], .box [.list 1]],53⟩,[((AX.exit 2),⟨[(0, .vec 0 1),(1, .int .i64),(2, .int .i64),(3, .clo 88 [] [.bptr 1 0]),(8, .int .i64)],[.row [ci], .box [.list 1]],53⟩)]⟩⟩]
def v1u:List JA:=
 [⟨68,[true,false,true,true,true],2,[(AX.ret,⟨[(4, .int .i64)],[.row [ci], .box [.list 1]],20⟩),(AX.normal,⟨[(0, .int .i64),(1, .int .i64),(6, .bool)],[.row [ci], .box [.list 1]],20⟩)]⟩]
def w60:List CF:=
 []
def v4n:Anns:=
 ⟨w60,v1u,[]⟩
def z8x (p:Prim):(LD×(LD×T7))→Option ((LD×(LD×T7))⊕(LD×(LD×T4))):=
 fun a=>opt.run _ (
 opt.ask _ (p.cmp .gtr a.2.2.2.2.2.1 a.2.2.1) (
 opt.need _ (bif (p.cmp .geq a.2.2.2.2.2.1 (0:Int)) then (p.cmp .lss a.2.2.2.2.2.1 (p.ofNat (p.len a.1))) else Bool.false)<|
 opt.need _ (p.rowOk a.1 (p.add 0 (p.nat a.2.2.2.2.2.1)) [ci])<|
 opt.need _ (bif (p.cmp .geq (p.ar .sub .i64 a.2.2.2.2.2.1 (1:Int)) (0:Int)) then (p.cmp .lss (p.ar .sub .i64 a.2.2.2.2.2.1 (1:Int)) (p.ofNat (p.len a.1))) else Bool.false)<|
 opt.need _ (p.rowOk a.1 (p.add 0 (p.nat (p.ar .sub .i64 a.2.2.2.2.2.1 (1:Int)))) [ci])<|
 opt.need _ (p.rowOk a.2.1 (p.nat (p.rdI a.1 (p.add 0 (p.nat a.2.2.2.2.2.1)) 0)) [ci])<|
 opt.need _ (p.cmp .geq (p.rdI a.1 (p.add 0 (p.nat a.2.2.2.2.2.1)) 0) (0:Int))<|
 opt.need _ (p.rowOk a.2.1 (p.nat (p.rdI a.1 (p.add 0 (p.nat (p.ar .sub .i64 a.2.2.2.2.2.1 (1:Int)))) 0)) [ci])<|
 opt.need _ (p.cmp .geq (p.rdI a.1 (p.add 0 (p.nat (p.ar .sub .i64 a.2.2.2.2.2.1 (1:Int)))) 0) (0:Int))<|
 opt.alt ((LD×(LD×T1))) ((LD×(LD×T17))) _ (
 opt.run (((LD×(LD×T1))⊕(LD×(LD×T17)))) (
 opt.ask _ (p.cmp .neq (p.rdI a.2.1 (p.nat (p.rdI a.1 (p.add 0 (p.nat a.2.2.2.2.2.1)) 0)) 0) (p.rdI a.2.1 (p.nat (p.rdI a.1 (p.add 0 (p.nat a.2.2.2.2.2.1)) 0)) 0)) (
 opt.ask _ (p.cmp .neq (p.rdI a.2.1 (p.nat (p.rdI a.1 (p.add 0 (p.nat (p.ar .sub .i64 a.2.2.2.2.2.1 (1:Int)))) 0)) 0) (p.rdI a.2.1 (p.nat (p.rdI a.1 (p.add 0 (p.nat (p.ar .sub .i64 a.2.2.2.2.2.1 (1:Int)))) 0)) 0)) (
 opt.ret _ (Sum.inl (a.1,(a.2.1,((0:Int),()))))) (
 opt.ret _ (Sum.inl (a.1,(a.2.1,((-1:Int),())))))) (
 opt.ret _ (Sum.inr (a.1,(a.2.1,((p.rdI a.2.1 (p.nat (p.rdI a.1 (p.add 0 (p.nat a.2.2.2.2.2.1)) 0)) 0),((p.rdI a.2.1 (p.nat (p.rdI a.1 (p.add 0 (p.nat (p.ar .sub .i64 a.2.2.2.2.2.1 (1:Int)))) 0)) 0),((p.cmp .neq (p.rdI a.2.1 (p.nat (p.rdI a.1 (p.add 0 (p.nat (p.ar .sub .i64 a.2.2.2.2.2.1 (1:Int)))) 0)) 0) (p.rdI a.2.1 (p.nat (p.rdI a.1 (p.add 0 (p.nat (p.ar .sub .i64 a.2.2.2.2.2.1 (1:Int)))) 0)) 0)),()))))))))) (fun b=>
 opt.ask _ (p.cmp .lss b.2.2.1 (0:Int)) (
 opt.need _ (bif (p.cmp .geq (p.ar .sub .i64 a.2.2.2.2.2.1 (1:Int)) (0:Int)) then (p.cmp .lss (p.ar .sub .i64 a.2.2.2.2.2.1 (1:Int)) (p.ofNat (p.len a.1))) else Bool.false)<|
 opt.need _ (p.rowOk b.1 (p.add 0 (p.nat (p.ar .sub .i64 a.2.2.2.2.2.1 (1:Int)))) [ci])<|
 opt.need _ (bif (p.cmp .geq a.2.2.2.2.2.1 (0:Int)) then (p.cmp .lss a.2.2.2.2.2.1 (p.ofNat (p.len a.1))) else Bool.false)<|
 opt.need _ (p.rowOk b.1 (p.add 0 (p.nat a.2.2.2.2.2.1)) [ci])<|
 opt.need _ (bif (p.cmp .geq a.2.2.2.2.2.1 (0:Int)) then (p.cmp .lss a.2.2.2.2.2.1 (p.ofNat (p.len a.1))) else Bool.false)<|
 opt.need _ (p.rowOk b.1 (p.add 0 (p.nat a.2.2.2.2.2.1)) [ci])<|
 opt.need _ (bif (p.cmp .geq (p.ar .sub .i64 a.2.2.2.2.2.1 (1:Int)) (0:Int)) then (p.cmp .lss (p.ar .sub .i64 a.2.2.2.2.2.1 (1:Int)) (p.ofNat (p.len a.1))) else Bool.false)<|
 opt.need _ (p.rowOk (p.set b.1 (p.add 0 (p.nat a.2.2.2.2.2.1)) [(D.int .i64 (p.rdI b.1 (p.add 0 (p.nat (p.ar .sub .i64 a.2.2.2.2.2.1 (1:Int)))) 0))]) (p.add 0 (p.nat (p.ar .sub .i64 a.2.2.2.2.2.1 (1:Int)))) [ci])<|
 opt.need _ (p.eqN 0 0)<|
 opt.need _ (p.eqN (p.len a.1) (p.len (p.set (p.set b.1 (p.add 0 (p.nat a.2.2.2.2.2.1)) [(D.int .i64 (p.rdI b.1 (p.add 0 (p.nat (p.ar .sub .i64 a.2.2.2.2.2.1 (1:Int)))) 0))]) (p.add 0 (p.nat (p.ar .sub .i64 a.2.2.2.2.2.1 (1:Int)))) [(D.int .i64 (p.rdI b.1 (p.add 0 (p.nat a.2.2.2.2.2.1)) 0))])))<|
 opt.ret _ (Sum.inl ((p.set (p.set b.1 (p.add 0 (p.nat a.2.2.2.2.2.1)) [(D.int .i64 (p.rdI b.1 (p.add 0 (p.nat (p.ar .sub .i64 a.2.2.2.2.2.1 (1:Int)))) 0))]) (p.add 0 (p.nat (p.ar .sub .i64 a.2.2.2.2.2.1 (1:Int)))) [(D.int .i64 (p.rdI b.1 (p.add 0 (p.nat a.2.2.2.2.2.1)) 0))]),(b.2.1,(a.2.2.1,(a.2.2.2.1,(a.2.2.2.2.1,((p.ar .sub .i64 a.2.2.2.2.2.1 (1:Int)),())))))))) (
 opt.need _ (p.eqN 0 0)<|
 opt.need _ (p.eqN (p.len a.1) (p.len b.1))<|
 opt.ret _ (Sum.inr (b.1,(b.2.1,(a.2.2.1,(a.2.2.2.1,(a.2.2.2.2.1,())))))))) (fun c=>
 opt.bnd ((LD×(LD×T17))) _ (some c) fun d=>
 opt.ask _ d.2.2.2.2.1 (
 opt.ask _ (p.cmp .lss (1:Int) (0:Int)) (
 opt.need _ (bif (p.cmp .geq (p.ar .sub .i64 a.2.2.2.2.2.1 (1:Int)) (0:Int)) then (p.cmp .lss (p.ar .sub .i64 a.2.2.2.2.2.1 (1:Int)) (p.ofNat (p.len a.1))) else Bool.false)<|
 opt.need _ (p.rowOk d.1 (p.add 0 (p.nat (p.ar .sub .i64 a.2.2.2.2.2.1 (1:Int)))) [ci])<|
 opt.need _ (bif (p.cmp .geq a.2.2.2.2.2.1 (0:Int)) then (p.cmp .lss a.2.2.2.2.2.1 (p.ofNat (p.len a.1))) else Bool.false)<|
 opt.need _ (p.rowOk d.1 (p.add 0 (p.nat a.2.2.2.2.2.1)) [ci])<|
 opt.need _ (bif (p.cmp .geq a.2.2.2.2.2.1 (0:Int)) then (p.cmp .lss a.2.2.2.2.2.1 (p.ofNat (p.len a.1))) else Bool.false)<|
 opt.need _ (p.rowOk d.1 (p.add 0 (p.nat a.2.2.2.2.2.1)) [ci])<|
 opt.need _ (bif (p.cmp .geq (p.ar .sub .i64 a.2.2.2.2.2.1 (1:Int)) (0:Int)) then (p.cmp .lss (p.ar .sub .i64 a.2.2.2.2.2.1 (1:Int)) (p.ofNat (p.len a.1))) else Bool.false)<|
 opt.need _ (p.rowOk (p.set d.1 (p.add 0 (p.nat a.2.2.2.2.2.1)) [(D.int .i64 (p.rdI d.1 (p.add 0 (p.nat (p.ar .sub .i64 a.2.2.2.2.2.1 (1:Int)))) 0))]) (p.add 0 (p.nat (p.ar .sub .i64 a.2.2.2.2.2.1 (1:Int)))) [ci])<|
 opt.need _ (p.eqN 0 0)<|
 opt.need _ (p.eqN (p.len a.1) (p.len (p.set (p.set d.1 (p.add 0 (p.nat a.2.2.2.2.2.1)) [(D.int .i64 (p.rdI d.1 (p.add 0 (p.nat (p.ar .sub .i64 a.2.2.2.2.2.1 (1:Int)))) 0))]) (p.add 0 (p.nat (p.ar .sub .i64 a.2.2.2.2.2.1 (1:Int)))) [(D.int .i64 (p.rdI d.1 (p.add 0 (p.nat a.2.2.2.2.2.1)) 0))])))<|
 opt.ret _ (Sum.inl ((p.set (p.set d.1 (p.add 0 (p.nat a.2.2.2.2.2.1)) [(D.int .i64 (p.rdI d.1 (p.add 0 (p.nat (p.ar .sub .i64 a.2.2.2.2.2.1 (1:Int)))) 0))]) (p.add 0 (p.nat (p.ar .sub .i64 a.2.2.2.2.2.1 (1:Int)))) [(D.int .i64 (p.rdI d.1 (p.add 0 (p.nat a.2.2.2.2.2.1)) 0))]),(d.2.1,(a.2.2.1,(a.2.2.2.1,(a.2.2.2.2.1,((p.ar .sub .i64 a.2.2.2.2.2.1 (1:Int)),())))))))) (
 opt.need _ (p.eqN 0 0)<|
 opt.need _ (p.eqN (p.len a.1) (p.len d.1))<|
 opt.ret _ (Sum.inr (d.1,(d.2.1,(a.2.2.1,(a.2.2.2.1,(a.2.2.2.2.1,())))))))) (
 opt.ask _ (p.cmp .lss d.2.2.1 d.2.2.2.1) (
 opt.ask _ (p.cmp .lss (-1:Int) (0:Int)) (
 opt.need _ (bif (p.cmp .geq (p.ar .sub .i64 a.2.2.2.2.2.1 (1:Int)) (0:Int)) then (p.cmp .lss (p.ar .sub .i64 a.2.2.2.2.2.1 (1:Int)) (p.ofNat (p.len a.1))) else Bool.false)<|
 opt.need _ (p.rowOk d.1 (p.add 0 (p.nat (p.ar .sub .i64 a.2.2.2.2.2.1 (1:Int)))) [ci])<|
 opt.need _ (bif (p.cmp .geq a.2.2.2.2.2.1 (0:Int)) then (p.cmp .lss a.2.2.2.2.2.1 (p.ofNat (p.len a.1))) else Bool.false)<|
 opt.need _ (p.rowOk d.1 (p.add 0 (p.nat a.2.2.2.2.2.1)) [ci])<|
 opt.need _ (bif (p.cmp .geq a.2.2.2.2.2.1 (0:Int)) then (p.cmp .lss a.2.2.2.2.2.1 (p.ofNat (p.len a.1))) else Bool.false)<|
 opt.need _ (p.rowOk d.1 (p.add 0 (p.nat a.2.2.2.2.2.1)) [ci])<|
 opt.need _ (bif (p.cmp .geq (p.ar .sub .i64 a.2.2.2.2.2.1 (1:Int)) (0:Int)) then (p.cmp .lss (p.ar .sub .i64 a.2.2.2.2.2.1 (1:Int)) (p.ofNat (p.len a.1))) else Bool.false)<|
 opt.need _ (p.rowOk (p.set d.1 (p.add 0 (p.nat a.2.2.2.2.2.1)) [(D.int .i64 (p.rdI d.1 (p.add 0 (p.nat (p.ar .sub .i64 a.2.2.2.2.2.1 (1:Int)))) 0))]) (p.add 0 (p.nat (p.ar .sub .i64 a.2.2.2.2.2.1 (1:Int)))) [ci])<|
 opt.need _ (p.eqN 0 0)<|
 opt.need _ (p.eqN (p.len a.1) (p.len (p.set (p.set d.1 (p.add 0 (p.nat a.2.2.2.2.2.1)) [(D.int .i64 (p.rdI d.1 (p.add 0 (p.nat (p.ar .sub .i64 a.2.2.2.2.2.1 (1:Int)))) 0))]) (p.add 0 (p.nat (p.ar .sub .i64 a.2.2.2.2.2.1 (1:Int)))) [(D.int .i64 (p.rdI d.1 (p.add 0 (p.nat a.2.2.2.2.2.1)) 0))])))<|
 opt.ret _ (Sum.inl ((p.set (p.set d.1 (p.add 0 (p.nat a.2.2.2.2.2.1)) [(D.int .i64 (p.rdI d.1 (p.add 0 (p.nat (p.ar .sub .i64 a.2.2.2.2.2.1 (1:Int)))) 0))]) (p.add 0 (p.nat (p.ar .sub .i64 a.2.2.2.2.2.1 (1:Int)))) [(D.int .i64 (p.rdI d.1 (p.add 0 (p.nat a.2.2.2.2.2.1)) 0))]),(d.2.1,(a.2.2.1,(a.2.2.2.1,(a.2.2.2.2.1,((p.ar .sub .i64 a.2.2.2.2.2.1 (1:Int)),())))))))) (
 opt.need _ (p.eqN 0 0)<|
 opt.need _ (p.eqN (p.len a.1) (p.len d.1))<|
 opt.ret _ (Sum.inr (d.1,(d.2.1,(a.2.2.1,(a.2.2.2.1,(a.2.2.2.2.1,())))))))) (
 opt.ask _ (p.cmp .gtr d.2.2.1 d.2.2.2.1) (
 opt.ask _ (p.cmp .lss (1:Int) (0:Int)) (
 opt.need _ (bif (p.cmp .geq (p.ar .sub .i64 a.2.2.2.2.2.1 (1:Int)) (0:Int)) then (p.cmp .lss (p.ar .sub .i64 a.2.2.2.2.2.1 (1:Int)) (p.ofNat (p.len a.1))) else Bool.false)<|
 opt.need _ (p.rowOk d.1 (p.add 0 (p.nat (p.ar .sub .i64 a.2.2.2.2.2.1 (1:Int)))) [ci])<|
 opt.need _ (bif (p.cmp .geq a.2.2.2.2.2.1 (0:Int)) then (p.cmp .lss a.2.2.2.2.2.1 (p.ofNat (p.len a.1))) else Bool.false)<|
 opt.need _ (p.rowOk d.1 (p.add 0 (p.nat a.2.2.2.2.2.1)) [ci])<|
 opt.need _ (bif (p.cmp .geq a.2.2.2.2.2.1 (0:Int)) then (p.cmp .lss a.2.2.2.2.2.1 (p.ofNat (p.len a.1))) else Bool.false)<|
 opt.need _ (p.rowOk d.1 (p.add 0 (p.nat a.2.2.2.2.2.1)) [ci])<|
 opt.need _ (bif (p.cmp .geq (p.ar .sub .i64 a.2.2.2.2.2.1 (1:Int)) (0:Int)) then (p.cmp .lss (p.ar .sub .i64 a.2.2.2.2.2.1 (1:Int)) (p.ofNat (p.len a.1))) else Bool.false)<|
 opt.need _ (p.rowOk (p.set d.1 (p.add 0 (p.nat a.2.2.2.2.2.1)) [(D.int .i64 (p.rdI d.1 (p.add 0 (p.nat (p.ar .sub .i64 a.2.2.2.2.2.1 (1:Int)))) 0))]) (p.add 0 (p.nat (p.ar .sub .i64 a.2.2.2.2.2.1 (1:Int)))) [ci])<|
 opt.need _ (p.eqN 0 0)<|
 opt.need _ (p.eqN (p.len a.1) (p.len (p.set (p.set d.1 (p.add 0 (p.nat a.2.2.2.2.2.1)) [(D.int .i64 (p.rdI d.1 (p.add 0 (p.nat (p.ar .sub .i64 a.2.2.2.2.2.1 (1:Int)))) 0))]) (p.add 0 (p.nat (p.ar .sub .i64 a.2.2.2.2.2.1 (1:Int)))) [(D.int .i64 (p.rdI d.1 (p.add 0 (p.nat a.2.2.2.2.2.1)) 0))])))<|
 opt.ret _ (Sum.inl ((p.set (p.set d.1 (p.add 0 (p.nat a.2.2.2.2.2.1)) [(D.int .i64 (p.rdI d.1 (p.add 0 (p.nat (p.ar .sub .i64 a.2.2.2.2.2.1 (1:Int)))) 0))]) (p.add 0 (p.nat (p.ar .sub .i64 a.2.2.2.2.2.1 (1:Int)))) [(D.int .i64 (p.rdI d.1 (p.add 0 (p.nat a.2.2.2.2.2.1)) 0))]),(d.2.1,(a.2.2.1,(a.2.2.2.1,(a.2.2.2.2.1,((p.ar .sub .i64 a.2.2.2.2.2.1 (1:Int)),())))))))) (
 opt.need _ (p.eqN 0 0)<|
 opt.need _ (p.eqN (p.len a.1) (p.len d.1))<|
 opt.ret _ (Sum.inr (d.1,(d.2.1,(a.2.2.1,(a.2.2.2.1,(a.2.2.2.2.1,())))))))) (
 opt.ask _ (p.cmp .lss (0:Int) (0:Int)) (
 opt.need _ (bif (p.cmp .geq (p.ar .sub .i64 a.2.2.2.2.2.1 (1:Int)) (0:Int)) then (p.cmp .lss (p.ar .sub .i64 a.2.2.2.2.2.1 (1:Int)) (p.ofNat (p.len a.1))) else Bool.false)<|
 opt.need _ (p.rowOk d.1 (p.add 0 (p.nat (p.ar .sub .i64 a.2.2.2.2.2.1 (1:Int)))) [ci])<|
 opt.need _ (bif (p.cmp .geq a.2.2.2.2.2.1 (0:Int)) then (p.cmp .lss a.2.2.2.2.2.1 (p.ofNat (p.len a.1))) else Bool.false)<|
 opt.need _ (p.rowOk d.1 (p.add 0 (p.nat a.2.2.2.2.2.1)) [ci])<|
 opt.need _ (bif (p.cmp .geq a.2.2.2.2.2.1 (0:Int)) then (p.cmp .lss a.2.2.2.2.2.1 (p.ofNat (p.len a.1))) else Bool.false)<|
 opt.need _ (p.rowOk d.1 (p.add 0 (p.nat a.2.2.2.2.2.1)) [ci])<|
 opt.need _ (bif (p.cmp .geq (p.ar .sub .i64 a.2.2.2.2.2.1 (1:Int)) (0:Int)) then (p.cmp .lss (p.ar .sub .i64 a.2.2.2.2.2.1 (1:Int)) (p.ofNat (p.len a.1))) else Bool.false)<|
 opt.need _ (p.rowOk (p.set d.1 (p.add 0 (p.nat a.2.2.2.2.2.1)) [(D.int .i64 (p.rdI d.1 (p.add 0 (p.nat (p.ar .sub .i64 a.2.2.2.2.2.1 (1:Int)))) 0))]) (p.add 0 (p.nat (p.ar .sub .i64 a.2.2.2.2.2.1 (1:Int)))) [ci])<|
 opt.need _ (p.eqN 0 0)<|
 opt.need _ (p.eqN (p.len a.1) (p.len (p.set (p.set d.1 (p.add 0 (p.nat a.2.2.2.2.2.1)) [(D.int .i64 (p.rdI d.1 (p.add 0 (p.nat (p.ar .sub .i64 a.2.2.2.2.2.1 (1:Int)))) 0))]) (p.add 0 (p.nat (p.ar .sub .i64 a.2.2.2.2.2.1 (1:Int)))) [(D.int .i64 (p.rdI d.1 (p.add 0 (p.nat a.2.2.2.2.2.1)) 0))])))<|
 opt.ret _ (Sum.inl ((p.set (p.set d.1 (p.add 0 (p.nat a.2.2.2.2.2.1)) [(D.int .i64 (p.rdI d.1 (p.add 0 (p.nat (p.ar .sub .i64 a.2.2.2.2.2.1 (1:Int)))) 0))]) (p.add 0 (p.nat (p.ar .sub .i64 a.2.2.2.2.2.1 (1:Int)))) [(D.int .i64 (p.rdI d.1 (p.add 0 (p.nat a.2.2.2.2.2.1)) 0))]),(d.2.1,(a.2.2.1,(a.2.2.2.1,(a.2.2.2.2.1,((p.ar .sub .i64 a.2.2.2.2.2.1 (1:Int)),())))))))) (
 opt.need _ (p.eqN 0 0)<|
 opt.need _ (p.eqN (p.len a.1) (p.len d.1))<|
 opt.ret _ (Sum.inr (d.1,(d.2.1,(a.2.2.1,(a.2.2.2.1,(a.2.2.2.2.1,())))))))))))) (
 opt.need _ (p.eqN 0 0)<|
 opt.need _ (p.eqN (p.len a.1) (p.len a.1))<|
 opt.ret _ (Sum.inr (a.1,(a.2.1,(a.2.2.1,(a.2.2.2.1,(a.2.2.2.2.1,()))))))))
def z7g (it:It) (p:Prim):(LD×(LD×T4))→Option ((LD×(LD×T4))⊕(LD×(LD×Unit))):=
 fun a=>opt.run _ (
 opt.ask _ (p.cmp .lss a.2.2.2.2.1 a.2.2.2.1) (
 opt.need _ (p.eqN 0 0)<|
 opt.need _ (p.eqN (p.len a.1) (p.len a.1))<|
 opt.bnd ((LD×(LD×T4))) _ (
 it _ _ (z8x p) (a.1,(a.2.1,(a.2.2.1,(a.2.2.2.1,(a.2.2.2.2.1,(a.2.2.2.2.1,()))))))) fun b=>
 opt.need _ (p.eqN 0 0)<|
 opt.need _ (p.eqN (p.len b.1) (p.len b.1))<|
 opt.ret _ (Sum.inl (b.1,(b.2.1,(b.2.2.1,(b.2.2.2.1,((p.ar .add .i64 b.2.2.2.2.1 (1:Int)),()))))))) (
 opt.ret _ (Sum.inr (a.1,(a.2.1,())))))
def w1k (it:It):(p:Prim)→(LD×(LD×T3))→Option ((LD×(LD×Unit))):=
 fun p x=>
 opt.need _ (p.eqN 0 0)<|
 opt.need _ (p.eqN (p.len x.1) (p.len x.1))<|
 opt.bnd ((LD×(LD×Unit))) _ (
 it _ _ (z7g it p) (x.1,(x.2.1,(x.2.2.1,(x.2.2.2.1,((p.ar .add .i64 x.2.2.1 (1:Int)),())))))) fun a=>
 opt.ret _ (a.1,(a.2.1,()))
def v5p:=w1k it0
theorem v0p:CtrOk PG w1v (v5p std):=okF (a:=v4n) (l:=v1i) (gN) (by kernel_rfl) fun _ _=>by kernel_rfl
def w7j:Ctr:=
 ⟨86,[.vec 0 1, .int .i64, .clo 88 [] [.bptr 1 0]],[.row [ci], .box [.list 1]],[(.ret,⟨[(0, .tuple [])],[.row [ci], .box [.list 1]],1⟩)]⟩
def la86:List LA:=
 [⟨86,[false,false,true,true],2,⟨⟨[(0, .vec 0 1),(1, .int .i64),(2, .clo 88 [] [.bptr 1 0]),(6, .int .i64),(7, .int .i64),(8, .int .i64)],[.row [ci], .box [.list 1]],63⟩,[((AX.exit 0),⟨[(0, .vec 0 1),(1, .int .i64),(2, .clo 88 [] [.bptr 1 0]),(6, .int .i64),(7, .int .i64)],[.row [ci], .box [.list 1]],63⟩)]⟩⟩,
 ⟨86,[false,true,true,true,true],2,⟨⟨[(0, .vec 0 1),(1, .int .i64),(2, .clo 88 [] [.bptr 1 0]),(6, .int .i64)],[.row [ci], .box [.list 1]],63⟩,[((AX.exit 2),⟨[],[.row [ci], .box [.list 1]],63⟩)]⟩⟩,
 ⟨86,[false,false,true,false,true,false,false,true,true,true,true],2,⟨⟨[(0, .vec 0 1),(1, .int .i64),(2, .clo 88 [] [.bptr 1 0]),(6, .int .i64),(7, .int .i64),(8, .int .i64)],[.row [ci], .box [.list 1]],63⟩,[((AX.exit 4),⟨[(0, .vec 0 1),(1, .int .i64),(2, .clo 88 [] [.bptr 1 0]),(6, .int .i64),(7, .int .i64)],[.row [ci], .box [.list 1]],63⟩)]⟩⟩]
def ja86:List JA:=
 []
def v15:List CF:=
 [⟨x2d,v5w⟩,⟨w1v,v5p⟩]
def an86:Anns:=
 ⟨v15,ja86,[]⟩
def v3w (p:Prim):(LD×(LD×T7))→Option ((LD×(LD×T7))⊕(LD×(LD×T4))):=
 fun a=>opt.run _ (
 opt.ask _ (p.cmp .leq a.2.2.2.2.2.1 a.2.2.1) (
 opt.need _ (p.eqN 0 0)<|
 opt.need _ (p.eqN (p.len a.1) (p.len a.1))<|
 opt.no _ 81) (
 opt.need _ (p.eqN 0 0)<|
 opt.need _ (p.eqN (p.len a.1) (p.len a.1))<|
 opt.ret _ (Sum.inr (a.1,(a.2.1,(a.2.2.1,(a.2.2.2.1,(a.2.2.2.2.1,()))))))))
def x7i (it:It) (p:Prim):(LD×(LD×T3))→Option ((LD×(LD×T3))⊕(LD×(LD×Unit))):=
 fun a=>opt.run _ (
 opt.ask _ (p.cmp .lss a.2.2.2.1 a.2.2.1) (
 opt.need _ (p.eqN 0 0)<|
 opt.need _ (p.eqN (p.len a.1) (p.len a.1))<|
 opt.bnd ((LD×(LD×T4))) _ (
 it _ _ (v3w p) (a.1,(a.2.1,(a.2.2.1,(a.2.2.2.1,((0:Int),((p.ar .mul .i64 (2:Int) a.2.2.2.1),()))))))) fun b=>
 opt.ask _ (p.cmp .lss (p.ar .add .i64 b.2.2.2.2.1 b.2.2.2.1) b.2.2.1) (
 opt.need _ (p.eqN 0 0)<|
 opt.need _ (p.eqN (p.len b.1) (p.len b.1))<|
 opt.no _ 81) (
 opt.need _ (p.eqN 0 0)<|
 opt.need _ (p.eqN (p.len b.1) (p.len b.1))<|
 opt.ret _ (Sum.inl (b.1,(b.2.1,(b.2.2.1,((p.ar .mul .i64 b.2.2.2.1 (2:Int)),()))))))) (
 opt.ret _ (Sum.inr (a.1,(a.2.1,())))))
def x7j (it:It) (p:Prim):(LD×(LD×T7))→Option ((LD×(LD×T7))⊕(LD×(LD×T4))):=
 fun a=>opt.run _ (
 opt.ask _ (p.cmp .leq a.2.2.2.2.2.1 a.2.2.1) (
 opt.need _ (p.eqN 0 0)<|
 opt.need _ (p.eqN (p.len a.1) (p.len a.1))<|
 opt.bnd ((LD×(LD×Unit))) _ (w1k it p (a.1,(a.2.1,(a.2.2.2.2.1,(a.2.2.2.2.2.1,()))))) fun b=>
 opt.need _ (p.eqN 0 0)<|
 opt.need _ (p.eqN (p.len a.1) (p.len b.1))<|
 opt.ret _ (Sum.inl (b.1,(b.2.1,(a.2.2.1,(a.2.2.2.1,(a.2.2.2.2.2.1,((p.ar .add .i64 a.2.2.2.2.2.1 a.2.2.2.1),())))))))) (
 opt.need _ (p.eqN 0 0)<|
 opt.need _ (p.eqN (p.len a.1) (p.len a.1))<|
 opt.ret _ (Sum.inr (a.1,(a.2.1,(a.2.2.1,(a.2.2.2.1,(a.2.2.2.2.1,()))))))))
def g86 (it:It):(p:Prim)→(LD×(LD×T1))→Option ((LD×(LD×Unit))):=
 fun p x=>
 opt.need _ (p.eqN 0 0)<|
 opt.need _ (p.eqN (p.len x.1) (p.len x.1))<|
 opt.bnd ((LD×(LD×T4))) _ (
 it _ _ (x7j it p) (x.1,(x.2.1,(x.2.2.1,((20:Int),((0:Int),((20:Int),()))))))) fun a=>
 opt.need _ (p.eqN 0 0)<|
 opt.need _ (p.eqN (p.len a.1) (p.len a.1))<|
 opt.bnd ((LD×(LD×Unit))) _ (w1k it p (a.1,(a.2.1,(a.2.2.2.2.1,(a.2.2.1,()))))) fun b=>
 opt.need _ (p.eqN 0 0)<|
 opt.need _ (p.eqN (p.len a.1) (p.len b.1))<|
 opt.bnd ((LD×(LD×Unit))) _ (
 it _ _ (x7i it p) (b.1,(b.2.1,(a.2.2.1,(a.2.2.2.1,()))))) fun c=>
 opt.ret _ (c.1,(c.2.1,()))
def G86:=g86 it0
theorem ok86:CtrOk PG w7j (G86 std):=okF (a:=an86) (l:=la86) (gC v0o (gC v0p (gN))) (by kernel_rfl) fun _ _=>by kernel_rfl
def w7m:Ctr:=
 ⟨66,[.vec 0 1, .clo 88 [] [.bptr 1 0]],[.row [ci], .box [.list 1]],[(.ret,⟨[(0, .tuple [])],[.row [ci], .box [.list 1]],1⟩)]⟩
def la66:List LA:=
 []
def ja66:List JA:=
 []
def v2b:List CF:=
 [⟨w7j,G86⟩]
def an66:Anns:=
 ⟨v2b,ja66,[]⟩
def g66 (it:It):(p:Prim)→(LD×(LD×Unit))→Option ((LD×(LD×Unit))):=
 fun p x=>
 opt.need _ (p.eqN 0 0)<|
 opt.need _ (p.eqN (p.len x.1) (p.len x.1))<|
 opt.bnd ((LD×(LD×Unit))) _ (g86 it p (x.1,(x.2.1,((p.ofNat (p.len x.1)),())))) fun a=>
 opt.ret _ (a.1,(a.2.1,()))
def G66:=g66 it0
theorem ok66:CtrOk PG w7m (G66 std):=okF (a:=an66) (l:=la66) (gC ok86 (gN)) (by kernel_rfl) fun _ _=>by kernel_rfl
def w4j:Ctr:=
 ⟨71,[.list 1],[],[(.ret,⟨[(0, .vec 0 1)],[.row [ci]],1⟩)]⟩
def la71:List LA:=
 [⟨71,[false,true,false,true,true],0,⟨⟨[(1, .bptr 0 0),(3, .vec 1 1),(6, .int .i64),(7, .int .i64)],[.box [.list 1], .row [ci]],19⟩,[((AX.exit 0),⟨[(1, .bptr 0 0),(3, .vec 1 1)],[.box [.list 1], .row [ci]],19⟩)]⟩⟩]
def ja71:List JA:=
 []
def v19:List CF:=
 [⟨w7m,G66⟩]
def an71:Anns:=
 ⟨v19,ja71,[]⟩
def x7t (p:Prim):(LD×(LD×T3))→Option ((LD×(LD×T3))⊕(LD×(LD×Unit))):=
 fun a=>opt.run _ (
 opt.ask _ (p.cmp .lss a.2.2.2.1 a.2.2.1) (
 opt.need _ (p.and (p.leN (p.add 0 1) (p.len [[(D.int .i64 a.2.2.2.1)]])) (p.and (p.leN (p.add 0 (p.len a.1)) (p.len a.1)) (p.and (p.leN 1 1) (p.leN (p.add (p.len a.1) 1) 1000000))))<|
 opt.need _ (p.eqN 0 0)<|
 opt.need _ (p.eqN (p.add (p.len a.1) 1) (p.len (p.app (p.cut a.1 0 (p.len a.1)) (p.cut [[(D.int .i64 a.2.2.2.1)]] 0 1))))<|
 opt.ret _ (Sum.inl ((p.app (p.cut a.1 0 (p.len a.1)) (p.cut [[(D.int .i64 a.2.2.2.1)]] 0 1)),(a.2.1,(a.2.2.1,((p.ar .add .i64 a.2.2.2.1 (1:Int)),())))))) (
 opt.need _ (p.eqN 0 0)<|
 opt.need _ (p.eqN (p.len a.1) (p.len a.1))<|
 opt.ret _ (Sum.inr (a.1,(a.2.1,())))))
def g71 (it:It):(p:Prim)→(LD×Unit)→Option ((LD×Unit)):=
 fun p x=>
 opt.bnd ((LD×(LD×Unit))) _ (
 it _ _ (x7t p) ([],(x.1,((p.ofNat (p.len x.1)),((0:Int),()))))) fun a=>
 opt.need _ (p.eqN 0 0)<|
 opt.need _ (p.eqN (p.len a.1) (p.len a.1))<|
 opt.bnd ((LD×(LD×Unit))) _ (g66 it p (a.1,(a.2.1,()))) fun b=>
 opt.need _ (p.eqN 0 0)<|
 opt.need _ (p.eqN (p.len a.1) (p.len b.1))<|
 opt.ret _ (b.1,())
def G71:=g71 it0
theorem v4x:CtrOk PG w4j (G71 std):=okF (a:=an71) (l:=la71) (gC ok66 (gN)) (by kernel_rfl) fun _ _=>by kernel_rfl
end Go.Am
end
noncomputable section
namespace Go.Am
def w4i:Ctr:=
 ⟨73,[.clo 90 [] [.bptr 0 0]],[.box [.sl 1 1], .row [ci]],[(.ret,⟨[(0, .vec 2 1)],[.box [.sl 1 1], .row [ci], .row [ci]],1⟩)]⟩
def la73:List LA:=
 [⟨90,[false,true],4,⟨⟨[(0, .yld 3),(5, .sl 1 1),(6, .int .i64),(7, .int .i64)],[.box [.sl 1 1], .row [ci], .box [.vec 4 1], .loop Go.LoopState.ready Option.none 106 [Bool.false,Bool.true,Bool.false,Bool.true] 13 [(6, .clo 90 [] [.bptr 0 0]),(2, .bptr 2 0)], .row [ci]],16⟩,[((AX.exit 0),⟨[],[.box [.sl 1 1], .row [ci], .box [.vec 4 1], .loop Go.LoopState.ready Option.none 106 [Bool.false,Bool.true,Bool.false,Bool.true] 13 [(6, .clo 90 [] [.bptr 0 0]),(2, .bptr 2 0)], .row [ci]],16⟩)]⟩⟩]
def ja73:List JA:=
 []
def v17:List CF:=
 [⟨w1t,w9r⟩]
def an73:Anns:=
 ⟨v17,ja73,[]⟩
def x37 (p:Prim):(LD×(LD×T18))→Option ((LD×(LD×T18))⊕(LD×(LD×T5))):=
 fun a=>opt.run _ (
 opt.ask _ (p.cmp .lss a.2.2.2.2.2.2.2.1 a.2.2.2.2.2.2.1) (
 opt.need _ (bif (p.cmp .geq a.2.2.2.2.2.2.2.1 (0:Int)) then (p.cmp .lss a.2.2.2.2.2.2.2.1 (p.ofNat a.2.2.2.2.2.1)) else Bool.false)<|
 opt.need _ (p.rowOk a.1 (p.add a.2.2.2.2.1 (p.nat a.2.2.2.2.2.2.2.1)) [ci])<|
 opt.need _ (p.and (p.leN (p.add 0 1) (p.len [[(D.int .i64 (p.rdI a.1 (p.add a.2.2.2.2.1 (p.nat a.2.2.2.2.2.2.2.1)) 0))]])) (p.and (p.leN (p.add 0 (p.len a.2.1)) (p.len a.2.1)) (p.and (p.leN 1 1) (p.leN (p.add (p.len a.2.1) 1) 1000000))))<|
 opt.need _ (p.eqN 0 0)<|
 opt.need _ (p.eqN (p.add (p.len a.2.1) 1) (p.len (p.app (p.cut a.2.1 0 (p.len a.2.1)) (p.cut [[(D.int .i64 (p.rdI a.1 (p.add a.2.2.2.2.1 (p.nat a.2.2.2.2.2.2.2.1)) 0))]] 0 1))))<|
 opt.ret _ (Sum.inl (a.1,((p.app (p.cut a.2.1 0 (p.len a.2.1)) (p.cut [[(D.int .i64 (p.rdI a.1 (p.add a.2.2.2.2.1 (p.nat a.2.2.2.2.2.2.2.1)) 0))]] 0 1)),(a.2.2.1,(a.2.2.2.1,(a.2.2.2.2.1,(a.2.2.2.2.2.1,(a.2.2.2.2.2.2.1,((p.ar .add .i64 a.2.2.2.2.2.2.2.1 (1:Int)),())))))))))) (
 opt.need _ (p.eqN 0 0)<|
 opt.need _ (p.eqN (p.len a.2.1) (p.len a.2.1))<|
 opt.ret _ (Sum.inr (a.1,(a.2.1,(a.2.2.1,(a.2.2.2.1,())))))))
def g73 (it:It):(p:Prim)→(LD×T5)→Option ((LD×(LD×T5))):=
 fun p x=>
 opt.bnd ((LD×(LD×T5))) _ (
 it _ _ (x37 p) (x.1,([],(x.2.1,(x.2.2.1,(x.2.1,(x.2.2.1,((p.ofNat x.2.2.1),((0:Int),()))))))))) fun a=>
 opt.need _ (p.eqN 0 0)<|
 opt.need _ (p.eqN (p.len a.2.1) (p.len a.2.1))<|
 opt.bnd ((LD×Unit)) _ (w5g it p (a.2.1,())) fun b=>
 opt.need _ (p.eqN 0 0)<|
 opt.need _ (p.eqN (p.len a.2.1) (p.len b.1))<|
 opt.ret _ (a.1,(b.1,(a.2.2.1,(a.2.2.2.1,()))))
def G73:=g73 it0
theorem v4w:CtrOk PG w4i (G73 std):=okF (a:=an73) (l:=la73) (gC v0k (gN)) (by kernel_rfl) fun _ _=>by kernel_rfl
end Go.Am
end
section
namespace Go.Am
open T11
theorem z6t {l:List Int} {q:Nat} (h:q<l.length):l[q]?=some (gI l q):=by
 rw [gI,List.getD_eq_getElem?_getD,List.getElem?_eq_getElem h]; rfl
theorem z8u (x:Int):[D.int IntKind.i64 x]=eI x:=rfl
theorem w1e (l:List Int) (j:Nat):(sw l j).map eI=((l.map eI).set (j+1) (eI (gI l j))).set j (eI (gI l (j+1))):=by
 simp [sw,List.map_set]
theorem w16 (x y:Int):G98 std (x,(y,()))=some (decide (x<y),()):=by
 unfold G98
 simp only [z1z,z10,eq_self,not_true,not_false_eq_true,decide_true,decide_false,Bool.not_true,Bool.not_false,Int.reduceLT,Int.reduceNeg,Int.reduceGT,cond_true,cond_false]
theorem y7a {j:Nat} (h:j≤1000000):IntKind.i64.wrap (((j+1:Nat):Int) - 1)=(j:Int):=by rw [z5q]<;>omega
theorem w04 (n:Nat) (h:n≤12):∃ y,G83 std (IntKind.u64.wrap (n:Int),())=some y:=by
 have hs:n=0∨n=1∨n=2∨n=3∨n=4∨n=5∨n=6∨n=7∨n=8∨n=9∨n=10∨n=11∨n=12:=by omega
 rcases hs with h|h|h|h|h|h|h|h|h|h|h|h|h<;>rw [h]<;>exact ⟨_,rfl⟩
theorem x7r (b i:Int):∀ (j:Nat) (l:List Int),j<l.length→l.length≤1000→
  z5i (y0d std) (z0k l,((0:Int),(b,(i,((j:Int),())))))=some (z0k (y6g id j l),((0:Int),(b,(i,())))):=by
 intro j
 induction j with
 |zero=>
  intro l hj hl
  have:y0d std (z0k l,((0:Int),(b,(i,(((0:Nat):Int),())))))=some (.inr (z0k l,((0:Int),(b,(i,()))))):=by
   have hn:¬ ((0:Nat):Int)>0:=by omega
   simp only [y0d,z1z,z10,hn]
  rw [z0y,this]; rfl
 |succ j ih=>
  intro l hj hl
  have hx:=z6t hj
  have hy:=z6t (l:=l) (q:=j) (by omega)
  have hw:=y7a (j:=j) (by omega)
  have hg:((j+1:Nat):Int)>0:=by omega
  have hsj:((l.map eI).set (j+1) (eI (gI l j)))[j]?=some (eI (gI l j)):=by rw [List.getElem?_set_ne (by omega),List.getElem?_map,hy]; rfl
  have h0:((j+1:Nat):Int)≥0:=by omega
  have h1:((j+1:Nat):Int)<(l.length:Int):=by omega
  have h2:(j:Int)≥0:=by omega
  have h3:(j:Int)<(l.length:Int):=by omega
  by_cases hlt:gI l (j+1)<gI l j
  ·have hb:y0d std (z0k l,((0:Int),(b,(i,(((j+1:Nat):Int),())))))=some (.inl (z0k (sw l j),((0:Int),(b,(i,((j:Int),())))))):=by
    simp only [y0d,w16,z1z,z10,z0k,z0v,z3q,z5l,z07,z0s,z2q,hg,h0,h1,h2,h3,hw,hx,hy,hlt,z8u,w1e,hsj,List.length_set]
   rw [z0y,hb,y6g,if_pos (show id (gI l (j+1))<id (gI l j) from hlt)]
   exact ih (sw l j) (by rw [z7k]; omega) (by rw [z7k]; exact hl)
  ·have hb:y0d std (z0k l,((0:Int),(b,(i,(((j+1:Nat):Int),())))))=some (.inr (z0k l,((0:Int),(b,(i,()))))):=by
    simp only [y0d,w16,z1z,z10,z0k,z0v,z3q,z5l,z07,z0s,z2q,hg,h0,h1,h2,h3,hw,hx,hy,hlt,z8u,List.length_set]
   rw [z0y,hb,y6g,if_neg (show ¬ id (gI l (j+1))<id (gI l j) from hlt)]
theorem x7e (n:Nat):∀ (k i:Nat) (l:List Int),l.length=n→n≤1000→i+k=n→
  z5i (z7f it0 std) (z0k l,((0:Int),((n:Int),((i:Int),()))))=some (z0k (x1u id k i l),()):=by
 intro k
 induction k with
 |zero=>
  intro i l hl hn hi
  have:z7f it0 std (z0k l,((0:Int),((n:Int),((i:Int),()))))=some (.inr (z0k l,())):=by
   have hn:¬ (i:Int)<n:=by omega
   simp only [z7f,z1z,z10,hn]
  rw [z0y,this]; rfl
 |succ k ih=>
  intro i l hl hn hi
  have hw:=z1g (i:=i) (by omega)
  have hlt:(i:Int)<n:=by omega
  have h1:it0 _ _ (y0d std) (z0k l,((0:Int),((n:Int),((i:Int),((i:Int),())))))=_:=x7r n i i l (by omega) (by omega)
  have:z7f it0 std (z0k l,((0:Int),((n:Int),((i:Int),()))))=some (.inl (z0k (y6g id i l),((0:Int),((n:Int),(((i+1:Nat):Int),()))))):=by
   simp only [z7f,z1z,z10,hlt,h1,z0i,hw]
  rw [z0y,this,x1u]
  exact ih (i+1) _ (by rw [z96]; exact hl) hn (by omega)
theorem w3w (l:List Int) (hl:l.length≤1000):w3x it0 std (z0k l,((0:Int),((l.length:Int),())))=some (z0k (z33 id l),()):=by
 have hw:IntKind.i64.wrap ((0:Int)+1)=((1:Nat):Int):=by decide
 cases hn:l.length with
 |zero=>
  have e:l=[]:=List.length_eq_zero_iff.1 hn
  subst e
  have hb:z7f it0 std (z0k [],((0:Int),(((0:Nat):Int),(((1:Nat):Int),()))))=some (.inr (z0k [],())):=by
   have hn:¬ ((1:Nat):Int)<((0:Nat):Int):=by omega
   simp only [z7f,z1z,z10,hn]
  have h1:it0 _ _ (z7f it0 std) (z0k [],((0:Int),(((0:Nat):Int),(((1:Nat):Int),()))))=some (z0k [],()):=by
   show z5i _ _=_
   rw [z0y,hb]
  simp only [w3x,z1z,z10,z0i,hw,h1]
  rfl
 |succ n=>
  have h1:it0 _ _ (z7f it0 std) (z0k l,((0:Int),(((n+1:Nat):Int),(((1:Nat):Int),()))))=_:=x7e (n+1) n 1 l hn (by omega) (by omega)
  have e:z33 id l=x1u id n 1 l:=by rw [z33,hn]; rfl
  simp only [w3x,z1z,z10,z0i,hw,h1,e]
theorem w5b (l:List Int) (hl:l.length≤12):w9r std (z0k l,())=some (z0k (z33 id l),()):=by
 obtain ⟨y,hy⟩:=w04 l.length hl
 have h92:=w3w l (by omega)
 have hw:IntKind.i64.wrap ((l.length:Int) - 0)=(l.length:Int):=by rw [z5q]<;>omega
 have h12:(l.length:Int)≤12:=by omega
 have hb:∀ q:Int,it0 _ _ (y84 it0 std) (z0k l,((0:Int),((l.length:Int),(q,(true,(true,()))))))=some (z0k (z33 id l),()):=by
  intro q
  show z5i _ _=_
  rw [z0y]
  simp only [y84,z1z,z10,z2q,hw,h12,h92]
 unfold w9r
 simp only [w5g,w62,z1z,z10,z05,hy,hb]
theorem w0t (A:List Int) (off len:Nat) (hl:off+len≤A.length) (h12:len≤1000):
  z5i (x37 std) (z0k A,(z0k [],(off,(len,(off,(len,((len:Int),((0:Int),()))))))))=some (z0k A,(z0k ((A.drop off).take len),(off,(len,())))):=by
 have key:=z4v (b:=x37 std) len (fun i=>(z0k A,(z0k ((A.drop off).take i),(off,(len,(off,(len,((len:Int),((i:Int),())))))))))
  (z0k A,(z0k ((A.drop off).take len),(off,(len,())))) (fun i hi=>by
  have hm:=z6t (l:=A) (q:=off+i) (by omega)
  have hw:=z1g (i:=i) (by omega)
  have hlt:(i:Int)<len:=by omega
  have h0:(0:Int)≤i:=by omega
  have ht:(A.drop off).take (i+1)=(A.drop off).take i++[gI A (off+i)]:=by
   have h1:i<(A.drop off).length:=by rw [List.length_drop]; omega
   have h2:(A.drop off)[i]?=some (gI A (off+i)):=by rw [List.getElem?_drop]; exact hm
   rw [List.take_succ_eq_append_getElem h1,(List.getElem?_eq_some_iff.1 h2).2]
  have hll:((A.drop off).take i).length=i:=by rw [List.length_take,List.length_drop]; omega
  rw [ht]
  generalize (A.drop off).take i=B at hll⊢
  have hle:i+1≤1000000:=by omega
  have hbl:(B.map eI).length=i:=by rw [List.length_map,hll]
  simp only [x37,z1z,z10,z0k,z0v,z3q,z5l,z07,z0s,hm,hlt,h0,ge_iff_le,z0i,hw,hbl,hle,z8u,List.map_append,List.map_cons,List.map_nil,List.drop_zero,List.take_of_length_le (Nat.le_of_eq hbl),Nat.le_refl,decide_true,Bool.and_true,
   List.take_succ_cons,List.take_zero,List.length_append,List.length_cons,List.length_nil,Nat.zero_add,cond_true,hll]) (by
  have hn:¬ (len:Int)<len:=by omega
  simp only [x37,z1z,z10,hn,decide_true])
 exact key
theorem w8t (A:List Int) (off len:Nat) (hl:off+len≤A.length) (h12:len≤12):
  G73 std (z0k A,(off,(len,())))=some (z0k A,(z0k (z33 id ((A.drop off).take len)),(off,(len,())))):=by
 have h1:it0 _ _ (x37 std) (z0k A,([],(off,(len,(off,(len,((len:Int),((0:Int),()))))))))=_:=w0t A off len hl (by omega)
 have hll:((A.drop off).take len).length=len:=by rw [List.length_take,List.length_drop]; omega
 have h2:w5g it0 std (z0k ((A.drop off).take len),())=_:=w5b ((A.drop off).take len) (by omega)
 unfold G73
 simp only [g73,z1z,z10,h1,h2,z05,z7l,decide_true]
def key (w:List Int) (x:Int):Int:=gI w x.toNat
def z9y (w l:List Int):Prop:=∀ q,q<l.length→0≤gI l q∧gI l q<w.length
theorem y76 {w l:List Int} (h:z9y w l) {j:Nat} (hj:j+1<l.length):z9y w (sw l j):=by
 intro q hq
 rw [z7k] at hq
 rw [x3r hj]
 split
 ·exact h _ hj
 ·split
  ·exact h _ (by omega)
  ·exact h _ hq
theorem y90 {w:List Int} (κ:Int→Int) (j:Nat) (l:List Int) (h:z9y w l) (hj:j<l.length):z9y w (y6g κ j l):=by
 induction j generalizing l with
 |zero=>exact h
 |succ j ih=>
  rw [y6g]
  split
  ·exact ih _ (y76 h hj) (by rw [z7k]; omega)
  ·exact h
theorem x7v (w:List Int) (b i:Int):∀ (j:Nat) (l:List Int),z9y w l→j<l.length→l.length≤1000→
  z5i (z8x std) (z0k l,(z0k w,((0:Int),(b,(i,((j:Int),()))))))=some (z0k (y6g (key w) j l),(z0k w,((0:Int),(b,(i,()))))):=by
 intro j
 induction j with
 |zero=>
  intro l hp hj hl
  have:z8x std (z0k l,(z0k w,((0:Int),(b,(i,(((0:Nat):Int),()))))))=some (.inr (z0k l,(z0k w,((0:Int),(b,(i,())))))):=by
   have hn:¬ ((0:Nat):Int)>0:=by omega
   simp only [z8x,z1z,z10,hn]
  rw [z0y,this]; rfl
 |succ j ih=>
  intro l hp hj hl
  have hx:=z6t hj
  have hy:=z6t (l:=l) (q:=j) (by omega)
  obtain ⟨p0,p1⟩:=hp (j+1) hj
  obtain ⟨q0,q1⟩:=hp j (by omega)
  have hkx:w[(gI l (j+1)).toNat]?=some (key w (gI l (j+1))):=z6t (by omega)
  have hky:w[(gI l j).toNat]?=some (key w (gI l j)):=z6t (by omega)
  have hw:=y7a (j:=j) (by omega)
  have hg:((j+1:Nat):Int)>0:=by omega
  have hsj:((l.map eI).set (j+1) (eI (gI l j)))[j]?=some (eI (gI l j)):=by rw [List.getElem?_set_ne (by omega),List.getElem?_map,hy]; rfl
  have h0:((j+1:Nat):Int)≥0:=by omega
  have h1:((j+1:Nat):Int)<(l.length:Int):=by omega
  have h2:(j:Int)≥0:=by omega
  have h3:(j:Int)<(l.length:Int):=by omega
  by_cases hlt:key w (gI l (j+1))<key w (gI l j)
  ·have hb:z8x std (z0k l,(z0k w,((0:Int),(b,(i,(((j+1:Nat):Int),()))))))=some (.inl (z0k (sw l j),(z0k w,((0:Int),(b,(i,((j:Int),()))))))):=by
    simp only [z8x,z1z,z10,z0k,z0v,z3q,z5l,z07,z0s,eq_self,not_true,not_false_eq_true,decide_true,decide_false,Bool.not_true,Bool.not_false,Int.reduceLT,Int.reduceNeg,Int.reduceGT,cond_true,cond_false,z2q,hg,h0,h1,h2,h3,hw,hx,hy,hkx,hky,ge_iff_le,p0,q0,hlt,z8u,w1e,hsj,List.length_set]
   rw [z0y,hb,y6g,if_pos hlt]
   exact ih (sw l j) (y76 hp hj) (by rw [z7k]; omega) (by rw [z7k]; exact hl)
  ·have hb:z8x std (z0k l,(z0k w,((0:Int),(b,(i,(((j+1:Nat):Int),()))))))=some (.inr (z0k l,(z0k w,((0:Int),(b,(i,())))))):=by
    by_cases hgt:key w (gI l (j+1))>key w (gI l j)
    ·simp only [z8x,z1z,z10,z0k,z0v,z3q,z5l,z07,z0s,eq_self,not_true,not_false_eq_true,decide_true,decide_false,Bool.not_true,Bool.not_false,Int.reduceLT,Int.reduceNeg,Int.reduceGT,cond_true,cond_false,z2q,hg,h0,h1,h2,h3,hw,hx,hy,hkx,hky,ge_iff_le,p0,q0,hlt,hgt,z8u,List.length_set]
    ·simp only [z8x,z1z,z10,z0k,z0v,z3q,z5l,z07,z0s,eq_self,not_true,not_false_eq_true,decide_true,decide_false,Bool.not_true,Bool.not_false,Int.reduceLT,Int.reduceNeg,Int.reduceGT,cond_true,cond_false,z2q,hg,h0,h1,h2,h3,hw,hx,hy,hkx,hky,ge_iff_le,p0,q0,hlt,hgt,z8u,List.length_set]
   rw [z0y,hb,y6g,if_neg hlt]
theorem x7l (w:List Int) (n:Nat):∀ (k i:Nat) (l:List Int),z9y w l→l.length=n→n≤1000→i+k=n→
  z5i (z7g it0 std) (z0k l,(z0k w,((0:Int),((n:Int),((i:Int),())))))=some (z0k (x1u (key w) k i l),(z0k w,())):=by
 intro k
 induction k with
 |zero=>
  intro i l hp hl hn hi
  have:z7g it0 std (z0k l,(z0k w,((0:Int),((n:Int),((i:Int),())))))=some (.inr (z0k l,(z0k w,()))):=by
   have hn:¬ (i:Int)<n:=by omega
   simp only [z7g,z1z,z10,hn]
  rw [z0y,this]; rfl
 |succ k ih=>
  intro i l hp hl hn hi
  have hw:=z1g (i:=i) (by omega)
  have hlt:(i:Int)<n:=by omega
  have h1:it0 _ _ (z8x std) (z0k l,(z0k w,((0:Int),((n:Int),((i:Int),((i:Int),()))))))=_:=x7v w n i i l hp (by omega) (by omega)
  have:z7g it0 std (z0k l,(z0k w,((0:Int),((n:Int),((i:Int),())))))=some (.inl (z0k (y6g (key w) i l),(z0k w,((0:Int),((n:Int),(((i+1:Nat):Int),())))))):=by
   simp only [z7g,z1z,z10,hlt,h1,z0i,hw]
  rw [z0y,this,x1u]
  exact ih (i+1) _ (y90 _ _ _ hp (by omega)) (by rw [z96]; exact hl) hn (by omega)
theorem w3y (w l:List Int) (hp:z9y w l) (hl:l.length≤1000):w1k it0 std (z0k l,(z0k w,((0:Int),((l.length:Int),()))))=some (z0k (z33 (key w) l),(z0k w,())):=by
 have hw:IntKind.i64.wrap ((0:Int)+1)=((1:Nat):Int):=by decide
 cases hn:l.length with
 |zero=>
  have e:l=[]:=List.length_eq_zero_iff.1 hn
  subst e
  have hb:z7g it0 std (z0k [],(z0k w,((0:Int),(((0:Nat):Int),(((1:Nat):Int),())))))=some (.inr (z0k [],(z0k w,()))):=by
   have hn:¬ ((1:Nat):Int)<((0:Nat):Int):=by omega
   simp only [z7g,z1z,z10,hn]
  have h1:it0 _ _ (z7g it0 std) (z0k [],(z0k w,((0:Int),(((0:Nat):Int),(((1:Nat):Int),())))))=some (z0k [],(z0k w,())):=by
   show z5i _ _=_
   rw [z0y,hb]
  simp only [w1k,z1z,z10,z0i,hw,h1]
  rfl
 |succ n=>
  have h1:it0 _ _ (z7g it0 std) (z0k l,(z0k w,((0:Int),(((n+1:Nat):Int),(((1:Nat):Int),())))))=_:=x7l w (n+1) n 1 l hp hn (by omega) (by omega)
  have e:z33 (key w) l=x1u (key w) n 1 l:=by rw [z33,hn]; rfl
  simp only [w1k,z1z,z10,z0i,hw,h1,e]
theorem w63 (w l:List Int) (hp:z9y w l) (hl:l.length≤12):g66 it0 std (z0k l,(z0k w,()))=some (z0k (z33 (key w) l),(z0k w,())):=by
 have h1:=w3y w l hp (by omega)
 have n20:¬ (20:Int)≤(l.length:Int):=by omega
 have n20':¬ (20:Int)<(l.length:Int):=by omega
 have e1:it0 _ _ (x7j it0 std) (z0k l,(z0k w,((l.length:Int),((20:Int),((0:Int),((20:Int),()))))))=some (z0k l,(z0k w,((l.length:Int),((20:Int),((0:Int),()))))):=by
  show z5i _ _=_
  rw [z0y]
  simp only [x7j,z1z,z10,n20]
 have e2:it0 _ _ (x7i it0 std) (z0k (z33 (key w) l),(z0k w,((l.length:Int),((20:Int),()))))=some (z0k (z33 (key w) l),(z0k w,())):=by
  show z5i _ _=_
  rw [z0y]
  simp only [x7i,z1z,z10,n20']
 simp only [g66,g86,z1z,z10,z05,e1,h1,e2,z7l]
def y38 (n:Nat):List Int:=(List.range n).map fun (i:Nat)=>(i:Int)
theorem z8p (n:Nat):(y38 n).length=n:=by simp [y38]
theorem x7y (n:Nat):y38 (n+1)=y38 n++[(n:Int)]:=by simp [y38,List.range_succ]
theorem x29 (w:List Int):z9y w (y38 w.length):=by
 intro q hq
 rw [z8p] at hq
 have:gI (y38 w.length) q=(q:Int):=by
  rw [gI,y38,List.getD_eq_getElem?_getD,List.getElem?_map,List.getElem?_range hq]; rfl
 rw [this]; omega
def y0t (w:List Int):List Int:=z33 (key w) (y38 w.length)
theorem w8v (w:List Int) (hl:w.length≤12):G71 std (z0k w,())=some (z0k (y0t w),()):=by
 have h1:it0 _ _ (x7t std) ([],(z0k w,((w.length:Int),((0:Int),()))))=some (z0k (y38 w.length),(z0k w,())):=by
  have key:=z4v (b:=x7t std) w.length (fun i=>(z0k (y38 i),(z0k w,((w.length:Int),((i:Int),()))))) (z0k (y38 w.length),(z0k w,())) (fun i hi=>by
   have hw:=z1g (i:=i) (by omega)
   have hlt:(i:Int)<w.length:=by omega
   have hle:i+1≤1000000:=by omega
   have hll:=z8p i
   rw [x7y]
   generalize y38 i=B at hll⊢
   have hbl:(B.map eI).length=i:=by rw [List.length_map,hll]
   simp only [x7t,z1z,z10,z0k,hlt,z0i,hw,hbl,hle,z8u,List.map_append,List.map_cons,List.map_nil,List.drop_zero,List.take_of_length_le (Nat.le_of_eq hbl),Nat.le_refl,decide_true,Bool.and_true,
    List.take_succ_cons,List.take_zero,List.length_append,List.length_cons,List.length_nil,Nat.zero_add,hll]) (by
   have hn:¬ (w.length:Int)<w.length:=by omega
   simp only [x7t,z1z,z10,hn,decide_true])
  exact key
 have h2:=w63 w (y38 w.length) (x29 w) (by rw [z8p]; exact hl)
 unfold G71
 simp only [g71,z1z,z10,z05,h1,h2,y0t,z7l,z8p,decide_true]
end Go.Am
end
section
namespace Go.Am
open T11
variable {fl:List Int→Bool}
theorem z23 {d:List (List Int)} (h:z06 d=0):1≤d.length∧d.length≤10:=by
 refine ⟨Nat.le_of_not_lt fun h'=>?_,Nat.le_of_not_lt fun h'=>?_⟩
 ·rw [z06,if_pos (.inl (by omega))] at h; exact absurd h (by decide)
 ·rw [z06,if_pos (.inr h')] at h; exact absurd h (by decide)
theorem y15 {d:List (List Int)} (h:z06 d=0):∀ i,i<d.length→z3a (d.getD i []) d.length:=by
 have hl:=z23 h
 rw [z06,if_neg (by omega)] at h
 by_cases a:∃ i∈List.range d.length,¬ z3a (d.getD i []) d.length
 ·rw [if_pos a] at h; exact absurd h (by decide)
 ·intro i hi
  exact Classical.byContradiction fun hn=>a ⟨i,List.mem_range.2 hi,hn⟩
theorem z6v {d:List (List Int)} (h:z06 d=0):y4a (bt d) d.length:=by
 have hl:=z23 h
 have hr:=y15 h
 rw [z06,if_neg (by omega)] at h
 rw [if_neg (by rintro ⟨i,hi,hn⟩; exact hn (hr i (List.mem_range.1 hi)))] at h
 by_cases a:∃ i∈List.range d.length,y62 d i
 ·rw [if_pos a] at h; exact absurd h (by decide)
 have hno:∀ i,i<d.length→¬ y62 d i:=fun i hi hb=>a ⟨i,List.mem_range.2 hi,hb⟩
 have h1:∀ i k,i<d.length→k<i→bt d i k=!bt d k i:=by
  intro i k hi hk
  have:=hno i hi
  have h2:¬ decide ((i:Int)∈d.getD k [])=decide ((k:Int)∈d.getD i []):=fun e=>this (.inr ⟨k,List.mem_range.2 hk,e⟩)
  rw [bt,bt]
  cases h3:decide ((i:Int)∈d.getD k [])<;>cases h4:decide ((k:Int)∈d.getD i [])<;>rw [h3,h4] at h2
  ·exact absurd rfl h2
  ·rfl
  ·rfl
  ·exact absurd rfl h2
 refine ⟨fun i hi=>?_,fun i k hi hk hne=>?_⟩
 ·rw [bt]; exact decide_eq_false fun hm=>hno i hi (.inl hm)
 ·by_cases hlt:k<i
  ·exact h1 i k hi hlt
  ·rw [h1 k i hk (by omega),Bool.not_not]
theorem w5w {l:List Int} {n:Int} (h:z3a l n):l.Pairwise (· < ·):=by
 have hstep:∀ i,i+1<l.length→gI l i<gI l (i+1):=fun i hi=>by
  have:=(h (i+1) hi).2.2 (by omega)
  rwa [Nat.add_sub_cancel] at this
 have hall:∀ k i,i+k+1<l.length→gI l i<gI l (i+k+1):=by
  intro k
  induction k with
  |zero=>intro i hi; exact hstep i hi
  |succ k ih=>
   intro i hi
   have h1:=ih i (by omega)
   have h2:=hstep (i+k+1) (by omega)
   rw [show i+(k+1)+1=i+k+1+1 by omega]
   omega
 rw [List.pairwise_iff_getElem]
 intro i j hi hj hij
 have:=hall (j - i - 1) i (by omega)
 rw [show i+(j - i - 1)+1=j by omega] at this
 simpa [gI,List.getD_eq_getElem?_getD,hi,hj] using this
theorem y55 {l:List Int} {n:Int} (h:z3a l n) {x:Int} (hx:x∈l):0≤x∧x<n:=by
 obtain ⟨i,hi⟩:=List.getElem?_of_mem hx
 have:=h i (List.getElem?_eq_some_iff.1 hi).1
 rw [x8s,z3x hi] at this
 exact ⟨this.1,this.2.1⟩
theorem x31 (n:Nat) (p:Nat→Bool):cnt n p=((List.range n).filter p).length:=by
 induction n with
 |zero=>rfl
 |succ n ih=>
  rw [y18,ih,List.range_succ,List.filter_append,List.length_append]
  congr 1
  cases h:p n<;>simp [h,o1]
theorem x21 {l:List Int} {n:Nat} (h:z3a l n):(List.range n).filter (fun (k:Nat)=>decide ((k:Int)∈l))=l.map Int.toNat:=by
 refine w1a (List.Pairwise.filter _ List.pairwise_lt_range) ?_ fun x=>?_
 ·rw [List.pairwise_map]
  exact (w5w h).imp_of_mem fun {a b} ha hb hab=>by
   have:=y55 h ha; have:=y55 h hb; omega
 ·simp only [List.mem_filter,List.mem_range,decide_eq_true_eq,List.mem_map]
  constructor
  ·rintro ⟨_,h2⟩; exact ⟨(x:Int),h2,by omega⟩
  ·rintro ⟨y,hy,rfl⟩
   have:=y55 h hy
   have e:((y.toNat:Nat):Int)=y:=by omega
   exact ⟨by omega,by rw [e]; exact hy⟩
theorem x5c {l:List Int} {n:Nat} (h:z3a l n):cnt n (fun (k:Nat)=>decide ((k:Int)∈l))=l.length:=by
 rw [x31,x21 h,List.length_map]
def wn (d:List (List Int)) (i:Nat):Nat:=cnt d.length (bt d i)
theorem w5j {d:List (List Int)} (h:z06 d=0) {i:Nat} {m:List Int} (hm:d[i]?=some m):m.length=wn d i:=by
 have hi:=(List.getElem?_eq_some_iff.1 hm).1
 have hr:=y15 h i hi
 rw [z3x hm] at hr
 rw [wn, ←x5c hr]
 exact z3d fun k _=>(w11 hm k).symm
theorem x78 {d:List (List Int)} (h:z06 d=0):z1s d=(List.range d.length).map fun i=>((wn d i:Nat):Int):=by
 apply List.ext_getElem?
 intro i
 rw [z1s,List.getElem?_map,List.getElem?_map]
 by_cases hi:i<d.length
 ·obtain ⟨m,hm⟩:=z2h hi
  rw [hm,List.getElem?_range hi,Option.map_some,Option.map_some,w5j h hm]
 ·rw [List.getElem?_eq_none (by omega),List.getElem?_eq_none (by simp; omega)]; rfl
theorem z7i {d:List (List Int)} (h:z06 d=0) {i:Nat} (hi:i<d.length):(z1s d)[i]?=some ((wn d i:Nat):Int):=by
 rw [x78 h,List.getElem?_map,List.getElem?_range hi]; rfl
theorem w9t {d:List (List Int)} (h:z06 d=0) {i:Nat} (hi:i<d.length):wn d i<d.length:=by
 have h1:=z6v h
 have h2:=y6r d.length (bt d i)
 have h3:=y6q (p:=fun k=>!bt d i k) hi (by rw [h1.1 i hi]; rfl)
 rw [wn]; omega
theorem w31 (n:Int) (f:Nat→Nat→Bool) (i:Nat) (hi:i<10):((fld n f).drop (1+i*10)).take 10=z0k ((List.range 10).map fun k=>bif f i k then 1 else 0):=by
 apply List.ext_getElem?
 intro k
 rw [z0k,List.map_map,List.getElem?_map]
 by_cases hk:k<10
 ·rw [List.getElem?_take_of_lt hk,List.getElem?_drop,y0y n f i k hi hk,List.getElem?_range hk]; rfl
 ·rw [List.getElem?_eq_none (by rw [List.length_take]; omega),List.getElem?_eq_none (by simp; omega)]; rfl
theorem x8i (p:Nat→Bool) (n:Nat):((List.range n).map fun k=>(bif p k then 1 else 0:Int)).sum=(cnt n p:Nat):=by
 induction n with
 |zero=>rfl
 |succ n ih=>
  rw [List.range_succ,List.map_append,List.sum_append,ih,y18]
  cases h:p n<;>simp [h,o1]
theorem v3u {d:List (List Int)} (h:z06 d=0) {i k:Nat} (hk:d.length≤k):bt d i k=false:=by
 by_cases hi:i<d.length
 ·rw [bt]
  refine decide_eq_false fun hm=>?_
  have:=y55 (y15 h i hi) hm
  omega
 ·exact w12 (by omega) k
theorem w4q {d:List (List Int)} (h:z06 d=0) (i:Nat):cnt 10 (bt d i)=wn d i:=by
 have hl:=z23 h
 have e:cnt 10 (bt d i)=cnt d.length (bt d i)+cnt (10 - d.length) fun j=>bt d i (d.length+j):=by
  rw [←z5m]; congr 1; omega
 rw [e,z3d (n:=10 - d.length) (q:=fun _=>false) fun j _=>v3u h (by omega),z71]; rfl
theorem w17 (d:List (List Int)) (hr:∀ l∈d,l.length≤1000000):G35 std (z0s fl d,())=some (if z06 d=0 then (z0k (z1s d),((0:Int),())) else ([],(z06 d,()))):=by
 have h54:g54 it0 std (z0s fl d,())=_:=w8y d hr
 unfold G35
 by_cases h:z06 d=0
 ·rw [if_pos h] at h54
  have hl:=z23 h
  have key:=z4v (b:=x0n it0 std) d.length (fun i=>(fld d.length (bt d),(z0k ((z1s d).take i++List.replicate (d.length - i) 0),((d.length:Int),((i:Int),()))))) (z0k (z1s d),()) (fun i hi=>by
   have hw:=z1g (i:=i) (by omega)
   have hlt:(i:Int)<d.length:=by omega
   have h0:(0:Int)≤i:=by omega
   have hi1:(i:Int)<((10:Nat):Int):=by omega
   have hrow:=w31 d.length (bt d) i (by omega)
   have hfl:=w32 d.length (bt d)
   have hsum:=x8i (bt d i) 10
   rw [w4q h] at hsum
   have h70:g70 it0 std (z0k ((List.range 10).map fun k=>bif bt d i k then 1 else 0),())=some (((wn d i:Nat):Int),()):=by
    have:=w8w ((List.range 10).map fun k=>bif bt d i k then 1 else 0) (by simp) (fun x hx=>by
     simp only [List.mem_map] at hx
     obtain ⟨k,_,rfl⟩:=hx
     cases bt d i k<;>simp)
    rw [hsum] at this
    exact this
   have hget:=z7i h hi
   have hwl:=z29 d
   have hset:((z1s d).take i++List.replicate (d.length - i) 0).set i ((wn d i:Nat):Int)=(z1s d).take (i+1)++List.replicate (d.length - (i+1)) 0:=by
    have hti:((z1s d).take i).length=i:=by rw [List.length_take]; omega
    rw [List.take_succ_eq_append_getElem (by omega),(List.getElem?_eq_some_iff.1 hget).2,show d.length - i=(d.length - (i+1))+1 by omega,List.replicate_succ,List.set_append_right (h:=by omega),hti,Nat.sub_self,List.set_cons_zero,List.append_assoc]
    rfl
   rw [←hset]
   have hBl:((z1s d).take i++List.replicate (d.length - i) 0).length=d.length:=by
    rw [List.length_append,List.length_take,List.length_replicate]; omega
   generalize (z1s d).take i++List.replicate (d.length - i) (0:Int)=B at hBl⊢
   have hEl:(B.map eI).length=d.length:=by rw [List.length_map,hBl]
   have h111:1+i*10+10≤101:=by omega
   have hF0:(fld d.length (bt d))[1+i*10]?=some (eC (bt d i 0)):=y0y d.length (bt d) i 0 (by omega) (by omega)
   have hBi:=z6t (l:=B) (q:=i) (by omega)
   have hms:(B.set i ((wn d i:Nat):Int)).map eI=(B.map eI).set i (eI ((wn d i:Nat):Int)):=by rw [List.map_set]
   generalize fld d.length (bt d)=F at hrow hfl hF0⊢
   simp only [z0k] at h70 hrow
   generalize ((List.range 10).map fun k=>(bif bt d i k then 1 else 0:Int))=ROW at hrow h70
   simp only [x0n,z1z,z10,z0k,hlt,h0,hi1,ge_iff_le,z0i,hw,hfl,h111,hrow,h70,hEl,hBl,z8u,hms,hF0,hBi,y19,z0v,decide_true,cond_true,Bool.and_true,List.length_set]) (by
   have hn:¬ (d.length:Int)<d.length:=by omega
   rw [Nat.sub_self,List.replicate_zero,List.append_nil,List.take_of_length_le (by rw [z29]; exact Nat.le_refl _)]
   simp only [x0n,z1z,z10,hn,decide_true])
  have key':it0 _ _ (x0n it0 std) (fld d.length (bt d),(z0k (List.replicate d.length 0),((d.length:Int),((0:Int),()))))=some (z0k (z1s d),()):=by
   have:=key
   simp only [List.take_zero,List.nil_append,Nat.sub_zero] at this
   exact this
  have hf0:(fld d.length (bt d))[0]?=some (eI d.length):=rfl
  have hrep:z0k (List.replicate d.length 0)=List.replicate d.length (eI 0):=by rw [z0k,List.map_replicate]
  rw [hrep] at key'
  have hn0:(0:Int)≤d.length:=by omega
  have hnm:(d.length:Int)≤1000000:=by omega
  have hwl:=z29 d
  simp only [g35,z1z,z10,eq_self,not_true,not_false_eq_true,decide_true,decide_false,Bool.not_true,Bool.not_false,Int.reduceLT,Int.reduceNeg,Int.reduceGT,cond_true,cond_false,h54,h,hf0,z0v,z3q,ge_iff_le,hn0,hnm,Int.le_refl,Bool.and_true,z8u,key',z05,Nat.le_refl,ne_eq,List.length_replicate]
  done
 ·rw [if_neg h] at h54
  simp only [g35,z1z,z10,eq_self,not_true,not_false_eq_true,decide_true,decide_false,Bool.not_true,Bool.not_false,Int.reduceLT,Int.reduceNeg,Int.reduceGT,cond_true,cond_false,h54,h,ne_eq]
  done
theorem w8c (w:Nat):((w:Int)*((w:Int) - 1)).tdiv 2=(c2 w:Nat):=by
 have:=w8d w
 cases w with
 |zero=>rfl
 |succ w=>
  rw [Nat.add_sub_cancel] at this
  have e:(((w+1:Nat):Int)*(((w+1:Nat):Int) - 1))=2*(c2 (w+1):Nat):=by
   have e1:(((w+1:Nat):Int) - 1)=(w:Int):=by omega
   rw [e1]
   have:=congrArg (fun (n:Nat)=>(n:Int)) this
   simp only [Int.natCast_mul] at this
   rw [←this]; rfl
  rw [e]
  exact Int.mul_tdiv_cancel_left _ (by decide)
theorem w4t {w:Nat} (h:w≤10):c2 w≤45:=by
 have hs:w=0∨w=1∨w=2∨w=3∨w=4∨w=5∨w=6∨w=7∨w=8∨w=9∨w=10:=by omega
 rcases hs with h|h|h|h|h|h|h|h|h|h|h<;>subst h<;>decide
end Go.Am
end
noncomputable section
namespace Go.Am
def w72:Ctr:=
 ⟨24,[.list 1, .list 1],[],[(.ret,⟨[(0, .int .i64)],[],1⟩)]⟩
def la24:List LA:=
 [⟨24,[false,true,false,true,true,true,true,true,true,true],0,⟨⟨[(1, .list 1),(5, .bptr 0 0),(8, .int .i64)],[.row [ci]],59⟩,[(AX.ret,⟨[(4, .int .i64)],[],59⟩),((AX.exit 1),⟨[],[],59⟩)]⟩⟩]
def ja24:List JA:=
 [⟨24,[true,false,false,true,true],0,[(AX.ret,⟨[(4, .int .i64)],[],59⟩),(AX.normal,⟨[(1, .list 1),(5, .bptr 0 0)],[.row [ci]],59⟩)]⟩]
def v20:List CF:=
 [⟨w0a,G56⟩,⟨w1u,v5o⟩,⟨w0b,G54⟩]
def an24:Anns:=
 ⟨v20,ja24,[]⟩
def v4b (p:Prim):(LD×(LD×T1))→Option ((LD×(LD×T1))⊕T16):=
 fun a=>opt.run _ (
 opt.ask _ (p.cmp .lss a.2.2.1 (p.ofNat (p.len a.2.1))) (
 opt.need _ (p.rowOk a.2.1 (p.nat (p.ar .sub .i64 a.2.2.1 (1:Int))) [ci])<|
 opt.need _ (p.cmp .geq (p.ar .sub .i64 a.2.2.1 (1:Int)) (0:Int))<|
 opt.need _ (p.rowOk a.2.1 (p.nat a.2.2.1) [ci])<|
 opt.need _ (p.cmp .geq a.2.2.1 (0:Int))<|
 opt.need _ (bif (p.cmp .geq (p.rdI a.2.1 (p.nat (p.ar .sub .i64 a.2.2.1 (1:Int))) 0) (0:Int)) then (p.cmp .lss (p.rdI a.2.1 (p.nat (p.ar .sub .i64 a.2.2.1 (1:Int))) 0) (p.ofNat 10)) else Bool.false)<|
 opt.need _ (bif (p.cmp .geq (p.rdI a.2.1 (p.nat a.2.2.1) 0) (0:Int)) then (p.cmp .lss (p.rdI a.2.1 (p.nat a.2.2.1) 0) (p.ofNat 10)) else Bool.false)<|
 opt.need _ (p.rowOk a.1 (p.add (p.add 1 (p.mul (p.nat (p.rdI a.2.1 (p.nat (p.ar .sub .i64 a.2.2.1 (1:Int))) 0)) 10)) (p.nat (p.rdI a.2.1 (p.nat a.2.2.1) 0))) [ci])<|
 opt.ask _ (bif (p.cmp .eql (p.rdI a.1 (p.add (p.add 1 (p.mul (p.nat (p.rdI a.2.1 (p.nat (p.ar .sub .i64 a.2.2.1 (1:Int))) 0)) 10)) (p.nat (p.rdI a.2.1 (p.nat a.2.2.1) 0))) 0) (1:Int)) then Bool.false else Bool.true) (
 opt.ret _ (Sum.inr (Sum.inl ((16:Int),())))) (
 opt.ret _ (Sum.inl (a.1,(a.2.1,((p.ar .add .i64 a.2.2.1 (1:Int)),())))))) (
 opt.ret _ (Sum.inr (Sum.inr ()))))
def v4c (p:Prim):(LD×(LD×T1))→Option ((LD×(LD×T1))⊕T16):=
 fun a=>opt.run _ (
 opt.ask _ (p.cmp .lss a.2.2.1 (p.ofNat (p.len a.2.1))) (
 opt.need _ (p.rowOk a.2.1 (p.nat (p.ar .sub .i64 a.2.2.1 (1:Int))) [ci])<|
 opt.need _ (p.cmp .geq (p.ar .sub .i64 a.2.2.1 (1:Int)) (0:Int))<|
 opt.need _ (p.rowOk a.2.1 (p.nat a.2.2.1) [ci])<|
 opt.need _ (p.cmp .geq a.2.2.1 (0:Int))<|
 opt.need _ (bif (p.cmp .geq (p.rdI a.2.1 (p.nat (p.ar .sub .i64 a.2.2.1 (1:Int))) 0) (0:Int)) then (p.cmp .lss (p.rdI a.2.1 (p.nat (p.ar .sub .i64 a.2.2.1 (1:Int))) 0) (p.ofNat 10)) else Bool.false)<|
 opt.need _ (bif (p.cmp .geq (p.rdI a.2.1 (p.nat a.2.2.1) 0) (0:Int)) then (p.cmp .lss (p.rdI a.2.1 (p.nat a.2.2.1) 0) (p.ofNat 10)) else Bool.false)<|
 opt.need _ (p.rowOk a.1 (p.add (p.add 1 (p.mul (p.nat (p.rdI a.2.1 (p.nat (p.ar .sub .i64 a.2.2.1 (1:Int))) 0)) 10)) (p.nat (p.rdI a.2.1 (p.nat a.2.2.1) 0))) [ci])<|
 opt.ask _ (bif (p.cmp .eql (p.rdI a.1 (p.add (p.add 1 (p.mul (p.nat (p.rdI a.2.1 (p.nat (p.ar .sub .i64 a.2.2.1 (1:Int))) 0)) 10)) (p.nat (p.rdI a.2.1 (p.nat a.2.2.1) 0))) 0) (1:Int)) then Bool.false else Bool.true) (
 opt.ret _ (Sum.inr (Sum.inl ((16:Int),())))) (
 opt.ret _ (Sum.inl (a.1,(a.2.1,((p.ar .add .i64 a.2.2.1 (1:Int)),())))))) (
 opt.ret _ (Sum.inr (Sum.inr ()))))
def g24 (it:It):(p:Prim)→(LD×(LD×Unit))→Option T2:=
 fun p x=>
 opt.alt T2 ((LD×T1)) _ (g54 it p (x.1,())) (fun a=>
 opt.alt T2 ((LD×(LD×Unit))) _ (
 opt.run T38 (
 opt.ask _ (p.cmp .neq a.1 (0:Int)) (
 opt.ret _ (Sum.inl (a.1,()))) (
 opt.no _ 41))) (fun b=>
 opt.ret _ (b.1,())) (fun c=>
 opt.bnd ((LD×(LD×Unit))) _ (some c) fun d=>
 opt.need _ (p.and (p.cmp .geq (p.ofNat (p.len d.2.1)) (0:Int)) (p.and (p.cmp .leq (p.ofNat (p.len d.2.1)) (p.ofNat (p.len d.2.1))) (p.cmp .leq (p.ofNat (p.len d.2.1)) (1000000:Int))))<|
 opt.need _ (p.and Bool.true (p.and (p.leN (p.len d.2.1) (p.nat (p.ofNat (p.len d.2.1)))) (p.leN (p.add 0 (p.nat (p.ofNat (p.len d.2.1)))) (p.len (p.rep (p.nat (p.ofNat (p.len d.2.1))) k0k)))))<|
 opt.need _ (p.eqN 0 0)<|
 opt.need _ (p.eqN (p.nat (p.ofNat (p.len d.2.1))) (p.len (p.splice (p.rep (p.nat (p.ofNat (p.len d.2.1))) k0k) 0 d.2.1)))<|
 opt.need _ (p.eqN (p.nat (p.ofNat (p.len d.2.1))) (p.len (p.splice (p.rep (p.nat (p.ofNat (p.len d.2.1))) k0k) 0 d.2.1)))<|
 opt.bnd ((LD×Unit)) _ (w64 it p ((p.splice (p.rep (p.nat (p.ofNat (p.len d.2.1))) k0k) 0 d.2.1),())) fun e=>
 opt.need _ (p.rowOk d.1 0 [ci])<|
 opt.need _ (p.and (p.leN (p.add 0 (p.nat (p.ofNat (p.len d.2.1)))) (p.len e.1)) (p.and Bool.true Bool.true))<|
 opt.bnd T0 _ (g56 it p ((p.cut e.1 0 (p.nat (p.ofNat (p.len d.2.1)))),((p.rdI d.1 0 0),()))) fun f=>
 opt.ask _ (bif f.1 then Bool.false else Bool.true) (
 opt.ret _ ((3:Int),())) (
 opt.alt T2 (Unit) _ (
 it _ _ (v4c p) (d.1,(d.2.1,((1:Int),())))) (fun g=>
 opt.ret _ (g.1,())) (fun h=>
 opt.bnd (Unit) _ (some h) fun i=>
 opt.ret _ ((0:Int),()))))) (fun j=>
 opt.bnd ((LD×T1)) _ (some j) fun k=>
 opt.alt T2 ((LD×(LD×Unit))) _ (
 opt.run T38 (
 opt.ask _ (p.cmp .neq k.2.1 (0:Int)) (
 opt.ret _ (Sum.inl (k.2.1,()))) (
 opt.need _ (p.rowOk k.1 0 [ci])<|
 opt.ask _ (p.cmp .neq (p.ofNat (p.len x.2.1)) (p.rdI k.1 0 0)) (
 opt.ret _ (Sum.inl ((15:Int),()))) (
 opt.ret _ (Sum.inr (k.1,(x.2.1,()))))))) (fun l=>
 opt.ret _ (l.1,())) (fun m=>
 opt.bnd ((LD×(LD×Unit))) _ (some m) fun n=>
 opt.need _ (p.and (p.cmp .geq (p.ofNat (p.len n.2.1)) (0:Int)) (p.and (p.cmp .leq (p.ofNat (p.len n.2.1)) (p.ofNat (p.len n.2.1))) (p.cmp .leq (p.ofNat (p.len n.2.1)) (1000000:Int))))<|
 opt.need _ (p.and Bool.true (p.and (p.leN (p.len n.2.1) (p.nat (p.ofNat (p.len n.2.1)))) (p.leN (p.add 0 (p.nat (p.ofNat (p.len n.2.1)))) (p.len (p.rep (p.nat (p.ofNat (p.len n.2.1))) k0k)))))<|
 opt.need _ (p.eqN 0 0)<|
 opt.need _ (p.eqN (p.nat (p.ofNat (p.len n.2.1))) (p.len (p.splice (p.rep (p.nat (p.ofNat (p.len n.2.1))) k0k) 0 n.2.1)))<|
 opt.need _ (p.eqN (p.nat (p.ofNat (p.len n.2.1))) (p.len (p.splice (p.rep (p.nat (p.ofNat (p.len n.2.1))) k0k) 0 n.2.1)))<|
 opt.bnd ((LD×Unit)) _ (w64 it p ((p.splice (p.rep (p.nat (p.ofNat (p.len n.2.1))) k0k) 0 n.2.1),())) fun o=>
 opt.need _ (p.rowOk n.1 0 [ci])<|
 opt.need _ (p.and (p.leN (p.add 0 (p.nat (p.ofNat (p.len n.2.1)))) (p.len o.1)) (p.and Bool.true Bool.true))<|
 opt.bnd T0 _ (g56 it p ((p.cut o.1 0 (p.nat (p.ofNat (p.len n.2.1)))),((p.rdI n.1 0 0),()))) fun q=>
 opt.ask _ (bif q.1 then Bool.false else Bool.true) (
 opt.ret _ ((3:Int),())) (
 opt.alt T2 (Unit) _ (
 it _ _ (v4b p) (n.1,(n.2.1,((1:Int),())))) (fun r=>
 opt.ret _ (r.1,())) (fun t=>
 opt.bnd (Unit) _ (some t) fun u=>
 opt.ret _ ((0:Int),())))))
def G24:=g24 it0
theorem ok24:CtrOk PG w72 (G24 std):=okF (a:=an24) (l:=la24) (gC v0j (gC v0l (gC v0m (gN)))) (by kernel_rfl) fun _ _=>by kernel_rfl
end Go.Am
end
section
namespace Go.Am
open T11
variable {fl:List Int→Bool}
def v5g (o:List Int) (n:Nat) (i:Nat):Prop:=gI o i<0∨(n:Int)≤gI o i∨∃ k∈List.range i,gI o i=gI o k
instance v3h (o:List Int) (n i:Nat):Decidable (v5g o n i):=by unfold v5g; infer_instance
def w9q (d:List (List Int)) (o:List Int) (i:Nat):Prop:=bt d (gI o i).toNat (gI o (i+1)).toNat=false
instance v3i (d:List (List Int)) (o:List Int) (i:Nat):Decidable (w9q d o i):=by unfold w9q; infer_instance
def anyN (d:List (List Int)) (o:List Int):Prop:=∃ i∈List.range (d.length - 1),w9q d o i
instance v3j (d:List (List Int)) (o:List Int):Decidable (anyN d o):=inferInstanceAs (Decidable (∃ i,i∈List.range (d.length - 1)∧w9q d o i))
theorem w02 {n:Nat} {x:Int}:x∈y38 n↔0≤x∧x<n:=by
 rw [y38,List.mem_map]
 constructor
 ·rintro ⟨a,ha,rfl⟩; have:=List.mem_range.1 ha; omega
 ·rintro ⟨h1,h2⟩; exact ⟨x.toNat,List.mem_range.2 (by omega),by omega⟩
end Go.Am
end
noncomputable section
namespace Go.Am
def w7k:Ctr:=
 ⟨72,[.vec 0 1],[.row [ci]],[(.ret,⟨[(0, .tuple [])],[.row [ci]],1⟩)]⟩
def la72:List LA:=
 [⟨72,[false,true],1,⟨⟨[(0, .vec 0 1),(2, .int .i64),(3, .int .i64)],[.row [ci]],28⟩,[((AX.exit 0),⟨[],[.row [ci]],28⟩)]⟩⟩]
def ja72:List JA:=
 []
def v18:List CF:=
 []
def an72:Anns:=
 ⟨v18,ja72,[]⟩
def x7s (p:Prim):(LD×T3)→Option ((LD×T3)⊕(LD×Unit)):=
 fun a=>opt.run _ (
 opt.ask _ (p.cmp .lss a.2.1 a.2.2.1) (
 opt.need _ (bif (p.cmp .geq a.2.2.1 (0:Int)) then (p.cmp .lss a.2.2.1 (p.ofNat (p.len a.1))) else Bool.false)<|
 opt.need _ (p.rowOk a.1 (p.add 0 (p.nat a.2.2.1)) [ci])<|
 opt.need _ (bif (p.cmp .geq a.2.1 (0:Int)) then (p.cmp .lss a.2.1 (p.ofNat (p.len a.1))) else Bool.false)<|
 opt.need _ (p.rowOk a.1 (p.add 0 (p.nat a.2.1)) [ci])<|
 opt.need _ (bif (p.cmp .geq a.2.1 (0:Int)) then (p.cmp .lss a.2.1 (p.ofNat (p.len a.1))) else Bool.false)<|
 opt.need _ (p.rowOk a.1 (p.add 0 (p.nat a.2.1)) [ci])<|
 opt.need _ (bif (p.cmp .geq a.2.2.1 (0:Int)) then (p.cmp .lss a.2.2.1 (p.ofNat (p.len a.1))) else Bool.false)<|
 opt.need _ (p.rowOk (p.set a.1 (p.add 0 (p.nat a.2.1)) [(D.int .i64 (p.rdI a.1 (p.add 0 (p.nat a.2.2.1)) 0))]) (p.add 0 (p.nat a.2.2.1)) [ci])<|
 opt.need _ (p.eqN 0 0)<|
 opt.need _ (p.eqN (p.len a.1) (p.len (p.set (p.set a.1 (p.add 0 (p.nat a.2.1)) [(D.int .i64 (p.rdI a.1 (p.add 0 (p.nat a.2.2.1)) 0))]) (p.add 0 (p.nat a.2.2.1)) [(D.int .i64 (p.rdI a.1 (p.add 0 (p.nat a.2.1)) 0))])))<|
 opt.ret _ (Sum.inl ((p.set (p.set a.1 (p.add 0 (p.nat a.2.1)) [(D.int .i64 (p.rdI a.1 (p.add 0 (p.nat a.2.2.1)) 0))]) (p.add 0 (p.nat a.2.2.1)) [(D.int .i64 (p.rdI a.1 (p.add 0 (p.nat a.2.1)) 0))]),((p.ar .add .i64 a.2.1 (1:Int)),((p.ar .sub .i64 a.2.2.1 (1:Int)),()))))) (
 opt.ret _ (Sum.inr (a.1,()))))
def g72 (it:It):(p:Prim)→(LD×Unit)→Option ((LD×Unit)):=
 fun p x=>
 opt.need _ (p.eqN 0 0)<|
 opt.need _ (p.eqN (p.len x.1) (p.len x.1))<|
 opt.bnd ((LD×Unit)) _ (
 it _ _ (x7s p) (x.1,((0:Int),((p.ar .sub .i64 (p.ofNat (p.len x.1)) (1:Int)),())))) fun a=>
 opt.ret _ (a.1,())
def G72:=g72 it0
theorem ok72:CtrOk PG w7k (G72 std):=okF (a:=an72) (l:=la72) (gN) (by kernel_rfl) fun _ _=>by kernel_rfl
def w4m:Ctr:=
 ⟨37,[.list 1],[],[(.ret,⟨[(0, .tuple [.list 1, .int .i64])],[],1⟩)]⟩
def la37:List LA:=
 [⟨37,[false,true,false,true,true,true,true,true,true,true,true],0,⟨⟨[(4, .vec 0 1),(6, .vec 1 1),(7, .int .i64),(8, .vec 2 1),(9, .int .i64),(10, .int .i64),(29, .vec 1 1),(30, .int .i64),(31, .int .i64)],[.row [ci], .row [ci], .row [(CK.list 1)]],70⟩,[((AX.exit 0),⟨[(8, .vec 0 1)],[.row [(CK.list 1)]],70⟩)]⟩⟩]
def ja37:List JA:=
 [⟨37,[true,true,true,true,false,false,true,true,false,false,true,false,true,true,true,true,true,true,true,true],0,[(AX.normal,⟨[(4, .vec 0 1),(6, .vec 1 1),(7, .int .i64),(8, .vec 2 1),(9, .int .i64),(10, .int .i64),(29, .vec 1 1),(30, .int .i64),(31, .int .i64)],[.row [ci], .row [ci], .row [(CK.list 1)]],70⟩)]⟩]
def v2p:List CF:=
 [⟨w4i,G73⟩,⟨w7k,G72⟩,⟨w4j,G71⟩,⟨x62,G35⟩]
def an37:Anns:=
 ⟨v2p,ja37,[⟨37,[false,true,false,true,true,true,true,false,false,true,true,false,false,true,false,true,true,true,true,true,true,true,true],⟨[(4, .vec 0 1),(6, .vec 1 1),(7, .int .i64),(8, .vec 2 1),(10, .int .i64),(13, .int .i64),(14, .list 1),(29, .vec 1 1),(30, .int .i64),(31, .int .i64)],[.row [ci], .row [ci], .row [(CK.list 1)]],70⟩⟩]⟩
def y6y (it:It) (p:Prim):(LD×(LD×(LD×T22)))→Option ((LD×(LD×(LD×T22)))⊕(LD×Unit)):=
 fun a=>opt.run _ (
 opt.ask _ (p.cmp .lss a.2.2.2.2.2.2.2.1 a.2.2.2.2.2.2.1) (
 opt.need _ (bif (p.cmp .geq a.2.2.2.2.2.2.2.1 (0:Int)) then (p.cmp .lss a.2.2.2.2.2.2.2.1 (p.ofNat (p.len a.2.1))) else Bool.false)<|
 opt.need _ (p.rowOk a.2.1 (p.add 0 (p.nat a.2.2.2.2.2.2.2.1)) [ci])<|
 opt.need _ (bif (p.cmp .geq (p.rdI a.2.1 (p.add 0 (p.nat a.2.2.2.2.2.2.2.1)) 0) (0:Int)) then (p.cmp .lss (p.rdI a.2.1 (p.add 0 (p.nat a.2.2.2.2.2.2.2.1)) 0) (p.ofNat (p.len a.1))) else Bool.false)<|
 opt.need _ (p.rowOk a.1 (p.add 0 (p.nat (p.rdI a.2.1 (p.add 0 (p.nat a.2.2.2.2.2.2.2.1)) 0))) [ci])<|
 opt.need _ (p.cmp .neq (2:Int) (0:Int))<|
 opt.bnd ((LD×(LD×(LD×T22)))) _ (
 opt.run ((LD×(LD×(LD×T22)))) (
 opt.ask _ (p.cmp .eql (p.ar .add .i64 a.2.2.2.2.2.1 (p.rdI a.1 (p.add 0 (p.nat (p.rdI a.2.1 (p.add 0 (p.nat a.2.2.2.2.2.2.2.1)) 0))) 0)) (p.ar .add .i64 (p.ar .quo .i64 (p.ar .mul .i64 (p.ar .add .i64 a.2.2.2.2.2.2.2.1 (1:Int)) (p.ar .sub .i64 (p.ar .add .i64 a.2.2.2.2.2.2.2.1 (1:Int)) (1:Int))) (2:Int)) (p.ar .mul .i64 (p.ar .add .i64 a.2.2.2.2.2.2.2.1 (1:Int)) (p.ar .sub .i64 a.2.2.2.1 (p.ar .add .i64 a.2.2.2.2.2.2.2.1 (1:Int)))))) (
 opt.need _ (p.and (p.cmp .geq a.2.2.2.2.1 (0:Int)) (p.and (p.cmp .leq a.2.2.2.2.1 (p.ar .add .i64 a.2.2.2.2.2.2.2.1 (1:Int))) (p.cmp .leq (p.ar .add .i64 a.2.2.2.2.2.2.2.1 (1:Int)) (p.ofNat (p.len a.2.1)))))<|
 opt.bnd ((LD×(LD×T5))) _ (g73 it p (a.2.1,((p.add 0 (p.nat a.2.2.2.2.1)),((p.sub (p.nat (p.ar .add .i64 a.2.2.2.2.2.2.2.1 (1:Int))) (p.nat a.2.2.2.2.1)),())))) fun b=>
 opt.need _ (p.eqN 0 0)<|
 opt.need _ (p.eqN (p.len a.1) (p.len a.1))<|
 opt.need _ (p.eqN 0 0)<|
 opt.need _ (p.eqN (p.len a.2.1) (p.len b.1))<|
 opt.need _ (p.eqN 0 0)<|
 opt.need _ (p.eqN (p.len a.2.2.1) (p.len a.2.2.1))<|
 opt.need _ (p.leN (p.add 0 (p.len b.2.1)) (p.len b.2.1))<|
 opt.need _ (p.eqN 0 0)<|
 opt.need _ (p.eqN (p.len a.2.1) (p.len b.1))<|
 opt.need _ (p.and (p.leN (p.add 0 1) (p.len [[(D.list Bool.false 1 (p.cut b.2.1 0 (p.len b.2.1)))]])) (p.and (p.leN (p.add 0 (p.len a.2.2.1)) (p.len a.2.2.1)) (p.and (p.leN 1 1) (p.leN (p.add (p.len a.2.2.1) 1) 1000000))))<|
 opt.need _ (p.eqN 0 0)<|
 opt.need _ (p.eqN (p.len a.1) (p.len a.1))<|
 opt.need _ (p.eqN 0 0)<|
 opt.need _ (p.eqN (p.len b.1) (p.len b.1))<|
 opt.need _ (p.eqN 0 0)<|
 opt.need _ (p.eqN (p.add (p.len a.2.2.1) 1) (p.len (p.app (p.cut a.2.2.1 0 (p.len a.2.2.1)) (p.cut [[(D.list Bool.false 1 (p.cut b.2.1 0 (p.len b.2.1)))]] 0 1))))<|
 opt.need _ (p.eqN 0 0)<|
 opt.need _ (p.eqN (p.len b.1) (p.len b.1))<|
 opt.ret _ (a.1,(b.1,((p.app (p.cut a.2.2.1 0 (p.len a.2.2.1)) (p.cut [[(D.list Bool.false 1 (p.cut b.2.1 0 (p.len b.2.1)))]] 0 1)),(a.2.2.2.1,((p.ar .add .i64 a.2.2.2.2.2.2.2.1 (1:Int)),((p.ar .add .i64 a.2.2.2.2.2.1 (p.rdI a.1 (p.add 0 (p.nat (p.rdI a.2.1 (p.add 0 (p.nat a.2.2.2.2.2.2.2.1)) 0))) 0)),(a.2.2.2.2.2.2.1,(a.2.2.2.2.2.2.2.1,()))))))))) (
 opt.need _ (p.eqN 0 0)<|
 opt.need _ (p.eqN (p.len a.1) (p.len a.1))<|
 opt.need _ (p.eqN 0 0)<|
 opt.need _ (p.eqN (p.len a.2.1) (p.len a.2.1))<|
 opt.need _ (p.eqN 0 0)<|
 opt.need _ (p.eqN (p.len a.2.2.1) (p.len a.2.2.1))<|
 opt.need _ (p.eqN 0 0)<|
 opt.need _ (p.eqN (p.len a.2.1) (p.len a.2.1))<|
 opt.ret _ (a.1,(a.2.1,(a.2.2.1,(a.2.2.2.1,(a.2.2.2.2.1,((p.ar .add .i64 a.2.2.2.2.2.1 (p.rdI a.1 (p.add 0 (p.nat (p.rdI a.2.1 (p.add 0 (p.nat a.2.2.2.2.2.2.2.1)) 0))) 0)),(a.2.2.2.2.2.2.1,(a.2.2.2.2.2.2.2.1,()))))))))))) fun c=>
 opt.need _ (p.eqN 0 0)<|
 opt.need _ (p.eqN (p.len c.1) (p.len c.1))<|
 opt.need _ (p.eqN 0 0)<|
 opt.need _ (p.eqN (p.len c.2.1) (p.len c.2.1))<|
 opt.need _ (p.eqN 0 0)<|
 opt.need _ (p.eqN (p.len c.2.2.1) (p.len c.2.2.1))<|
 opt.need _ (p.eqN 0 0)<|
 opt.need _ (p.eqN (p.len c.2.1) (p.len c.2.1))<|
 opt.ret _ (Sum.inl (c.1,(c.2.1,(c.2.2.1,(c.2.2.2.1,(c.2.2.2.2.1,(c.2.2.2.2.2.1,(c.2.2.2.2.2.2.1,((p.ar .add .i64 c.2.2.2.2.2.2.2.1 (1:Int)),())))))))))) (
 opt.need _ (p.eqN 0 0)<|
 opt.need _ (p.eqN (p.len a.2.2.1) (p.len a.2.2.1))<|
 opt.ret _ (Sum.inr (a.2.2.1,()))))
def g37 (it:It):(p:Prim)→(LD×Unit)→Option ((LD×T1)):=
 fun p x=>
 opt.bnd ((LD×T1)) _ (g35 it p (x.1,())) fun a=>
 opt.ask _ (p.cmp .neq a.2.1 (0:Int)) (
 opt.ret _ ([],(a.2.1,()))) (
 opt.need _ (p.and (p.leN (p.add 0 (p.len a.1)) (p.len a.1)) Bool.true)<|
 opt.bnd ((LD×Unit)) _ (g71 it p ((p.cut a.1 0 (p.len a.1)),())) fun b=>
 opt.need _ (p.plain b.1)<|
 opt.need _ (p.eqN 0 0)<|
 opt.need _ (p.eqN (p.len b.1) (p.len b.1))<|
 opt.bnd ((LD×Unit)) _ (g72 it p (b.1,())) fun c=>
 opt.need _ (p.eqN 0 0)<|
 opt.need _ (p.eqN (p.len a.1) (p.len a.1))<|
 opt.need _ (p.eqN 0 0)<|
 opt.need _ (p.eqN (p.len b.1) (p.len c.1))<|
 opt.need _ (p.eqN 0 0)<|
 opt.need _ (p.eqN (p.len b.1) (p.len c.1))<|
 opt.bnd ((LD×Unit)) _ (
 it _ _ (y6y it p) (a.1,(c.1,([],((p.ofNat (p.len a.1)),((0:Int),((0:Int),((p.ofNat (p.len b.1)),((0:Int),()))))))))) fun d=>
 opt.need _ (p.leN (p.add 0 (p.len d.1)) (p.len d.1))<|
 opt.ret _ ((p.cut d.1 0 (p.len d.1)),((0:Int),())))
def G37:=g37 it0
theorem v40:CtrOk PG w4m (G37 std):=okF (a:=an37) (l:=la37) (gC v4w (gC ok72 (gC v4x (gC w9d (gN))))) (by kernel_rfl) fun _ _=>by kernel_rfl
end Go.Am
end
section
namespace Go.Am
open T11
variable {fl:List Int→Bool}
def fz:List Int→Bool:=fun _=>false
def x4w (d:List (List Int)) (i:Nat) (R:Nat→Bool):Nat→Bool:=fun x=>R x||(R i&&bt d i x)
def z7r (d:List (List Int)) (R:Nat→Bool):Nat→Nat→Bool
 |0=>R
 |i+1=>x4w d i (z7r d R i)
def y66 (d:List (List Int)) (R:Nat→Bool):Nat→Nat→Bool
 |0=>R
 |r+1=>z7r d (y66 d R r) d.length
def y8z (d:List (List Int)) (i:Nat):Nat→Bool:=y66 d (fun x=>decide (x=i)) d.length
theorem z6m {d:List (List Int)} {R:Nat→Bool} {i j:Nat} (hij:i≤j) {x:Nat} (h:z7r d R i x=true):z7r d R j x=true:=by
 induction j with
 |zero=>rwa [show i=0 by omega] at h
 |succ j ih=>
  by_cases e:i=j+1
  ·rwa [e] at h
  ·rw [z7r,x4w,ih (by omega)]; rfl
theorem y77 {d:List (List Int)} {R:Nat→Bool} (h:∀ x,x<d.length→z7r d R d.length x=true→R x=true):y0h (bt d) d.length R:=by
 intro i k hi hk hR hb
 refine h k hk (z6m (i:=i+1) (by omega) ?_)
 rw [z7r,x4w,z6m (i:=0) (j:=i) (by omega) hR,hb]
 simp
theorem x5n {d:List (List Int)} {R:Nat→Bool} (h:y0h (bt d) d.length R) (i:Nat) (hi:i≤d.length):∀ x,x<d.length→z7r d R i x=R x:=by
 induction i with
 |zero=>intro x _; rfl
 |succ i ih=>
  intro x hx
  have ih:=ih (by omega)
  rw [z7r,x4w,ih x hx,ih i (by omega)]
  cases hRx:R x with
  |true=>rfl
  |false=>
   cases hRi:R i with
   |false=>rfl
   |true=>
    cases hb:bt d i x with
    |false=>rfl
    |true=>rw [h i x (by omega) hx hRi hb] at hRx; cases hRx
theorem x8z {d:List (List Int)} {R C:Nat→Bool} (hC:y0h (bt d) d.length C) (h:∀ x,x<d.length→R x=true→C x=true) (i:Nat) (hi:i≤d.length):∀ x,x<d.length→z7r d R i x=true→C x=true:=by
 induction i with
 |zero=>exact h
 |succ i ih=>
  intro x hx hp
  have ih:=ih (by omega)
  rw [z7r,x4w,Bool.or_eq_true,Bool.and_eq_true] at hp
  rcases hp with hp|⟨hp,hb⟩
  ·exact ih x hx hp
  ·exact hC i x (by omega) hx (ih i (by omega) hp) hb
theorem w2m {d:List (List Int)} {R C:Nat→Bool} (hC:y0h (bt d) d.length C) (h:∀ x,x<d.length→R x=true→C x=true) (r:Nat):∀ x,x<d.length→y66 d R r x=true→C x=true:=by
 induction r with
 |zero=>exact h
 |succ r ih=>exact x8z hC ih d.length (Nat.le_refl _)
theorem x20 {d:List (List Int)} {R:Nat→Bool} (h:1≤cnt d.length R) (r:Nat):y0h (bt d) d.length (y66 d R r)∨r+1≤cnt d.length (y66 d R r):=by
 induction r with
 |zero=>exact .inr h
 |succ r ih=>
  by_cases hc:y0h (bt d) d.length (y66 d R r)
  ·refine .inl fun i k hi hk hR hb=>?_
   have e:=x5n hc d.length (Nat.le_refl _)
   have hR:z7r d (y66 d R r) d.length i=true:=hR
   show z7r d (y66 d R r) d.length k=true
   rw [e i hi] at hR
   rw [e k hk]; exact hc i k hi hk hR hb
  ·rcases ih with ih|ih
   ·exact absurd ih hc
   ·refine .inr ?_
    have hle:cnt d.length (y66 d R r)≤cnt d.length (z7r d (y66 d R r) d.length):=y0c fun x hx hp=>z6m (i:=0) (by omega) hp
    have hne:cnt d.length (y66 d R r)≠cnt d.length (z7r d (y66 d R r) d.length):=by
     intro e
     refine hc (y77 fun x hx hp=>?_)
     have:=y1x (n:=d.length) (f:=fun i=>o1 (y66 d R r i)) (g:=fun i=>o1 (z7r d (y66 d R r) d.length i)) (fun i hi=>by
      cases hq:y66 d R r i with
      |false=>simp [o1]
      |true=>rw [z6m (i:=0) (by omega) hq]; exact Nat.le_refl _) e x hx
     simp only [hp,o1,cond_true] at this
     cases hq:y66 d R r x with
     |true=>rfl
     |false=>rw [hq] at this; cases this
    show r+1+1≤cnt d.length (z7r d (y66 d R r) d.length)
    omega
theorem x5b {d:List (List Int)} {R:Nat→Bool} (r:Nat) {x:Nat} (h:R x=true):y66 d R r x=true:=by
 induction r with
 |zero=>exact h
 |succ r ih=>exact z6m (i:=0) (by omega) ih
theorem y8y (d:List (List Int)) {i:Nat} (hi:i<d.length):Rch (bt d) d.length i (y8z d i):=by
 refine ⟨x5b _ (by simp),?_,fun C hC hCi k hk hR=>w2m hC (fun x hx hx'=>by rw [of_decide_eq_true hx']; exact hCi) _ k hk hR⟩
 have h1:1≤cnt d.length fun x=>decide (x=i):=y6q hi (by simp)
 rcases x20 h1 d.length with h|h
 ·exact h
 ·have:=y80 d.length (y8z d i)
  have h:d.length+1≤cnt d.length (y8z d i):=h
  omega
theorem w5v (l:List Int):[D.list false 1 (z0k l)]=eLf fz l:=rfl
theorem x9z (a:List (List Int)) (l:List Int):z0s fz (a++[l])=z0s fz a++[eLf fz l]:=by simp [z0s]
def rcD (d:List (List Int)) (i:Nat):Nat:=cnt d.length (y8z d i)
theorem x07 (d:List (List Int)):RC (bt d) d.length (rcD d):=fun i hi=>⟨y8z d i,y8y d hi,rfl⟩
def toI (l:List Nat):List Int:=l.map fun (n:Nat)=>(n:Int)
theorem w2b (a b:List Nat):toI (a++b)=toI a++toI b:=by simp [toI]
theorem y5n (l:List Nat):(toI l).length=l.length:=by simp [toI]
def z3k (d:List (List Int)):List (List Int):=(RG (rcD d) d.length d.length).map toI
def x04 (l:List Int) (t:Nat):List Int:=(List.range l.length).map fun q=>if q<t∨l.length - t≤q then gI l (l.length - 1 - q) else gI l q
theorem z4g (l:List Int) (t:Nat):(x04 l t).length=l.length:=by simp [x04]
theorem y0x (l:List Int) (t q:Nat) (hq:q<l.length):gI (x04 l t) q=if q<t∨l.length - t≤q then gI l (l.length - 1 - q) else gI l q:=by
 rw [gI,x04,List.getD_eq_getElem?_getD,List.getElem?_map,List.getElem?_range hq]; rfl
theorem x5d (l:List Int):x04 l 0=l:=y8l (z4g l 0) fun q hq=>by
 rw [z4g] at hq
 rw [y0x l 0 q hq,if_neg (by omega)]
theorem w1j (l:List Int) (q:Nat) (hq:q<l.length):gI l.reverse q=gI l (l.length - 1 - q):=by
 rw [gI,gI,List.getD_eq_getElem?_getD,List.getD_eq_getElem?_getD,List.getElem?_reverse hq]
theorem x5f (l:List Int):x04 l (l.length / 2)=l.reverse:=y8l (by rw [z4g,List.length_reverse]) fun q hq=>by
 rw [z4g] at hq
 rw [y0x l _ q hq,w1j l q hq]
 split
 ·rfl
 ·congr 1; omega
theorem y8k {l:List Int} {j:Nat} (hj:j<l.length) (v:Int) (q:Nat):gI (l.set j v) q=if q=j then v else gI l q:=by
 rw [gI,gI,List.getD_eq_getElem?_getD,List.getD_eq_getElem?_getD,List.getElem?_set]
 by_cases h:j=q
 ·subst h; rw [if_pos rfl,if_pos hj,if_pos rfl]; rfl
 ·rw [if_neg h,if_neg (Ne.symm h)]
theorem x5e (l:List Int) (t:Nat) (ht:t<l.length / 2):((x04 l t).set t (gI (x04 l t) (l.length - 1 - t))).set (l.length - 1 - t) (gI (x04 l t) t)=x04 l (t+1):=
 y8l (by rw [List.length_set,List.length_set,z4g,z4g]) fun q hq=>by
  rw [List.length_set,List.length_set,z4g] at hq
  rw [y8k (by rw [List.length_set,z4g]; omega),y8k (by rw [z4g]; omega),y0x l _ q hq,y0x l _ q hq,y0x l _ _ (by omega),y0x l _ _ (by omega)]
  by_cases h1:q=l.length - 1 - t
  ·subst h1
   rw [if_pos rfl,if_neg (by omega),if_pos (by omega)]
   congr 1; omega
  ·rw [if_neg h1]
   by_cases h2:q=t
   ·subst h2
    rw [if_pos rfl,if_neg (by omega),if_pos (by omega)]
   ·rw [if_neg h2]
    by_cases h3:q<t∨l.length - t≤q
    ·rw [if_pos h3,if_pos (by omega)]
    ·rw [if_neg h3,if_neg (by omega)]
theorem w8u (l:List Int) (hl:l.length≤1000):G72 std (z0k l,())=some (z0k l.reverse,()):=by
 have key:=z4v (b:=x7s std) (l.length / 2) (fun t=>(z0k (x04 l t),((t:Int),((l.length:Int) - 1 - (t:Int),())))) (z0k l.reverse,()) (fun t ht=>by
  have hw:=z1g (i:=t) (by omega)
  have hw2:IntKind.i64.wrap ((l.length:Int) - 1 - (t:Int) - 1)=(l.length:Int) - 1 - ((t+1:Nat):Int):=by rw [z5q]<;>omega
  have hlt:(t:Int)<(l.length:Int) - 1 - (t:Int):=by omega
  have h0:(0:Int)≤t:=by omega
  have h1:(t:Int)<l.length:=by omega
  have h2:(0:Int)≤(l.length:Int) - 1 - (t:Int):=by omega
  have h3:(l.length:Int) - 1 - (t:Int)<l.length:=by omega
  have e:((l.length:Int) - 1 - (t:Int)).toNat=l.length - 1 - t:=by omega
  have hrl:=z4g l t
  have hx:=z6t (l:=x04 l t) (q:=t) (by omega)
  have hy:=z6t (l:=x04 l t) (q:=l.length - 1 - t) (by omega)
  rw [←x5e l t ht]
  generalize x04 l t=B at hrl hx hy⊢
  have hEl:(B.map eI).length=l.length:=by rw [List.length_map,hrl]
  have hsj:((B.map eI).set t (eI (gI B (l.length - 1 - t))))[l.length - 1 - t]?=some (eI (gI B (l.length - 1 - t))):=by rw [List.getElem?_set_ne (by omega),List.getElem?_map,hy]; rfl
  have hms:((B.set t (gI B (l.length - 1 - t))).set (l.length - 1 - t) (gI B t)).map eI=((B.map eI).set t (eI (gI B (l.length - 1 - t)))).set (l.length - 1 - t) (eI (gI B t)):=by rw [List.map_set,List.map_set]
  simp only [x7s,z1z,z10,z0k,z0v,z3q,eq_self,not_true,not_false_eq_true,decide_true,decide_false,Bool.not_true,Bool.not_false,Int.reduceLT,Int.reduceNeg,Int.reduceGT,cond_true,cond_false,hlt,h0,h1,h2,h3,e,hx,hy,hEl,hrl,ge_iff_le,z0i,z2q,hw,hw2,z8u,hms,hsj,List.length_set]) (by
  have hn:¬ (((l.length / 2:Nat):Int)<(l.length:Int) - 1 - ((l.length / 2:Nat):Int)):=by omega
  rw [x5f]
  simp only [x7s,z1z,z10,eq_self,not_true,not_false_eq_true,decide_true,decide_false,Bool.not_true,Bool.not_false,Int.reduceLT,Int.reduceNeg,Int.reduceGT,cond_true,cond_false,hn])
 rw [x5d] at key
 have hw:IntKind.i64.wrap ((l.length:Int) - 1)=(l.length:Int) - 1:=by rw [z5q]<;>omega
 have key':it0 _ _ (x7s std) (z0k l,((0:Int),((l.length:Int) - 1,())))=some (z0k l.reverse,()):=by
  have:=key
  simp only [Int.natCast_zero,Int.sub_zero] at this
  exact this
 unfold G72
 simp only [g72,z1z,z10,z05,z2q,hw,key']
def byL (d:List (List Int)):List Int:=(y0t (z1s d)).reverse
def byN (d:List (List Int)):List Nat:=(byL d).map Int.toNat
theorem y4o (w:List Int):(y0t w).Perm (y38 w.length):=z8b _ _
theorem y2z (w:List Int):(y0t w).length=w.length:=by rw [y0t,z7l,z8p]
theorem y05 (d:List (List Int)):(byL d).length=d.length:=by rw [byL,List.length_reverse,y2z,z29]
theorem x0q (d:List (List Int)) {q:Nat} (hq:q<d.length):gI (byL d) q=((at_ (byN d) q:Nat):Int):=by
 have hx:=z6t (l:=byL d) (q:=q) (by rw [y05]; exact hq)
 have hm:gI (byL d) q∈y0t (z1s d):=List.mem_reverse.1 (List.mem_of_getElem? hx)
 have:=w02.1 ((y4o _).mem_iff.1 hm)
 have e:at_ (byN d) q=(gI (byL d) q).toNat:=by
  rw [at_,byN,List.getD_eq_getElem?_getD,List.getElem?_map,hx]; rfl
 rw [e]; omega
theorem z42 (d:List (List Int)):y4b d.length (byN d):=by
 have h1:(byL d).Perm (y38 d.length):=by
  have:=(List.reverse_perm (y0t (z1s d))).trans (y4o (z1s d))
  rwa [z29] at this
 have h2:=h1.map Int.toNat
 have e:(y38 d.length).map Int.toNat=List.range d.length:=by
  rw [y38,List.map_map]
  exact (List.map_congr_left fun a _=>by simp).trans (List.map_id _)
 rw [e] at h2
 exact h2
theorem y2b {d:List (List Int)} (h:z06 d=0):x76 (bt d) d.length (byN d):=by
 refine ⟨z42 d,fun q r hqr hr=>?_⟩
 have hk:∀ q,q<d.length→key (z1s d) (gI (byL d) q)=((wn d (at_ (byN d) q):Nat):Int):=fun q hq=>by
  rw [x0q d hq,key]
  have hlt:=(z42 d).lt hq
  have hw:=z7i h hlt
  rw [show (((at_ (byN d) q:Nat):Int)).toNat=at_ (byN d) q by omega,gI,List.getD_eq_getElem?_getD,hw]; rfl
 have h1:=hk q (by omega)
 have h2:=hk r hr
 have hrl:=y2z (z1s d)
 have hwl:=z29 d
 rw [byL,w1j _ _ (by omega)] at h1 h2
 have h3:=y7y (key (z1s d)) (y38 (z1s d).length) (d.length - 1 - r) (d.length - 1 - q) (by omega) (by rw [z8p,hwl]; omega)
 rw [←y0t] at h3
 rw [hrl,hwl] at h1 h2
 rw [h1,h2] at h3
 have h3:wn d (at_ (byN d) r)≤wn d (at_ (byN d) q):=by omega
 exact h3
theorem w18 {d:List (List Int)} (h:z06 d=0) (k:Nat) (hk:k≤d.length):sm k (fun q=>wn d (at_ (byN d) q))≤100:=by
 have hl:=z23 h
 have:=x8o (n:=k) (f:=fun q=>wn d (at_ (byN d) q)) (g:=fun _=>10) fun q hq=>by
  have:=w9t h (i:=at_ (byN d) q) ((z42 d).lt (by omega)); omega
 rw [z8c] at this; omega
theorem w4d {d:List (List Int)} (h:z06 d=0) (k:Nat) (hk:k≤d.length) (hk0:1≤k):
  ((sm k (fun q=>wn d (at_ (byN d) q)):Nat):Int)=IntKind.i64.wrap (IntKind.i64.wrap ((IntKind.i64.wrap ((k:Int)*IntKind.i64.wrap ((k:Int) - 1))).tdiv 2)+IntKind.i64.wrap ((k:Int)*IntKind.i64.wrap ((d.length:Int) - (k:Int))))↔cut (byR (bt d) (byN d)) d.length k:=by
 have hl:=z23 h
 have e1:IntKind.i64.wrap ((k:Int) - 1)=(k:Int) - 1:=by rw [z5q]<;>omega
 have h2:=w8d k
 have hc:=w4t (w:=k) (by omega)
 have e0:(k:Int)*((k:Int) - 1)=2*(c2 k:Nat):=by
  have e1:((k:Int) - 1)=((k - 1:Nat):Int):=by omega
  rw [e1]
  have:=congrArg (fun (n:Nat)=>(n:Int)) h2
  simp only [Int.natCast_mul] at this
  rw [←this]; rfl
 have e2:IntKind.i64.wrap ((k:Int)*((k:Int) - 1))=(k:Int)*((k:Int) - 1):=by rw [z5q]<;>rw [e0]<;>omega
 have e3:IntKind.i64.wrap (c2 k:Int)=(c2 k:Int):=by rw [z5q]<;>omega
 have e4:IntKind.i64.wrap ((d.length:Int) - (k:Int))=((d.length - k:Nat):Int):=by rw [z5q]<;>omega
 have hmul:k*(d.length - k)≤100:=by
  have:=Nat.mul_le_mul (show k≤10 by omega) (show d.length - k≤10 by omega); omega
 have e5:IntKind.i64.wrap ((k:Int)*((d.length - k:Nat):Int))=((k*(d.length - k):Nat):Int):=by
  rw [←Int.natCast_mul,z5q]<;>omega
 rw [e1,e2,w8c,e3,e4,e5]
 have e6:IntKind.i64.wrap ((c2 k:Int)+((k*(d.length - k):Nat):Int))=((c2 k+k*(d.length - k):Nat):Int):=by rw [z5q]<;>omega
 rw [e6]
 have e7:sm k (fun q=>cnt d.length (byR (bt d) (byN d) q))=sm k (fun q=>wn d (at_ (byN d) q)):=z4f fun q hq=>y60 (z42 d) q
 rw [cut,e7]
 omega
def z3j (d:List (List Int)):Nat→Nat
 |0=>0
 |i+1=>if cut (byR (bt d) (byN d)) d.length (i+1) then i+1 else z3j d i
theorem x1r (d:List (List Int)) (i:Nat):z3j d i≤i∧cut (byR (bt d) (byN d)) d.length (z3j d i)∧∀ m,z3j d i<m→m≤i→¬ cut (byR (bt d) (byN d)) d.length m:=by
 induction i with
 |zero=>exact ⟨Nat.le_refl _,x15 _ _,fun m h1 h2=>by simp [z3j] at h1; omega⟩
 |succ i ih=>
  obtain ⟨h1,h2,h3⟩:=ih
  rw [z3j]
  by_cases c:cut (byR (bt d) (byN d)) d.length (i+1)
  ·rw [if_pos c]; exact ⟨Nat.le_refl _,c,fun m a b=>by omega⟩
  ·rw [if_neg c]
   refine ⟨by omega,h2,fun m a b=>?_⟩
   by_cases e:m=i+1
   ·subst e; exact c
   ·exact h3 m a (by omega)
theorem w8e (d:List (List Int)):byL d=toI (byN d):=by
 apply y8l
 ·rw [y05,y5n,(z42 d).len]
 ·intro q hq
  rw [y05] at hq
  rw [x0q d hq]
  have:=(z42 d).get hq
  rw [gI,toI,List.getD_eq_getElem?_getD,List.getElem?_map,this]; rfl
theorem x8m {X:List Nat} (hn:X.Nodup) {l:List Nat} (hl:l.Pairwise (· < ·)) (hm:∀ i,i∈l↔i∈X):z33 id (toI X)=toI l:=by
 have hp:=z8b id (toI X)
 have hpw:=x0y id (toI X)
 have hge:∀ x∈z33 id (toI X),∃ i∈X,x=(i:Int):=fun x hx=>by
  have:=hp.mem_iff.1 hx
  rw [toI,List.mem_map] at this
  obtain ⟨i,hi,rfl⟩:=this
  exact ⟨i,hi,rfl⟩
 have hnd:(z33 id (toI X)).Nodup:=hp.nodup_iff.2 (by
  rw [toI,List.nodup_iff_pairwise_ne,List.pairwise_map]
  exact hn.imp fun {a b} hab=>by omega)
 have e:z33 id (toI X)=toI ((z33 id (toI X)).map Int.toNat):=by
  generalize z33 id (toI X)=S at hge⊢
  rw [toI,List.map_map]
  refine (List.map_id _).symm.trans (List.map_congr_left fun x hx=>?_)
  obtain ⟨i,_,rfl⟩:=hge x hx
  simp
 rw [e]
 congr 1
 refine w1a ?_ hl fun i=>?_
 ·rw [List.pairwise_map]
  refine (hpw.and (List.nodup_iff_pairwise_ne.1 hnd)).imp_of_mem fun {a b} ha hb hab=>?_
  obtain ⟨i,_,rfl⟩:=hge a ha
  obtain ⟨j,_,rfl⟩:=hge b hb
  simp only [id] at hab
  omega
 ·rw [hm,List.mem_map]
  constructor
  ·rintro ⟨x,hx,rfl⟩
   obtain ⟨i,hi,rfl⟩:=hge x hx
   simpa using hi
  ·intro hi
   exact ⟨(i:Int),hp.mem_iff.2 (by rw [toI,List.mem_map]; exact ⟨i,hi,rfl⟩),by simp⟩
theorem w0l {d:List (List Int)} (h:z06 d=0):
  z5i (y6y it0 std) (z0k (z1s d),(z0k (byL d),([],((d.length:Int),((0:Int),((0:Int),((d.length:Int),((0:Int),()))))))))=some (z0s fz (z3k d),()):=by
 have hl:=z23 h
 have ht:=z6v h
 have hs:=y2b h
 have hrc:=x07 d
 have key:=z4v (b:=y6y it0 std) d.length (fun i=>(z0k (z1s d),(z0k (byL d),(z0s fz ((RG (rcD d) d.length (z3j d i)).map toI),((d.length:Int),(((z3j d i:Nat):Int),(((sm i (fun q=>wn d (at_ (byN d) q)):Nat):Int),((d.length:Int),((i:Int),()))))))))) (z0s fz (z3k d),()) (fun i hi=>by
  have hw:=z1g (i:=i) (by omega)
  have hlt:(i:Int)<d.length:=by omega
  have h0:(0:Int)≤i:=by omega
  have hby:=z6t (l:=byL d) (q:=i) (by rw [y05]; exact hi)
  have hbn:=x0q d hi
  rw [hbn] at hby
  have hat:=(z42 d).lt hi
  have ha0:(0:Int)≤((at_ (byN d) i:Nat):Int):=by omega
  have ha1:((at_ (byN d) i:Nat):Int)<d.length:=by omega
  have hwg:=z7i h hat
  have hwl:=z29 d
  have hbl:=y05 d
  have hsum:=w18 h (i+1) (by omega)
  rw [z27] at hsum
  have hadd:IntKind.i64.wrap (((sm i (fun q=>wn d (at_ (byN d) q)):Nat):Int)+((wn d (at_ (byN d) i):Nat):Int))=((sm (i+1) (fun q=>wn d (at_ (byN d) q)):Nat):Int):=by
   rw [z27,z5q]<;>omega
  have hcut:=w4d h (i+1) (by omega) (by omega)
  obtain ⟨l1,l2,l3⟩:=x1r d i
  have h2ne:¬ ((2:Int)=0):=by decide
  have hRl:(RG (rcD d) d.length (z3j d i)).length≤z3j d i:=by
   generalize z3j d i=j
   induction j with
   |zero=>exact Nat.le_refl _
   |succ j ih=>
    rw [RG]
    cases (lG (rcD d) d.length j).isEmpty<;>simp<;>omega
  rw [z3j]
  by_cases c:cut (byR (bt d) (byN d)) d.length (i+1)
  ·rw [if_pos c]
   have hc:=hcut.2 c
   have h73:g73 it0 std (z0k (byL d),(z3j d i,(i+1 - z3j d i,())))=_:=w8t (byL d) (z3j d i) (i+1 - z3j d i) (by omega) (by omega)
   have hX:((byL d).drop (z3j d i)).take (i+1 - z3j d i)=toI (((byN d).drop (z3j d i)).take (i+1 - z3j d i)):=by
    rw [w8e,toI,toI,List.map_take,List.map_drop]
   have hsort:=x8m (X:=((byN d).drop (z3j d i)).take (i+1 - z3j d i)) ((z42 d).nodup.sublist ((List.take_sublist _ _).trans (List.drop_sublist _ _))) (v1l (rcD d) d.length (z3j d i))
    (w1f ht hs hrc (by omega) (by omega) l2 c fun m a b=>l3 m a (by omega))
   rw [hX,hsort] at h73
   have hR:=w8r ht hs hrc (j:=z3j d i) (k:=i+1) (by omega) (by omega) l2 c fun m a b=>l3 m a (by omega)
   rw [hR,List.map_append,List.map_cons,List.map_nil,x9z]
   have hAl:(z0s fz ((RG (rcD d) d.length (z3j d i)).map toI)).length≤z3j d i:=by rw [z41,List.length_map]; exact hRl
   generalize z0s fz ((RG (rcD d) d.length (z3j d i)).map toI)=A at hAl⊢
   generalize toI (lG (rcD d) d.length (z3j d i))=T at h73⊢
   have hle:A.length+1≤1000000:=by omega
   have hca:A.take A.length=A:=List.take_length
   have hct:(z0k T).take (z0k T).length=z0k T:=List.take_length
   have hf0:(0:Int)≤((z3j d i:Nat):Int):=by omega
   have hf1:((z3j d i:Nat):Int)≤((i+1:Nat):Int):=by omega
   have hf2:((i+1:Nat):Int)≤d.length:=by omega
   have hbl':(z0k (byL d)).length=d.length:=by rw [z05,hbl]
   have hwl':(z0k (z1s d)).length=d.length:=by rw [z05,hwl]
   have hby':(z0k (byL d))[i]?=some (eI ((at_ (byN d) i:Nat):Int)):=by rw [z0k,List.getElem?_map,hby]; rfl
   have hwg':(z0k (z1s d))[at_ (byN d) i]?=some (eI ((wn d (at_ (byN d) i):Nat):Int)):=by rw [z0k,List.getElem?_map,hwg]; rfl
   generalize z0k (byL d)=BY at hbl' hby' h73⊢
   generalize z0k (z1s d)=WL at hwl' hwg'⊢
   simp only [y6y,z1z,z10,z0v,z3q,eq_self,not_true,not_false_eq_true,decide_true,decide_false,Bool.not_true,Bool.not_false,Int.reduceLT,Int.reduceNeg,Int.reduceGT,cond_true,cond_false,hlt,h0,ge_iff_le,hbl',hwl',hby',hwg',ha0,ha1,z0i,z2q,y4i,y4h,hw,hadd,h2ne, ←hc,h73,hf0,hf1,hf2,hct,hca,hle,w5v,List.drop_zero,Nat.le_refl,Bool.and_true,List.take_succ_cons,List.take_zero,List.length_append,List.length_cons,List.length_nil,Nat.zero_add]
  ·rw [if_neg c]
   have hc:¬ _:=fun e=>c (hcut.1 e)
   have hbl':(z0k (byL d)).length=d.length:=by rw [z05,hbl]
   have hwl':(z0k (z1s d)).length=d.length:=by rw [z05,hwl]
   have hby':(z0k (byL d))[i]?=some (eI ((at_ (byN d) i:Nat):Int)):=by rw [z0k,List.getElem?_map,hby]; rfl
   have hwg':(z0k (z1s d))[at_ (byN d) i]?=some (eI ((wn d (at_ (byN d) i):Nat):Int)):=by rw [z0k,List.getElem?_map,hwg]; rfl
   generalize z0k (byL d)=BY at hbl' hby'⊢
   generalize z0k (z1s d)=WL at hwl' hwg'⊢
   simp only [y6y,z1z,z10,z0v,z3q,eq_self,not_true,not_false_eq_true,decide_true,decide_false,Bool.not_true,Bool.not_false,Int.reduceLT,Int.reduceNeg,Int.reduceGT,cond_true,cond_false,hlt,h0,ge_iff_le,hbl',hwl',hby',hwg',ha0,ha1,z0i,z2q,y4i,y4h,hw,hadd,h2ne,hc]) (by
  have hn:¬ (d.length:Int)<d.length:=by omega
  have e:z3j d d.length=d.length:=by
   obtain ⟨l1,l2,l3⟩:=x1r d d.length
   refine Nat.le_antisymm l1 (Nat.le_of_not_lt fun hlt=>l3 d.length hlt (Nat.le_refl _) (w4e (y6z ht (z42 d))))
  rw [e]
  simp only [y6y,z1z,z10,eq_self,not_true,not_false_eq_true,decide_true,decide_false,Bool.not_true,Bool.not_false,Int.reduceLT,Int.reduceNeg,Int.reduceGT,cond_true,cond_false,hn,z3k])
 exact key
theorem x3v (l:List Int):std.plain (z0k l)=true:=by
 show (z0k l).all (fun r=>r.all z6l)=true
 rw [z0k,List.all_map,List.all_eq_true]
 intro x _; rfl
theorem w80 (d:List (List Int)) (hr:∀ l∈d,l.length≤1000000):G37 std (z0s fl d,())=some (if z06 d=0 then (z0s fz (z3k d),((0:Int),())) else ([],(z06 d,()))):=by
 have h35:g35 it0 std (z0s fl d,())=_:=w17 d hr
 unfold G37
 by_cases h:z06 d=0
 ·rw [if_pos h] at h35⊢
  have hl:=z23 h
  have hwl:=z29 d
  have hrl:=y2z (z1s d)
  have h71:g71 it0 std (z0k (z1s d),())=_:=w8v (z1s d) (by omega)
  have h72:g72 it0 std (z0k (y0t (z1s d)),())=_:=w8u (y0t (z1s d)) (by omega)
  have h37:it0 _ _ (y6y it0 std) (z0k (z1s d),(z0k (byL d),([],((d.length:Int),((0:Int),((0:Int),((d.length:Int),((0:Int),()))))))))=_:=w0l h
  have hpl:=x3v (y0t (z1s d))
  have hwl':(z0k (z1s d)).length=d.length:=by rw [z05,hwl]
  have hrl':(z0k (y0t (z1s d))).length=d.length:=by rw [z05,hrl,hwl]
  have hbl':(z0k (byL d)).length=d.length:=by rw [z05,y05]
  have htw:(z0k (z1s d)).take d.length=z0k (z1s d):=by rw [←hwl',List.take_length]
  have hgl:(z0s fz (z3k d)).take (z0s fz (z3k d)).length=z0s fz (z3k d):=List.take_length
  rw [←byL] at h72
  simp only [g37,z1z,z10,eq_self,not_true,not_false_eq_true,decide_true,decide_false,Bool.not_true,Bool.not_false,Int.reduceLT,Int.reduceNeg,Int.reduceGT,cond_true,cond_false,h35,h,hwl',hrl',hbl',htw,List.drop_zero,Nat.le_refl,Bool.and_true,h71,hpl,h72,h37,hgl,ne_eq]
 ·rw [if_neg h] at h35⊢
  simp only [g37,z1z,z10,eq_self,not_true,not_false_eq_true,decide_true,decide_false,Bool.not_true,Bool.not_false,Int.reduceLT,Int.reduceNeg,Int.reduceGT,cond_true,cond_false,h35,h,ne_eq]
end Go.Am
end
section
namespace Go.Am
open Go.ChangeShapes Go.WideShapes Go.ChangeAt
theorem w9w {x:D} (h:DK (.int .u8) x):∃ n:Int,x= .int .u8 n∧(Lit.int IntKind.u8 n).wf=true:=by
 match x,h with
 | .int k n,h=>obtain ⟨rfl,h⟩:=h; exact ⟨n,rfl,h⟩
theorem w5m {x:D} (h:DK (.int .u64) x):∃ n:Int,x= .int .u64 n∧(Lit.int IntKind.u64 n).wf=true:=by
 match x,h with
 | .int k n,h=>obtain ⟨rfl,h⟩:=h; exact ⟨n,rfl,h⟩
end Go.Am
end
noncomputable section
namespace Go.Am
def w4k:Ctr:=
 ⟨64,[.list 1],[],[(.ret,⟨[(0, .tuple [.list 1, .bool])],[],1⟩)]⟩
def la64:List LA:=
 [⟨64,[false,true,false,true,true,true,true,false,true],0,⟨⟨[(0, .list 1),(4, .vec 0 1),(5, .int .i64),(6, .int .i64),(12, .vec 0 1),(13, .int .i64),(14, .int .i64)],[.row [ci]],58⟩,[((AX.exit 0),⟨[(4, .vec 0 1),(6, .int .i64)],[.row [ci]],58⟩)]⟩⟩]
def ja64:List JA:=
 [⟨64,[false,true,true,true,false,false,true,true,false,false,true,false,true,true,true,true,false,true],0,[(AX.normal,⟨[(0, .list 1),(4, .vec 0 1),(5, .int .i64),(6, .int .i64),(9, .int .i64),(12, .vec 0 1),(13, .int .i64),(14, .int .i64),(48, .bool)],[.row [ci]],58⟩)]⟩]
def v2d:List CF:=
 [⟨w4i,G73⟩,⟨w4j,G71⟩]
def an64:Anns:=
 ⟨v2d,ja64,[]⟩
def v3y (p:Prim):(LD×(LD×T7))→Option ((LD×(LD×T7))⊕(LD×T1)):=
 fun a=>opt.run _ (
 opt.ask _ (p.cmp .lss a.2.2.2.2.2.1 a.2.2.2.2.1) (
 opt.need _ (bif (p.cmp .geq a.2.2.2.2.2.1 (0:Int)) then (p.cmp .lss a.2.2.2.2.2.1 (p.ofNat (p.len a.1))) else Bool.false)<|
 opt.need _ (p.rowOk a.1 (p.add 0 (p.nat a.2.2.2.2.2.1)) [ci])<|
 opt.need _ (p.rowOk a.2.1 (p.nat (p.rdI a.1 (p.add 0 (p.nat a.2.2.2.2.2.1)) 0)) [ci])<|
 opt.need _ (p.cmp .geq (p.rdI a.1 (p.add 0 (p.nat a.2.2.2.2.2.1)) 0) (0:Int))<|
 opt.bnd ((LD×(LD×T39))) _ (
 opt.run ((LD×(LD×T39))) (
 opt.need _ (p.cmp .neq (2:Int) (0:Int))<|
 opt.ask _ (p.cmp .lss (p.ar .add .i64 a.2.2.1 (p.rdI a.2.1 (p.nat (p.rdI a.1 (p.add 0 (p.nat a.2.2.2.2.2.1)) 0)) 0)) (p.ar .quo .i64 (p.ar .mul .i64 (p.ar .add .i64 a.2.2.2.2.2.1 (1:Int)) (p.ar .sub .i64 (p.ar .add .i64 a.2.2.2.2.2.1 (1:Int)) (1:Int))) (2:Int))) (
 opt.need _ (p.eqN 0 0)<|
 opt.need _ (p.eqN (p.len a.1) (p.len a.1))<|
 opt.need _ (p.eqN 0 0)<|
 opt.need _ (p.eqN (p.len a.1) (p.len a.1))<|
 opt.ret _ (a.1,(a.2.1,((p.ar .add .i64 a.2.2.1 (p.rdI a.2.1 (p.nat (p.rdI a.1 (p.add 0 (p.nat a.2.2.2.2.2.1)) 0)) 0)),(a.2.2.2.1,((p.ar .add .i64 a.2.2.2.2.2.1 (1:Int)),(a.2.2.2.2.1,(a.2.2.2.2.2.1,(Bool.true,()))))))))) (
 opt.ask _ (p.cmp .eql (p.ar .add .i64 a.2.2.2.2.2.1 (1:Int)) (p.ofNat (p.len a.1))) (
 opt.need _ (p.cmp .neq (2:Int) (0:Int))<|
 opt.need _ (p.eqN 0 0)<|
 opt.need _ (p.eqN (p.len a.1) (p.len a.1))<|
 opt.need _ (p.eqN 0 0)<|
 opt.need _ (p.eqN (p.len a.1) (p.len a.1))<|
 opt.ret _ (a.1,(a.2.1,((p.ar .add .i64 a.2.2.1 (p.rdI a.2.1 (p.nat (p.rdI a.1 (p.add 0 (p.nat a.2.2.2.2.2.1)) 0)) 0)),(a.2.2.2.1,((p.ar .add .i64 a.2.2.2.2.2.1 (1:Int)),(a.2.2.2.2.1,(a.2.2.2.2.2.1,((p.cmp .neq (p.ar .add .i64 a.2.2.1 (p.rdI a.2.1 (p.nat (p.rdI a.1 (p.add 0 (p.nat a.2.2.2.2.2.1)) 0)) 0)) (p.ar .quo .i64 (p.ar .mul .i64 (p.ar .add .i64 a.2.2.2.2.2.1 (1:Int)) (p.ar .sub .i64 (p.ar .add .i64 a.2.2.2.2.2.1 (1:Int)) (1:Int))) (2:Int))),()))))))))) (
 opt.need _ (p.eqN 0 0)<|
 opt.need _ (p.eqN (p.len a.1) (p.len a.1))<|
 opt.need _ (p.eqN 0 0)<|
 opt.need _ (p.eqN (p.len a.1) (p.len a.1))<|
 opt.ret _ (a.1,(a.2.1,((p.ar .add .i64 a.2.2.1 (p.rdI a.2.1 (p.nat (p.rdI a.1 (p.add 0 (p.nat a.2.2.2.2.2.1)) 0)) 0)),(a.2.2.2.1,((p.ar .add .i64 a.2.2.2.2.2.1 (1:Int)),(a.2.2.2.2.1,(a.2.2.2.2.2.1,(Bool.false,())))))))))))) fun b=>
 opt.ask _ b.2.2.2.2.2.2.2.1 (
 opt.need _ (p.eqN 0 0)<|
 opt.need _ (p.eqN (p.len b.1) (p.len b.1))<|
 opt.ret _ (Sum.inr (b.1,(b.2.2.2.2.1,())))) (
 opt.need _ (p.eqN 0 0)<|
 opt.need _ (p.eqN (p.len b.1) (p.len b.1))<|
 opt.need _ (p.eqN 0 0)<|
 opt.need _ (p.eqN (p.len b.1) (p.len b.1))<|
 opt.ret _ (Sum.inl (b.1,(b.2.1,(b.2.2.1,(b.2.2.2.1,(b.2.2.2.2.2.1,((p.ar .add .i64 b.2.2.2.2.2.2.1 (1:Int)),()))))))))) (
 opt.need _ (p.eqN 0 0)<|
 opt.need _ (p.eqN (p.len a.1) (p.len a.1))<|
 opt.ret _ (Sum.inr (a.1,(a.2.2.2.1,())))))
def g64 (it:It):(p:Prim)→(LD×Unit)→Option ((LD×T6)):=
 fun p x=>
 opt.bnd ((LD×Unit)) _ (g71 it p (x.1,())) fun a=>
 opt.need _ (p.eqN 0 0)<|
 opt.need _ (p.eqN (p.len a.1) (p.len a.1))<|
 opt.need _ (p.eqN 0 0)<|
 opt.need _ (p.eqN (p.len a.1) (p.len a.1))<|
 opt.bnd ((LD×T1)) _ (
 it _ _ (v3y p) (a.1,(x.1,((0:Int),((-1:Int),((p.ofNat (p.len a.1)),((0:Int),()))))))) fun b=>
 opt.ask _ (p.cmp .lss b.2.1 (0:Int)) (
 opt.ret _ ([],(Bool.false,()))) (
 opt.need _ (p.and (p.cmp .geq (0:Int) (0:Int)) (p.and (p.cmp .leq (0:Int) b.2.1) (p.cmp .leq b.2.1 (p.ofNat (p.len b.1)))))<|
 opt.bnd ((LD×(LD×T5))) _ (g73 it p (b.1,((p.add 0 (p.nat (0:Int))),((p.sub (p.nat b.2.1) (p.nat (0:Int))),())))) fun c=>
 opt.need _ (p.leN (p.add 0 (p.len c.2.1)) (p.len c.2.1))<|
 opt.ret _ ((p.cut c.2.1 0 (p.len c.2.1)),(Bool.true,())))
def G64:=g64 it0
theorem v4y:CtrOk PG w4k (G64 std):=okF (a:=an64) (l:=la64) (gC v4w (gC v4x (gN))) (by kernel_rfl) fun _ _=>by kernel_rfl
def w7w:Ctr:=
 ⟨31,[.list 1],[],[(.ret,⟨[(0, .tuple [.list 1, .int .i64])],[],1⟩)]⟩
def la31:List LA:=
 []
def ja31:List JA:=
 []
def v2t:List CF:=
 [⟨w4k,G64⟩,⟨x99,G61⟩]
def an31:Anns:=
 ⟨v2t,ja31,[]⟩
def g31 (it:It):(p:Prim)→(LD×Unit)→Option ((LD×T1)):=
 fun p x=>
 opt.bnd T2 _ (g61 it p (x.1,())) fun a=>
 opt.ask _ (p.cmp .neq a.1 (0:Int)) (
 opt.ret _ ([],(a.1,()))) (
 opt.bnd ((LD×T6)) _ (g64 it p (x.1,())) fun b=>
 opt.ask _ (bif b.2.1 then Bool.false else Bool.true) (
 opt.ret _ ([],((5:Int),()))) (
 opt.ret _ (b.1,((0:Int),()))))
def G31:=g31 it0
theorem ok31:CtrOk PG w7w (G31 std):=okF (a:=an31) (l:=la31) (gC v4y (gC v0i (gN))) (by kernel_rfl) fun _ _=>by kernel_rfl
def w7z:Ctr:=
 ⟨28,[.list 1, .list 1],[],[(.ret,⟨[(0, .int .i64)],[],1⟩)]⟩
def la28:List LA:=
 [⟨28,[false,true,false,true,true,true,true],0,⟨⟨[(0, .list 1),(6, .int .i64),(7, .int .i64),(22, .list 1),(23, .int .i64),(24, .int .i64)],[],57⟩,[((AX.exit 0),⟨[(0, .list 1),(6, .int .i64),(7, .int .i64)],[],57⟩)]⟩⟩]
def ja28:List JA:=
 [⟨28,[false,false,true,true,true,true,true],0,[(AX.normal,⟨[(56, .bool)],[],57⟩)]⟩]
def v2w:List CF:=
 [⟨w0a,G56⟩,⟨x99,G61⟩]
def an28:Anns:=
 ⟨v2w,ja28,[]⟩
def v38 (p:Prim):(LD×T9)→Option ((LD×T9)⊕(LD×T3)):=
 fun a=>opt.run _ (
 opt.ask _ (p.cmp .lss a.2.2.2.2.2.1 a.2.2.2.2.1) (
 opt.need _ (p.rowOk a.2.2.2.1 (p.nat a.2.2.2.2.2.1) [ci])<|
 opt.need _ (p.cmp .geq a.2.2.2.2.2.1 (0:Int))<|
 opt.need _ (p.rowOk a.1 (p.nat (p.rdI a.2.2.2.1 (p.nat a.2.2.2.2.2.1) 0)) [ci])<|
 opt.need _ (p.cmp .geq (p.rdI a.2.2.2.1 (p.nat a.2.2.2.2.2.1) 0) (0:Int))<|
 opt.ret _ (Sum.inl (a.1,((p.ar .add .i64 a.2.1 (p.rdI a.1 (p.nat (p.rdI a.2.2.2.1 (p.nat a.2.2.2.2.2.1) 0)) 0)),(a.2.2.1,(a.2.2.2.1,(a.2.2.2.2.1,((p.ar .add .i64 a.2.2.2.2.2.1 (1:Int)),())))))))) (
 opt.ret _ (Sum.inr (a.1,(a.2.1,(a.2.2.1,()))))))
def g28 (it:It):(p:Prim)→(LD×(LD×Unit))→Option T2:=
 fun p x=>
 opt.bnd T2 _ (g61 it p (x.1,())) fun a=>
 opt.ask _ (p.cmp .neq a.1 (0:Int)) (
 opt.ret _ (a.1,())) (
 opt.bnd T0 _ (g56 it p (x.2.1,((p.ofNat (p.len x.1)),()))) fun b=>
 opt.ask _ (bif b.1 then Bool.false else Bool.true) (
 opt.ret _ ((3:Int),())) (
 opt.bnd ((LD×T3)) _ (
 it _ _ (v38 p) (x.1,((0:Int),((p.ofNat (p.len x.2.1)),(x.2.1,((p.ofNat (p.len x.2.1)),((0:Int),()))))))) fun c=>
 opt.bnd T0 _ (
 opt.run T0 (
 opt.need _ (p.cmp .neq (2:Int) (0:Int))<|
 opt.ask _ (p.cmp .lss c.2.1 (p.ar .quo .i64 (p.ar .mul .i64 c.2.2.1 (p.ar .sub .i64 c.2.2.1 (1:Int))) (2:Int))) (
 opt.ret _ (Bool.true,())) (
 opt.ask _ (p.cmp .eql c.2.2.1 (p.ofNat (p.len c.1))) (
 opt.need _ (p.cmp .neq (2:Int) (0:Int))<|
 opt.ret _ ((p.cmp .neq c.2.1 (p.ar .quo .i64 (p.ar .mul .i64 c.2.2.1 (p.ar .sub .i64 c.2.2.1 (1:Int))) (2:Int))),())) (
 opt.ret _ (Bool.false,()))))) fun d=>
 opt.ask _ d.1 (
 opt.ret _ ((0:Int),())) (
 opt.ret _ ((14:Int),()))))
def G28:=g28 it0
theorem ok28:CtrOk PG w7z (G28 std):=okF (a:=an28) (l:=la28) (gC v0j (gC v0i (gN))) (by kernel_rfl) fun _ _=>by kernel_rfl
end Go.Am
end
section
namespace Go.Am
open T11
def w2s (lo hi:Int) (l:List Int) (i:Nat):Prop:=gI l i<lo∨hi<gI l i
instance w9o (lo hi:Int) (l:List Int) (i:Nat):Decidable (w2s lo hi l i):=by unfold w2s; infer_instance
def inR (lo hi:Int) (l:List Int):Prop:=∀ i,i<l.length→¬ w2s lo hi l i
instance v5d (lo hi:Int) (l:List Int):Decidable (inR lo hi l):=by unfold inR; infer_instance
theorem w2n {l:List Int} {n:Nat} (h:z3a l n):l.length≤n:=by
 have:=x5c h
 have:=y80 n fun (k:Nat)=>decide ((k:Int)∈l)
 omega
end Go.Am
end
noncomputable section
namespace Go.Am
def y6p:Ctr:=
 ⟨105,[.sl 0 1, .int .i64, .int .i64, .int .i64, .clo 67 [] [.bptr 1 0]],[.row [ci], .box [.sl 2 1], .row [ci]],[]⟩
def w86:Prim→Tup (y6p).scs→Option (STup (scss (y6p).outs)):=
 fun _ _=>none
theorem x3u:z2c Go.Proofs.Try.prog 105:=enters_auto (b:=_) rfl (by kernel_rfl)
theorem w52:CtrOk Go.Proofs.Try.prog y6p (w86 std):=⟨x3u,fun x y h=>by cases h⟩
def x65:Ctr:=
 ⟨104,[.sl 0 1, .int .i64, .int .i64, .clo 67 [] [.bptr 1 0]],[.row [ci], .box [.sl 2 1], .row [ci]],[(.ret,⟨[(0, .tuple [])],[.row [ci], .box [.sl 2 1], .row [ci]],1⟩)]⟩
def w6o:List LA:=
 [⟨104,[false,true],3,⟨⟨[(0, .sl 0 1),(1, .int .i64),(2, .int .i64),(3, .clo 67 [] [.bptr 1 0]),(8, .int .i64)],[.row [ci], .box [.sl 2 1], .row [ci]],53⟩,[((AX.exit 0),⟨[],[.row [ci], .box [.sl 2 1], .row [ci]],53⟩)]⟩⟩,
 ⟨104,[false,true,false,false,true,false,false,true],3,⟨⟨[(0, .sl 0 1),(1, .int .i64),(2, .int .i64),(3, .clo 67 [] [.bptr 1 0]),(8, .int .i64),(9, .int .i64)],[.row [ci], .box [.sl 2 1], .row [ci]],53⟩,[((AX.exit 2),⟨[(0, .sl 0 1),(1, .int .i64),(2, .int .i64),(3, .clo 67 [] [.bptr 1 0]),(8, .int .i64)],[.row [ci], .box [.sl 2 1], .row [ci]],53⟩)]⟩⟩]
def w6p:List JA:=
 [⟨68,[true,false,true,true,true],3,[(AX.ret,⟨[(4, .int .i64)],[.row [ci], .box [.sl 2 1], .row [ci]],20⟩),(AX.normal,⟨[(0, .int .i64),(1, .int .i64),(6, .bool)],[.row [ci], .box [.sl 2 1], .row [ci]],20⟩)]⟩]
def w3v:List CF:=
 []
def w8p:Anns:=
 ⟨w3v,w6p,[]⟩
def w47 (p:Prim):(LD×(LD×T13))→Option ((LD×(LD×T13))⊕(LD×(LD×T10))):=
 fun a=>opt.run _ (
 opt.ask _ (p.cmp .gtr a.2.2.2.2.2.2.2.2.2.1 a.2.2.2.2.2.2.1) (
 opt.need _ (bif (p.cmp .geq a.2.2.2.2.2.2.2.2.2.1 (0:Int)) then (p.cmp .lss a.2.2.2.2.2.2.2.2.2.1 (p.ofNat a.2.2.2.2.2.1)) else Bool.false)<|
 opt.need _ (p.rowOk a.1 (p.add a.2.2.2.2.1 (p.nat a.2.2.2.2.2.2.2.2.2.1)) [ci])<|
 opt.need _ (bif (p.cmp .geq (p.ar .sub .i64 a.2.2.2.2.2.2.2.2.2.1 (1:Int)) (0:Int)) then (p.cmp .lss (p.ar .sub .i64 a.2.2.2.2.2.2.2.2.2.1 (1:Int)) (p.ofNat a.2.2.2.2.2.1)) else Bool.false)<|
 opt.need _ (p.rowOk a.1 (p.add a.2.2.2.2.1 (p.nat (p.ar .sub .i64 a.2.2.2.2.2.2.2.2.2.1 (1:Int)))) [ci])<|
 opt.need _ (bif (p.cmp .geq (p.rdI a.1 (p.add a.2.2.2.2.1 (p.nat a.2.2.2.2.2.2.2.2.2.1)) 0) (0:Int)) then (p.cmp .lss (p.rdI a.1 (p.add a.2.2.2.2.1 (p.nat a.2.2.2.2.2.2.2.2.2.1)) 0) (p.ofNat a.2.2.2.1)) else Bool.false)<|
 opt.need _ (p.rowOk a.2.1 (p.add a.2.2.1 (p.nat (p.rdI a.1 (p.add a.2.2.2.2.1 (p.nat a.2.2.2.2.2.2.2.2.2.1)) 0))) [ci])<|
 opt.need _ (bif (p.cmp .geq (p.rdI a.1 (p.add a.2.2.2.2.1 (p.nat (p.ar .sub .i64 a.2.2.2.2.2.2.2.2.2.1 (1:Int)))) 0) (0:Int)) then (p.cmp .lss (p.rdI a.1 (p.add a.2.2.2.2.1 (p.nat (p.ar .sub .i64 a.2.2.2.2.2.2.2.2.2.1 (1:Int)))) 0) (p.ofNat a.2.2.2.1)) else Bool.false)<|
 opt.need _ (p.rowOk a.2.1 (p.add a.2.2.1 (p.nat (p.rdI a.1 (p.add a.2.2.2.2.1 (p.nat (p.ar .sub .i64 a.2.2.2.2.2.2.2.2.2.1 (1:Int)))) 0))) [ci])<|
 opt.alt ((LD×(LD×(Nat×(Nat×(Int×Unit)))))) ((LD×(LD×T29))) _ (
 opt.run (((LD×(LD×(Nat×(Nat×(Int×Unit)))))⊕(LD×(LD×T29)))) (
 opt.ask _ (p.cmp .neq (p.rdI a.2.1 (p.add a.2.2.1 (p.nat (p.rdI a.1 (p.add a.2.2.2.2.1 (p.nat a.2.2.2.2.2.2.2.2.2.1)) 0))) 0) (p.rdI a.2.1 (p.add a.2.2.1 (p.nat (p.rdI a.1 (p.add a.2.2.2.2.1 (p.nat a.2.2.2.2.2.2.2.2.2.1)) 0))) 0)) (
 opt.ask _ (p.cmp .neq (p.rdI a.2.1 (p.add a.2.2.1 (p.nat (p.rdI a.1 (p.add a.2.2.2.2.1 (p.nat (p.ar .sub .i64 a.2.2.2.2.2.2.2.2.2.1 (1:Int)))) 0))) 0) (p.rdI a.2.1 (p.add a.2.2.1 (p.nat (p.rdI a.1 (p.add a.2.2.2.2.1 (p.nat (p.ar .sub .i64 a.2.2.2.2.2.2.2.2.2.1 (1:Int)))) 0))) 0)) (
 opt.ret _ (Sum.inl (a.1,(a.2.1,(a.2.2.1,(a.2.2.2.1,((0:Int),()))))))) (
 opt.ret _ (Sum.inl (a.1,(a.2.1,(a.2.2.1,(a.2.2.2.1,((-1:Int),())))))))) (
 opt.ret _ (Sum.inr (a.1,(a.2.1,(a.2.2.1,(a.2.2.2.1,((p.rdI a.2.1 (p.add a.2.2.1 (p.nat (p.rdI a.1 (p.add a.2.2.2.2.1 (p.nat a.2.2.2.2.2.2.2.2.2.1)) 0))) 0),((p.rdI a.2.1 (p.add a.2.2.1 (p.nat (p.rdI a.1 (p.add a.2.2.2.2.1 (p.nat (p.ar .sub .i64 a.2.2.2.2.2.2.2.2.2.1 (1:Int)))) 0))) 0),((p.cmp .neq (p.rdI a.2.1 (p.add a.2.2.1 (p.nat (p.rdI a.1 (p.add a.2.2.2.2.1 (p.nat (p.ar .sub .i64 a.2.2.2.2.2.2.2.2.2.1 (1:Int)))) 0))) 0) (p.rdI a.2.1 (p.add a.2.2.1 (p.nat (p.rdI a.1 (p.add a.2.2.2.2.1 (p.nat (p.ar .sub .i64 a.2.2.2.2.2.2.2.2.2.1 (1:Int)))) 0))) 0)),()))))))))))) (fun b=>
 opt.ask _ (p.cmp .lss b.2.2.2.2.1 (0:Int)) (
 opt.need _ (bif (p.cmp .geq (p.ar .sub .i64 a.2.2.2.2.2.2.2.2.2.1 (1:Int)) (0:Int)) then (p.cmp .lss (p.ar .sub .i64 a.2.2.2.2.2.2.2.2.2.1 (1:Int)) (p.ofNat a.2.2.2.2.2.1)) else Bool.false)<|
 opt.need _ (p.rowOk b.1 (p.add a.2.2.2.2.1 (p.nat (p.ar .sub .i64 a.2.2.2.2.2.2.2.2.2.1 (1:Int)))) [ci])<|
 opt.need _ (bif (p.cmp .geq a.2.2.2.2.2.2.2.2.2.1 (0:Int)) then (p.cmp .lss a.2.2.2.2.2.2.2.2.2.1 (p.ofNat a.2.2.2.2.2.1)) else Bool.false)<|
 opt.need _ (p.rowOk b.1 (p.add a.2.2.2.2.1 (p.nat a.2.2.2.2.2.2.2.2.2.1)) [ci])<|
 opt.need _ (bif (p.cmp .geq a.2.2.2.2.2.2.2.2.2.1 (0:Int)) then (p.cmp .lss a.2.2.2.2.2.2.2.2.2.1 (p.ofNat a.2.2.2.2.2.1)) else Bool.false)<|
 opt.need _ (p.rowOk b.1 (p.add a.2.2.2.2.1 (p.nat a.2.2.2.2.2.2.2.2.2.1)) [ci])<|
 opt.need _ (bif (p.cmp .geq (p.ar .sub .i64 a.2.2.2.2.2.2.2.2.2.1 (1:Int)) (0:Int)) then (p.cmp .lss (p.ar .sub .i64 a.2.2.2.2.2.2.2.2.2.1 (1:Int)) (p.ofNat a.2.2.2.2.2.1)) else Bool.false)<|
 opt.need _ (p.rowOk (p.set b.1 (p.add a.2.2.2.2.1 (p.nat a.2.2.2.2.2.2.2.2.2.1)) [(D.int .i64 (p.rdI b.1 (p.add a.2.2.2.2.1 (p.nat (p.ar .sub .i64 a.2.2.2.2.2.2.2.2.2.1 (1:Int)))) 0))]) (p.add a.2.2.2.2.1 (p.nat (p.ar .sub .i64 a.2.2.2.2.2.2.2.2.2.1 (1:Int)))) [ci])<|
 opt.ret _ (Sum.inl ((p.set (p.set b.1 (p.add a.2.2.2.2.1 (p.nat a.2.2.2.2.2.2.2.2.2.1)) [(D.int .i64 (p.rdI b.1 (p.add a.2.2.2.2.1 (p.nat (p.ar .sub .i64 a.2.2.2.2.2.2.2.2.2.1 (1:Int)))) 0))]) (p.add a.2.2.2.2.1 (p.nat (p.ar .sub .i64 a.2.2.2.2.2.2.2.2.2.1 (1:Int)))) [(D.int .i64 (p.rdI b.1 (p.add a.2.2.2.2.1 (p.nat a.2.2.2.2.2.2.2.2.2.1)) 0))]),(b.2.1,(b.2.2.1,(b.2.2.2.1,(a.2.2.2.2.1,(a.2.2.2.2.2.1,(a.2.2.2.2.2.2.1,(a.2.2.2.2.2.2.2.1,(a.2.2.2.2.2.2.2.2.1,((p.ar .sub .i64 a.2.2.2.2.2.2.2.2.2.1 (1:Int)),())))))))))))) (
 opt.ret _ (Sum.inr (b.1,(b.2.1,(b.2.2.1,(b.2.2.2.1,(a.2.2.2.2.1,(a.2.2.2.2.2.1,(a.2.2.2.2.2.2.1,(a.2.2.2.2.2.2.2.1,(a.2.2.2.2.2.2.2.2.1,())))))))))))) (fun c=>
 opt.bnd ((LD×(LD×T29))) _ (some c) fun d=>
 opt.ask _ d.2.2.2.2.2.2.1 (
 opt.ask _ (p.cmp .lss (1:Int) (0:Int)) (
 opt.need _ (bif (p.cmp .geq (p.ar .sub .i64 a.2.2.2.2.2.2.2.2.2.1 (1:Int)) (0:Int)) then (p.cmp .lss (p.ar .sub .i64 a.2.2.2.2.2.2.2.2.2.1 (1:Int)) (p.ofNat a.2.2.2.2.2.1)) else Bool.false)<|
 opt.need _ (p.rowOk d.1 (p.add a.2.2.2.2.1 (p.nat (p.ar .sub .i64 a.2.2.2.2.2.2.2.2.2.1 (1:Int)))) [ci])<|
 opt.need _ (bif (p.cmp .geq a.2.2.2.2.2.2.2.2.2.1 (0:Int)) then (p.cmp .lss a.2.2.2.2.2.2.2.2.2.1 (p.ofNat a.2.2.2.2.2.1)) else Bool.false)<|
 opt.need _ (p.rowOk d.1 (p.add a.2.2.2.2.1 (p.nat a.2.2.2.2.2.2.2.2.2.1)) [ci])<|
 opt.need _ (bif (p.cmp .geq a.2.2.2.2.2.2.2.2.2.1 (0:Int)) then (p.cmp .lss a.2.2.2.2.2.2.2.2.2.1 (p.ofNat a.2.2.2.2.2.1)) else Bool.false)<|
 opt.need _ (p.rowOk d.1 (p.add a.2.2.2.2.1 (p.nat a.2.2.2.2.2.2.2.2.2.1)) [ci])<|
 opt.need _ (bif (p.cmp .geq (p.ar .sub .i64 a.2.2.2.2.2.2.2.2.2.1 (1:Int)) (0:Int)) then (p.cmp .lss (p.ar .sub .i64 a.2.2.2.2.2.2.2.2.2.1 (1:Int)) (p.ofNat a.2.2.2.2.2.1)) else Bool.false)<|
 opt.need _ (p.rowOk (p.set d.1 (p.add a.2.2.2.2.1 (p.nat a.2.2.2.2.2.2.2.2.2.1)) [(D.int .i64 (p.rdI d.1 (p.add a.2.2.2.2.1 (p.nat (p.ar .sub .i64 a.2.2.2.2.2.2.2.2.2.1 (1:Int)))) 0))]) (p.add a.2.2.2.2.1 (p.nat (p.ar .sub .i64 a.2.2.2.2.2.2.2.2.2.1 (1:Int)))) [ci])<|
 opt.ret _ (Sum.inl ((p.set (p.set d.1 (p.add a.2.2.2.2.1 (p.nat a.2.2.2.2.2.2.2.2.2.1)) [(D.int .i64 (p.rdI d.1 (p.add a.2.2.2.2.1 (p.nat (p.ar .sub .i64 a.2.2.2.2.2.2.2.2.2.1 (1:Int)))) 0))]) (p.add a.2.2.2.2.1 (p.nat (p.ar .sub .i64 a.2.2.2.2.2.2.2.2.2.1 (1:Int)))) [(D.int .i64 (p.rdI d.1 (p.add a.2.2.2.2.1 (p.nat a.2.2.2.2.2.2.2.2.2.1)) 0))]),(d.2.1,(d.2.2.1,(d.2.2.2.1,(a.2.2.2.2.1,(a.2.2.2.2.2.1,(a.2.2.2.2.2.2.1,(a.2.2.2.2.2.2.2.1,(a.2.2.2.2.2.2.2.2.1,((p.ar .sub .i64 a.2.2.2.2.2.2.2.2.2.1 (1:Int)),())))))))))))) (
 opt.ret _ (Sum.inr (d.1,(d.2.1,(d.2.2.1,(d.2.2.2.1,(a.2.2.2.2.1,(a.2.2.2.2.2.1,(a.2.2.2.2.2.2.1,(a.2.2.2.2.2.2.2.1,(a.2.2.2.2.2.2.2.2.1,())))))))))))) (
 opt.ask _ (p.cmp .lss d.2.2.2.2.1 d.2.2.2.2.2.1) (
 opt.ask _ (p.cmp .lss (-1:Int) (0:Int)) (
 opt.need _ (bif (p.cmp .geq (p.ar .sub .i64 a.2.2.2.2.2.2.2.2.2.1 (1:Int)) (0:Int)) then (p.cmp .lss (p.ar .sub .i64 a.2.2.2.2.2.2.2.2.2.1 (1:Int)) (p.ofNat a.2.2.2.2.2.1)) else Bool.false)<|
 opt.need _ (p.rowOk d.1 (p.add a.2.2.2.2.1 (p.nat (p.ar .sub .i64 a.2.2.2.2.2.2.2.2.2.1 (1:Int)))) [ci])<|
 opt.need _ (bif (p.cmp .geq a.2.2.2.2.2.2.2.2.2.1 (0:Int)) then (p.cmp .lss a.2.2.2.2.2.2.2.2.2.1 (p.ofNat a.2.2.2.2.2.1)) else Bool.false)<|
 opt.need _ (p.rowOk d.1 (p.add a.2.2.2.2.1 (p.nat a.2.2.2.2.2.2.2.2.2.1)) [ci])<|
 opt.need _ (bif (p.cmp .geq a.2.2.2.2.2.2.2.2.2.1 (0:Int)) then (p.cmp .lss a.2.2.2.2.2.2.2.2.2.1 (p.ofNat a.2.2.2.2.2.1)) else Bool.false)<|
 opt.need _ (p.rowOk d.1 (p.add a.2.2.2.2.1 (p.nat a.2.2.2.2.2.2.2.2.2.1)) [ci])<|
 opt.need _ (bif (p.cmp .geq (p.ar .sub .i64 a.2.2.2.2.2.2.2.2.2.1 (1:Int)) (0:Int)) then (p.cmp .lss (p.ar .sub .i64 a.2.2.2.2.2.2.2.2.2.1 (1:Int)) (p.ofNat a.2.2.2.2.2.1)) else Bool.false)<|
 opt.need _ (p.rowOk (p.set d.1 (p.add a.2.2.2.2.1 (p.nat a.2.2.2.2.2.2.2.2.2.1)) [(D.int .i64 (p.rdI d.1 (p.add a.2.2.2.2.1 (p.nat (p.ar .sub .i64 a.2.2.2.2.2.2.2.2.2.1 (1:Int)))) 0))]) (p.add a.2.2.2.2.1 (p.nat (p.ar .sub .i64 a.2.2.2.2.2.2.2.2.2.1 (1:Int)))) [ci])<|
 opt.ret _ (Sum.inl ((p.set (p.set d.1 (p.add a.2.2.2.2.1 (p.nat a.2.2.2.2.2.2.2.2.2.1)) [(D.int .i64 (p.rdI d.1 (p.add a.2.2.2.2.1 (p.nat (p.ar .sub .i64 a.2.2.2.2.2.2.2.2.2.1 (1:Int)))) 0))]) (p.add a.2.2.2.2.1 (p.nat (p.ar .sub .i64 a.2.2.2.2.2.2.2.2.2.1 (1:Int)))) [(D.int .i64 (p.rdI d.1 (p.add a.2.2.2.2.1 (p.nat a.2.2.2.2.2.2.2.2.2.1)) 0))]),(d.2.1,(d.2.2.1,(d.2.2.2.1,(a.2.2.2.2.1,(a.2.2.2.2.2.1,(a.2.2.2.2.2.2.1,(a.2.2.2.2.2.2.2.1,(a.2.2.2.2.2.2.2.2.1,((p.ar .sub .i64 a.2.2.2.2.2.2.2.2.2.1 (1:Int)),())))))))))))) (
 opt.ret _ (Sum.inr (d.1,(d.2.1,(d.2.2.1,(d.2.2.2.1,(a.2.2.2.2.1,(a.2.2.2.2.2.1,(a.2.2.2.2.2.2.1,(a.2.2.2.2.2.2.2.1,(a.2.2.2.2.2.2.2.2.1,())))))))))))) (
 opt.ask _ (p.cmp .gtr d.2.2.2.2.1 d.2.2.2.2.2.1) (
 opt.ask _ (p.cmp .lss (1:Int) (0:Int)) (
 opt.need _ (bif (p.cmp .geq (p.ar .sub .i64 a.2.2.2.2.2.2.2.2.2.1 (1:Int)) (0:Int)) then (p.cmp .lss (p.ar .sub .i64 a.2.2.2.2.2.2.2.2.2.1 (1:Int)) (p.ofNat a.2.2.2.2.2.1)) else Bool.false)<|
 opt.need _ (p.rowOk d.1 (p.add a.2.2.2.2.1 (p.nat (p.ar .sub .i64 a.2.2.2.2.2.2.2.2.2.1 (1:Int)))) [ci])<|
 opt.need _ (bif (p.cmp .geq a.2.2.2.2.2.2.2.2.2.1 (0:Int)) then (p.cmp .lss a.2.2.2.2.2.2.2.2.2.1 (p.ofNat a.2.2.2.2.2.1)) else Bool.false)<|
 opt.need _ (p.rowOk d.1 (p.add a.2.2.2.2.1 (p.nat a.2.2.2.2.2.2.2.2.2.1)) [ci])<|
 opt.need _ (bif (p.cmp .geq a.2.2.2.2.2.2.2.2.2.1 (0:Int)) then (p.cmp .lss a.2.2.2.2.2.2.2.2.2.1 (p.ofNat a.2.2.2.2.2.1)) else Bool.false)<|
 opt.need _ (p.rowOk d.1 (p.add a.2.2.2.2.1 (p.nat a.2.2.2.2.2.2.2.2.2.1)) [ci])<|
 opt.need _ (bif (p.cmp .geq (p.ar .sub .i64 a.2.2.2.2.2.2.2.2.2.1 (1:Int)) (0:Int)) then (p.cmp .lss (p.ar .sub .i64 a.2.2.2.2.2.2.2.2.2.1 (1:Int)) (p.ofNat a.2.2.2.2.2.1)) else Bool.false)<|
 opt.need _ (p.rowOk (p.set d.1 (p.add a.2.2.2.2.1 (p.nat a.2.2.2.2.2.2.2.2.2.1)) [(D.int .i64 (p.rdI d.1 (p.add a.2.2.2.2.1 (p.nat (p.ar .sub .i64 a.2.2.2.2.2.2.2.2.2.1 (1:Int)))) 0))]) (p.add a.2.2.2.2.1 (p.nat (p.ar .sub .i64 a.2.2.2.2.2.2.2.2.2.1 (1:Int)))) [ci])<|
 opt.ret _ (Sum.inl ((p.set (p.set d.1 (p.add a.2.2.2.2.1 (p.nat a.2.2.2.2.2.2.2.2.2.1)) [(D.int .i64 (p.rdI d.1 (p.add a.2.2.2.2.1 (p.nat (p.ar .sub .i64 a.2.2.2.2.2.2.2.2.2.1 (1:Int)))) 0))]) (p.add a.2.2.2.2.1 (p.nat (p.ar .sub .i64 a.2.2.2.2.2.2.2.2.2.1 (1:Int)))) [(D.int .i64 (p.rdI d.1 (p.add a.2.2.2.2.1 (p.nat a.2.2.2.2.2.2.2.2.2.1)) 0))]),(d.2.1,(d.2.2.1,(d.2.2.2.1,(a.2.2.2.2.1,(a.2.2.2.2.2.1,(a.2.2.2.2.2.2.1,(a.2.2.2.2.2.2.2.1,(a.2.2.2.2.2.2.2.2.1,((p.ar .sub .i64 a.2.2.2.2.2.2.2.2.2.1 (1:Int)),())))))))))))) (
 opt.ret _ (Sum.inr (d.1,(d.2.1,(d.2.2.1,(d.2.2.2.1,(a.2.2.2.2.1,(a.2.2.2.2.2.1,(a.2.2.2.2.2.2.1,(a.2.2.2.2.2.2.2.1,(a.2.2.2.2.2.2.2.2.1,())))))))))))) (
 opt.ask _ (p.cmp .lss (0:Int) (0:Int)) (
 opt.need _ (bif (p.cmp .geq (p.ar .sub .i64 a.2.2.2.2.2.2.2.2.2.1 (1:Int)) (0:Int)) then (p.cmp .lss (p.ar .sub .i64 a.2.2.2.2.2.2.2.2.2.1 (1:Int)) (p.ofNat a.2.2.2.2.2.1)) else Bool.false)<|
 opt.need _ (p.rowOk d.1 (p.add a.2.2.2.2.1 (p.nat (p.ar .sub .i64 a.2.2.2.2.2.2.2.2.2.1 (1:Int)))) [ci])<|
 opt.need _ (bif (p.cmp .geq a.2.2.2.2.2.2.2.2.2.1 (0:Int)) then (p.cmp .lss a.2.2.2.2.2.2.2.2.2.1 (p.ofNat a.2.2.2.2.2.1)) else Bool.false)<|
 opt.need _ (p.rowOk d.1 (p.add a.2.2.2.2.1 (p.nat a.2.2.2.2.2.2.2.2.2.1)) [ci])<|
 opt.need _ (bif (p.cmp .geq a.2.2.2.2.2.2.2.2.2.1 (0:Int)) then (p.cmp .lss a.2.2.2.2.2.2.2.2.2.1 (p.ofNat a.2.2.2.2.2.1)) else Bool.false)<|
 opt.need _ (p.rowOk d.1 (p.add a.2.2.2.2.1 (p.nat a.2.2.2.2.2.2.2.2.2.1)) [ci])<|
 opt.need _ (bif (p.cmp .geq (p.ar .sub .i64 a.2.2.2.2.2.2.2.2.2.1 (1:Int)) (0:Int)) then (p.cmp .lss (p.ar .sub .i64 a.2.2.2.2.2.2.2.2.2.1 (1:Int)) (p.ofNat a.2.2.2.2.2.1)) else Bool.false)<|
 opt.need _ (p.rowOk (p.set d.1 (p.add a.2.2.2.2.1 (p.nat a.2.2.2.2.2.2.2.2.2.1)) [(D.int .i64 (p.rdI d.1 (p.add a.2.2.2.2.1 (p.nat (p.ar .sub .i64 a.2.2.2.2.2.2.2.2.2.1 (1:Int)))) 0))]) (p.add a.2.2.2.2.1 (p.nat (p.ar .sub .i64 a.2.2.2.2.2.2.2.2.2.1 (1:Int)))) [ci])<|
 opt.ret _ (Sum.inl ((p.set (p.set d.1 (p.add a.2.2.2.2.1 (p.nat a.2.2.2.2.2.2.2.2.2.1)) [(D.int .i64 (p.rdI d.1 (p.add a.2.2.2.2.1 (p.nat (p.ar .sub .i64 a.2.2.2.2.2.2.2.2.2.1 (1:Int)))) 0))]) (p.add a.2.2.2.2.1 (p.nat (p.ar .sub .i64 a.2.2.2.2.2.2.2.2.2.1 (1:Int)))) [(D.int .i64 (p.rdI d.1 (p.add a.2.2.2.2.1 (p.nat a.2.2.2.2.2.2.2.2.2.1)) 0))]),(d.2.1,(d.2.2.1,(d.2.2.2.1,(a.2.2.2.2.1,(a.2.2.2.2.2.1,(a.2.2.2.2.2.2.1,(a.2.2.2.2.2.2.2.1,(a.2.2.2.2.2.2.2.2.1,((p.ar .sub .i64 a.2.2.2.2.2.2.2.2.2.1 (1:Int)),())))))))))))) (
 opt.ret _ (Sum.inr (d.1,(d.2.1,(d.2.2.1,(d.2.2.2.1,(a.2.2.2.2.1,(a.2.2.2.2.2.1,(a.2.2.2.2.2.2.1,(a.2.2.2.2.2.2.2.1,(a.2.2.2.2.2.2.2.2.1,())))))))))))))))) (
 opt.ret _ (Sum.inr (a.1,(a.2.1,(a.2.2.1,(a.2.2.2.1,(a.2.2.2.2.1,(a.2.2.2.2.2.1,(a.2.2.2.2.2.2.1,(a.2.2.2.2.2.2.2.1,(a.2.2.2.2.2.2.2.2.1,()))))))))))))
def x0o (it:It) (p:Prim):(LD×(LD×T10))→Option ((LD×(LD×T10))⊕(LD×(LD×T5))):=
 fun a=>opt.run _ (
 opt.ask _ (p.cmp .lss a.2.2.2.2.2.2.2.2.1 a.2.2.2.2.2.2.2.1) (
 opt.bnd ((LD×(LD×T10))) _ (
 it _ _ (w47 p) (a.1,(a.2.1,(a.2.2.1,(a.2.2.2.1,(a.2.2.2.2.1,(a.2.2.2.2.2.1,(a.2.2.2.2.2.2.1,(a.2.2.2.2.2.2.2.1,(a.2.2.2.2.2.2.2.2.1,(a.2.2.2.2.2.2.2.2.1,()))))))))))) fun b=>
 opt.ret _ (Sum.inl (b.1,(b.2.1,(b.2.2.1,(b.2.2.2.1,(b.2.2.2.2.1,(b.2.2.2.2.2.1,(b.2.2.2.2.2.2.1,(b.2.2.2.2.2.2.2.1,((p.ar .add .i64 b.2.2.2.2.2.2.2.2.1 (1:Int)),()))))))))))) (
 opt.ret _ (Sum.inr (a.1,(a.2.1,(a.2.2.1,(a.2.2.2.1,())))))))
def x6b (it:It):(p:Prim)→(LD×(LD×T18))→Option ((LD×(LD×T5))):=
 fun p x=>
 opt.bnd ((LD×(LD×T5))) _ (
 it _ _ (x0o it p) (x.1,(x.2.1,(x.2.2.1,(x.2.2.2.1,(x.2.2.2.2.1,(x.2.2.2.2.2.1,(x.2.2.2.2.2.2.1,(x.2.2.2.2.2.2.2.1,((p.ar .add .i64 x.2.2.2.2.2.2.1 (1:Int)),())))))))))) fun a=>
 opt.ret _ (a.1,(a.2.1,(a.2.2.1,(a.2.2.2.1,()))))
def w84:=x6b it0
theorem w53:CtrOk PG x65 (w84 std):=okF (a:=w8p) (l:=w6o) (gN) (by kernel_rfl) fun _ _=>by kernel_rfl
def w1p:Ctr:=
 ⟨86,[.sl 0 1, .int .i64, .clo 67 [] [.bptr 1 0]],[.row [ci], .box [.sl 2 1], .row [ci]],[(.ret,⟨[(0, .tuple [])],[.row [ci], .box [.sl 2 1], .row [ci]],1⟩)]⟩
def v1c:List LA:=
 [⟨86,[false,false,true,true],3,⟨⟨[(0, .sl 0 1),(1, .int .i64),(2, .clo 67 [] [.bptr 1 0]),(6, .int .i64),(7, .int .i64),(8, .int .i64)],[.row [ci], .box [.sl 2 1], .row [ci]],63⟩,[((AX.exit 0),⟨[(0, .sl 0 1),(1, .int .i64),(2, .clo 67 [] [.bptr 1 0]),(6, .int .i64),(7, .int .i64)],[.row [ci], .box [.sl 2 1], .row [ci]],63⟩)]⟩⟩,
 ⟨86,[false,true,true,true,true],3,⟨⟨[(0, .sl 0 1),(1, .int .i64),(2, .clo 67 [] [.bptr 1 0]),(6, .int .i64)],[.row [ci], .box [.sl 2 1], .row [ci]],63⟩,[((AX.exit 2),⟨[],[.row [ci], .box [.sl 2 1], .row [ci]],63⟩)]⟩⟩,
 ⟨86,[false,false,true,false,true,false,false,true,true,true,true],3,⟨⟨[(0, .sl 0 1),(1, .int .i64),(2, .clo 67 [] [.bptr 1 0]),(6, .int .i64),(7, .int .i64),(8, .int .i64)],[.row [ci], .box [.sl 2 1], .row [ci]],63⟩,[((AX.exit 4),⟨[(0, .sl 0 1),(1, .int .i64),(2, .clo 67 [] [.bptr 1 0]),(6, .int .i64),(7, .int .i64)],[.row [ci], .box [.sl 2 1], .row [ci]],63⟩)]⟩⟩]
def v1o:List JA:=
 []
def w6u:List CF:=
 [⟨y6p,w86⟩,⟨x65,w84⟩]
def v4h:Anns:=
 ⟨w6u,v1o,[]⟩
def w8k (p:Prim):(LD×(LD×T13))→Option ((LD×(LD×T13))⊕(LD×(LD×T10))):=
 fun a=>opt.run _ (
 opt.ask _ (p.cmp .leq a.2.2.2.2.2.2.2.2.2.1 a.2.2.2.2.2.2.1) (
 opt.no _ 81) (
 opt.ret _ (Sum.inr (a.1,(a.2.1,(a.2.2.1,(a.2.2.2.1,(a.2.2.2.2.1,(a.2.2.2.2.2.1,(a.2.2.2.2.2.2.1,(a.2.2.2.2.2.2.2.1,(a.2.2.2.2.2.2.2.2.1,()))))))))))))
def x7g (it:It) (p:Prim):(LD×(LD×T18))→Option ((LD×(LD×T18))⊕(LD×(LD×T5))):=
 fun a=>opt.run _ (
 opt.ask _ (p.cmp .lss a.2.2.2.2.2.2.2.1 a.2.2.2.2.2.2.1) (
 opt.bnd ((LD×(LD×T10))) _ (
 it _ _ (w8k p) (a.1,(a.2.1,(a.2.2.1,(a.2.2.2.1,(a.2.2.2.2.1,(a.2.2.2.2.2.1,(a.2.2.2.2.2.2.1,(a.2.2.2.2.2.2.2.1,((0:Int),((p.ar .mul .i64 (2:Int) a.2.2.2.2.2.2.2.1),()))))))))))) fun b=>
 opt.ask _ (p.cmp .lss (p.ar .add .i64 b.2.2.2.2.2.2.2.2.1 b.2.2.2.2.2.2.2.1) b.2.2.2.2.2.2.1) (
 opt.no _ 81) (
 opt.ret _ (Sum.inl (b.1,(b.2.1,(b.2.2.1,(b.2.2.2.1,(b.2.2.2.2.1,(b.2.2.2.2.2.1,(b.2.2.2.2.2.2.1,((p.ar .mul .i64 b.2.2.2.2.2.2.2.1 (2:Int)),()))))))))))) (
 opt.ret _ (Sum.inr (a.1,(a.2.1,(a.2.2.1,(a.2.2.2.1,())))))))
def x7h (it:It) (p:Prim):(LD×(LD×T13))→Option ((LD×(LD×T13))⊕(LD×(LD×T10))):=
 fun a=>opt.run _ (
 opt.ask _ (p.cmp .leq a.2.2.2.2.2.2.2.2.2.1 a.2.2.2.2.2.2.1) (
 opt.bnd ((LD×(LD×T5))) _ (x6b it p (a.1,(a.2.1,(a.2.2.1,(a.2.2.2.1,(a.2.2.2.2.1,(a.2.2.2.2.2.1,(a.2.2.2.2.2.2.2.2.1,(a.2.2.2.2.2.2.2.2.2.1,()))))))))) fun b=>
 opt.ret _ (Sum.inl (b.1,(b.2.1,(b.2.2.1,(b.2.2.2.1,(a.2.2.2.2.1,(a.2.2.2.2.2.1,(a.2.2.2.2.2.2.1,(a.2.2.2.2.2.2.2.1,(a.2.2.2.2.2.2.2.2.2.1,((p.ar .add .i64 a.2.2.2.2.2.2.2.2.2.1 a.2.2.2.2.2.2.2.1),())))))))))))) (
 opt.ret _ (Sum.inr (a.1,(a.2.1,(a.2.2.1,(a.2.2.2.1,(a.2.2.2.2.1,(a.2.2.2.2.2.1,(a.2.2.2.2.2.2.1,(a.2.2.2.2.2.2.2.1,(a.2.2.2.2.2.2.2.2.1,()))))))))))))
def w9l (it:It):(p:Prim)→(LD×(LD×(Nat×(Nat×(Nat×(Nat×(Int×Unit)))))))→Option ((LD×(LD×T5))):=
 fun p x=>
 opt.bnd ((LD×(LD×T10))) _ (
 it _ _ (x7h it p) (x.1,(x.2.1,(x.2.2.1,(x.2.2.2.1,(x.2.2.2.2.1,(x.2.2.2.2.2.1,(x.2.2.2.2.2.2.1,((20:Int),((0:Int),((20:Int),()))))))))))) fun a=>
 opt.bnd ((LD×(LD×T5))) _ (x6b it p (a.1,(a.2.1,(a.2.2.1,(a.2.2.2.1,(a.2.2.2.2.1,(a.2.2.2.2.2.1,(a.2.2.2.2.2.2.2.2.1,(a.2.2.2.2.2.2.1,()))))))))) fun b=>
 opt.bnd ((LD×(LD×T5))) _ (
 it _ _ (x7g it p) (b.1,(b.2.1,(b.2.2.1,(b.2.2.2.1,(a.2.2.2.2.1,(a.2.2.2.2.2.1,(a.2.2.2.2.2.2.1,(a.2.2.2.2.2.2.2.1,()))))))))) fun c=>
 opt.ret _ (c.1,(c.2.1,(c.2.2.1,(c.2.2.2.1,()))))
def v5k:=w9l it0
theorem v0e:CtrOk PG w1p (v5k std):=okF (a:=v4h) (l:=v1c) (gC w52 (gC w53 (gN))) (by kernel_rfl) fun _ _=>by kernel_rfl
def w1s:Ctr:=
 ⟨66,[.sl 0 1, .clo 67 [] [.bptr 1 0]],[.row [ci], .box [.sl 2 1], .row [ci]],[(.ret,⟨[(0, .tuple [])],[.row [ci], .box [.sl 2 1], .row [ci]],1⟩)]⟩
def v1f:List LA:=
 []
def v1r:List JA:=
 []
def w6x:List CF:=
 [⟨w1p,v5k⟩]
def v4k:Anns:=
 ⟨w6x,v1r,[]⟩
def w9n (it:It):(p:Prim)→(LD×(LD×T19))→Option ((LD×(LD×T5))):=
 fun p x=>
 opt.bnd ((LD×(LD×T5))) _ (w9l it p (x.1,(x.2.1,(x.2.2.1,(x.2.2.2.1,(x.2.2.2.2.1,(x.2.2.2.2.2.1,((p.ofNat x.2.2.2.2.2.1),())))))))) fun a=>
 opt.ret _ (a.1,(a.2.1,(a.2.2.1,(a.2.2.2.1,()))))
def v5n:=w9n it0
theorem v0h:CtrOk PG w1s (v5n std):=okF (a:=v4k) (l:=v1f) (gC v0e (gN)) (by kernel_rfl) fun _ _=>by kernel_rfl
end Go.Am
end
noncomputable section
namespace Go.Am
def w7r:Ctr:=
 ⟨49,[.bptr 0 0],[.row [ci]],[(.ret,⟨[(0, .list 1)],[.row [ci]],1⟩)]⟩
def la49:List LA:=
 [⟨49,[false,true,false,true,true,true],1,⟨⟨[(0, .bptr 0 0),(3, .full 1 1),(4, .bptr 2 0),(14, .int .i64),(15, .int .i64)],[.row [ci], .row [(CK.list 1)], .box [.int .i64, .int .i64, .int .i64, .int .i64, .int .i64, .int .i64, .int .i64, .int .i64, .int .i64, .int .i64]],65⟩,[((AX.exit 0),⟨[(3, .full 1 1)],[.row [ci], .row [(CK.list 1)]],65⟩)]⟩⟩,
 ⟨49,[false,true,true,true,false,false,true,true,false,false,true,false,true,true,true],1,⟨⟨[(0, .bptr 0 0),(3, .full 1 1),(4, .bptr 2 0),(5, .int .i64),(14, .int .i64),(15, .int .i64),(33, .int .i64),(34, .int .i64)],[.row [ci], .row [(CK.list 1)], .box [.int .i64, .int .i64, .int .i64, .int .i64, .int .i64, .int .i64, .int .i64, .int .i64, .int .i64, .int .i64]],65⟩,[((AX.exit 2),⟨[(0, .bptr 0 0),(3, .full 1 1),(4, .bptr 2 0),(14, .int .i64),(15, .int .i64)],[.row [ci], .row [(CK.list 1)], .box [.int .i64, .int .i64, .int .i64, .int .i64, .int .i64, .int .i64, .int .i64, .int .i64, .int .i64, .int .i64]],65⟩)]⟩⟩]
def ja49:List JA:=
 [⟨49,[true,true,false,false,true,true,false,false,true,true,true,false,false,true,true,false,false,true,false,true,true,true],1,[(AX.normal,⟨[(0, .bptr 0 0),(3, .full 1 1),(4, .bptr 2 0),(5, .int .i64),(14, .int .i64),(15, .int .i64),(33, .int .i64),(34, .int .i64)],[.row [ci], .row [(CK.list 1)], .box [.int .i64, .int .i64, .int .i64, .int .i64, .int .i64, .int .i64, .int .i64, .int .i64, .int .i64, .int .i64]],65⟩)]⟩,
 ⟨49,[false,true,true,false,false,true,false,true,true,true],1,[(AX.normal,⟨[(0, .bptr 0 0),(3, .full 1 1),(4, .bptr 2 0),(14, .int .i64),(15, .int .i64)],[.row [ci], .row [(CK.list 1)], .box [.int .i64, .int .i64, .int .i64, .int .i64, .int .i64, .int .i64, .int .i64, .int .i64, .int .i64, .int .i64]],65⟩)]⟩]
def v2k:List CF:=
 []
def an49:Anns:=
 ⟨v2k,ja49,[]⟩
def v32 (p:Prim):(LD×(LD×T23))→Option ((LD×(LD×T23))⊕(LD×(LD×T14))):=
 fun a=>opt.run _ (
 opt.ask _ (p.cmp .lss a.2.2.2.2.2.2.2.2.2.2.2.2.2.2.2.2.1 a.2.2.2.2.2.2.2.2.2.2.2.2.2.2.2.1) (
 opt.need _ (bif (p.cmp .geq a.2.2.2.2.2.2.2.2.2.2.2.2.1 (0:Int)) then (p.cmp .lss a.2.2.2.2.2.2.2.2.2.2.2.2.1 (p.ofNat 10)) else Bool.false)<|
 opt.need _ (bif (p.cmp .geq a.2.2.2.2.2.2.2.2.2.2.2.2.2.2.2.2.1 (0:Int)) then (p.cmp .lss a.2.2.2.2.2.2.2.2.2.2.2.2.2.2.2.2.1 (p.ofNat 10)) else Bool.false)<|
 opt.need _ (p.rowOk a.1 (p.add (p.add 1 (p.mul (p.nat a.2.2.2.2.2.2.2.2.2.2.2.2.1) 10)) (p.nat a.2.2.2.2.2.2.2.2.2.2.2.2.2.2.2.2.1)) [ci])<|
 opt.bnd ((LD×(LD×T23))) _ (
 opt.run ((LD×(LD×T23))) (
 opt.ask _ (p.cmp .eql (p.rdI a.1 (p.add (p.add 1 (p.mul (p.nat a.2.2.2.2.2.2.2.2.2.2.2.2.1) 10)) (p.nat a.2.2.2.2.2.2.2.2.2.2.2.2.2.2.2.2.1)) 0) (1:Int)) (
 opt.need _ (bif (p.cmp .geq a.2.2.2.2.2.2.2.2.2.2.2.2.1 (0:Int)) then (p.cmp .lss a.2.2.2.2.2.2.2.2.2.2.2.2.1 (p.ofNat (p.len a.2.1))) else Bool.false)<|
 opt.need _ (p.rowOk a.2.1 (p.add 0 (p.nat a.2.2.2.2.2.2.2.2.2.2.2.2.1)) [(CK.list 1)])<|
 opt.need _ (bif (p.cmp .geq a.2.2.2.2.2.2.2.2.2.2.2.2.1 (0:Int)) then (p.cmp .lss a.2.2.2.2.2.2.2.2.2.2.2.2.1 (p.ofNat (p.len a.2.1))) else Bool.false)<|
 opt.need _ (p.rowOk a.2.1 (p.add 0 (p.nat a.2.2.2.2.2.2.2.2.2.2.2.2.1)) [(CK.list 1)])<|
 opt.need _ (bif (p.cmp .geq a.2.2.2.2.2.2.2.2.2.2.2.2.1 (0:Int)) then (p.cmp .lss a.2.2.2.2.2.2.2.2.2.2.2.2.1 (p.ofNat (p.len a.2.1))) else Bool.false)<|
 opt.need _ (p.rowOk a.2.1 (p.add 0 (p.nat a.2.2.2.2.2.2.2.2.2.2.2.2.1)) [(CK.list 1)])<|
 opt.need _ (p.and (p.cmp .geq (0:Int) (0:Int)) (p.and (p.cmp .leq (0:Int) (p.ofNat (p.len (p.rdL a.2.1 (p.add 0 (p.nat a.2.2.2.2.2.2.2.2.2.2.2.2.1)) 0)))) (p.and (p.cmp .leq (p.ofNat (p.len (p.rdL a.2.1 (p.add 0 (p.nat a.2.2.2.2.2.2.2.2.2.2.2.2.1)) 0))) (p.ofNat (p.len (p.rdL a.2.1 (p.add 0 (p.nat a.2.2.2.2.2.2.2.2.2.2.2.2.1)) 0)))) (p.cmp .leq (p.ofNat (p.len (p.rdL a.2.1 (p.add 0 (p.nat a.2.2.2.2.2.2.2.2.2.2.2.2.1)) 0))) (p.ofNat (p.len (p.rdL a.2.1 (p.add 0 (p.nat a.2.2.2.2.2.2.2.2.2.2.2.2.1)) 0)))))))<|
 opt.ask _ (p.cmp .eql (p.ofNat (p.len (p.rdL a.2.1 (p.add 0 (p.nat a.2.2.2.2.2.2.2.2.2.2.2.2.1)) 0))) (p.ofNat (p.len (p.rdL a.2.1 (p.add 0 (p.nat a.2.2.2.2.2.2.2.2.2.2.2.2.1)) 0)))) (
 opt.need _ (p.and (p.leN (p.add 0 1) (p.len [[(D.int .i64 a.2.2.2.2.2.2.2.2.2.2.2.2.2.2.2.2.1)]])) (p.and (p.leN 1 1) (p.leN (p.add (p.len (p.cut (p.rdL a.2.1 (p.add 0 (p.nat a.2.2.2.2.2.2.2.2.2.2.2.2.1)) 0) (p.nat (0:Int)) (p.sub (p.nat (p.ofNat (p.len (p.rdL a.2.1 (p.add 0 (p.nat a.2.2.2.2.2.2.2.2.2.2.2.2.1)) 0)))) (p.nat (0:Int))))) 1) 1000000)))<|
 opt.need _ (bif (p.cmp .geq a.2.2.2.2.2.2.2.2.2.2.2.2.1 (0:Int)) then (p.cmp .lss a.2.2.2.2.2.2.2.2.2.2.2.2.1 (p.ofNat (p.len a.2.1))) else Bool.false)<|
 opt.need _ (p.rowOk a.2.1 (p.add 0 (p.nat a.2.2.2.2.2.2.2.2.2.2.2.2.1)) [(CK.list 1)])<|
 opt.need _ (p.eqN 0 0)<|
 opt.need _ (p.eqN (p.len a.2.1) (p.len (p.set a.2.1 (p.add 0 (p.nat a.2.2.2.2.2.2.2.2.2.2.2.2.1)) [(D.list Bool.false 1 (p.app (p.cut (p.rdL a.2.1 (p.add 0 (p.nat a.2.2.2.2.2.2.2.2.2.2.2.2.1)) 0) (p.nat (0:Int)) (p.sub (p.nat (p.ofNat (p.len (p.rdL a.2.1 (p.add 0 (p.nat a.2.2.2.2.2.2.2.2.2.2.2.2.1)) 0)))) (p.nat (0:Int)))) (p.cut [[(D.int .i64 a.2.2.2.2.2.2.2.2.2.2.2.2.2.2.2.2.1)]] 0 1)))])))<|
 opt.need _ (p.eqN (p.len a.2.1) (p.len (p.set a.2.1 (p.add 0 (p.nat a.2.2.2.2.2.2.2.2.2.2.2.2.1)) [(D.list Bool.false 1 (p.app (p.cut (p.rdL a.2.1 (p.add 0 (p.nat a.2.2.2.2.2.2.2.2.2.2.2.2.1)) 0) (p.nat (0:Int)) (p.sub (p.nat (p.ofNat (p.len (p.rdL a.2.1 (p.add 0 (p.nat a.2.2.2.2.2.2.2.2.2.2.2.2.1)) 0)))) (p.nat (0:Int)))) (p.cut [[(D.int .i64 a.2.2.2.2.2.2.2.2.2.2.2.2.2.2.2.2.1)]] 0 1)))])))<|
 opt.ret _ (a.1,((p.set a.2.1 (p.add 0 (p.nat a.2.2.2.2.2.2.2.2.2.2.2.2.1)) [(D.list Bool.false 1 (p.app (p.cut (p.rdL a.2.1 (p.add 0 (p.nat a.2.2.2.2.2.2.2.2.2.2.2.2.1)) 0) (p.nat (0:Int)) (p.sub (p.nat (p.ofNat (p.len (p.rdL a.2.1 (p.add 0 (p.nat a.2.2.2.2.2.2.2.2.2.2.2.2.1)) 0)))) (p.nat (0:Int)))) (p.cut [[(D.int .i64 a.2.2.2.2.2.2.2.2.2.2.2.2.2.2.2.2.1)]] 0 1)))]),(a.2.2.1,(a.2.2.2.1,(a.2.2.2.2.1,(a.2.2.2.2.2.1,(a.2.2.2.2.2.2.1,(a.2.2.2.2.2.2.2.1,(a.2.2.2.2.2.2.2.2.1,(a.2.2.2.2.2.2.2.2.2.1,(a.2.2.2.2.2.2.2.2.2.2.1,(a.2.2.2.2.2.2.2.2.2.2.2.1,(a.2.2.2.2.2.2.2.2.2.2.2.2.1,(a.2.2.2.2.2.2.2.2.2.2.2.2.2.1,(a.2.2.2.2.2.2.2.2.2.2.2.2.2.2.1,(a.2.2.2.2.2.2.2.2.2.2.2.2.2.2.2.1,(a.2.2.2.2.2.2.2.2.2.2.2.2.2.2.2.2.1,())))))))))))))))))) (
 opt.no _ 41)) (
 opt.need _ (p.eqN 0 0)<|
 opt.need _ (p.eqN (p.len a.2.1) (p.len a.2.1))<|
 opt.need _ (p.eqN (p.len a.2.1) (p.len a.2.1))<|
 opt.ret _ (a.1,(a.2.1,(a.2.2.1,(a.2.2.2.1,(a.2.2.2.2.1,(a.2.2.2.2.2.1,(a.2.2.2.2.2.2.1,(a.2.2.2.2.2.2.2.1,(a.2.2.2.2.2.2.2.2.1,(a.2.2.2.2.2.2.2.2.2.1,(a.2.2.2.2.2.2.2.2.2.2.1,(a.2.2.2.2.2.2.2.2.2.2.2.1,(a.2.2.2.2.2.2.2.2.2.2.2.2.1,(a.2.2.2.2.2.2.2.2.2.2.2.2.2.1,(a.2.2.2.2.2.2.2.2.2.2.2.2.2.2.1,(a.2.2.2.2.2.2.2.2.2.2.2.2.2.2.2.1,(a.2.2.2.2.2.2.2.2.2.2.2.2.2.2.2.2.1,())))))))))))))))))))) fun b=>
 opt.need _ (p.eqN 0 0)<|
 opt.need _ (p.eqN (p.len b.2.1) (p.len b.2.1))<|
 opt.need _ (p.eqN (p.len b.2.1) (p.len b.2.1))<|
 opt.ret _ (Sum.inl (b.1,(b.2.1,(b.2.2.1,(b.2.2.2.1,(b.2.2.2.2.1,(b.2.2.2.2.2.1,(b.2.2.2.2.2.2.1,(b.2.2.2.2.2.2.2.1,(b.2.2.2.2.2.2.2.2.1,(b.2.2.2.2.2.2.2.2.2.1,(b.2.2.2.2.2.2.2.2.2.2.1,(b.2.2.2.2.2.2.2.2.2.2.2.1,(b.2.2.2.2.2.2.2.2.2.2.2.2.1,(b.2.2.2.2.2.2.2.2.2.2.2.2.2.1,(b.2.2.2.2.2.2.2.2.2.2.2.2.2.2.1,(b.2.2.2.2.2.2.2.2.2.2.2.2.2.2.2.1,((p.ar .add .i64 b.2.2.2.2.2.2.2.2.2.2.2.2.2.2.2.2.1 (1:Int)),()))))))))))))))))))) (
 opt.need _ (p.eqN 0 0)<|
 opt.need _ (p.eqN (p.len a.2.1) (p.len a.2.1))<|
 opt.need _ (p.eqN (p.len a.2.1) (p.len a.2.1))<|
 opt.ret _ (Sum.inr (a.1,(a.2.1,(a.2.2.1,(a.2.2.2.1,(a.2.2.2.2.1,(a.2.2.2.2.2.1,(a.2.2.2.2.2.2.1,(a.2.2.2.2.2.2.2.1,(a.2.2.2.2.2.2.2.2.1,(a.2.2.2.2.2.2.2.2.2.1,(a.2.2.2.2.2.2.2.2.2.2.1,(a.2.2.2.2.2.2.2.2.2.2.2.1,(a.2.2.2.2.2.2.2.2.2.2.2.2.2.1,(a.2.2.2.2.2.2.2.2.2.2.2.2.2.2.1,())))))))))))))))))
def w4r (it:It) (p:Prim):(LD×(LD×T14))→Option ((LD×(LD×T14))⊕(LD×(LD×Unit))):=
 fun a=>opt.run _ (
 opt.ask _ (p.cmp .lss a.2.2.2.2.2.2.2.2.2.2.2.2.2.1 a.2.2.2.2.2.2.2.2.2.2.2.2.1) (
 opt.bnd ((LD×(LD×T14))) _ (
 opt.run ((LD×(LD×T14))) (
 opt.need _ (bif (p.cmp .geq a.2.2.2.2.2.2.2.2.2.2.2.2.2.1 (0:Int)) then (p.cmp .lss a.2.2.2.2.2.2.2.2.2.2.2.2.2.1 (p.ofNat 10)) else Bool.false)<|
 opt.need _ (p.rowOk a.1 (p.add 1 (p.mul (p.nat a.2.2.2.2.2.2.2.2.2.2.2.2.2.1) 10)) [ci])<|
 opt.need _ (p.rowOk a.1 (p.add (p.add 1 (p.mul (p.nat a.2.2.2.2.2.2.2.2.2.2.2.2.2.1) 10)) 1) [ci])<|
 opt.need _ (p.rowOk a.1 (p.add (p.add 1 (p.mul (p.nat a.2.2.2.2.2.2.2.2.2.2.2.2.2.1) 10)) 2) [ci])<|
 opt.need _ (p.rowOk a.1 (p.add (p.add 1 (p.mul (p.nat a.2.2.2.2.2.2.2.2.2.2.2.2.2.1) 10)) 3) [ci])<|
 opt.need _ (p.rowOk a.1 (p.add (p.add 1 (p.mul (p.nat a.2.2.2.2.2.2.2.2.2.2.2.2.2.1) 10)) 4) [ci])<|
 opt.need _ (p.rowOk a.1 (p.add (p.add 1 (p.mul (p.nat a.2.2.2.2.2.2.2.2.2.2.2.2.2.1) 10)) 5) [ci])<|
 opt.need _ (p.rowOk a.1 (p.add (p.add 1 (p.mul (p.nat a.2.2.2.2.2.2.2.2.2.2.2.2.2.1) 10)) 6) [ci])<|
 opt.need _ (p.rowOk a.1 (p.add (p.add 1 (p.mul (p.nat a.2.2.2.2.2.2.2.2.2.2.2.2.2.1) 10)) 7) [ci])<|
 opt.need _ (p.rowOk a.1 (p.add (p.add 1 (p.mul (p.nat a.2.2.2.2.2.2.2.2.2.2.2.2.2.1) 10)) 8) [ci])<|
 opt.need _ (p.rowOk a.1 (p.add (p.add 1 (p.mul (p.nat a.2.2.2.2.2.2.2.2.2.2.2.2.2.1) 10)) 9) [ci])<|
 opt.ask _ (bif (p.cmp .eql (p.rdI a.1 (p.add 1 (p.mul (p.nat a.2.2.2.2.2.2.2.2.2.2.2.2.2.1) 10)) 0) a.2.2.1) then (bif (p.cmp .eql (p.rdI a.1 (p.add (p.add 1 (p.mul (p.nat a.2.2.2.2.2.2.2.2.2.2.2.2.2.1) 10)) 1) 0) a.2.2.2.1) then (bif (p.cmp .eql (p.rdI a.1 (p.add (p.add 1 (p.mul (p.nat a.2.2.2.2.2.2.2.2.2.2.2.2.2.1) 10)) 2) 0) a.2.2.2.2.1) then (bif (p.cmp .eql (p.rdI a.1 (p.add (p.add 1 (p.mul (p.nat a.2.2.2.2.2.2.2.2.2.2.2.2.2.1) 10)) 3) 0) a.2.2.2.2.2.1) then (bif (p.cmp .eql (p.rdI a.1 (p.add (p.add 1 (p.mul (p.nat a.2.2.2.2.2.2.2.2.2.2.2.2.2.1) 10)) 4) 0) a.2.2.2.2.2.2.1) then (bif (p.cmp .eql (p.rdI a.1 (p.add (p.add 1 (p.mul (p.nat a.2.2.2.2.2.2.2.2.2.2.2.2.2.1) 10)) 5) 0) a.2.2.2.2.2.2.2.1) then (bif (p.cmp .eql (p.rdI a.1 (p.add (p.add 1 (p.mul (p.nat a.2.2.2.2.2.2.2.2.2.2.2.2.2.1) 10)) 6) 0) a.2.2.2.2.2.2.2.2.1) then (bif (p.cmp .eql (p.rdI a.1 (p.add (p.add 1 (p.mul (p.nat a.2.2.2.2.2.2.2.2.2.2.2.2.2.1) 10)) 7) 0) a.2.2.2.2.2.2.2.2.2.1) then (bif (p.cmp .eql (p.rdI a.1 (p.add (p.add 1 (p.mul (p.nat a.2.2.2.2.2.2.2.2.2.2.2.2.2.1) 10)) 8) 0) a.2.2.2.2.2.2.2.2.2.2.1) then (bif (p.cmp .eql (p.rdI a.1 (p.add (p.add 1 (p.mul (p.nat a.2.2.2.2.2.2.2.2.2.2.2.2.2.1) 10)) 9) 0) a.2.2.2.2.2.2.2.2.2.2.2.1) then Bool.true else Bool.false) else Bool.false) else Bool.false) else Bool.false) else Bool.false) else Bool.false) else Bool.false) else Bool.false) else Bool.false) else Bool.false) (
 opt.need _ (bif (p.cmp .geq a.2.2.2.2.2.2.2.2.2.2.2.2.2.1 (0:Int)) then (p.cmp .lss a.2.2.2.2.2.2.2.2.2.2.2.2.2.1 (p.ofNat (p.len a.2.1))) else Bool.false)<|
 opt.need _ (p.rowOk a.2.1 (p.add 0 (p.nat a.2.2.2.2.2.2.2.2.2.2.2.2.2.1)) [(CK.list 1)])<|
 opt.need _ (p.eqN 0 0)<|
 opt.need _ (p.eqN (p.len a.2.1) (p.len (p.set a.2.1 (p.add 0 (p.nat a.2.2.2.2.2.2.2.2.2.2.2.2.2.1)) [(D.list Bool.true 1 [])])))<|
 opt.need _ (p.eqN (p.len a.2.1) (p.len (p.set a.2.1 (p.add 0 (p.nat a.2.2.2.2.2.2.2.2.2.2.2.2.2.1)) [(D.list Bool.true 1 [])])))<|
 opt.ret _ (a.1,((p.set a.2.1 (p.add 0 (p.nat a.2.2.2.2.2.2.2.2.2.2.2.2.2.1)) [(D.list Bool.true 1 [])]),(a.2.2.1,(a.2.2.2.1,(a.2.2.2.2.1,(a.2.2.2.2.2.1,(a.2.2.2.2.2.2.1,(a.2.2.2.2.2.2.2.1,(a.2.2.2.2.2.2.2.2.1,(a.2.2.2.2.2.2.2.2.2.1,(a.2.2.2.2.2.2.2.2.2.2.1,(a.2.2.2.2.2.2.2.2.2.2.2.1,(a.2.2.2.2.2.2.2.2.2.2.2.2.1,(a.2.2.2.2.2.2.2.2.2.2.2.2.2.1,()))))))))))))))) (
 opt.need _ (p.rowOk a.1 0 [ci])<|
 opt.need _ (p.eqN 0 0)<|
 opt.need _ (p.eqN (p.len a.2.1) (p.len a.2.1))<|
 opt.need _ (p.eqN (p.len a.2.1) (p.len a.2.1))<|
 opt.bnd ((LD×(LD×T14))) _ (
 it _ _ (v32 p) (a.1,(a.2.1,(a.2.2.1,(a.2.2.2.1,(a.2.2.2.2.1,(a.2.2.2.2.2.1,(a.2.2.2.2.2.2.1,(a.2.2.2.2.2.2.2.1,(a.2.2.2.2.2.2.2.2.1,(a.2.2.2.2.2.2.2.2.2.1,(a.2.2.2.2.2.2.2.2.2.2.1,(a.2.2.2.2.2.2.2.2.2.2.2.1,(a.2.2.2.2.2.2.2.2.2.2.2.2.2.1,(a.2.2.2.2.2.2.2.2.2.2.2.2.1,(a.2.2.2.2.2.2.2.2.2.2.2.2.2.1,((p.rdI a.1 0 0),((0:Int),())))))))))))))))))) fun b=>
 opt.need _ (p.eqN 0 0)<|
 opt.need _ (p.eqN (p.len b.2.1) (p.len b.2.1))<|
 opt.need _ (p.eqN (p.len b.2.1) (p.len b.2.1))<|
 opt.ret _ (b.1,(b.2.1,(b.2.2.1,(b.2.2.2.1,(b.2.2.2.2.1,(b.2.2.2.2.2.1,(b.2.2.2.2.2.2.1,(b.2.2.2.2.2.2.2.1,(b.2.2.2.2.2.2.2.2.1,(b.2.2.2.2.2.2.2.2.2.1,(b.2.2.2.2.2.2.2.2.2.2.1,(b.2.2.2.2.2.2.2.2.2.2.2.1,(b.2.2.2.2.2.2.2.2.2.2.2.2.1,(b.2.2.2.2.2.2.2.2.2.2.2.2.2.1,()))))))))))))))))) fun c=>
 opt.need _ (p.eqN 0 0)<|
 opt.need _ (p.eqN (p.len c.2.1) (p.len c.2.1))<|
 opt.need _ (p.eqN (p.len c.2.1) (p.len c.2.1))<|
 opt.ret _ (Sum.inl (c.1,(c.2.1,(c.2.2.1,(c.2.2.2.1,(c.2.2.2.2.1,(c.2.2.2.2.2.1,(c.2.2.2.2.2.2.1,(c.2.2.2.2.2.2.2.1,(c.2.2.2.2.2.2.2.2.1,(c.2.2.2.2.2.2.2.2.2.1,(c.2.2.2.2.2.2.2.2.2.2.1,(c.2.2.2.2.2.2.2.2.2.2.2.1,(c.2.2.2.2.2.2.2.2.2.2.2.2.1,((p.ar .add .i64 c.2.2.2.2.2.2.2.2.2.2.2.2.2.1 (1:Int)),())))))))))))))))) (
 opt.need _ (p.eqN 0 0)<|
 opt.need _ (p.eqN (p.len a.2.1) (p.len a.2.1))<|
 opt.need _ (p.eqN (p.len a.2.1) (p.len a.2.1))<|
 opt.ret _ (Sum.inr (a.1,(a.2.1,())))))
def g49 (it:It):(p:Prim)→(LD×Unit)→Option ((LD×(LD×Unit))):=
 fun p x=>
 opt.need _ (p.rowOk x.1 0 [ci])<|
 opt.need _ (p.and (p.cmp .geq (p.rdI x.1 0 0) (0:Int)) (p.and (p.cmp .leq (p.rdI x.1 0 0) (p.rdI x.1 0 0)) (p.cmp .leq (p.rdI x.1 0 0) (1000000:Int))))<|
 opt.need _ (p.eqN 0 0)<|
 opt.need _ (p.eqN (p.nat (p.rdI x.1 0 0)) (p.len (p.rep (p.nat (p.rdI x.1 0 0)) [(D.list Bool.true 0 [])])))<|
 opt.need _ (p.eqN (p.nat (p.rdI x.1 0 0)) (p.len (p.rep (p.nat (p.rdI x.1 0 0)) [(D.list Bool.true 0 [])])))<|
 opt.bnd ((LD×(LD×Unit))) _ (
 it _ _ (w4r it p) (x.1,((p.rep (p.nat (p.rdI x.1 0 0)) [(D.list Bool.true 0 [])]),((0:Int),((0:Int),((0:Int),((0:Int),((0:Int),((0:Int),((0:Int),((0:Int),((0:Int),((0:Int),((p.ofNat (p.nat (p.rdI x.1 0 0))),((0:Int),()))))))))))))))) fun a=>
 opt.need _ (p.leN (p.add 0 (p.len a.2.1)) (p.len a.2.1))<|
 opt.ret _ (a.1,((p.cut a.2.1 0 (p.len a.2.1)),()))
def G49:=g49 it0
theorem ok49:CtrOk PG w7r (G49 std):=okF (a:=an49) (l:=la49) (gN) (by kernel_rfl) fun _ _=>by kernel_rfl
def w7x:Ctr:=
 ⟨30,[.list 1],[],[(.ret,⟨[(0, .tuple [.list 1, .int .i64])],[],1⟩)]⟩
def la30:List LA:=
 [⟨30,[false,true,false,true,true,true,true,true,true],0,⟨⟨[(7, .bptr 0 0),(8, .bptr 1 0),(9, .vec 3 1),(31, .int .i64),(32, .int .i64)],[.row [ci], .box [.sl 2 1], .row [ci], .row [ci]],82⟩,[((AX.exit 0),⟨[(7, .bptr 0 0),(8, .bptr 1 0),(9, .vec 2 1)],[.row [ci], .box [.sl 3 1], .row [ci], .row [ci]],82⟩)]⟩⟩,
 ⟨30,[false,false,true,true,true,true,true,true,true],0,⟨⟨[(7, .bptr 0 0),(8, .bptr 1 0),(9, .sl 2 1)],[.row [ci], .box [.sl 3 1], .row [ci], .row [ci]],82⟩,[((AX.exit 2),⟨[(7, .bptr 0 0)],[.row [ci]],82⟩)]⟩⟩,
 ⟨30,[false,true,true,true,true,false,true,false,false,false,true,true,true,true,true,true,true],0,⟨⟨[(7, .bptr 0 0),(8, .bptr 1 0),(9, .sl 2 1),(11, .int .i64),(51, .sl 2 1),(52, .int .i64),(53, .int .i64)],[.row [ci], .box [.sl 3 1], .row [ci], .row [ci]],82⟩,[((AX.exit 4),⟨[(7, .bptr 0 0),(8, .bptr 1 0),(9, .sl 2 1)],[.row [ci], .box [.sl 3 1], .row [ci], .row [ci]],82⟩)]⟩⟩]
def ja30:List JA:=
 [⟨30,[true,true,false,false,true,true,false,false,true,true,true,true,false,true,false,false,false,true,true,true,true,true,true,true],0,[(AX.normal,⟨[(7, .bptr 0 0),(8, .bptr 1 0),(9, .sl 2 1),(11, .int .i64),(51, .sl 2 1),(52, .int .i64),(53, .int .i64)],[.row [ci], .box [.sl 3 1], .row [ci], .row [ci]],82⟩)]⟩]
def v2u:List CF:=
 [⟨w7r,G49⟩,⟨w1s,v5n⟩,⟨w7n,G65⟩,⟨w4k,G64⟩,⟨x99,G61⟩]
def an30:Anns:=
 ⟨v2u,ja30,[]⟩
def v36 (p:Prim):(LD×(LD×(LD×T24)))→Option ((LD×(LD×(LD×T24)))⊕(LD×(LD×(LD×T19)))):=
 fun a=>opt.run _ (
 opt.ask _ (p.cmp .lss a.2.2.2.2.2.2.2.2.2.2.2.1 a.2.2.2.2.2.2.2.2.2.2.1) (
 opt.need _ (bif (p.cmp .geq a.2.2.2.2.2.2.2.2.2.2.2.1 (0:Int)) then (p.cmp .lss a.2.2.2.2.2.2.2.2.2.2.2.1 (p.ofNat a.2.2.2.2.2.2.2.2.2.1)) else Bool.false)<|
 opt.need _ (p.rowOk a.2.1 (p.add a.2.2.2.2.2.2.2.2.1 (p.nat a.2.2.2.2.2.2.2.2.2.2.2.1)) [ci])<|
 opt.need _ (bif (p.cmp .geq a.2.2.2.2.2.2.2.1 (0:Int)) then (p.cmp .lss a.2.2.2.2.2.2.2.1 (p.ofNat a.2.2.2.2.1)) else Bool.false)<|
 opt.need _ (p.rowOk a.2.2.1 (p.add a.2.2.2.1 (p.nat a.2.2.2.2.2.2.2.1)) [ci])<|
 opt.bnd ((LD×(LD×(LD×T24)))) _ (
 opt.run ((LD×(LD×(LD×T24)))) (
 opt.ask _ (p.cmp .lss a.2.2.2.2.2.2.2.2.2.2.2.1 (p.rdI a.2.2.1 (p.add a.2.2.2.1 (p.nat a.2.2.2.2.2.2.2.1)) 0)) (
 opt.need _ (bif (p.cmp .geq a.2.2.2.2.2.2.2.1 (0:Int)) then (p.cmp .lss a.2.2.2.2.2.2.2.1 (p.ofNat 10)) else Bool.false)<|
 opt.need _ (bif (p.cmp .geq (p.rdI a.2.1 (p.add a.2.2.2.2.2.2.2.2.1 (p.nat a.2.2.2.2.2.2.2.2.2.2.2.1)) 0) (0:Int)) then (p.cmp .lss (p.rdI a.2.1 (p.add a.2.2.2.2.2.2.2.2.1 (p.nat a.2.2.2.2.2.2.2.2.2.2.2.1)) 0) (p.ofNat 10)) else Bool.false)<|
 opt.need _ (p.rowOk a.1 (p.add (p.add 1 (p.mul (p.nat a.2.2.2.2.2.2.2.1) 10)) (p.nat (p.rdI a.2.1 (p.add a.2.2.2.2.2.2.2.2.1 (p.nat a.2.2.2.2.2.2.2.2.2.2.2.1)) 0))) [ci])<|
 opt.ret _ ((p.set a.1 (p.add (p.add 1 (p.mul (p.nat a.2.2.2.2.2.2.2.1) 10)) (p.nat (p.rdI a.2.1 (p.add a.2.2.2.2.2.2.2.2.1 (p.nat a.2.2.2.2.2.2.2.2.2.2.2.1)) 0))) [k1k]),(a.2.1,(a.2.2.1,(a.2.2.2.1,(a.2.2.2.2.1,(a.2.2.2.2.2.1,(a.2.2.2.2.2.2.1,(a.2.2.2.2.2.2.2.1,(a.2.2.2.2.2.2.2.2.1,(a.2.2.2.2.2.2.2.2.2.1,(a.2.2.2.2.2.2.2.2.2.2.1,(a.2.2.2.2.2.2.2.2.2.2.2.1,()))))))))))))) (
 opt.need _ (bif (p.cmp .geq (p.rdI a.2.1 (p.add a.2.2.2.2.2.2.2.2.1 (p.nat a.2.2.2.2.2.2.2.2.2.2.2.1)) 0) (0:Int)) then (p.cmp .lss (p.rdI a.2.1 (p.add a.2.2.2.2.2.2.2.2.1 (p.nat a.2.2.2.2.2.2.2.2.2.2.2.1)) 0) (p.ofNat 10)) else Bool.false)<|
 opt.need _ (bif (p.cmp .geq a.2.2.2.2.2.2.2.1 (0:Int)) then (p.cmp .lss a.2.2.2.2.2.2.2.1 (p.ofNat 10)) else Bool.false)<|
 opt.need _ (p.rowOk a.1 (p.add (p.add 1 (p.mul (p.nat (p.rdI a.2.1 (p.add a.2.2.2.2.2.2.2.2.1 (p.nat a.2.2.2.2.2.2.2.2.2.2.2.1)) 0)) 10)) (p.nat a.2.2.2.2.2.2.2.1)) [ci])<|
 opt.need _ (bif (p.cmp .geq (p.rdI a.2.1 (p.add a.2.2.2.2.2.2.2.2.1 (p.nat a.2.2.2.2.2.2.2.2.2.2.2.1)) 0) (0:Int)) then (p.cmp .lss (p.rdI a.2.1 (p.add a.2.2.2.2.2.2.2.2.1 (p.nat a.2.2.2.2.2.2.2.2.2.2.2.1)) 0) (p.ofNat a.2.2.2.2.1)) else Bool.false)<|
 opt.need _ (p.rowOk a.2.2.1 (p.add a.2.2.2.1 (p.nat (p.rdI a.2.1 (p.add a.2.2.2.2.2.2.2.2.1 (p.nat a.2.2.2.2.2.2.2.2.2.2.2.1)) 0))) [ci])<|
 opt.need _ (bif (p.cmp .geq (p.rdI a.2.1 (p.add a.2.2.2.2.2.2.2.2.1 (p.nat a.2.2.2.2.2.2.2.2.2.2.2.1)) 0) (0:Int)) then (p.cmp .lss (p.rdI a.2.1 (p.add a.2.2.2.2.2.2.2.2.1 (p.nat a.2.2.2.2.2.2.2.2.2.2.2.1)) 0) (p.ofNat a.2.2.2.2.1)) else Bool.false)<|
 opt.need _ (p.rowOk a.2.2.1 (p.add a.2.2.2.1 (p.nat (p.rdI a.2.1 (p.add a.2.2.2.2.2.2.2.2.1 (p.nat a.2.2.2.2.2.2.2.2.2.2.2.1)) 0))) [ci])<|
 opt.ret _ ((p.set a.1 (p.add (p.add 1 (p.mul (p.nat (p.rdI a.2.1 (p.add a.2.2.2.2.2.2.2.2.1 (p.nat a.2.2.2.2.2.2.2.2.2.2.2.1)) 0)) 10)) (p.nat a.2.2.2.2.2.2.2.1)) [k1k]),(a.2.1,((p.set a.2.2.1 (p.add a.2.2.2.1 (p.nat (p.rdI a.2.1 (p.add a.2.2.2.2.2.2.2.2.1 (p.nat a.2.2.2.2.2.2.2.2.2.2.2.1)) 0))) [(D.int .i64 (p.ar .sub .i64 (p.rdI a.2.2.1 (p.add a.2.2.2.1 (p.nat (p.rdI a.2.1 (p.add a.2.2.2.2.2.2.2.2.1 (p.nat a.2.2.2.2.2.2.2.2.2.2.2.1)) 0))) 0) (1:Int)))]),(a.2.2.2.1,(a.2.2.2.2.1,(a.2.2.2.2.2.1,(a.2.2.2.2.2.2.1,(a.2.2.2.2.2.2.2.1,(a.2.2.2.2.2.2.2.2.1,(a.2.2.2.2.2.2.2.2.2.1,(a.2.2.2.2.2.2.2.2.2.2.1,(a.2.2.2.2.2.2.2.2.2.2.2.1,()))))))))))))))) fun b=>
 opt.ret _ (Sum.inl (b.1,(b.2.1,(b.2.2.1,(b.2.2.2.1,(b.2.2.2.2.1,(b.2.2.2.2.2.1,(b.2.2.2.2.2.2.1,(b.2.2.2.2.2.2.2.1,(b.2.2.2.2.2.2.2.2.1,(b.2.2.2.2.2.2.2.2.2.1,(b.2.2.2.2.2.2.2.2.2.2.1,((p.ar .add .i64 b.2.2.2.2.2.2.2.2.2.2.2.1 (1:Int)),())))))))))))))) (
 opt.ret _ (Sum.inr (a.1,(a.2.1,(a.2.2.1,(a.2.2.2.1,(a.2.2.2.2.1,(a.2.2.2.2.2.1,(a.2.2.2.2.2.2.1,()))))))))))
def w4s (it:It) (p:Prim):(LD×(LD×(LD×T19)))→Option ((LD×(LD×(LD×T19)))⊕(LD×Unit)):=
 fun a=>opt.run _ (
 opt.ask _ (p.cmp .gtr (p.ofNat a.2.2.2.2.2.2.1) (0:Int)) (
 opt.need _ (bif (p.cmp .geq (0:Int) (0:Int)) then (p.cmp .lss (0:Int) (p.ofNat a.2.2.2.2.2.2.1)) else Bool.false)<|
 opt.need _ (p.rowOk a.2.1 (p.add a.2.2.2.2.2.1 (p.nat (0:Int))) [ci])<|
 opt.need _ (p.and (p.cmp .geq (1:Int) (0:Int)) (p.and (p.cmp .leq (1:Int) (p.ofNat a.2.2.2.2.2.2.1)) (p.cmp .leq (p.ofNat a.2.2.2.2.2.2.1) (p.ofNat a.2.2.2.2.2.2.1))))<|
 opt.bnd ((LD×(LD×T5))) _ (w9n it p (a.2.1,(a.2.2.1,(a.2.2.2.1,(a.2.2.2.2.1,((p.add a.2.2.2.2.2.1 (p.nat (1:Int))),((p.sub (p.nat (p.ofNat a.2.2.2.2.2.2.1)) (p.nat (1:Int))),()))))))) fun b=>
 opt.bnd ((LD×(LD×(LD×T19)))) _ (
 it _ _ (v36 p) (a.1,(b.1,(b.2.1,(b.2.2.1,(b.2.2.2.1,((p.add a.2.2.2.2.2.1 (p.nat (1:Int))),((p.sub (p.nat (p.ofNat a.2.2.2.2.2.2.1)) (p.nat (1:Int))),((p.rdI a.2.1 (p.add a.2.2.2.2.2.1 (p.nat (0:Int))) 0),((p.add a.2.2.2.2.2.1 (p.nat (1:Int))),((p.sub (p.nat (p.ofNat a.2.2.2.2.2.2.1)) (p.nat (1:Int))),((p.ofNat (p.sub (p.nat (p.ofNat a.2.2.2.2.2.2.1)) (p.nat (1:Int)))),((0:Int),()))))))))))))) fun c=>
 opt.ret _ (Sum.inl (c.1,(c.2.1,(c.2.2.1,(c.2.2.2.1,(c.2.2.2.2.1,(c.2.2.2.2.2.1,(c.2.2.2.2.2.2.1,()))))))))) (
 opt.ret _ (Sum.inr (a.1,()))))
def v37 (p:Prim):(LD×(LD×(LD×T40)))→Option ((LD×(LD×(LD×T40)))⊕(LD×(LD×(LD×T5)))):=
 fun a=>opt.run _ (
 opt.ask _ (p.cmp .lss a.2.2.2.2.2.2.1 a.2.2.2.2.2.1) (
 opt.need _ (p.and (p.leN (p.add 0 1) (p.len [[(D.int .i64 a.2.2.2.2.2.2.1)]])) (p.and (p.leN (p.add 0 (p.len a.2.2.1)) (p.len a.2.2.1)) (p.and (p.leN 1 1) (p.leN (p.add (p.len a.2.2.1) 1) 1000000))))<|
 opt.need _ (p.eqN 0 0)<|
 opt.need _ (p.eqN (p.add (p.len a.2.2.1) 1) (p.len (p.app (p.cut a.2.2.1 0 (p.len a.2.2.1)) (p.cut [[(D.int .i64 a.2.2.2.2.2.2.1)]] 0 1))))<|
 opt.ret _ (Sum.inl (a.1,(a.2.1,((p.app (p.cut a.2.2.1 0 (p.len a.2.2.1)) (p.cut [[(D.int .i64 a.2.2.2.2.2.2.1)]] 0 1)),(a.2.2.2.1,(a.2.2.2.2.1,(a.2.2.2.2.2.1,((p.ar .add .i64 a.2.2.2.2.2.2.1 (1:Int)),()))))))))) (
 opt.need _ (p.eqN 0 0)<|
 opt.need _ (p.eqN (p.len a.2.2.1) (p.len a.2.2.1))<|
 opt.ret _ (Sum.inr (a.1,(a.2.2.1,(a.2.1,(a.2.2.2.1,(a.2.2.2.2.1,()))))))))
def g30 (it:It):(p:Prim)→(LD×Unit)→Option ((LD×T1)):=
 fun p x=>
 opt.bnd T2 _ (g61 it p (x.1,())) fun a=>
 opt.ask _ (p.cmp .neq a.1 (0:Int)) (
 opt.ret _ ([],(a.1,()))) (
 opt.bnd ((LD×T6)) _ (g64 it p (x.1,())) fun b=>
 opt.ask _ b.2.1 (
 opt.ret _ ([],((13:Int),()))) (
 opt.need _ (p.rowOk (p.rep 101 k0k) 0 [ci])<|
 opt.need _ (p.leN (p.add 0 101) (p.len (p.rep 101 k0k)))<|
 opt.bnd ((LD×T5)) _ (G65 p (x.1,())) fun c=>
 opt.bnd ((LD×(LD×(LD×T5)))) _ (
 it _ _ (v37 p) ((p.splice (p.rep 101 k0k) 0 [[(D.int .i64 (p.ofNat (p.len x.1)))],k0k,k0k,k0k,k0k,k0k,k0k,k0k,k0k,k0k,k0k,k0k,k0k,k0k,k0k,k0k,k0k,k0k,k0k,k0k,k0k,k0k,k0k,k0k,k0k,k0k,k0k,k0k,k0k,k0k,k0k,k0k,k0k,k0k,k0k,k0k,k0k,k0k,k0k,k0k,k0k,k0k,k0k,k0k,k0k,k0k,k0k,k0k,k0k,k0k,k0k,k0k,k0k,k0k,k0k,k0k,k0k,k0k,k0k,k0k,k0k,k0k,k0k,k0k,k0k,k0k,k0k,k0k,k0k,k0k,k0k,k0k,k0k,k0k,k0k,k0k,k0k,k0k,k0k,k0k,k0k,k0k,k0k,k0k,k0k,k0k,k0k,k0k,k0k,k0k,k0k,k0k,k0k,k0k,k0k,k0k,k0k,k0k,k0k,k0k,k0k]),(c.1,([],(c.2.1,(c.2.2.1,((p.ofNat (p.len x.1)),((0:Int),())))))))) fun d=>
 opt.bnd ((LD×Unit)) _ (
 it _ _ (w4s it p) (d.1,(d.2.1,(d.2.2.1,(d.2.2.2.1,(d.2.2.2.2.1,(0,((p.len d.2.1),())))))))) fun e=>
 opt.bnd ((LD×(LD×Unit))) _ (g49 it p (e.1,())) fun f=>
 opt.ret _ (f.2.1,((0:Int),()))))
def G30:=g30 it0
theorem ok30:CtrOk PG w7x (G30 std):=okF (a:=an30) (l:=la30) (gC ok49 (gC v0h (gC ok65 (gC v4y (gC v0i (gN)))))) (by kernel_rfl) fun _ _=>by kernel_rfl
end Go.Am
end
section
namespace Go.Am
open T11
def dOf (f:Nat→Nat→Bool) (n:Nat):List (List Int):=(List.range n).map fun i=>toI ((List.range n).filter (f i))
theorem x0l (f:Nat→Nat→Bool) (n:Nat):(dOf f n).length=n:=by simp [dOf]
theorem w4a (f:Nat→Nat→Bool) {n i:Nat} (hi:i<n):(dOf f n)[i]?=some (toI ((List.range n).filter (f i))):=by
 rw [dOf,List.getElem?_map,List.getElem?_range hi]; rfl
end Go.Am
end
section
namespace Go.Am
open T11
theorem x12 (f:Nat→Nat→Bool) {n i:Nat} (hi:i<n):(dOf f n).getD i []=toI ((List.range n).filter (f i)):=by
 rw [List.getD_eq_getElem?_getD,w4a f hi]; rfl
theorem x61 {f:Nat→Nat→Bool} {n i k:Nat} (hi:i<n) (hk:k<n):bt (dOf f n) i k=f i k:=by
 rw [bt,x12 f hi]
 cases h:f i k with
 |true=>exact decide_eq_true (by rw [toI,List.mem_map]; exact ⟨k,List.mem_filter.2 ⟨List.mem_range.2 hk,h⟩,rfl⟩)
 |false=>
  refine decide_eq_false fun hm=>?_
  rw [toI,List.mem_map] at hm
  obtain ⟨j,hj,he⟩:=hm
  have:j=k:=by omega
  subst this
  rw [(List.mem_filter.1 hj).2] at h; cases h
theorem x2p {l:List Nat} {n:Nat} (hp:l.Pairwise (· < ·)) (hl:∀ x∈l,x<n):z3a (toI l) n:=by
 intro i hi
 rw [y5n] at hi
 have hx:∀ j,j<l.length→∃ a,l[j]?=some a∧gI (toI l) j=(a:Int):=fun j hj=>by
  obtain ⟨a,ha⟩:=z2h hj
  refine ⟨a,ha,?_⟩
  rw [gI,toI,List.getD_eq_getElem?_getD,List.getElem?_map,ha]; rfl
 obtain ⟨a,ha,he⟩:=hx i hi
 have hal:=hl a (List.mem_of_getElem? ha)
 refine ⟨?_,?_,fun h0=>?_⟩
 ·show 0≤gI (toI l) i; omega
 ·show gI (toI l) i<n; omega
 ·obtain ⟨b,hb,he'⟩:=hx (i - 1) (by omega)
  show gI (toI l) (i - 1)<gI (toI l) i
  rw [he,he']
  rw [List.pairwise_iff_getElem] at hp
  have:=hp (i - 1) i (by omega) hi (by omega)
  rw [(List.getElem?_eq_some_iff.1 ha).2,(List.getElem?_eq_some_iff.1 hb).2] at this
  omega
theorem x98 {f:Nat→Nat→Bool} {n:Nat} (h1:1≤n) (h10:n≤10) (ht:y4a f n):z06 (dOf f n)=0:=by
 rw [z06,if_neg (by rw [x0l]; omega),if_neg,if_neg]
 ·rintro ⟨i,hi,hb⟩
  rw [x0l] at hi
  have hi:=List.mem_range.1 hi
  rcases hb with hb|⟨k,hk,hb⟩
  ·have h2:=ht.1 i hi
   have h3:=x61 (f:=f) hi hi
   rw [bt,decide_eq_true hb,h2] at h3; cases h3
  ·have hk:=List.mem_range.1 hk
   have h2:=ht.2 i k hi (by omega) (by omega)
   have h3:=x61 (f:=f) (i:=i) (k:=k) hi (by omega)
   have h4:=x61 (f:=f) (i:=k) (k:=i) (by omega) hi
   rw [bt] at h3 h4
   rw [h3,h4,h2] at hb
   revert hb
   cases f k i<;>simp
 ·rintro ⟨i,hi,hb⟩
  rw [x0l] at hi hb
  have hi:=List.mem_range.1 hi
  refine hb ?_
  rw [x12 f hi]
  exact x2p (List.Pairwise.filter _ List.pairwise_lt_range) fun x hx=>List.mem_range.1 (List.mem_filter.1 hx).1
def x00 (f:Nat→Nat→Bool) (i k:Nat):Nat→Nat→Bool:=fun a b=>f a b||(decide (a=i)&&decide (b=k))
def stG (s v:Nat) (rest:List Nat) (st:(Nat→Nat→Bool)×List Int):Nat→(Nat→Nat→Bool)×List Int
 |0=>st
 |k+1=>if k<v then (x00 (stG s v rest st k).1 s (at_ rest k),(stG s v rest st k).2)
   else (x00 (stG s v rest st k).1 (at_ rest k) s,(stG s v rest st k).2.set (at_ rest k) (gI (stG s v rest st k).2 (at_ rest k) - 1))
theorem y88 {l:List Nat} {q:Nat} (h:q<l.length):at_ l q∈l:=by
 rw [at_,List.getD_eq_getElem?_getD,List.getElem?_eq_getElem h]; exact List.getElem_mem h
theorem x2i {l:List Nat} (hn:l.Nodup) {q r:Nat} (hq:q<l.length) (hr:r<l.length) (h:at_ l q=at_ l r):q=r:=by
 rw [at_,at_,List.getD_eq_getElem?_getD,List.getD_eq_getElem?_getD,List.getElem?_eq_getElem hq,List.getElem?_eq_getElem hr] at h
 exact (List.getElem?_inj hq hn).1 (by rw [List.getElem?_eq_getElem hq,List.getElem?_eq_getElem hr]; exact congrArg some h)
theorem w8l {l:List Nat} {x:Nat} (h:x∈l):∃ q,q<l.length∧at_ l q=x:=by
 obtain ⟨q,hq⟩:=List.getElem?_of_mem h
 refine ⟨q,(List.getElem?_eq_some_iff.1 hq).1,?_⟩
 rw [at_,List.getD_eq_getElem?_getD,hq]; rfl
theorem x7b {n:Nat} {p:Nat→Bool} {x:Nat} (hx:x<n) (hp:p x=false):cnt n (fun b=>p b||decide (b=x))=cnt n p+1:=by
 have h1:cnt n (fun b=>decide (b=x))=1:=by
  have:=z5m x (n - x) (fun b=>decide (b=x))
  rw [show x+(n - x)=n by omega] at this
  rw [this,z3d (n:=x) (q:=fun _=>false) fun i hi=>decide_eq_false (by omega),z71]
  obtain ⟨m,hm⟩:∃ m,n - x=1+m:=⟨n - x - 1,by omega⟩
  rw [hm,z5m,z3d (n:=m) (q:=fun _=>false) fun i hi=>decide_eq_false (by omega),z71]
  simp [cnt,sm,o1]
 rw [←h1,cnt,cnt,cnt, ←y7z]
 refine z4f fun i hi=>?_
 by_cases e:i=x
 ·subst e; rw [hp]; simp [o1]
 ·simp [e,o1]
structure Step (n s v:Nat) (rest:List Nat) (f0:Nat→Nat→Bool) (l0:List Int) (f:Nat→Nat→Bool) (l:List Int) (k:Nat):Prop where
 len:l.length=n
 sup:∀ a b,f a b=true→a<n∧b<n
 oth:∀ x,x<n→x≠s→(cnt n (f x):Int)+gI l x=(cnt n (f0 x):Int)+gI l0 x
 own:cnt n (f s)=cnt n (f0 s)+min k v
 left:∀ x,x<n→gI l x=if ∃ q∈List.range k,v≤q∧at_ rest q=x then gI l0 x - 1 else gI l0 x
 done:∀ q,q<rest.length→f s (at_ rest q)=decide (q<k∧q<v)∧f (at_ rest q) s=decide (q<k∧v≤q)
 same:∀ a b,(a≠s∨b∉rest)→(b≠s∨a∉rest)→f a b=f0 a b
theorem w5r {n s v:Nat} {rest:List Nat} {f0:Nat→Nat→Bool} {l0:List Int} (hs:s<n) (hsr:s∉rest) (hn:rest.Nodup) (hr:∀ x∈rest,x<n) (hl:l0.length=n)
  (hsup:∀ a b,f0 a b=true→a<n∧b<n) (h0:∀ x∈rest,f0 s x=false∧f0 x s=false) (k:Nat) (hk:k≤rest.length):
  Step n s v rest f0 l0 (stG s v rest (f0,l0) k).1 (stG s v rest (f0,l0) k).2 k:=by
 induction k with
 |zero=>
  refine ⟨hl,hsup,fun x _ _=>rfl,by simp [stG],fun x _=>?_,fun q hq=>?_,fun a b _ _=>rfl⟩
  ·rw [if_neg (by rintro ⟨q,hq,_⟩; simp at hq)]; rfl
  ·obtain ⟨a1,a2⟩:=h0 _ (y88 hq)
   exact ⟨by simp [stG,a1],by simp [stG,a2]⟩
 |succ k ih=>
  have ih:=ih (by omega)
  rw [stG]
  generalize (stG s v rest (f0,l0) k).1=f at ih⊢
  generalize (stG s v rest (f0,l0) k).2=l at ih⊢
  have hxr:=y88 (l:=rest) (q:=k) (by omega)
  have hxn:=hr _ hxr
  have hxs:at_ rest k≠s:=fun e=>hsr (e▸hxr)
  obtain ⟨d1,d2⟩:=ih.done k (by omega)
  have d1:f s (at_ rest k)=false:=by rw [d1]; exact decide_eq_false (by omega)
  have d2:f (at_ rest k) s=false:=by rw [d2]; exact decide_eq_false (by omega)
  by_cases hkv:k<v
  ·rw [if_pos hkv]
   have hother:∀ a,a≠s→x00 f s (at_ rest k) a=f a:=fun a ha=>by
    funext b; simp [x00,ha]
   have hself:x00 f s (at_ rest k) s=fun b=>f s b||decide (b=at_ rest k):=by
    funext b; simp [x00]
   refine ⟨ih.len,fun a b hab=>?_,fun x hx hne=>?_,?_,fun x hx=>?_,fun q hq=>?_,fun a b h1 h2=>?_⟩
   ·simp only [x00,Bool.or_eq_true,Bool.and_eq_true,decide_eq_true_eq] at hab
    rcases hab with hab|⟨rfl,rfl⟩
    ·exact ih.sup a b hab
    ·exact ⟨hs,hxn⟩
   ·simp only [hother x hne]; exact ih.oth x hx hne
   ·simp only [hself]
    rw [x7b hxn d1,ih.own]; omega
   ·simp only
    rw [ih.left x hx]
    by_cases c:∃ q∈List.range k,v≤q∧at_ rest q=x
    ·rw [if_pos c,if_pos]
     obtain ⟨q,hq,h1,h2⟩:=c
     exact ⟨q,by simp at hq⊢; omega,h1,h2⟩
    ·rw [if_neg c,if_neg]
     rintro ⟨q,hq,h1,h2⟩
     simp at hq
     exact c ⟨q,by simp; omega,h1,h2⟩
   ·obtain ⟨e1,e2⟩:=ih.done q hq
    have hqs:at_ rest q≠s:=fun e=>hsr (e▸y88 hq)
    refine ⟨?_,?_⟩
    ·simp only [hself]
     rw [e1]
     by_cases e:q=k
     ·subst e; simp [hkv]
     ·have:at_ rest q≠at_ rest k:=fun h=>e (x2i hn hq (by omega) h)
      simp only [this,decide_false,Bool.or_false]
      congr 1
      exact propext ⟨fun h=>⟨by omega,h.2⟩,fun h=>⟨by omega,h.2⟩⟩
    ·simp only [hother _ hqs]
     rw [e2]
     congr 1
     exact propext ⟨fun h=>⟨by omega,h.2⟩,fun h=>⟨by omega,h.2⟩⟩
   ·simp only [x00]
    rw [ih.same a b h1 h2]
    have:¬ (a=s∧b=at_ rest k):=by
     rintro ⟨rfl,rfl⟩
     rcases h1 with h1|h1
     ·exact h1 rfl
     ·exact h1 hxr
    cases f0 a b with
    |true=>rfl
    |false=>
     simp only [Bool.false_or]
     cases hq:(decide (a=s)&&decide (b=at_ rest k)) with
     |false=>rfl
     |true=>simp at hq; exact absurd hq this
  ·rw [if_neg hkv]
   have hother:∀ a,a≠at_ rest k→x00 f (at_ rest k) s a=f a:=fun a ha=>by
    funext b; simp [x00,ha]
   have hself:x00 f (at_ rest k) s (at_ rest k)=fun b=>f (at_ rest k) b||decide (b=s):=by
    funext b; simp [x00]
   have hlx:gI l (at_ rest k)=gI l0 (at_ rest k):=by
    rw [ih.left _ hxn,if_neg]
    rintro ⟨q,hq,h1,h2⟩
    simp at hq
    have:=x2i hn (by omega) (by omega) h2
    omega
   refine ⟨by rw [List.length_set]; exact ih.len,fun a b hab=>?_,fun x hx hne=>?_,?_,fun x hx=>?_,fun q hq=>?_,fun a b h1 h2=>?_⟩
   ·simp only [x00,Bool.or_eq_true,Bool.and_eq_true,decide_eq_true_eq] at hab
    rcases hab with hab|⟨rfl,rfl⟩
    ·exact ih.sup a b hab
    ·exact ⟨hxn,hs⟩
   ·have ho:=ih.oth x hx hne
    simp only
    by_cases e:x=at_ rest k
    ·subst e
     rw [hself,x7b hs d2,y8k (by rw [ih.len]; exact hxn),if_pos rfl]
     omega
    ·rw [hother x e,y8k (by rw [ih.len]; exact hxn),if_neg e]; exact ho
   ·simp only
    rw [hother s (Ne.symm hxs),ih.own]; omega
   ·simp only
    rw [y8k (by rw [ih.len]; exact hxn)]
    by_cases e:x=at_ rest k
    ·subst e
     rw [if_pos rfl,if_pos ⟨k,by simp,by omega,rfl⟩,hlx]
    ·rw [if_neg e,ih.left x hx]
     by_cases c:∃ q∈List.range k,v≤q∧at_ rest q=x
     ·rw [if_pos c,if_pos]
      obtain ⟨q,hq,h1,h2⟩:=c
      exact ⟨q,by simp at hq⊢; omega,h1,h2⟩
     ·rw [if_neg c,if_neg]
      rintro ⟨q,hq,h1,h2⟩
      simp at hq
      by_cases e2:q=k
      ·subst e2; exact e h2.symm
      ·exact c ⟨q,by simp; omega,h1,h2⟩
   ·obtain ⟨e1,e2⟩:=ih.done q hq
    refine ⟨?_,?_⟩
    ·simp only
     rw [hother s (Ne.symm hxs),e1]
     congr 1
     exact propext ⟨fun h=>⟨by omega,h.2⟩,fun h=>⟨by omega,h.2⟩⟩
    ·simp only
     by_cases e:q=k
     ·subst e
      rw [hself]
      simp; omega
     ·have:at_ rest q≠at_ rest k:=fun h=>e (x2i hn hq (by omega) h)
      rw [hother _ this,e2]
      congr 1
      exact propext ⟨fun h=>⟨by omega,h.2⟩,fun h=>⟨by omega,h.2⟩⟩
   ·simp only [x00]
    rw [ih.same a b h1 h2]
    have:¬ (a=at_ rest k∧b=s):=by
     rintro ⟨rfl,rfl⟩
     rcases h2 with h2|h2
     ·exact h2 rfl
     ·exact h2 hxr
    cases f0 a b with
    |true=>rfl
    |false=>
     simp only [Bool.false_or]
     cases hq:(decide (a=at_ rest k)&&decide (b=s)) with
     |false=>rfl
     |true=>simp at hq; exact absurd hq this
end Go.Am
end
section
namespace Go.Am
open T11
structure v4p (w:List Int) (n:Nat) (f:Nat→Nat→Bool) (l:List Int) (cur:List Nat):Prop where
 len:l.length=n
 nd:cur.Nodup
 lt:∀ x∈cur,x<n
 sup:∀ a b,f a b=true→a<n∧b<n
 irr:∀ a,f a a=false
 cnt:∀ x,x<n→(cnt n (f x):Int)+(if x∈cur then gI l x else 0)=gI w x
 lan:Lan (cur.map fun x=>gI l x)
 both:∀ a b,a∈cur→b∈cur→f a b=false
 one:∀ a b,a<n→b<n→a≠b→¬ (a∈cur∧b∈cur)→f a b=!f b a
def z7o (l:List Int) (rest0:List Nat):List Nat:=(z33 (key l) (toI rest0)).map Int.toNat
theorem x5g (l:List Int) (rest0:List Nat):z33 (key l) (toI rest0)=toI (z7o l rest0):=by
 have hp:=z8b (key l) (toI rest0)
 rw [z7o]
 have hge:∀ x∈z33 (key l) (toI rest0),∃ i:Nat,x=(i:Int):=fun x hx=>by
  have:=hp.mem_iff.1 hx
  rw [toI,List.mem_map] at this
  obtain ⟨i,_,rfl⟩:=this
  exact ⟨i,rfl⟩
 generalize z33 (key l) (toI rest0)=S at hge⊢
 rw [toI,List.map_map]
 refine (List.map_id _).symm.trans (List.map_congr_left fun x hx=>?_)
 obtain ⟨i,rfl⟩:=hge x hx
 simp
theorem x24 (l:List Int) (rest0:List Nat):(z7o l rest0).Perm rest0:=by
 have hp:=(z8b (key l) (toI rest0)).map Int.toNat
 have e:(toI rest0).map Int.toNat=rest0:=by
  rw [toI,List.map_map]
  exact (List.map_congr_left fun a _=>by simp).trans (List.map_id _)
 rw [e] at hp
 exact hp
theorem x8t (l:List Int) (rest0:List Nat):((z7o l rest0).map fun x=>gI l x).Pairwise (· ≤ ·):=by
 have hpw:=x0y (key l) (toI rest0)
 rw [x5g,toI,List.pairwise_map] at hpw
 rw [List.pairwise_map]
 exact hpw.imp fun {a b} hab=>by
  simp only [key,Int.toNat_natCast] at hab
  exact hab
theorem w3c {l:List Nat} {g h:Nat→Int} {v:Nat} (hh:∀ q,q<l.length→h (at_ l q)=if v≤q then g (at_ l q) - 1 else g (at_ l q)):
  l.map h=(l.map g).take v++((l.map g).drop v).map (· - 1):=by
 apply List.ext_getElem?
 intro q
 rw [List.getElem?_append,List.length_take,List.length_map]
 by_cases hq:q<l.length
 ·have hx:l[q]?=some (at_ l q):=by rw [at_,List.getD_eq_getElem?_getD,List.getElem?_eq_getElem hq]; rfl
  rw [List.getElem?_map,hx,Option.map_some,hh q hq]
  by_cases c:v≤q
  ·rw [if_pos c,if_neg (by omega),List.getElem?_map,List.getElem?_drop,show v+(q - min v l.length)=q by omega,List.getElem?_map,hx]; rfl
  ·rw [if_neg c,if_pos (by omega),List.getElem?_take_of_lt (by omega),List.getElem?_map,hx]; rfl
 ·rw [List.getElem?_eq_none (by simp; omega)]
  by_cases c:q<min v l.length
  ·omega
  ·rw [if_neg c,List.getElem?_eq_none (by simp; omega)]
theorem v4p.step {w:List Int} {n s:Nat} {f:Nat→Nat→Bool} {l:List Int} {rest0:List Nat} (h:v4p w n f l (s::rest0)):
  v4p w n (stG s (gI l s).toNat (z7o l rest0) (f,l) (z7o l rest0).length).1 (stG s (gI l s).toNat (z7o l rest0) (f,l) (z7o l rest0).length).2 (z7o l rest0)∧(gI l s).toNat≤(z7o l rest0).length∧0≤gI l s:=by
 have hp:=x24 l rest0
 have hpw:=x8t l rest0
 have hnd:=List.nodup_cons.1 h.nd
 have hsn:=h.lt s (List.mem_cons_self ..)
 have hsr:s∉z7o l rest0:=fun hm=>hnd.1 (hp.mem_iff.1 hm)
 have hrn:(z7o l rest0).Nodup:=hp.nodup_iff.2 hnd.2
 have hrl:∀ x∈z7o l rest0,x<n:=fun x hx=>h.lt x (List.mem_cons_of_mem _ (hp.mem_iff.1 hx))
 have hlan:Lan (gI l s::(z7o l rest0).map fun x=>gI l x):=by
  have:=h.lan
  rw [List.map_cons] at this
  exact this.perm ((hp.symm.map _).cons _)
 obtain ⟨v0,v1,v2⟩:=hlan.step hpw
 rw [List.length_map] at v1
 have hv:(gI l s).toNat≤(z7o l rest0).length:=by omega
 refine ⟨?_,hv,v0⟩
 have hst:=w5r (f0:=f) (l0:=l) (v:=(gI l s).toNat) hsn hsr hrn hrl h.len h.sup (fun x hx=>by
  have hx':=List.mem_cons_of_mem s (hp.mem_iff.1 hx)
  exact ⟨h.both s x (List.mem_cons_self ..) hx',h.both x s hx' (List.mem_cons_self ..)⟩) (z7o l rest0).length (Nat.le_refl _)
 generalize hrr:z7o l rest0=rest at*
 generalize (stG s (gI l s).toNat rest (f,l) rest.length).1=f' at hst⊢
 generalize (stG s (gI l s).toNat rest (f,l) rest.length).2=l' at hst⊢
 have hmem:∀ x,x∈s::rest0↔x=s∨x∈rest:=fun x=>by rw [List.mem_cons,hp.mem_iff]
 have hleft:∀ q,q<rest.length→gI l' (at_ rest q)=if (gI l s).toNat≤q then gI l (at_ rest q) - 1 else gI l (at_ rest q):=by
  intro q hq
  rw [hst.left _ (hrl _ (y88 hq))]
  by_cases c:(gI l s).toNat≤q
  ·rw [if_pos c,if_pos ⟨q,List.mem_range.2 hq,c,rfl⟩]
  ·rw [if_neg c,if_neg]
   rintro ⟨r,hr,h1,h2⟩
   have:=x2i hrn (List.mem_range.1 hr) hq h2
   omega
 have hstay:∀ x,x<n→x∉rest→gI l' x=gI l x:=by
  intro x hx hnx
  rw [hst.left x hx,if_neg]
  rintro ⟨r,hr,_,h2⟩
  exact hnx (h2▸y88 (List.mem_range.1 hr))
 refine ⟨hst.len,hrn,hrl,hst.sup,fun a=>?_,fun x hx=>?_,?_,fun a b ha hb=>?_,fun a b ha hb hne hno=>?_⟩
 ·rw [hst.same a a,h.irr a]
  ·by_cases e:a=s
   ·subst e; exact .inr hsr
   ·exact .inl e
  ·by_cases e:a=s
   ·subst e; exact .inr hsr
   ·exact .inl e
 ·by_cases e:x=s
  ·subst e
   have h1:=h.cnt x hx
   rw [if_pos (List.mem_cons_self ..)] at h1
   rw [if_neg hsr,hst.own]
   omega
  ·have h1:=h.cnt x hx
   have h2:=hst.oth x hx e
   by_cases c:x∈rest
   ·rw [if_pos ((hmem x).2 (.inr c))] at h1
    rw [if_pos c]; omega
   ·rw [if_neg (fun hm=>by rcases (hmem x).1 hm with hm|hm; exact e hm; exact c hm)] at h1
    have h3:=hstay x hx c
    rw [if_neg c]; omega
 ·rw [w3c hleft]; exact v2
 ·have ha':a≠s:=fun e=>hsr (e▸ha)
  have hb':b≠s:=fun e=>hsr (e▸hb)
  rw [hst.same a b (.inl ha') (.inl hb')]
  exact h.both a b ((hmem a).2 (.inr ha)) ((hmem b).2 (.inr hb))
 ·by_cases ea:a=s
  ·subst ea
   by_cases cb:b∈rest
   ·obtain ⟨q,hq,rfl⟩:=w8l cb
    obtain ⟨d1,d2⟩:=hst.done q hq
    rw [d1,d2]
    by_cases c:q<(gI l a).toNat
    ·rw [decide_eq_true ⟨hq,c⟩,decide_eq_false (by omega)]; rfl
    ·rw [decide_eq_false (by omega),decide_eq_true ⟨hq,by omega⟩]; rfl
   ·rw [hst.same a b (.inr cb) (.inl (Ne.symm hne)),hst.same b a (.inl (Ne.symm hne)) (.inr cb)]
    refine h.one a b ha hb hne fun hm=>?_
    rcases (hmem b).1 hm.2 with e|e
    ·exact hne e.symm
    ·exact cb e
  ·by_cases eb:b=s
   ·subst eb
    by_cases ca:a∈rest
    ·obtain ⟨q,hq,rfl⟩:=w8l ca
     obtain ⟨d1,d2⟩:=hst.done q hq
     rw [d1,d2]
     by_cases c:q<(gI l b).toNat
     ·rw [decide_eq_false (by omega),decide_eq_true ⟨hq,c⟩]; rfl
     ·rw [decide_eq_true ⟨hq,by omega⟩,decide_eq_false (by omega)]; rfl
    ·rw [hst.same a b (.inl ea) (.inr ca),hst.same b a (.inr ca) (.inl ea)]
     refine h.one a b ha hb hne fun hm=>?_
     rcases (hmem a).1 hm.1 with e|e
     ·exact ea e
     ·exact ca e
   ·rw [hst.same a b (.inl ea) (.inl eb),hst.same b a (.inl eb) (.inl ea)]
    refine h.one a b ha hb hne fun hm=>hno ⟨?_,?_⟩
    ·rcases (hmem a).1 hm.1 with e|e
     ·exact absurd e ea
     ·exact e
    ·rcases (hmem b).1 hm.2 with e|e
     ·exact absurd e eb
     ·exact e
end Go.Am
end
section
namespace Go.Am
open Go.Proofs Go.Shelf
structure x72 (P:Program) (f:FuncId) (t:TypeId):Prop where
 shift:∀ (b off n c i vb voff vc:Nat) (cs:List Value) (v:Value) (w:World),i<n→n+1≤c→n+1≤9223372036854775807→vb≠b→cs.length=n→
  (∀ j v,cs[j]?=some v→w.cell? ⟨b,off+j,none⟩=some v)→(∀ j,j<n+1→(w.cell? ⟨b,off+j,none⟩).isSome=true)→(∀ j,j<n+1→w.frozen? ⟨b,off+j,none⟩=false)→
  w.cell? ⟨vb,voff,none⟩=some v→(∀ v∈cs,v.oneCell'=true)→v.oneCell'=true→
  (∀ x,w.frozen? ⟨vb,x,none⟩=false)→(∃ tA kA,w.shape? vb=some (tA,kA))→(∃ tB kB,w.shape? b=some (tB,kB)∧kB≠0)→
  Calls P f #[.slice (some ⟨b,off,none⟩) n c, .int .i64 i, .slice (some ⟨vb,voff,none⟩) 1 vc] w fun e w'=>
   e= .returned (.slice (some ⟨b,off,none⟩) (n+1) c)∧w'=(w.drew.setCells b (off+(i+1)) (cs.drop i)).setCells b (off+i) [v]
 room:∀ (b off n c vb voff vc:Nat) (v:Value) (w:World),n+1≤c→n+1≤9223372036854775807→(w.cell? ⟨b,off+n,none⟩).isSome=true→w.frozen? ⟨b,off+n,none⟩=false→
  w.cell? ⟨vb,voff,none⟩=some v→v.oneCell'=true→
  Calls P f #[.slice (some ⟨b,off,none⟩) n c, .int .i64 n, .slice (some ⟨vb,voff,none⟩) 1 vc] w fun e w'=>
   e= .returned (.slice (some ⟨b,off,none⟩) (n+1) c)∧w'=w.setCells b (off+n) [v]
 last:∀ (base:Option Addr) (n c vb voff vc:Nat) (cs:List Value) (v:Value) (w:World),n≤c→c<n+1→(n+1)*8≤140737488355328→cs.length=n→(base=none→n=0)→
  (∀ a,base=some a→∀ j v,cs[j]?=some v→w.cell? (a.add j)=some v)→w.cell? ⟨vb,voff,none⟩=some v→v.oneCell'=true→
  Calls P f #[.slice base n c, .int .i64 n, .slice (some ⟨vb,voff,none⟩) 1 vc] w fun e w'=>
   e= .returned (.slice (some ⟨w.heap.size,0,none⟩) (n+1) (grownCap w (n+1) c t))∧
   w'=w.drew.alloc (.cells ((cs++[v]).toArray++Builtin.zeroCells (Value.int .i64 0).cells (grownCap w (n+1) c t - (n+1))) t)
 grow:∀ (b off n c i vb voff vc:Nat) (cs:List Value) (v:Value) (w:World),i<n→n≤c→c<n+1→(n+1)*8≤140737488355328→cs.length=n→
  (∀ j v,cs[j]?=some v→w.cell? ⟨b,off+j,none⟩=some v)→w.cell? ⟨vb,voff,none⟩=some v→(∀ v∈cs,v.oneCell'=true)→v.oneCell'=true→
  Calls P f #[.slice (some ⟨b,off,none⟩) n c, .int .i64 i, .slice (some ⟨vb,voff,none⟩) 1 vc] w fun e w'=>
   e= .returned (.slice (some ⟨w.heap.size,0,none⟩) (n+1) (grownCap w (n+1) c t))∧
   w'=(((w.alloc (.cells ((cs.take i).toArray++Builtin.zeroCells (Value.int .i64 0).cells (n+1 - i)++Builtin.zeroCells (Value.int .i64 0).cells (grownCap w (n+1) c t - (n+1))) t)).drew.setCells w.heap.size i [v]).drew).setCells w.heap.size (i+1) (cs.drop i)
 cap:∀ (w:World) (n c:Nat),c<n→n≤1000001→n≤grownCap w n c t
theorem z9v (w:World) (b:Nat) (x y:Obj):World.setObj (World.setObj w b x) b y=World.setObj w b y:=by
 unfold World.setObj
 congr 1
 apply Array.ext_getElem?
 intro i
 simp only [Array.getElem?_setIfInBounds,Array.size_setIfInBounds]
 by_cases h:b=i
 ·subst h; simp
 ·simp [h]
theorem z3o (b:Nat) (t:TypeId):∀ (vs:List Value) (o:Nat) (w:World) (c:Array Value),w.heap[b]?=some (.cells c t (0,0))→o+vs.length≤c.size→
  ∃ c':Array Value,c'.size=c.size∧(∀ j,c'[j]?=if o≤j∧j<o+vs.length then vs[j - o]? else c[j]?)∧w.setCells b o vs=World.setObj w b (.cells c' t (0,0))
 |[],o,w,c,h,hl=>by
  refine ⟨c,rfl,fun j=>by simp; omega,?_⟩
  simp only [World.setCells,World.setObj]
  have hlt:b<w.heap.size:=(Array.getElem?_eq_some_iff.1 h).1
  have:w.heap.setIfInBounds b (.cells c t (0,0))=w.heap:=by
   apply Array.ext_getElem?
   intro i
   rw [Array.getElem?_setIfInBounds]
   by_cases hi:b=i
   ·subst hi; rw [h]; simp [hlt]
   ·simp [hi]
  rw [this]
 |v::vs,o,w,c,h,hl=>by
  have hlt:b<w.heap.size:=(Array.getElem?_eq_some_iff.1 h).1
  have h1:w.setCell ⟨b,o,none⟩ v=World.setObj w b (.cells (c.setIfInBounds o v) t (0,0)):=by
   unfold World.setCell World.setObj
   congr 1
   apply Array.ext_getElem?
   intro i
   rw [Array.getElem?_modify,Array.getElem?_setIfInBounds]
   by_cases hi:b=i
   ·subst hi; rw [h]; simp [hlt]
   ·simp [hi]
  simp only [List.length_cons] at hl
  obtain ⟨c',a1,a2,a3⟩:=z3o b t vs (o+1) (World.setObj w b (.cells (c.setIfInBounds o v) t (0,0))) (c.setIfInBounds o v) (z0l _ _ _ hlt) (by simp; omega)
  refine ⟨c',by rw [a1]; simp,fun j=>?_,by rw [World.setCells,h1,a3,z9v]⟩
  rw [a2 j]
  by_cases hj:o+1≤j∧j<o+1+vs.length
  ·rw [if_pos hj,if_pos (by simp; omega)]
   rw [show j - o=(j - (o+1))+1 by omega]; rfl
  ·rw [if_neg hj,Array.getElem?_setIfInBounds]
   by_cases he:o=j
   ·subst he
    rw [if_pos rfl,if_pos (by omega),if_pos (by simp)]; simp
   ·rw [if_neg he,if_neg (by simp; omega)]
section
variable {P:Program}
theorem y10 {es:List (List D)} {x:D} {i:Nat} (hi:i≤es.length) (k:Nat):(es.take i++[x]::es.drop i)[k]?=if k<i then es[k]? else if k=i then some [x] else es[k - 1]?:=by
 rw [List.getElem?_append]
 have hl:(es.take i).length=i:=by simp; omega
 rw [hl]
 by_cases h1:k<i
 ·rw [if_pos h1,if_pos h1,List.getElem?_take,if_pos h1]
 ·rw [if_neg h1,if_neg h1]
  by_cases h2:k=i
  ·subst h2; simp
  ·rw [if_neg h2,show k - i=(k - i - 1)+1 by omega,List.getElem?_cons_succ,List.getElem?_drop]
   congr 1; omega
theorem x9h {f:FuncId} {t:TypeId} (hS:x72 P f t) {es:List (List D)} {x:D} {i:Nat} (hi:i≤es.length) (hn:es.length≤1000000):
  z8z P f [.slice 0 1 0 es.length none, .d (.int .i64 i), .slice 1 1 0 1 (some 1)] [.row es, .row [[x]]] (.slice 2 1 0 (es.length+1) none) [.dead, .row [[x]], .row (es.take i++[x]::es.drop i)]:=⟨by
 intro ρ vs w cs0 hr hdm har
 obtain ⟨hv1,hv2⟩:=har
 have hs1:vs.size=3:=hv1
 have hnew:ρ 2=none:=by
  cases hq:ρ 2 with
  |none=>rfl
  |some L=>have:=hdm 2 (by rw [hq]; simp); simp at this
 obtain ⟨L1,vc,hL1,hz1,hvs2⟩:∃ L vc,ρ 1=some L∧L.esz=1∧vs.getD 2 undef= .slice (some ⟨L.blk,L.base,none⟩) 1 vc:=by
  have hv:=hv2 2 _ rfl
  generalize hq:vs.getD 2 undef=q at hv
  cases hv with
  |slice _ _ _ _ _ L a c h1 h2 h3 h4 h5=>
   refine ⟨L,c,h1,h2,?_⟩
   rw [h3 (by omega)]; simp
 have hvs1:vs.getD 1 undef= .int .i64 i:=by
  have hv:=hv2 1 _ rfl
  generalize hq:vs.getD 1 undef=q at hv
  cases hv with|d hv=>cases hv; rfl
 obtain ⟨hlt1,ho1⟩:=hr.obj 1 L1 hL1
 obtain ⟨_,c1,t1,hcb1,_,hcell1⟩:=(show z1f P ρ _ w L1 (.row [[x]]) from ho1)
 obtain ⟨v,hv,hvone,hvrel⟩:=hcell1 0 [x] 0 x rfl rfl
 rw [hz1] at hv
 simp only [Nat.zero_mul,Nat.add_zero] at hv
 have hvc:w.cell? ⟨L1.blk,L1.base,none⟩=some v:=z7d hcb1 hv
 have hargs:∀ q,vs.getD 0 undef=q→vs=#[q, .int .i64 i, .slice (some ⟨L1.blk,L1.base,none⟩) 1 vc]:=by
  intro q hq
  apply Array.ext (by simpa using hs1)
  intro k h1 h2
  simp only [Array.getD_eq_getD_getElem?] at hq hvs1 hvs2
  match k,h1,h2 with
  |0,h1,h2=>rw [Array.getElem?_eq_getElem h1] at hq; simpa using hq
  |1,h1,h2=>rw [Array.getElem?_eq_getElem h1] at hvs1; simpa using hvs1
  |2,h1,h2=>rw [Array.getElem?_eq_getElem h1] at hvs2; simpa using hvs2
  |k+3,h1,h2=>simp at h2; omega
 have grown:∀ (c:Nat) (cs:List Value) (cells:Array Value) (d nc:Nat),cs.length=es.length→(∀ (k:Nat) (r:List D),es[k]?=some r→∃ y u,r=[y]∧cs[k]?=some u∧u.oneCell'=true∧z1j (z0f ρ [.row es, .row [[x]]]) w y u)→
   z0p w.drawn d→es.length+1≤nc→(∀ k,k<es.length+1→cells[k]?=if k<i then cs[k]? else if k=i then some v else cs[k - 1]?)→cells.size=nc→
   ∀ fr,Comes P (lone (Frame.enter P f vs .normal) cs0 w) (lone fr cs0 { World.push w (.cells cells t) with drawn:=d }) (.returned (.slice (some ⟨w.heap.size,0,none⟩) (es.length+1) nc))→fr.fn=f→fr.leaving P { World.push w (.cells cells t) with drawn:=d } (.returned (.slice (some ⟨w.heap.size,0,none⟩) (es.length+1) nc))→
   ∃ ρ' v w' fr,Steps P (lone (Frame.enter P f vs .normal) cs0 w) (lone fr cs0 w')∧fr.fn=f∧fr.leaving P w' (.returned v)∧z0n ρ' (z0f ρ' [.dead, .row [[x]], .row (es.take i++[x]::es.drop i)]) w' (.slice 2 1 0 (es.length+1) none) v∧
    z0b P ρ' [.dead, .row [[x]], .row (es.take i++[x]::es.drop i)] w'∧Dom ρ' [.dead, .row [[x]], .row (es.take i++[x]::es.drop i)]∧Ext (· <2) ρ [.row es, .row [[x]]] w ρ' [.dead, .row [[x]], .row (es.take i++[x]::es.drop i)] w':=by
  intro c cs cells d nc hcs hrows hd hnc hcells hsz fr h1 h2 h3
  have hr0:=hr.kill 0
  have hx0:=Ext.kill (· <2) ρ [.row es, .row [[x]]] w 0
  have hk0:=hx0.keep
  have hkp:=z5f hr0 hnew ⟨w.heap.size,0,1⟩ (.row (es.take i++[x]::es.drop i)) (.cells cells t) rfl
  have hobj:z1f P (ρ.put 2 ⟨w.heap.size,0,1⟩) (z0f (ρ.put 2 ⟨w.heap.size,0,1⟩) (z0w [.dead, .row [[x]]] 2 (.row (es.take i++[x]::es.drop i)))) (World.push w (.cells cells t)) ⟨w.heap.size,0,1⟩ (.row (es.take i++[x]::es.drop i)):=by
   refine ⟨Nat.one_pos,cells,t,z2g _ _,fun k r hk=>?_,fun k r j y hk hy=>?_⟩
   ·rw [y10 hi] at hk
    split at hk
    ·obtain ⟨y,_,rfl,_⟩:=hrows k r hk; rfl
    ·split at hk
     ·cases hk; rfl
     ·obtain ⟨y,_,rfl,_⟩:=hrows _ r hk; rfl
   ·have hkl:k<es.length+1:=by
     have:=(List.getElem?_eq_some_iff.1 hk).1
     simp at this; omega
    rw [Nat.mul_one,Nat.zero_add]
    rw [y10 hi] at hk
    have hc:=hcells k hkl
    have fin:∀ (y0:D) (u:Value),r=[y0]→u.oneCell'=true→z1j (z0f ρ [.row es, .row [[x]]]) w y0 u→cells[k]?=some u→∃ v,cells[k+j]?=some v∧v.oneCell'=true∧z1j (z0f (ρ.put 2 ⟨w.heap.size,0,1⟩) (z0w [.dead, .row [[x]]] 2 (.row (es.take i++[x]::es.drop i)))) (World.push w (.cells cells t)) y v:=by
     intro y0 u hr1 hu hrel hcu
     subst hr1
     cases j with
     |succ j=>simp at hy
     |zero=>simp at hy; subst hy; exact ⟨u,hcu,hu,(hrel.keep hk0).keep hkp⟩
    split at hk
    ·rename_i hlt
     obtain ⟨y0,u,hr1,hcu,hu,hrel⟩:=hrows k r hk
     exact fin y0 u hr1 hu hrel (by rw [hc,if_pos hlt]; exact hcu)
    ·rename_i hge
     split at hk
     ·rename_i hki
      cases hk
      exact fin x v rfl hvone hvrel (by rw [hc,if_neg hge,if_pos hki])
     ·rename_i hne
      obtain ⟨y0,u,hr1,hcu,hu,hrel⟩:=hrows _ r hk
      exact fin y0 u hr1 hu hrel (by rw [hc,if_neg hge,if_neg hne]; exact hcu)
  have hnw:=hr0.new hnew 1 _ _ hobj
  have hnw2:=hnw.drawn d hd
  refine ⟨ρ.put 2 ⟨w.heap.size,0,1⟩,_,_,fr,h1,h2,h3,?_,hnw2,?_,?_⟩
  ·refine .slice 2 1 0 _ none ⟨w.heap.size,0,1⟩ _ nc (Rho.put_same _ _ _) rfl (fun _=>by simp) (.inr ⟨rfl,nc,?_,by simp⟩) hnc
   show z1a (World.push w _) _=_
   rw [z0q (z2g _ _),hsz]
  ·intro id hid
   by_cases he:id=2
   ·subst he; simp
   ·rw [Rho.put_ne _ _ _ _ he] at hid
    have:=hdm id hid
    simp at this⊢; omega
  ·exact hx0.trans (((Ext.new hr0 hnew ⟨w.heap.size,0,1⟩ (.row (es.take i++[x]::es.drop i)) (.cells cells t) rfl).trans (Ext.drawn _ _ _ _ d hd)).mono (fun id hid=>by show id≠2; have hid:id<2:=hid; omega))
 have hv0:=hv2 0 _ rfl
 generalize hq0:vs.getD 0 undef=q0 at hv0
 have hva:=hargs q0 hq0
 have key:∀ n,n=es.length→z0n ρ (z0f ρ [.row es, .row [[x]]]) w (.slice 0 1 0 n none) q0→(n=0∧∃ a,q0= .slice a 0 0)∨(∃ L a c,ρ 0=some L∧L.esz=1∧q0= .slice a n c∧n≤c∧(0<c→a=some ⟨L.blk,L.base,none⟩)∧∃ m,z1a w L.blk=some m∧L.base+c≤m):=by
  intro n hn hv
  cases hv with
  |nils _ _ _ _ a _=>exact .inl ⟨rfl,_,rfl⟩
  |slice _ _ _ _ _ L a c h1 h2 h3 h4 h5=>
   rcases h4 with h4|⟨_,m,hm,hle⟩
   ·cases h4
   ·exact .inr ⟨L,a,c,h1,h2,rfl,h5,fun h=>by rw [h3 h]; simp,m,hm,by rw [h2] at hle; omega⟩
 rcases key _ rfl hv0 with ⟨h0,a,rfl⟩|⟨L,a,c,hL,hz,rfl,hnc,haa,m,hm,hroom⟩
 ·
  have hes:es=[]:=List.length_eq_zero_iff.1 h0
  have hi0:i=0:=by omega
  subst hes; subst hi0
  rw [hva] at grown⊢
  obtain ⟨e,w',fr,⟨rfl,hw'⟩,hcm,hfn,hlv⟩:=hS.last a 0 0 L1.blk L1.base vc [] v w (by omega) (by omega) (by omega) rfl (fun _=>rfl) (fun _ _ j u hj=>by simp at hj) hvc hvone cs0
  subst hw'
  have hcp:=hS.cap w 1 0 (by omega) (by omega)
  refine grown 0 [] _ (w.drawn+1) _ rfl (fun k r hk=>by simp at hk) (Nat.le_succ _) hcp (fun k hk=>?_) ?_ fr hcm hfn hlv
  ·have:k=0:=by simp at hk; omega
   subst this
   rw [Array.getElem?_append_left (by simp)]; simp
  ·simp [Builtin.zeroCells,Value.cells]; omega
 ·obtain ⟨hlt,ho⟩:=hr.obj 0 L hL
  obtain ⟨_,c0,t0,hcb,hlen,hcell⟩:=(show z1f P ρ _ w L (.row es) from ho)
  rw [hz] at hlen hcell
  rw [z0q hcb] at hm; cases hm
  have hrow:∀ (k:Nat) (r:List D),es[k]?=some r→∃ y u,r=[y]∧c0[L.base+k]?=some u∧u.oneCell'=true∧z1j (z0f ρ [.row es, .row [[x]]]) w y u:=by
   intro k r hk
   have hl:=hlen k r hk
   match r,hl with
   |[y],_=>
    obtain ⟨u,hu,h1,hrel⟩:=hcell k [y] 0 y hk rfl
    exact ⟨y,u,rfl,by simpa using hu,h1,hrel⟩
  let cs:=(c0.toList.drop L.base).take es.length
  have hcsg:∀ k,k<es.length→cs[k]?=c0[L.base+k]?:=by
   intro k hk
   show ((c0.toList.drop L.base).take es.length)[k]?=_
   rw [List.getElem?_take,if_pos hk,List.getElem?_drop]; simp
  have hcsl:cs.length=es.length:=by
   show ((c0.toList.drop L.base).take es.length).length=_
   rw [List.length_take,List.length_drop]; simp; omega
  have hcs1:∀ u∈cs,u.oneCell'=true:=by
   intro u hu
   obtain ⟨k,hk⟩:=List.getElem?_of_mem hu
   have hkl:k<es.length:=by rw [←hcsl]; exact (List.getElem?_eq_some_iff.1 hk).1
   obtain ⟨y,u',_,h2,h3,_⟩:=hrow k _ (List.getElem?_eq_getElem hkl)
   rw [hcsg k hkl,h2] at hk; cases hk; exact h3
  have hcsc:∀ j u,cs[j]?=some u→w.cell? ⟨L.blk,L.base+j,none⟩=some u:=by
   intro j u hj
   have hjl:j<es.length:=by rw [←hcsl]; exact (List.getElem?_eq_some_iff.1 hj).1
   rw [hcsg j hjl] at hj
   exact z7d hcb hj
  have hrows:∀ (k:Nat) (r:List D),es[k]?=some r→∃ y u,r=[y]∧cs[k]?=some u∧u.oneCell'=true∧z1j (z0f ρ [.row es, .row [[x]]]) w y u:=by
   intro k r hk
   obtain ⟨y,u,h1,h2,h3,h4⟩:=hrow k r hk
   exact ⟨y,u,h1,by rw [hcsg k (List.getElem?_eq_some_iff.1 hk).1]; exact h2,h3,h4⟩
  have hne:L1.blk≠L.blk:=fun e=>by have:=hr.inj 1 0 L1 L hL1 hL rfl rfl e; omega
  have place:∀ (c':Array Value) (d:Nat),c'.size=c0.size→z0p w.drawn d→(∀ k,k<es.length+1→c'[L.base+k]?=if k<i then cs[k]? else if k=i then some v else cs[k - 1]?)→a=some ⟨L.blk,L.base,none⟩→es.length+1≤c→
    ∀ fr,Comes P (lone (Frame.enter P f vs .normal) cs0 w) (lone fr cs0 (World.setObj { w with drawn:=d } L.blk (.cells c' t0 (0,0)))) (.returned (.slice a (es.length+1) c))→fr.fn=f→fr.leaving P (World.setObj { w with drawn:=d } L.blk (.cells c' t0 (0,0))) (.returned (.slice a (es.length+1) c))→
    ∃ ρ' v w' fr,Steps P (lone (Frame.enter P f vs .normal) cs0 w) (lone fr cs0 w')∧fr.fn=f∧fr.leaving P w' (.returned v)∧z0n ρ' (z0f ρ' [.dead, .row [[x]], .row (es.take i++[x]::es.drop i)]) w' (.slice 2 1 0 (es.length+1) none) v∧
     z0b P ρ' [.dead, .row [[x]], .row (es.take i++[x]::es.drop i)] w'∧Dom ρ' [.dead, .row [[x]], .row (es.take i++[x]::es.drop i)]∧Ext (· <2) ρ [.row es, .row [[x]]] w ρ' [.dead, .row [[x]], .row (es.take i++[x]::es.drop i)] w':=by
   intro c' d hsz hd hcells hae hroom1 fr h1 h2 h3
   have hr1:=hr.drawn d hd
   have hx1:Ext (· <2) ρ [.row es, .row [[x]]] w ρ [.row es, .row [[x]]] { w with drawn:=d }:=Ext.drawn _ _ _ _ d hd
   have hbs:∀ k,z1a { w with drawn:=d } L.blk=some k→z1a (World.setObj { w with drawn:=d } L.blk (.cells c' t0 (0,0))) L.blk=some k:=by
    intro k hk
    rw [z0q (w:={ w with drawn:=d }) hcb] at hk; cases hk
    rw [z0q (z0l { w with drawn:=d } L.blk _ hlt),hsz]
   obtain ⟨g1,g2⟩:=hr1.move hL rfl hnew L.base 1 (.row (es.take i++[x]::es.drop i)) rfl (.cells c' t0 (0,0)) hbs (fun kp=>by
    refine ⟨Nat.one_pos,c',t0,z0l _ _ _ hlt,fun k r hk=>?_,fun k r j y hk hy=>?_⟩
    ·rw [y10 hi] at hk
     split at hk
     ·obtain ⟨y,_,rfl,_⟩:=hrows k r hk; rfl
     ·split at hk
      ·cases hk; rfl
      ·obtain ⟨y,_,rfl,_⟩:=hrows _ r hk; rfl
    ·have hkl:k<es.length+1:=by
      have:=(List.getElem?_eq_some_iff.1 hk).1
      simp at this; omega
     rw [Nat.mul_one]
     rw [y10 hi] at hk
     have hc:=hcells k hkl
     have fin:∀ (y0:D) (u:Value),r=[y0]→u.oneCell'=true→z1j (z0f ρ [.row es, .row [[x]]]) w y0 u→c'[L.base+k]?=some u→∃ v,c'[L.base+k+j]?=some v∧v.oneCell'=true∧z1j (z0f (ρ.put 2 ⟨L.blk,L.base,1⟩) (z0w (z0w [.row es, .row [[x]]] 0 .dead) 2 (.row (es.take i++[x]::es.drop i)))) (World.setObj { w with drawn:=d } L.blk (.cells c' t0 (0,0))) y v:=by
      intro y0 u hr1 hu hrel hcu
      subst hr1
      cases j with
      |succ j=>simp at hy
      |zero=>simp at hy; subst hy; exact ⟨u,hcu,hu,(hrel.keep hx1.keep).keep kp⟩
     split at hk
     ·rename_i hlt
      obtain ⟨y0,u,hr1,hcu,hu,hrel⟩:=hrows k r hk
      exact fin y0 u hr1 hu hrel (by rw [hc,if_pos hlt]; exact hcu)
     ·rename_i hge
      split at hk
      ·rename_i hki
       cases hk
       exact fin x v rfl hvone hvrel (by rw [hc,if_neg hge,if_pos hki])
      ·rename_i hne
       obtain ⟨y0,u,hr1,hcu,hu,hrel⟩:=hrows _ r hk
       exact fin y0 u hr1 hu hrel (by rw [hc,if_neg hge,if_neg hne]; exact hcu))
   refine ⟨ρ.put 2 ⟨L.blk,L.base,1⟩,_,_,fr,h1,h2,h3,?_,g1,?_,hx1.trans (g2.mono (fun id hid=>by show id≠2; have hid:id<2:=hid; omega))⟩
   ·refine .slice 2 1 0 _ none ⟨L.blk,L.base,1⟩ _ c (Rho.put_same _ _ _) rfl (fun _=>by rw [hae]; simp) (.inr ⟨rfl,c0.size,?_,by simp; omega⟩) hroom1
    rw [z0q (z0l { w with drawn:=d } L.blk _ hlt),hsz]
   ·intro id hid
    by_cases he:id=2
    ·subst he; simp
    ·rw [Rho.put_ne _ _ _ _ he] at hid
     have:=hdm id hid
     simp at this⊢; omega
  have hin:∀ j,j<c→∃ u,c0[L.base+j]?=some u:=fun j hj=>⟨_,Array.getElem?_eq_getElem (by omega)⟩
  have hsp:∀ j,j<c→(w.cell? ⟨L.blk,L.base+j,none⟩).isSome=true:=fun j hj=>by
   obtain ⟨u,hu⟩:=hin j hj
   rw [z7d hcb hu]; rfl
  have hfz:∀ b ct tt,w.heap[b]?=some (.cells ct tt (0,0))→∀ k,w.frozen? ⟨b,k,none⟩=false:=fun b ct tt hb k=>by
   unfold World.frozen?; simp only [hb]; simp
  by_cases hfit:es.length+1≤c
  ·have hae:=haa (by omega)
   by_cases hlast:i=es.length
   ·
    have hva':vs=#[.slice (some ⟨L.blk,L.base,none⟩) es.length c, .int .i64 es.length, .slice (some ⟨L1.blk,L1.base,none⟩) 1 vc]:=by rw [hva,hae,hlast]
    obtain ⟨e,w',fr,⟨rfl,hw'⟩,hcm,hfn,hlv⟩:=hS.room L.blk L.base es.length c L1.blk L1.base vc v w hfit (by omega) (hsp _ (by omega)) (hfz _ _ _ hcb _) hvc hvone cs0
    rw [←hva'] at hcm
    obtain ⟨c',g1,g2,g3⟩:=z3o L.blk t0 [v] (L.base+es.length) w c0 hcb (by simp; omega)
    rw [g3] at hw'
    subst hw'
    refine place c' w.drawn g1 (z0p.refl _) (fun k hk=>?_) hae hfit fr (by rw [hae]; exact hcm) hfn (by rw [hae]; exact hlv)
    rw [g2]
    by_cases hki:k=es.length
    ·subst hki
     rw [if_pos (by simp),if_neg (by omega),if_pos hlast.symm]; simp
    ·rw [if_neg (by simp; omega),if_pos (by omega),hcsg k (by omega)]
   ·
    have hva':vs=#[.slice (some ⟨L.blk,L.base,none⟩) es.length c, .int .i64 i, .slice (some ⟨L1.blk,L1.base,none⟩) 1 vc]:=by rw [hva,hae]
    obtain ⟨e,w',fr,⟨rfl,hw'⟩,hcm,hfn,hlv⟩:=hS.shift L.blk L.base es.length c i L1.blk L1.base vc cs v w (by omega) hfit (by omega) hne hcsl hcsc (fun j hj=>hsp j (by omega)) (fun j _=>hfz _ _ _ hcb _) hvc hcs1 hvone
     (hfz _ _ _ hcb1) ⟨t1,c1.size,by unfold World.shape?; rw [hcb1]⟩ ⟨t0,c0.size,by unfold World.shape?; rw [hcb],by omega⟩ cs0
    rw [←hva'] at hcm
    have hcbd:w.drew.heap[L.blk]?=some (.cells c0 t0 (0,0)):=hcb
    have hdl:(cs.drop i).length=es.length - i:=by rw [List.length_drop,hcsl]
    obtain ⟨c',g1,g2,g3⟩:=z3o L.blk t0 (cs.drop i) (L.base+(i+1)) w.drew c0 hcbd (by rw [hdl]; omega)
    have hlt':L.blk<w.drew.heap.size:=hlt
    obtain ⟨c2,k1,k2,k3⟩:=z3o L.blk t0 [v] (L.base+i) (World.setObj w.drew L.blk (.cells c' t0 (0,0))) c' (z0l _ _ _ hlt') (by simp; omega)
    rw [g3,k3,z9v] at hw'
    subst hw'
    refine place c2 (w.drawn+1) (k1.trans g1) (Nat.le_succ _) (fun k hk=>?_) hae hfit fr (by rw [hae]; exact hcm) hfn (by rw [hae]; exact hlv)
    rw [k2]
    by_cases hki:k=i
    ·subst hki
     rw [if_pos (by simp),if_neg (by omega),if_pos rfl]; simp
    ·rw [if_neg (by simp; omega),g2]
     by_cases hlt2:k<i
     ·rw [if_neg (by omega),if_pos hlt2,hcsg k (by omega)]
     ·rw [if_pos (by rw [hdl]; omega),if_neg hlt2,if_neg hki,List.getElem?_drop]
      congr 1; omega
  ·have hce:c=es.length:=by omega
   have hcap:=hS.cap w (es.length+1) c (by omega) (by omega)
   by_cases hlast:i=es.length
   ·
    have hva':vs=#[.slice a es.length c, .int .i64 es.length, .slice (some ⟨L1.blk,L1.base,none⟩) 1 vc]:=by rw [hva,hlast]
    obtain ⟨e,w',fr,⟨rfl,hw'⟩,hcm,hfn,hlv⟩:=hS.last a es.length c L1.blk L1.base vc cs v w hnc (by omega) (by omega) hcsl (fun ha=>by
      by_cases h0:0<c
      ·rw [haa h0] at ha; cases ha
      ·omega) (fun a' ha' j u hj=>by
      have hjl:j<es.length:=by rw [←hcsl]; exact (List.getElem?_eq_some_iff.1 hj).1
      rw [haa (by omega)] at ha'
      cases ha'
      rw [z32]; exact hcsc j u hj) hvc hvone cs0
    rw [←hva'] at hcm
    subst hw'
    refine grown c cs _ (w.drawn+1) _ hcsl hrows (Nat.le_succ _) hcap (fun k hk=>?_) ?_ fr hcm hfn hlv
    ·have hkk:k<(cs++[v]).length:=by simp [hcsl]; omega
     have e1:((cs++[v]).toArray++Builtin.zeroCells (Value.int .i64 0).cells (grownCap w (es.length+1) c t - (es.length+1)))[k]?=(cs++[v])[k]?:=by
      rw [Array.getElem?_append_left (by simpa using hkk)]; simp
     rw [e1,List.getElem?_append,hcsl]
     by_cases hkn:k<es.length
     ·rw [if_pos hkn,if_pos (by omega)]
     ·rw [if_neg hkn,if_neg (by omega),if_pos (by omega),show k - es.length=0 by omega]; rfl
    ·simp [Builtin.zeroCells,Value.cells,hcsl]; omega
   ·
    have hae:=haa (by omega)
    have hva':vs=#[.slice (some ⟨L.blk,L.base,none⟩) es.length c, .int .i64 i, .slice (some ⟨L1.blk,L1.base,none⟩) 1 vc]:=by rw [hva,hae]
    obtain ⟨e,w',fr,⟨rfl,hw'⟩,hcm,hfn,hlv⟩:=hS.grow L.blk L.base es.length c i L1.blk L1.base vc cs v w (by omega) hnc (by omega) (by omega) hcsl hcsc hvc hcs1 hvone cs0
    rw [←hva'] at hcm
    generalize hG:grownCap w (es.length+1) c t=G at hw' hcm hlv hcap
    generalize hROW:(cs.take i).toArray++Builtin.zeroCells (Value.int .i64 0).cells (es.length+1 - i)++Builtin.zeroCells (Value.int .i64 0).cells (G - (es.length+1))=ROW at hw'
    have hRs:ROW.size=G:=by
     rw [←hROW]; simp [Builtin.zeroCells,Value.cells,hcsl]; omega
    have hRg:∀ k,k<i→ROW[k]?=cs[k]?:=by
     intro k hk
     rw [←hROW,Array.append_assoc,Array.getElem?_append_left (by simp [hcsl]; omega)]
     simp [List.getElem?_take,hk]
    have hb0:(w.alloc (.cells ROW t)).drew.heap[w.heap.size]?=some (.cells ROW t (0,0)):=by
     show (w.heap.push _)[w.heap.size]?=_
     simp
    obtain ⟨c',g1,g2,g3⟩:=z3o w.heap.size t [v] i _ ROW hb0 (by simp; omega)
    have hdl:(cs.drop i).length=es.length - i:=by rw [List.length_drop,hcsl]
    have hb1:(World.setObj (w.alloc (.cells ROW t)).drew w.heap.size (.cells c' t (0,0))).drew.heap[w.heap.size]?=some (.cells c' t (0,0)):=by
     show (World.setObj (w.alloc (.cells ROW t)).drew w.heap.size (.cells c' t (0,0))).heap[w.heap.size]?=_
     exact z0l _ _ _ (by show _<(w.heap.push _).size; simp)
    obtain ⟨c2,k1,k2,k3⟩:=z3o w.heap.size t (cs.drop i) (i+1) _ c' hb1 (by rw [hdl,g1]; omega)
    rw [g3,k3] at hw'
    have hwe:World.setObj (World.setObj (w.alloc (.cells ROW t)).drew w.heap.size (.cells c' t (0,0))).drew w.heap.size (.cells c2 t (0,0))={ World.push w (.cells c2 t) with drawn:=w.drawn+2 }:=by
     unfold World.setObj World.drew World.alloc World.push
     simp only
     congr 1
     apply Array.ext_getElem?
     intro k
     simp only [Array.getElem?_setIfInBounds,Array.getElem?_push,Array.size_push,Array.size_setIfInBounds]
     by_cases hk:w.heap.size=k
     ·subst hk; simp
     ·have hk2:¬ k=w.heap.size:=fun e=>hk e.symm
      simp [hk,hk2]
    rw [hwe] at hw'
    subst hw'
    refine grown c cs c2 (w.drawn+2) G hcsl hrows (by show w.drawn≤_; omega) hcap (fun k hk=>?_) (by rw [k1,g1,hRs]) fr hcm hfn hlv
    rw [k2]
    by_cases hgt:i+1≤k
    ·rw [if_pos (by rw [hdl]; omega),if_neg (by omega),if_neg (by omega),List.getElem?_drop]
     congr 1; omega
    ·rw [if_neg (by omega),g2]
     by_cases hki:k=i
     ·subst hki
      rw [if_pos (by simp),if_neg (by omega),if_pos rfl]; simp
     ·rw [if_neg (by simp; omega),if_pos (by omega),hRg k (by omega)]⟩
end
end Go.Am
end
section
namespace Go.Proofs
open Go.Shelf Go.RowKit Go.Lib
def x50:Go.Shelf.Ren:=⟨fun|39=>72|35=>103|28=>85|27=>84|21=>60|n=>n,fun|0=>0|4=>4|3=>3|22=>26|n=>n,fun|n=>n⟩
theorem x1q : Go.Proofs.Lays2.n21 Try.prog x50 :=
  { mixed := by kernel_rfl,
    f21 := by first | exact ⟨Try.f60.name, by decide, Try.func60.trans (congrArg some (by kernel_rfl))⟩ | exact Try.func60.trans (congrArg some (by kernel_rfl)),
    f27 := by first | exact ⟨Try.f84.name, by decide, Try.func84.trans (congrArg some (by kernel_rfl))⟩ | exact Try.func84.trans (congrArg some (by kernel_rfl)),
    f28 := by first | exact ⟨Try.f85.name, by decide, Try.func85.trans (congrArg some (by kernel_rfl))⟩ | exact Try.func85.trans (congrArg some (by kernel_rfl)),
    f35 := by first | exact ⟨Try.f103.name, by decide, Try.func103.trans (congrArg some (by kernel_rfl))⟩ | exact Try.func103.trans (congrArg some (by kernel_rfl)),
    f39 := by first | exact ⟨Try.f72.name, by decide, Try.func72.trans (congrArg some (by kernel_rfl))⟩ | exact Try.func72.trans (congrArg some (by kernel_rfl)),
    t0 := by exact Try.underlying0,
    a0 := by exact Try.isAgg0,
    z0 := by exact Try.sizeOf0,
    v0 := by exact Try.zeroValue0,
    t3 := by exact Try.underlying3,
    a3 := by exact Try.isAgg3,
    z3 := by exact Try.sizeOf3,
    v3 := by exact Try.zeroValue3,
    t4 := by exact Try.underlying4,
    a4 := by exact Try.isAgg4,
    z4 := by exact Try.sizeOf4,
    v4 := by exact Try.zeroValue4,
    t22 := by exact Try.underlying26,
    a22 := by exact Try.isAgg26,
    z22 := by exact Try.sizeOf26,
    v22 := by exact Try.zeroValue26,
    i3 := by kernel_rfl }
variable {P:Program} {ρ:Ren}
set_option maxHeartbeats 4000000 in
set_option maxRecDepth 100000 in
theorem x53 (L:Lays2.n21 P ρ) (b off n c i vb voff m vc:Nat) (cs vs:List Value) (w:World) (hi:i<n) (hm:0<m) (hroom:n+m≤c) (hc63:n+m≤9223372036854775807) (hvb:vb≠b)
  (hcl:cs.length=n) (hvl:vs.length=m) (hcs:∀ j v,cs[j]?=some v→w.cell? ⟨b,off+j,none⟩=some v) (hsp:∀ j,j<n+m→(w.cell? ⟨b,off+j,none⟩).isSome=true) (hfz:∀ j,j<n+m→w.frozen? ⟨b,off+j,none⟩=false)
  (hvs:∀ j v,vs[j]?=some v→w.cell? ⟨vb,voff+j,none⟩=some v) (h1c:∀ v∈cs,v.oneCell'=true) (h1v:∀ v∈vs,v.oneCell'=true)
  (tA tB:TypeId) (kA kB:Nat) (hsa:w.shape? vb=some (tA,kA)) (hsb:w.shape? b=some (tB,kB)) (hkB:kB≠0) (hfa:w.frozen? ⟨vb,voff,none⟩=false) (hfe:w.frozen? ⟨vb,kA,none⟩=false):
  Calls P (ρ.f 21) #[.slice (some ⟨b,off,none⟩) n c, .int .i64 i, .slice (some ⟨vb,voff,none⟩) m vc] w fun e w'=>
   e= .returned (.slice (some ⟨b,off,none⟩) (n+m) c)∧w'=(w.drew.setCells b (off+(i+m)) (cs.drop i)).setCells b (off+i) vs:=by
 have t0:=L.t0; have a0:=L.a0; have z0:=L.z0; have v0:=L.v0; have t3:=L.t3; have a3:=L.a3; have z3:=L.z3; have v3:=L.v3; have t4:=L.t4; have a4:=L.a4; have z4:=L.z4; have v4:=L.v4; have t22:=L.t22; have a22:=L.a22; have z22:=L.z22; have v22:=L.v22
 have u0:=run_underlying L.t0; have u3:=run_underlying L.t3; have u4:=run_underlying L.t4; have u22:=run_underlying L.t22
 have hz1:¬ ((m:Int)=0):=by omega
 have hz2:¬ ((i:Int)=(n:Int)):=by omega
 have hsz:(P.info? (ρ.t 3)).map (·.size)=some 1:=by
  obtain ⟨i0,hi0,h0,h1,h2⟩:=info_parts L.i3
  rw [hi0]; simp [h1]
 have hov:∀ lb cb,(callFunc (ρ.f 27) #[.slice (some ⟨vb,voff,none⟩) m vc, .slice (some ⟨b,off+(i+m),none⟩) lb cb]).run P w= .ok (.value (.bool false)) w:=fun lb cb=>by
  rw [run_callFunc_extern L.f27 (by kernel_rfl) (by kernel_rfl) (by kernel_rfl) (e:=Extern.SlicesOverlaps.overlaps #[(ρ.t 22),(ρ.t 22)] #[(ρ.t 4)]) (by kernel_rfl),
   Lib.run_overlaps_apart w (ρ.t 22) (ρ.t 4) (ρ.t 3) L.t22 1 L.z3 ⟨vb,voff,none⟩ ⟨b,off+(i+m),none⟩ m vc lb cb hvb tA tB kA kB hsa hsb hkB hfa hfe]
  rfl
 have hdl:(cs.drop i).length=n - i:=by rw [List.length_drop,hcl]
 have mixed:=L.mixed
 have hw1:IntKind.i64.wrap ((i:Int)+(m:Int))=(i:Int)+(m:Int):=by rw [IntKind.wrap_i64]; omega
 have hb1:(0:Int)≤(i:Int)+(m:Int):=by omega
 have hin:i≤n:=by omega
 have htn:((i:Int)+(m:Int)).toNat=i+m:=by omega
 have hb2:¬ (c=i+m):=by omega
 have hb3:(i:Int)≤(n:Int)+(m:Int):=by omega
 have hb4:¬ (c=i):=by omega
 have hcp1:∀ ty dc sc,(Builtin.copy_ #[(ρ.t 22),(ρ.t 22)] ty #[.slice (some ⟨b,off+(i+m),none⟩) (n+m - (i+m)) dc, .slice (some ⟨b,off+i,none⟩) (n+m - i) sc]).run P w.drew= .ok (goInt (cs.drop i).length) (w.drew.setCells b (off+(i+m)) (cs.drop i)):=fun ty dc sc=>
  run_copy_cells w.drew _ _ ty (ρ.t 3) b (off+(i+m)) (n+m - (i+m)) dc ⟨b,off+i,none⟩ (n+m - i) sc (cs.drop i) L.t22 hsz (by rw [hdl]; simp only [Nat.min_def]; split<;>omega)
   (fun j v hj=>by rw [Addr.add_lit,Nat.add_assoc]; exact hcs (i+j) v (by rwa [List.getElem?_drop] at hj))
   (fun j hj=>by rw [Nat.add_assoc]; exact hsp _ (by omega)) (fun j hj=>by rw [Nat.add_assoc]; exact hfz _ (by omega)) (fun v hv=>h1c v (List.mem_of_mem_drop hv))
 obtain ⟨W1,hW1⟩:∃ W1,W1=w.drew.setCells b (off+(i+m)) (cs.drop i):=⟨_,rfl⟩
 have hsp1:∀ k,k<n+m→(W1.cell? ⟨b,off+k,none⟩).isSome=true:=fun k hk=>by
  rw [hW1]
  exact isSome_setCells b _ _ _ (fun j hj=>by rw [Nat.add_assoc]; exact hsp _ (by omega)) _ (hsp k hk)
 have hcp2:∀ (W:World),(∀ x,W.cell? x=W1.cell? x)→(∀ x,W.frozen? x=W1.frozen? x)→∀ ty dc,(Builtin.copy_ #[(ρ.t 22),(ρ.t 22)] ty #[.slice (some ⟨b,off+i,none⟩) (n+m - i) dc, .slice (some ⟨vb,voff,none⟩) m vc]).run P W= .ok (goInt vs.length) (W.setCells b (off+i) vs):=fun W hWc hWf ty dc=>
  run_copy_cells W _ _ ty (ρ.t 3) b (off+i) (n+m - i) dc ⟨vb,voff,none⟩ m vc vs L.t22 hsz (by rw [hvl]; simp only [Nat.min_def]; split<;>omega)
   (fun j v hj=>by
    rw [Addr.add_lit,hWc,hW1,World.cell?_setCells_out b _ _ _ _ (fun h _=>absurd h hvb)]
    exact hvs j v hj)
   (fun j hj=>by rw [hWc,Nat.add_assoc]; exact hsp1 _ (by omega)) (fun j hj=>by rw [hWf,hW1,World.frozen?_setCells,Nat.add_assoc]; exact hfz _ (by omega)) h1v
 rw [←hW1] at hcp1
 go_enter L.f21,Body2.n21_ntmps ρ
 go_wp2_with (simp only [hov])
 go_region_law_o (refine step_copy_runI rfl _ _ (ρ.t 22) (ρ.t 22) rfl _ _ (by simp [Act.eval,Act.put]) (by simp [Act.eval,Act.put]) (hcp1 _ _ _) ?_)
 go_wp2_with (at_builtin; refine wpList_copy_runI _ rfl _ _ (ρ.t 22) (ρ.t 22) rfl _ _ rfl rfl (hcp2 _ (fun _=>rfl) (fun _=>rfl) _ _) ?_)
 go_ret
 first|exact ⟨rfl,rfl⟩|exact ⟨rfl,by rw [hW1]⟩
set_option maxHeartbeats 4000000 in
set_option maxRecDepth 100000 in
theorem x9g (L:Lays2.n21 P ρ) (b off n c vb voff m vc:Nat) (vs:List Value) (w:World) (hm:0<m) (hroom:n+m≤c) (hc63:n+m≤9223372036854775807)
  (hvl:vs.length=m) (hsp:∀ j,j<m→(w.cell? ⟨b,off+n+j,none⟩).isSome=true) (hfz:∀ j,j<m→w.frozen? ⟨b,off+n+j,none⟩=false)
  (hvs:∀ j v,vs[j]?=some v→w.cell? ⟨vb,voff+j,none⟩=some v) (h1v:∀ v∈vs,v.oneCell'=true):
  Calls P (ρ.f 21) #[.slice (some ⟨b,off,none⟩) n c, .int .i64 n, .slice (some ⟨vb,voff,none⟩) m vc] w fun e w'=>
   e= .returned (.slice (some ⟨b,off,none⟩) (n+m) c)∧w'=w.setCells b (off+n) vs:=by
 have t0:=L.t0; have a0:=L.a0; have z0:=L.z0; have v0:=L.v0; have t3:=L.t3; have a3:=L.a3; have z3:=L.z3; have v3:=L.v3; have t4:=L.t4; have a4:=L.a4; have z4:=L.z4; have v4:=L.v4; have t22:=L.t22; have a22:=L.a22; have z22:=L.z22; have v22:=L.v22
 have u0:=run_underlying L.t0; have u3:=run_underlying L.t3; have u4:=run_underlying L.t4; have u22:=run_underlying L.t22
 have mixed:=L.mixed
 have hz1:¬ ((m:Int)=0):=by omega
 have hsrc:Src P 1 (ρ.t 22) (.slice (some ⟨vb,voff,none⟩) m vc) m vs w:=Src.ofSlice w L.t22 ⟨vb,voff,none⟩ m vc vs (by omega) (fun j u hj=>by rw [Addr.add_lit]; exact hvs j u hj) h1v
 go_enter L.f21,Body2.n21_ntmps ρ
 go_wp2_with (at_builtin; refine wpList_append_room1 _ rfl _ _ (ρ.t 22) (ρ.t 22) rfl (ρ.t 3) _ _ L.t22 L.i3 b off n c rfl _ rfl m vs hsrc hroom (by rw [hvl]; exact hsp) (by rw [hvl]; exact hfz) ?_)
 go_ret
 exact ⟨rfl,rfl⟩
end Go.Proofs
namespace Go.Am
open Go.Proofs Go.Shelf
theorem w3o:x72 Try.prog 60 3 where
 shift:=fun b off n c i vb voff vc cs v w h1 h2 h3 h4 h5 h6 h7 h8 h9 h10 h11 h12 ⟨tA,kA,h13⟩ ⟨tB,kB,h14,h15⟩=>x53 x1q b off n c i vb voff 1 vc cs [v] w h1 (by omega) h2 h3 h4 h5 rfl h6 h7 h8 (fun j u hj=>by
  cases j with
  |zero=>cases hj; exact h9
  |succ j=>simp at hj) h10 (by simpa using h11) tA tB kA kB h13 h14 h15 (h12 _) (h12 _)
 room:=fun b off n c vb voff vc v w h1 h2 h3 h4 h5 h6=>x9g x1q b off n c vb voff 1 vc [v] w (by omega) h1 h2 rfl (fun j hj=>by
   have:j=0:=by omega
   subst this; exact h3) (fun j hj=>by
   have:j=0:=by omega
   subst this; exact h4) (fun j u hj=>by
   cases j with
   |zero=>cases hj; exact h5
   |succ j=>simp at hj) (by simpa using h6)
 last:=fun base n c vb voff vc cs v w h1 h2 h3 h4 h5 h6 h7 h8=>Any2.slices_Insert_int_end_grow x1q base n c vb voff 1 vc cs [v] w (by omega) h1 h2 h3 h4 rfl h5 h6 (fun j u hj=>by
  cases j with
  |zero=>cases hj; exact h7
  |succ j=>simp at hj) (by simpa using h8)
 grow:=fun b off n c i vb voff vc cs v w h1 h2 h3 h4 h5 h6 h7 h8 h9=>Any2.slices_Insert_int_grow x1q b off n c i vb voff 1 vc cs [v] w h1 (by omega) h2 h3 h4 h5 rfl h6 (fun j u hj=>by
  cases j with
  |zero=>cases hj; exact h7
  |succ j=>simp at hj) h8 (by simpa using h9)
 cap:=fun w n c h1 h2=>by unfold grownCap; simp [Question.cut]
noncomputable def y0a:Ctr:=
 ⟨60,[.vec 0 1, .int .i64, .full 1 1],[.row [(Go.Am.CK.int Go.IntKind.i64)], .row [(Go.Am.CK.int Go.IntKind.i64)]],[(.ret,⟨[(0, .vec 2 1)],[.dead, .row [(Go.Am.CK.int Go.IntKind.i64)], .row [(Go.Am.CK.int Go.IntKind.i64)]],1⟩)]⟩
def q60 (x:List (List D)×(List (List D)×(Int×Unit))):Option (List (List D)×(List (List D)×Unit)):=
 match x.2.1 with
 |[[v]]=>bif decide (0≤x.2.2.1)&&(Nat.ble x.2.2.1.toNat x.1.length&&Nat.ble x.1.length 1000000) then some ([[v]],(x.1.take x.2.2.1.toNat++[v]::x.1.drop x.2.2.1.toNat,())) else none
 |_=>none
noncomputable def G60:(p:Prim)→(List (List D)×(List (List D)×(Int×Unit)))→Option (List (List D)×(List (List D)×Unit)):=
 fun p x=>q60 x
noncomputable def F60:Prim→Tup (y0a).scs→Option (STup (scss (y0a).outs)):=
 fun p x=>G60 p x
theorem x9u:z2c Go.Proofs.Try.prog 60:=enters_auto (b:=_) rfl (by kernel_rfl)
theorem ok60:CtrOk Go.Proofs.Try.prog y0a (F60 std):=by
 have key:∀ (es r:List (List D)) (i:Int) (y:STup (scss (y0a).outs)),q60 (es,(r,(i,())))=some y→(y3q std y0a (y0i (y0a).scs (es,(r,(i,()))))).2.length≤(z1e std (y0a).outs y).2.s.heap.length∧
   z8z Try.prog 60 (y3q std y0a (y0i (y0a).scs (es,(r,(i,()))))).1 (y3q std y0a (y0i (y0a).scs (es,(r,(i,()))))).2 (z09 (z1e std (y0a).outs y).2.s.env 0) (z1e std (y0a).outs y).2.s.heap:=by
  intro es r i y hy
  unfold q60 at hy
  simp only at hy
  match r,hy with
  |[[v]],hy=>
   simp only at hy
   cases hb:(decide (0≤i)&&(Nat.ble i.toNat es.length&&Nat.ble es.length 1000000)) with
   |false=>rw [hb] at hy; cases hy
   |true=>
    rw [hb] at hy; cases hy
    simp only [Bool.and_eq_true,decide_eq_true_eq] at hb
    obtain ⟨h0,h1,h2⟩:=hb
    have h1:=Nat.le_of_ble_eq_true h1
    have h2:=Nat.le_of_ble_eq_true h2
    have hi:((i.toNat:Nat):Int)=i:=by omega
    have:=x9h w3o (es:=es) (x:=v) (i:=i.toNat) h1 h2
    have hl:es.length+1=(es.take i.toNat++[v]::es.drop i.toNat).length:=by simp; omega
    rw [hl,hi] at this
    exact ⟨(by show 2≤3; omega),this⟩
 exact ⟨x9u,fun x y hy=>key x.1 x.2.1 x.2.2.1 y hy⟩
end Go.Am
end
noncomputable section
namespace Go.Am
def w70:Ctr:=
 ⟨26,[.list 1],[],[(.ret,⟨[(0, .tuple [.vec 0 1, .int .i64])],[.row [ci]],1⟩)]⟩
def la26:List LA:=
 [⟨26,[false,true,false,true,true,true,true,true],0,⟨⟨[(6, .bptr 0 0),(7, .vec 2 1),(23, .int .i64),(24, .int .i64)],[.box [.clo 57 [.bptr 1 0] []], .row [ci], .row [ci]],37⟩,[((AX.exit 0),⟨[(7, .vec 0 1)],[.row [ci]],37⟩)]⟩⟩,
 ⟨58,[false,true,false,true],4,⟨⟨[(0, .vec 2 1),(1, .clo 59 [] [.bptr 0 0, .bptr 3 0]),(7, .vec 2 1),(8, .int .i64),(9, .int .i64)],[.box [.clo 57 [.bptr 1 0] []], .row [ci], .row [ci], .box [.int .i64]],21⟩,[(AX.ret,⟨[(4, .int .i64)],[.box [.clo 57 [.bptr 1 0] []], .row [ci], .row [ci], .box [.int .i64]],21⟩),((AX.exit 0),⟨[(0, .vec 2 1)],[.box [.clo 57 [.bptr 1 0] []], .row [ci], .row [ci], .box [.int .i64]],21⟩)]⟩⟩]
def ja26:List JA:=
 [⟨26,[false,true,true,false,false,true,false,true,true,true,true,true],0,[(AX.normal,⟨[(6, .bptr 0 0),(7, .vec 1 1),(23, .int .i64),(24, .int .i64)],[.box [.clo 57 [.bptr 2 0] []], .row [ci], .row [ci]],37⟩)]⟩]
def v2y:List CF:=
 [⟨y0a,F60⟩,⟨w0b,G54⟩]
def an26:Anns:=
 ⟨v2y,ja26,[]⟩
def v39 (p:Prim):(LD×(LD×T4))→Option ((LD×(LD×T4))⊕((LD×(LD×T3))⊕(LD×(LD×T1)))):=
 fun a=>opt.run _ (
 opt.ask _ (p.cmp .lss a.2.2.2.2.1 a.2.2.2.1) (
 opt.need _ (bif (p.cmp .geq a.2.2.2.2.1 (0:Int)) then (p.cmp .lss a.2.2.2.2.1 (p.ofNat (p.len a.2.1))) else Bool.false)<|
 opt.need _ (p.rowOk a.2.1 (p.add 0 (p.nat a.2.2.2.2.1)) [ci])<|
 opt.need _ (bif (p.cmp .geq a.2.2.1 (0:Int)) then (p.cmp .lss a.2.2.1 (p.ofNat 10)) else Bool.false)<|
 opt.need _ (bif (p.cmp .geq (p.rdI a.2.1 (p.add 0 (p.nat a.2.2.2.2.1)) 0) (0:Int)) then (p.cmp .lss (p.rdI a.2.1 (p.add 0 (p.nat a.2.2.2.2.1)) 0) (p.ofNat 10)) else Bool.false)<|
 opt.need _ (p.rowOk a.1 (p.add (p.add 1 (p.mul (p.nat a.2.2.1) 10)) (p.nat (p.rdI a.2.1 (p.add 0 (p.nat a.2.2.2.2.1)) 0))) [ci])<|
 opt.ask _ (p.cmp .eql (p.rdI a.1 (p.add (p.add 1 (p.mul (p.nat a.2.2.1) 10)) (p.nat (p.rdI a.2.1 (p.add 0 (p.nat a.2.2.2.2.1)) 0))) 0) (1:Int)) (
 opt.ret _ (Sum.inr (Sum.inl (a.1,(a.2.1,(a.2.2.1,(a.2.2.2.2.1,()))))))) (
 opt.need _ (p.eqN 0 0)<|
 opt.need _ (p.eqN (p.len a.2.1) (p.len a.2.1))<|
 opt.need _ (p.eqN 0 0)<|
 opt.need _ (p.eqN (p.len a.2.1) (p.len a.2.1))<|
 opt.ret _ (Sum.inl (a.1,(a.2.1,(a.2.2.1,(a.2.2.2.1,((p.ar .add .i64 a.2.2.2.2.1 (1:Int)),())))))))) (
 opt.need _ (p.eqN 0 0)<|
 opt.need _ (p.eqN (p.len a.2.1) (p.len a.2.1))<|
 opt.ret _ (Sum.inr (Sum.inr (a.1,(a.2.1,(a.2.2.1,())))))))
def w4x (it:It) (p:Prim):(LD×(LD×T3))→Option ((LD×(LD×T3))⊕(LD×Unit)):=
 fun a=>opt.run _ (
 opt.ask _ (p.cmp .lss a.2.2.2.1 a.2.2.1) (
 opt.bnd ((LD×(LD×T3))) _ (
 opt.run ((LD×(LD×T3))) (
 opt.need _ (p.eqN 0 0)<|
 opt.need _ (p.eqN (p.len a.2.1) (p.len a.2.1))<|
 opt.need _ (p.eqN 0 0)<|
 opt.need _ (p.eqN (p.len a.2.1) (p.len a.2.1))<|
 opt.alt ((LD×(LD×T3))) ((LD×(LD×T1))) _ (
 it _ _ (v39 p) (a.1,(a.2.1,(a.2.2.2.1,((p.ofNat (p.len a.2.1)),((0:Int),())))))) (fun b=>
 opt.need _ (p.eqN 0 0)<|
 opt.need _ (p.eqN (p.len a.2.1) (p.len b.2.1))<|
 opt.need _ (p.eqN 0 0)<|
 opt.need _ (p.eqN 1 (p.len [[(D.int .i64 b.2.2.1)]]))<|
 opt.need _ (p.eqN 1 (p.len [[(D.int .i64 b.2.2.1)]]))<|
 opt.bnd ((LD×(LD×Unit))) _ (G60 p (b.2.1,([[(D.int .i64 b.2.2.1)]],(b.2.2.2.1,())))) fun c=>
 opt.need _ (p.eqN 0 0)<|
 opt.need _ (p.eqN (p.len c.2.1) (p.len c.2.1))<|
 opt.ret _ (c.2.1,(b.1,(a.2.2.1,(a.2.2.2.1,()))))) (fun d=>
 opt.bnd ((LD×(LD×T1))) _ (some d) fun e=>
 opt.need _ (p.eqN 0 0)<|
 opt.need _ (p.eqN (p.len a.2.1) (p.len e.2.1))<|
 opt.need _ (p.eqN 0 0)<|
 opt.need _ (p.eqN 1 (p.len [[(D.int .i64 e.2.2.1)]]))<|
 opt.need _ (p.eqN 1 (p.len [[(D.int .i64 e.2.2.1)]]))<|
 opt.bnd ((LD×(LD×Unit))) _ (G60 p (e.2.1,([[(D.int .i64 e.2.2.1)]],((p.ofNat (p.len e.2.1)),())))) fun f=>
 opt.need _ (p.eqN 0 0)<|
 opt.need _ (p.eqN (p.len f.2.1) (p.len f.2.1))<|
 opt.ret _ (f.2.1,(e.1,(a.2.2.1,(a.2.2.2.1,()))))))) fun g=>
 opt.need _ (p.eqN 0 0)<|
 opt.need _ (p.eqN (p.len g.1) (p.len g.1))<|
 opt.ret _ (Sum.inl (g.2.1,(g.1,(g.2.2.1,((p.ar .add .i64 g.2.2.2.1 (1:Int)),())))))) (
 opt.need _ (p.eqN 0 0)<|
 opt.need _ (p.eqN (p.len a.2.1) (p.len a.2.1))<|
 opt.ret _ (Sum.inr (a.2.1,()))))
def g26 (it:It):(p:Prim)→(LD×Unit)→Option ((LD×T1)):=
 fun p x=>
 opt.alt T2 ((LD×T1)) _ (g54 it p (x.1,())) (fun a=>
 opt.ask _ (p.cmp .neq a.1 (0:Int)) (
 opt.ret _ ([],(a.1,()))) (
 opt.no _ 41)) (fun b=>
 opt.bnd ((LD×T1)) _ (some b) fun c=>
 opt.ask _ (p.cmp .neq c.2.1 (0:Int)) (
 opt.ret _ ([],(c.2.1,()))) (
 opt.need _ (p.rowOk c.1 0 [ci])<|
 opt.bnd ((LD×Unit)) _ (
 it _ _ (w4x it p) (c.1,([],((p.rdI c.1 0 0),((0:Int),()))))) fun d=>
 opt.need _ (p.eqN 0 0)<|
 opt.need _ (p.eqN (p.len d.1) (p.len d.1))<|
 opt.ret _ (d.1,((0:Int),()))))
def G26:=g26 it0
theorem ok26:CtrOk PG w70 (G26 std):=okF (a:=an26) (l:=la26) (gC ok60 (gC v0m (gN))) (by kernel_rfl) fun _ _=>by kernel_rfl
end Go.Am
end
