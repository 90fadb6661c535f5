/- Texts of this claim. -/
import Derived.Test.YtjlhhpjkmgediaaT3
import Derived.Test.YtjlhhpjkmgediaaProg
import Derived.KernelRfl
set_option linter.unusedVariables false
set_option linter.unusedSimpArgs false
set_option linter.unusedSectionVars false
set_option maxRecDepth 100000
set_option maxHeartbeats 0
noncomputable section
namespace Go.Am
def w8c:Ctr:=
 ⟨52,[.int .i64, .int .i64, .list 1],[],[(.ret,⟨[(0, .bool)],[],1⟩)]⟩
def la52:List LA:=
 [⟨91,[false,true,false,true],2,⟨⟨[(0, .list 1),(1, .clo 80 [] [.bptr 0 0, .bptr 1 0]),(7, .int .i64),(8, .int .i64)],[.box [.int .i64], .box [.int .i64]],19⟩,[(AX.ret,⟨[(4, .int .i64)],[.box [.int .i64], .box [.int .i64]],19⟩),((AX.exit 0),⟨[],[.box [.int .i64], .box [.int .i64]],19⟩)]⟩⟩]
def ja52:List JA:=
 [⟨80,[false,true],2,[(AX.normal,⟨[(4, .bool)],[.box [.int .i64], .box [.int .i64]],13⟩)]⟩]
def v23:List CF:=
 []
def an52:Anns:=
 ⟨v23,ja52,[]⟩
def x1d (p:Prim):T9→Option ((Int×(Int×(LD×(Int×(Int×Unit)))))⊕((Int×(Int×(Int×Unit)))⊕(Int×(Int×Unit)))):=
 fun a=>opt.run _ (
 opt.ask _ (p.cmp .lss a.2.2.2.2.1 a.2.2.2.1) (
 opt.need _ (p.rowOk a.2.2.1 (p.nat a.2.2.2.2.1) [ci])<|
 opt.need _ (p.cmp .geq a.2.2.2.2.1 (0:Int))<|
 opt.bnd T27 _ (
 opt.run T27 (
 opt.ask _ (p.cmp .lss (p.rdI a.2.2.1 (p.nat a.2.2.2.2.1) 0) a.1) (
 opt.ret _ (a.1,(a.2.1,(Bool.true,())))) (
 opt.ret _ (a.1,(a.2.1,((p.cmp .gtr (p.rdI a.2.2.1 (p.nat a.2.2.2.2.1) 0) a.2.1),())))))) fun b=>
 opt.ask _ b.2.2.1 (
 opt.ret _ (Sum.inr (Sum.inl (b.1,(b.2.1,(a.2.2.2.2.1,())))))) (
 opt.ret _ (Sum.inl (b.1,(b.2.1,(a.2.2.1,(a.2.2.2.1,((p.ar .add .i64 a.2.2.2.2.1 (1:Int)),())))))))) (
 opt.ret _ (Sum.inr (Sum.inr (a.1,(a.2.1,()))))))
def g52 (it:It):(p:Prim)→(Int×(Int×(LD×Unit)))→Option T0:=
 fun p x=>
 opt.alt ((Int×(Int×(Int×Unit)))) T8 _ (
 it _ _ (x1d p) (x.1,(x.2.1,(x.2.2.1,((p.ofNat (p.len x.2.2.1)),((0:Int),())))))) (fun a=>
 opt.ret _ ((bif (p.cmp .geq a.2.2.1 (0:Int)) then Bool.false else Bool.true),())) (fun b=>
 opt.bnd T8 _ (some b) fun c=>
 opt.ret _ ((bif (p.cmp .geq (-1:Int) (0:Int)) then Bool.false else Bool.true),()))
def G52:=g52 it0
theorem ok52:CtrOk PG w8c (G52 std):=okF (a:=an52) (l:=la52) (gN) (by kernel_rfl) fun _ _=>by kernel_rfl
def w0q:Ctr:=
 ⟨56,[.list 1, .int .i64],[],[(.ret,⟨[(0, .bool)],[],1⟩)]⟩
def la56:List LA:=
 [⟨56,[false,true,false,true,true],0,⟨⟨[(1, .int .i64),(5, .int .i64),(8, .list 1),(9, .int .i64),(10, .int .i64)],[],24⟩,[(AX.ret,⟨[(4, .bool)],[],24⟩),((AX.exit 0),⟨[],[],24⟩)]⟩⟩]
def ja56:List JA:=
 [⟨56,[false,false,true,false,false,true,true,false,false,true,false,true,true],0,[(AX.normal,⟨[(1, .int .i64),(7, .int .i64),(8, .list 1),(9, .int .i64),(10, .int .i64),(21, .bool)],[],24⟩)]⟩]
def v20:List CF:=
 []
def an56:Anns:=
 ⟨v20,ja56,[]⟩
def y9t (p:Prim):T9→Option ((Int×(Int×(LD×(Int×(Int×Unit)))))⊕((Bool×Unit)⊕Unit)):=
 fun a=>opt.run _ (
 opt.ask _ (p.cmp .lss a.2.2.2.2.1 a.2.2.2.1) (
 opt.need _ (p.rowOk a.2.2.1 (p.nat a.2.2.2.2.1) [ci])<|
 opt.need _ (p.cmp .geq a.2.2.2.2.1 (0:Int))<|
 opt.bnd T28 _ (
 opt.run T28 (
 opt.ask _ (p.cmp .leq (p.rdI a.2.2.1 (p.nat a.2.2.2.2.1) 0) a.2.1) (
 opt.ret _ (a.1,((p.rdI a.2.2.1 (p.nat a.2.2.2.2.1) 0),(a.2.2.1,(a.2.2.2.1,(a.2.2.2.2.1,(Bool.true,()))))))) (
 opt.ret _ (a.1,((p.rdI a.2.2.1 (p.nat a.2.2.2.2.1) 0),(a.2.2.1,(a.2.2.2.1,(a.2.2.2.2.1,((p.cmp .geq (p.rdI a.2.2.1 (p.nat a.2.2.2.2.1) 0) a.1),()))))))))) fun b=>
 opt.ask _ b.2.2.2.2.2.1 (
 opt.ret _ (Sum.inr (Sum.inl (Bool.false,())))) (
 opt.ret _ (Sum.inl (b.1,(b.2.1,(b.2.2.1,(b.2.2.2.1,((p.ar .add .i64 b.2.2.2.2.1 (1:Int)),())))))))) (
 opt.ret _ (Sum.inr (Sum.inr ()))))
def g56 (it:It):(p:Prim)→(LD×T1)→Option T0:=
 fun p x=>
 opt.alt T0 (Unit) _ (
 it _ _ (y9t p) (x.2.1,((-1:Int),(x.1,((p.ofNat (p.len x.1)),((0:Int),())))))) (fun a=>
 opt.ret _ (a.1,())) (fun b=>
 opt.bnd (Unit) _ (some b) fun c=>
 opt.ret _ (Bool.true,()))
def G56:=g56 it0
theorem v02:CtrOk PG w0q (G56 std):=okF (a:=an56) (l:=la56) (gN) (by kernel_rfl) fun _ _=>by kernel_rfl
def w77:Ctr:=
 ⟨70,[.list 1],[],[(.ret,⟨[(0, .int .i64)],[],1⟩)]⟩
def la70:List LA:=
 [⟨70,[false,true,false,true,true],0,⟨⟨[(3, .int .i64),(6, .list 1),(7, .int .i64),(8, .int .i64)],[],17⟩,[((AX.exit 0),⟨[(3, .int .i64)],[],17⟩)]⟩⟩]
def ja70:List JA:=
 []
def v2t:List CF:=
 []
def an70:Anns:=
 ⟨v2t,ja70,[]⟩
def x74 (p:Prim):(Int×(LD×(Int×(Int×Unit))))→Option ((Int×(LD×(Int×(Int×Unit))))⊕(Int×Unit)):=
 fun a=>opt.run _ (
 opt.ask _ (p.cmp .lss a.2.2.2.1 a.2.2.1) (
 opt.need _ (p.rowOk a.2.1 (p.nat a.2.2.2.1) [ci])<|
 opt.need _ (p.cmp .geq a.2.2.2.1 (0:Int))<|
 opt.ret _ (Sum.inl ((p.ar .add .i64 a.1 (p.rdI a.2.1 (p.nat a.2.2.2.1) 0)),(a.2.1,(a.2.2.1,((p.ar .add .i64 a.2.2.2.1 (1:Int)),())))))) (
 opt.ret _ (Sum.inr (a.1,()))))
def g70 (it:It):(p:Prim)→(LD×Unit)→Option T2:=
 fun p x=>
 opt.bnd T2 _ (
 it _ _ (x74 p) ((0:Int),(x.1,((p.ofNat (p.len x.1)),((0:Int),()))))) fun a=>
 opt.ret _ (a.1,())
def G70:=g70 it0
theorem ok70:CtrOk PG w77 (G70 std):=okF (a:=an70) (l:=la70) (gN) (by kernel_rfl) fun _ _=>by kernel_rfl
def w0p:Ctr:=
 ⟨61,[.list 1],[],[(.ret,⟨[(0, .int .i64)],[],1⟩)]⟩
def la61:List LA:=
 []
def ja61:List JA:=
 [⟨61,[false,false,false,true],0,[(AX.normal,⟨[(0, .list 1),(3, .bool)],[],16⟩)]⟩,
 ⟨61,[true,false,false,true],0,[(AX.ret,⟨[(2, .int .i64)],[],16⟩),(AX.normal,⟨[],[],16⟩)]⟩]
def v2z:List CF:=
 [⟨w8c,G52⟩]
def an61:Anns:=
 ⟨v2z,ja61,[]⟩
def g61 (it:It):(p:Prim)→(LD×Unit)→Option T2:=
 fun p x=>
 opt.bnd ((LD×T6)) _ (
 opt.run ((LD×T6)) (
 opt.ask _ (p.cmp .eql (p.ofNat (p.len x.1)) (0:Int)) (
 opt.ret _ (x.1,(Bool.true,()))) (
 opt.ret _ (x.1,((p.cmp .gtr (p.ofNat (p.len x.1)) (10:Int)),()))))) fun a=>
 opt.alt T2 (Unit) _ (
 opt.run (((Int×Unit)⊕Unit)) (
 opt.ask _ a.2.1 (
 opt.ret _ (Sum.inl ((6:Int),()))) (
 opt.bnd T0 _ (g52 it p ((0:Int),((9:Int),(a.1,())))) fun b=>
 opt.ask _ (bif b.1 then Bool.false else Bool.true) (
 opt.ret _ (Sum.inl ((3:Int),()))) (
 opt.ret _ (Sum.inr ()))))) (fun c=>
 opt.ret _ (c.1,())) (fun d=>
 opt.bnd (Unit) _ (some d) fun e=>
 opt.ret _ ((0:Int),()))
def G61:=g61 it0
theorem v01:CtrOk PG w0p (G61 std):=okF (a:=an61) (l:=la61) (gC ok52 (gN)) (by kernel_rfl) fun _ _=>by kernel_rfl
def w2f:Ctr:=
 ⟨102,[.int .u64],[],[(.ret,⟨[(0, .int .i64)],[],1⟩)]⟩
def v13:List LA:=
 []
def v2e:List JA:=
 [⟨102,[true,false,true,true,true],0,[(AX.normal,⟨[(0, .int .u64),(2, .int .i64)],[],25⟩)]⟩,
 ⟨102,[true,false,true],0,[(AX.normal,⟨[(0, .int .u64),(2, .int .i64)],[],25⟩)]⟩,
 ⟨102,[true,false,true,true],0,[(AX.normal,⟨[(0, .int .u64),(2, .int .i64)],[],25⟩)]⟩]
def w7m:List CF:=
 []
def v4u:Anns:=
 ⟨w7m,v2e,[]⟩
def v4w:(p:Prim)→T1→Option T2:=
 fun p x=>
 opt.bnd T8 _ (
 opt.run T8 (
 opt.ask _ (p.cmp .geq x.1 (4294967296:Int)) (
 opt.need _ (p.cmp .geq (32:Int) (0:Int))<|
 opt.ret _ ((p.ar .shr .u64 x.1 (32:Int)),((32:Int),()))) (
 opt.ret _ (x.1,((0:Int),()))))) fun a=>
 opt.bnd T8 _ (
 opt.run T8 (
 opt.ask _ (p.cmp .geq a.1 (65536:Int)) (
 opt.need _ (p.cmp .geq (16:Int) (0:Int))<|
 opt.ret _ ((p.ar .shr .u64 a.1 (16:Int)),((p.ar .add .i64 a.2.1 (16:Int)),()))) (
 opt.ret _ (a.1,(a.2.1,()))))) fun b=>
 opt.bnd T8 _ (
 opt.run T8 (
 opt.ask _ (p.cmp .geq b.1 (256:Int)) (
 opt.need _ (p.cmp .geq (8:Int) (0:Int))<|
 opt.ret _ ((p.ar .shr .u64 b.1 (8:Int)),((p.ar .add .i64 b.2.1 (8:Int)),()))) (
 opt.ret _ (b.1,(b.2.1,()))))) fun c=>
 opt.need _ (bif (p.cmp .geq (p.cvt .u8 c.1) (0:Int)) then (p.cmp .lss (p.cvt .u8 c.1) (p.ofNat 256)) else Bool.false)<|
 opt.ret _ ((p.ar .add .i64 c.2.1 (p.cvt .i64 (p.byte (ByteArray.mk #[0,1,2,2,3,3,3,3,4,4,4,4,4,4,4,4,5,5,5,5,5,5,5,5,5,5,5,5,5,5,5,5,6,6,6,6,6,6,6,6,6,6,6,6,6,6,6,6,6,6,6,6,6,6,6,6,6,6,6,6,6,6,6,6,7,7,7,7,7,7,7,7,7,7,7,7,7,7,7,7,7,7,7,7,7,7,7,7,7,7,7,7,7,7,7,7,7,7,7,7,7,7,7,7,7,7,7,7,7,7,7,7,7,7,7,7,7,7,7,7,7,7,7,7,7,7,7,7,8,8,8,8,8,8,8,8,8,8,8,8,8,8,8,8,8,8,8,8,8,8,8,8,8,8,8,8,8,8,8,8,8,8,8,8,8,8,8,8,8,8,8,8,8,8,8,8,8,8,8,8,8,8,8,8,8,8,8,8,8,8,8,8,8,8,8,8,8,8,8,8,8,8,8,8,8,8,8,8,8,8,8,8,8,8,8,8,8,8,8,8,8,8,8,8,8,8,8,8,8,8,8,8,8,8,8,8,8,8,8,8,8,8,8,8,8,8,8,8,8,8,8,8,8,8,8,8]) (p.cvt .u8 c.1)))),())
theorem v09:CtrOk PG w2f (v4w std):=okF (a:=v4u) (l:=v13) (gN) (by kernel_rfl) fun _ _=>by kernel_rfl
def w4y:Ctr:=
 ⟨83,[.int .u64],[],[(.ret,⟨[(0, .int .i64)],[],1⟩)]⟩
def la83:List LA:=
 []
def ja83:List JA:=
 []
def v2p:List CF:=
 [⟨w2f,v4w⟩]
def an83:Anns:=
 ⟨v2p,ja83,[]⟩
def G83:(p:Prim)→T1→Option T2:=
 fun p x=>
 opt.bnd T2 _ (v4w p (x.1,())) fun a=>
 opt.ret _ (a.1,())
theorem v41:CtrOk PG w4y (G83 std):=okF (a:=an83) (l:=la83) (gC v09 (gN)) (by kernel_rfl) fun _ _=>by kernel_rfl
def w4x:Ctr:=
 ⟨98,[.int .i64, .int .i64],[],[(.ret,⟨[(0, .bool)],[],1⟩)]⟩
def la98:List LA:=
 []
def ja98:List JA:=
 [⟨98,[false,true],0,[(AX.normal,⟨[(4, .bool)],[],17⟩)]⟩]
def v2n:List CF:=
 []
def an98:Anns:=
 ⟨v2n,ja98,[]⟩
def G98:(p:Prim)→T3→Option T0:=
 fun p x=>
 opt.bnd T0 _ (
 opt.run T0 (
 opt.ask _ (p.cmp .neq x.1 x.1) (
 opt.ask _ (bif (p.cmp .neq x.2.1 x.2.1) then Bool.false else Bool.true) (
 opt.ret _ (Bool.true,())) (
 opt.ret _ ((p.cmp .lss x.1 x.2.1),()))) (
 opt.ret _ ((p.cmp .lss x.1 x.2.1),())))) fun a=>
 opt.ret _ (a.1,())
theorem v40:CtrOk PG w4x (G98 std):=okF (a:=an98) (l:=la98) (gN) (by kernel_rfl) fun _ _=>by kernel_rfl
def w79:Ctr:=
 ⟨65,[.list 1],[],[(.ret,⟨[(0, .sl 0 1)],[.row [ci]],1⟩)]⟩
def la65:List LA:=
 []
def ja65:List JA:=
 []
def v2v:List CF:=
 []
def an65:Anns:=
 ⟨v2v,ja65,[]⟩
def G65:(p:Prim)→(LD×Unit)→Option ((LD×T5)):=
 fun p x=>
 opt.need _ (p.leN 1 (p.len x.1))<|
 opt.ask _ (p.leN (p.add 0 (p.len x.1)) 0) (
 opt.need _ (p.and Bool.true (p.and (p.leN (p.add 0 0) (p.len [])) (p.and (p.leN 1 (p.len x.1)) (p.leN (p.add 0 0) (p.len [])))))<|
 opt.need _ (p.leN (p.add 0 0) (p.len (p.splice [] (p.add 0 0) x.1)))<|
 opt.ret _ ((p.splice [] (p.add 0 0) x.1),(0,((p.add 0 (p.len x.1)),())))) (
 opt.need _ (p.and Bool.true (p.and (p.leN (p.add 0 0) (p.len [])) (p.and (p.leN 1 (p.len x.1)) (p.leN (p.add 0 (p.len x.1)) 1000000))))<|
 opt.ret _ ((p.app (p.cut [] 0 0) x.1),(0,((p.add 0 (p.len x.1)),()))))
theorem ok65:CtrOk PG w79 (G65 std):=okF (a:=an65) (l:=la65) (gN) (by kernel_rfl) fun _ _=>by kernel_rfl
def w0r:Ctr:=
 ⟨54,[.list 1],[],[(.ret,⟨[(0, .tuple [.nilp, .int .i64])],[],1⟩),(.ret,⟨[(0, .tuple [.bptr 0 0, .int .i64])],[.row [ci]],1⟩)]⟩
def la54:List LA:=
 [⟨54,[false,true,false,true,true,true,true],0,⟨⟨[(2, .bptr 0 0),(3, .bptr 1 0),(4, .int .i64),(5, .bptr 2 0),(23, .list 1),(24, .int .i64),(25, .int .i64)],[.box [.nilp], .box [.int .i64], .box [.bptr 3 0], .row [ci]],75⟩,[(AX.ret,⟨[(2, .bptr 0 0),(3, .bptr 1 0)],[.box [.nilp], .box [.int .i64]],75⟩),((AX.exit 0),⟨[(2, .bptr 0 0),(3, .bptr 1 0),(4, .int .i64),(5, .bptr 2 0)],[.box [.nilp], .box [.int .i64], .box [.bptr 3 0], .row [ci]],75⟩)]⟩⟩,
 ⟨54,[false,true,true,true,false,false,true,true,false,false,true,false,true,true,true,true],0,⟨⟨[(2, .bptr 0 0),(3, .bptr 1 0),(4, .int .i64),(5, .bptr 2 0),(6, .int .i64),(23, .list 1),(24, .int .i64),(25, .int .i64),(34, .list 1),(35, .int .i64),(36, .int .i64)],[.box [.nilp], .box [.int .i64], .box [.bptr 3 0], .row [ci]],75⟩,[((AX.exit 2),⟨[(2, .bptr 0 0),(3, .bptr 1 0),(4, .int .i64),(5, .bptr 2 0),(23, .list 1),(24, .int .i64),(25, .int .i64)],[.box [.nilp], .box [.int .i64], .box [.bptr 3 0], .row [ci]],75⟩)]⟩⟩,
 ⟨54,[false,true,false,true,true,true,true,true],0,⟨⟨[(2, .bptr 0 0),(3, .bptr 1 0),(5, .bptr 2 0),(49, .int .i64),(50, .int .i64)],[.box [.nilp], .box [.int .i64], .box [.bptr 3 0], .row [ci]],75⟩,[(AX.ret,⟨[(2, .bptr 0 0),(3, .bptr 1 0)],[.box [.nilp], .box [.int .i64]],75⟩),((AX.exit 4),⟨[(2, .bptr 0 0),(3, .bptr 1 0),(5, .bptr 2 0)],[.box [.nilp], .box [.int .i64], .box [.bptr 3 0], .row [ci]],75⟩)]⟩⟩,
 ⟨78,[false,true],6,⟨⟨[(0, .yld 5),(8, .int .i64),(9, .int .i64)],[.box [.nilp], .box [.int .i64], .box [.bptr 3 0], .row [ci], .box [.bptr 3 0], .loop Go.LoopState.ready Option.none 54 [Bool.false,Bool.true,Bool.false,Bool.true,Bool.true,Bool.true,Bool.true,Bool.true,Bool.true] 75 [(59, .clo 78 [] [.bptr 4 0]),(2, .bptr 0 0),(3, .bptr 1 0),(5, .bptr 2 0)]],24⟩,[(AX.ret,⟨[],[.box [.nilp], .box [.int .i64], .box [.bptr 3 0], .row [ci], .box [.bptr 3 0], .loop Go.LoopState.done (Option.some Go.Code.ret) 54 [Bool.false,Bool.true,Bool.false,Bool.true,Bool.true,Bool.true,Bool.true,Bool.true,Bool.true] 75 [(59, .clo 78 [] [.bptr 4 0]),(2, .bptr 0 0),(3, .bptr 1 0),(5, .bptr 2 0)]],24⟩),((AX.exit 0),⟨[],[.box [.nilp], .box [.int .i64], .box [.bptr 3 0], .row [ci], .box [.bptr 3 0], .loop Go.LoopState.ready Option.none 54 [Bool.false,Bool.true,Bool.false,Bool.true,Bool.true,Bool.true,Bool.true,Bool.true,Bool.true] 75 [(59, .clo 78 [] [.bptr 4 0]),(2, .bptr 0 0),(3, .bptr 1 0),(5, .bptr 2 0)]],24⟩)]⟩⟩,
 ⟨78,[false,true,true,false,false,true,true,false,false,true],6,⟨⟨[(0, .yld 5),(3, .int .i64),(8, .int .i64),(9, .int .i64),(12, .int .i64),(13, .int .i64)],[.box [.nilp], .box [.int .i64], .box [.bptr 3 0], .row [ci], .box [.bptr 3 0], .loop Go.LoopState.ready Option.none 54 [Bool.false,Bool.true,Bool.false,Bool.true,Bool.true,Bool.true,Bool.true,Bool.true,Bool.true] 75 [(59, .clo 78 [] [.bptr 4 0]),(2, .bptr 0 0),(3, .bptr 1 0),(5, .bptr 2 0)]],24⟩,[(AX.ret,⟨[],[.box [.nilp], .box [.int .i64], .box [.bptr 3 0], .row [ci], .box [.bptr 3 0], .loop Go.LoopState.done (Option.some Go.Code.ret) 54 [Bool.false,Bool.true,Bool.false,Bool.true,Bool.true,Bool.true,Bool.true,Bool.true,Bool.true] 75 [(59, .clo 78 [] [.bptr 4 0]),(2, .bptr 0 0),(3, .bptr 1 0),(5, .bptr 2 0)]],24⟩),((AX.exit 2),⟨[(0, .yld 5),(8, .int .i64),(9, .int .i64)],[.box [.nilp], .box [.int .i64], .box [.bptr 3 0], .row [ci], .box [.bptr 3 0], .loop Go.LoopState.ready Option.none 54 [Bool.false,Bool.true,Bool.false,Bool.true,Bool.true,Bool.true,Bool.true,Bool.true,Bool.true] 75 [(59, .clo 78 [] [.bptr 4 0]),(2, .bptr 0 0),(3, .bptr 1 0),(5, .bptr 2 0)]],24⟩)]⟩⟩]
def ja54:List JA:=
 [⟨54,[false,false,true,true],0,[(AX.normal,⟨[(0, .list 1),(2, .bptr 0 0),(3, .bptr 1 0),(4, .int .i64),(19, .bool)],[.box [.nilp], .box [.int .i64]],75⟩)]⟩]
def v21:List CF:=
 [⟨w0q,G56⟩]
def an54:Anns:=
 ⟨v21,ja54,[]⟩
def x4i (p:Prim):(LD×T29)→Option ((LD×T29)⊕((LD×T1)⊕(LD×T4))):=
 fun a=>opt.run _ (
 opt.ask _ (p.cmp .lss a.2.2.2.2.2.2.1 a.2.2.2.2.2.1) (
 opt.need _ (p.and Bool.true (p.and Bool.true (p.and Bool.true Bool.true)))<|
 opt.need _ (bif (p.cmp .geq a.2.2.2.2.2.2.1 (0:Int)) then (p.cmp .lss a.2.2.2.2.2.2.1 (p.ofNat 10)) else Bool.false)<|
 opt.need _ (bif (p.cmp .geq a.2.2.1 (0:Int)) then (p.cmp .lss a.2.2.1 (p.ofNat 10)) else Bool.false)<|
 opt.need _ (p.rowOk a.1 (p.add (p.add 1 (p.mul (p.nat a.2.2.2.2.2.2.1) 10)) (p.nat a.2.2.1)) [ci])<|
 opt.need _ (bif (p.cmp .geq a.2.2.1 (0:Int)) then (p.cmp .lss a.2.2.1 (p.ofNat 10)) else Bool.false)<|
 opt.need _ (bif (p.cmp .geq a.2.2.2.2.2.2.1 (0:Int)) then (p.cmp .lss a.2.2.2.2.2.2.1 (p.ofNat 10)) else Bool.false)<|
 opt.need _ (p.rowOk a.1 (p.add (p.add 1 (p.mul (p.nat a.2.2.1) 10)) (p.nat a.2.2.2.2.2.2.1)) [ci])<|
 opt.ask _ (bif (p.bEq (p.cmp .eql (p.rdI a.1 (p.add (p.add 1 (p.mul (p.nat a.2.2.2.2.2.2.1) 10)) (p.nat a.2.2.1)) 0) (1:Int)) (p.cmp .eql (p.rdI a.1 (p.add (p.add 1 (p.mul (p.nat a.2.2.1) 10)) (p.nat a.2.2.2.2.2.2.1)) 0) (1:Int))) then Bool.true else Bool.false) (
 opt.ret _ (Sum.inr (Sum.inl (a.1,((16:Int),()))))) (
 opt.ret _ (Sum.inl (a.1,(a.2.1,(a.2.2.1,(a.2.2.2.1,(a.2.2.2.2.1,(a.2.2.2.2.2.1,((p.ar .add .i64 a.2.2.2.2.2.2.1 (1:Int)),())))))))))) (
 opt.ret _ (Sum.inr (Sum.inr (a.1,(a.2.1,(a.2.2.2.1,(a.2.2.2.2.1,()))))))))
def y7l (it:It) (p:Prim):(LD×T4)→Option ((LD×T4)⊕((LD×T1)⊕(LD×T1))):=
 fun a=>opt.run _ (
 opt.ask _ (p.cmp .lss a.2.2.2.1 a.2.2.1) (
 opt.alt ((LD×T1)) ((LD×T4)) _ (
 it _ _ (x4i p) (a.1,(a.2.1,(a.2.2.2.1,(a.2.2.1,(a.2.2.2.1,(a.2.2.2.1,((0:Int),())))))))) (fun b=>
 opt.ret _ (Sum.inr (Sum.inl (b.1,(b.2.1,()))))) (fun c=>
 opt.bnd ((LD×T4)) _ (some c) fun d=>
 opt.ret _ (Sum.inl (d.1,(d.2.1,(d.2.2.1,((p.ar .add .i64 d.2.2.2.1 (1:Int)),()))))))) (
 opt.ret _ (Sum.inr (Sum.inr (a.1,(a.2.1,()))))))
def x4j (p:Prim):(LD×T4)→Option ((LD×T4)⊕T26):=
 fun a=>opt.run _ (
 opt.ask _ (p.cmp .lss a.2.2.2.1 a.2.2.1) (
 opt.need _ (bif (p.cmp .geq a.2.2.2.1 (0:Int)) then (p.cmp .lss a.2.2.2.1 (p.ofNat 10)) else Bool.false)<|
 opt.need _ (bif (p.cmp .geq a.2.2.2.1 (0:Int)) then (p.cmp .lss a.2.2.2.1 (p.ofNat 10)) else Bool.false)<|
 opt.need _ (p.rowOk a.1 (p.add (p.add 1 (p.mul (p.nat a.2.2.2.1) 10)) (p.nat a.2.2.2.1)) [ci])<|
 opt.ask _ (p.cmp .eql (p.rdI a.1 (p.add (p.add 1 (p.mul (p.nat a.2.2.2.1) 10)) (p.nat a.2.2.2.1)) 0) (1:Int)) (
 opt.ret _ (Sum.inr (Sum.inl ((16:Int),())))) (
 opt.ret _ (Sum.inl (a.1,(a.2.1,(a.2.2.1,((p.ar .add .i64 a.2.2.2.1 (1:Int)),()))))))) (
 opt.ret _ (Sum.inr (Sum.inr (a.1,(a.2.1,()))))))
def x4k (p:Prim):(LD×T30)→Option ((LD×T30)⊕(LD×T9)):=
 fun a=>opt.run _ (
 opt.ask _ (p.cmp .lss a.2.2.2.2.2.2.2.2.2.1 a.2.2.2.2.2.2.2.2.1) (
 opt.need _ (p.rowOk a.2.2.2.2.2.2.2.1 (p.nat a.2.2.2.2.2.2.2.2.2.1) [ci])<|
 opt.need _ (p.cmp .geq a.2.2.2.2.2.2.2.2.2.1 (0:Int))<|
 opt.need _ (bif (p.cmp .geq a.2.2.2.1 (0:Int)) then (p.cmp .lss a.2.2.2.1 (p.ofNat 10)) else Bool.false)<|
 opt.need _ (bif (p.cmp .geq (p.rdI a.2.2.2.2.2.2.2.1 (p.nat a.2.2.2.2.2.2.2.2.2.1) 0) (0:Int)) then (p.cmp .lss (p.rdI a.2.2.2.2.2.2.2.1 (p.nat a.2.2.2.2.2.2.2.2.2.1) 0) (p.ofNat 10)) else Bool.false)<|
 opt.need _ (p.rowOk a.1 (p.add (p.add 1 (p.mul (p.nat a.2.2.2.1) 10)) (p.nat (p.rdI a.2.2.2.2.2.2.2.1 (p.nat a.2.2.2.2.2.2.2.2.2.1) 0))) [ci])<|
 opt.ret _ (Sum.inl ((p.set a.1 (p.add (p.add 1 (p.mul (p.nat a.2.2.2.1) 10)) (p.nat (p.rdI a.2.2.2.2.2.2.2.1 (p.nat a.2.2.2.2.2.2.2.2.2.1) 0))) [k1k]),(a.2.1,(a.2.2.1,(a.2.2.2.1,(a.2.2.2.2.1,(a.2.2.2.2.2.1,(a.2.2.2.2.2.2.1,(a.2.2.2.2.2.2.2.1,(a.2.2.2.2.2.2.2.2.1,((p.ar .add .i64 a.2.2.2.2.2.2.2.2.2.1 (1:Int)),())))))))))))) (
 opt.ret _ (Sum.inr (a.1,(a.2.1,(a.2.2.1,(a.2.2.2.2.1,(a.2.2.2.2.2.1,(a.2.2.2.2.2.2.1,())))))))))
def y7m (it:It) (p:Prim):(LD×T9)→Option ((LD×T9)⊕T25):=
 fun a=>opt.run _ (
 opt.ask _ (p.cmp .lss a.2.2.2.2.2.1 a.2.2.2.2.1) (
 opt.need _ (p.rowOk a.2.2.2.1 (p.nat a.2.2.2.2.2.1) [(CK.list 1)])<|
 opt.need _ (p.cmp .geq a.2.2.2.2.2.1 (0:Int))<|
 opt.bnd T0 _ (g56 it p ((p.rdL a.2.2.2.1 (p.nat a.2.2.2.2.2.1) 0),(a.2.2.1,()))) fun b=>
 opt.ask _ (bif b.1 then Bool.false else Bool.true) (
 opt.ret _ (Sum.inr (Sum.inl ((3:Int),())))) (
 opt.bnd ((LD×T9)) _ (
 it _ _ (x4k p) (a.1,(a.2.1,(a.2.2.1,(a.2.2.2.2.2.1,(a.2.2.2.1,(a.2.2.2.2.1,(a.2.2.2.2.2.1,((p.rdL a.2.2.2.1 (p.nat a.2.2.2.2.2.1) 0),((p.ofNat (p.len (p.rdL a.2.2.2.1 (p.nat a.2.2.2.2.2.1) 0))),((0:Int),()))))))))))) fun c=>
 opt.ret _ (Sum.inl (c.1,(c.2.1,(c.2.2.1,(c.2.2.2.1,(c.2.2.2.2.1,((p.ar .add .i64 c.2.2.2.2.2.1 (1:Int)),()))))))))) (
 opt.ret _ (Sum.inr (Sum.inr (a.1,(a.2.1,(a.2.2.1,())))))))
def g54 (it:It):(p:Prim)→(LD×Unit)→Option (((Int×Unit)⊕(LD×(Int×Unit)))):=
 fun p x=>
 opt.bnd T31 _ (
 opt.run T31 (
 opt.ask _ (p.cmp .eql (p.ofNat (p.len x.1)) (0:Int)) (
 opt.ret _ ((0:Int),(x.1,((p.ofNat (p.len x.1)),(Bool.true,()))))) (
 opt.ret _ ((0:Int),(x.1,((p.ofNat (p.len x.1)),((p.cmp .gtr (p.ofNat (p.len x.1)) (10:Int)),()))))))) fun a=>
 opt.ask _ a.2.2.2.1 (
 opt.ret _ (Sum.inl ((6:Int),()))) (
 opt.alt T2 ((LD×T3)) _ (
 it _ _ (y7m it p) ([[(D.int .i64 a.2.2.1)],k0k,k0k,k0k,k0k,k0k,k0k,k0k,k0k,k0k,k0k,k0k,k0k,k0k,k0k,k0k,k0k,k0k,k0k,k0k,k0k,k0k,k0k,k0k,k0k,k0k,k0k,k0k,k0k,k0k,k0k,k0k,k0k,k0k,k0k,k0k,k0k,k0k,k0k,k0k,k0k,k0k,k0k,k0k,k0k,k0k,k0k,k0k,k0k,k0k,k0k,k0k,k0k,k0k,k0k,k0k,k0k,k0k,k0k,k0k,k0k,k0k,k0k,k0k,k0k,k0k,k0k,k0k,k0k,k0k,k0k,k0k,k0k,k0k,k0k,k0k,k0k,k0k,k0k,k0k,k0k,k0k,k0k,k0k,k0k,k0k,k0k,k0k,k0k,k0k,k0k,k0k,k0k,k0k,k0k,k0k,k0k,k0k,k0k,k0k,k0k],(a.1,(a.2.2.1,(a.2.1,((p.ofNat (p.len a.2.1)),((0:Int),()))))))) (fun b=>
 opt.ret _ (Sum.inl (b.1,()))) (fun c=>
 opt.bnd ((LD×T3)) _ (some c) fun d=>
 opt.alt T2 ((LD×T1)) _ (
 it _ _ (x4j p) (d.1,(d.2.1,(d.2.2.1,((0:Int),()))))) (fun e=>
 opt.ret _ (Sum.inl (e.1,()))) (fun f=>
 opt.bnd ((LD×T1)) _ (some f) fun g=>
 opt.need _ (p.rowOk g.1 0 [ci])<|
 opt.alt ((LD×T1)) ((LD×T1)) _ (
 it _ _ (y7l it p) (g.1,(g.2.1,((p.rdI g.1 0 0),((0:Int),()))))) (fun h=>
 opt.ret _ (Sum.inl (h.2.1,()))) (fun i=>
 opt.bnd ((LD×T1)) _ (some i) fun j=>
 opt.ret _ (Sum.inr (j.1,((0:Int),())))))))
def G54:=g54 it0
theorem v05:CtrOk PG w0r (G54 std):=okF (a:=an54) (l:=la54) (gC v02 (gN)) (by kernel_rfl) fun _ _=>by kernel_rfl
def x7e:Ctr:=
 ⟨35,[.list 1],[],[(.ret,⟨[(0, .tuple [.vec 0 1, .int .i64])],[.row [ci]],1⟩)]⟩
def la35:List LA:=
 [⟨35,[false,true,false,true,true,true,true],0,⟨⟨[(4, .bptr 0 0),(6, .full 1 1),(22, .int .i64),(23, .int .i64)],[.row [ci], .row [ci]],38⟩,[((AX.exit 0),⟨[(6, .full 0 1)],[.row [ci]],38⟩)]⟩⟩]
def ja35:List JA:=
 []
def v3b:List CF:=
 [⟨w77,G70⟩,⟨w0r,G54⟩]
def an35:Anns:=
 ⟨v3b,ja35,[]⟩
def x1b (it:It) (p:Prim):(LD×(LD×T3))→Option ((LD×(LD×T3))⊕(LD×Unit)):=
 fun a=>opt.run _ (
 opt.ask _ (p.cmp .lss a.2.2.2.1 a.2.2.1) (
 opt.need _ (bif (p.cmp .geq a.2.2.2.1 (0:Int)) then (p.cmp .lss a.2.2.2.1 (p.ofNat 10)) else Bool.false)<|
 opt.need _ (p.rowOk a.1 (p.add 1 (p.mul (p.nat a.2.2.2.1) 10)) [ci])<|
 opt.need _ (p.and (p.leN (p.add (p.add 1 (p.mul (p.nat a.2.2.2.1) 10)) 10) (p.len a.1)) Bool.true)<|
 opt.bnd T2 _ (g70 it p ((p.cut a.1 (p.add 1 (p.mul (p.nat a.2.2.2.1) 10)) 10),())) fun b=>
 opt.need _ (bif (p.cmp .geq a.2.2.2.1 (0:Int)) then (p.cmp .lss a.2.2.2.1 (p.ofNat (p.len a.2.1))) else Bool.false)<|
 opt.need _ (p.rowOk a.2.1 (p.add 0 (p.nat a.2.2.2.1)) [ci])<|
 opt.need _ (p.eqN 0 0)<|
 opt.need _ (p.eqN (p.len a.2.1) (p.len (p.set a.2.1 (p.add 0 (p.nat a.2.2.2.1)) [(D.int .i64 b.1)])))<|
 opt.need _ (p.eqN (p.len a.2.1) (p.len (p.set a.2.1 (p.add 0 (p.nat a.2.2.2.1)) [(D.int .i64 b.1)])))<|
 opt.ret _ (Sum.inl (a.1,((p.set a.2.1 (p.add 0 (p.nat a.2.2.2.1)) [(D.int .i64 b.1)]),(a.2.2.1,((p.ar .add .i64 a.2.2.2.1 (1:Int)),())))))) (
 opt.need _ (p.eqN 0 0)<|
 opt.need _ (p.eqN (p.len a.2.1) (p.len a.2.1))<|
 opt.need _ (p.eqN (p.len a.2.1) (p.len a.2.1))<|
 opt.ret _ (Sum.inr (a.2.1,()))))
def g35 (it:It):(p:Prim)→(LD×Unit)→Option ((LD×T1)):=
 fun p x=>
 opt.alt T2 ((LD×T1)) _ (g54 it p (x.1,())) (fun a=>
 opt.ask _ (p.cmp .neq a.1 (0:Int)) (
 opt.ret _ ([],(a.1,()))) (
 opt.no _ 41)) (fun b=>
 opt.bnd ((LD×T1)) _ (some b) fun c=>
 opt.ask _ (p.cmp .neq c.2.1 (0:Int)) (
 opt.ret _ ([],(c.2.1,()))) (
 opt.need _ (p.rowOk c.1 0 [ci])<|
 opt.need _ (p.and (p.cmp .geq (p.rdI c.1 0 0) (0:Int)) (p.and (p.cmp .leq (p.rdI c.1 0 0) (p.rdI c.1 0 0)) (p.cmp .leq (p.rdI c.1 0 0) (1000000:Int))))<|
 opt.need _ (p.eqN 0 0)<|
 opt.need _ (p.eqN (p.nat (p.rdI c.1 0 0)) (p.len (p.rep (p.nat (p.rdI c.1 0 0)) k0k)))<|
 opt.need _ (p.eqN (p.nat (p.rdI c.1 0 0)) (p.len (p.rep (p.nat (p.rdI c.1 0 0)) k0k)))<|
 opt.bnd ((LD×Unit)) _ (
 it _ _ (x1b it p) (c.1,((p.rep (p.nat (p.rdI c.1 0 0)) k0k),((p.ofNat (p.nat (p.rdI c.1 0 0))),((0:Int),()))))) fun d=>
 opt.need _ (p.eqN 0 0)<|
 opt.need _ (p.eqN (p.len d.1) (p.len d.1))<|
 opt.need _ (p.leN (p.add 0 (p.len d.1)) (p.len d.1))<|
 opt.ret _ (d.1,((0:Int),()))))
def G35:=g35 it0
theorem w9x:CtrOk PG x7e (G35 std):=okF (a:=an35) (l:=la35) (gC ok70 (gC v05 (gN))) (by kernel_rfl) fun _ _=>by kernel_rfl
def w8h:Ctr:=
 ⟨36,[.list 1],[],[(.ret,⟨[(0, .tuple [.int .i64, .int .i64])],[],1⟩)]⟩
def la36:List LA:=
 [⟨36,[false,true,false,true,true,true,true,true],0,⟨⟨[(7, .int .i64),(28, .vec 0 1),(29, .int .i64),(30, .int .i64)],[.row [ci]],43⟩,[((AX.exit 0),⟨[(7, .int .i64)],[],43⟩)]⟩⟩]
def ja36:List JA:=
 []
def v3a:List CF:=
 [⟨x7e,G35⟩]
def an36:Anns:=
 ⟨v3a,ja36,[]⟩
def v4f (p:Prim):(LD×T4)→Option ((LD×T4)⊕T1):=
 fun a=>opt.run _ (
 opt.ask _ (p.cmp .lss a.2.2.2.1 a.2.2.1) (
 opt.need _ (bif (p.cmp .geq a.2.2.2.1 (0:Int)) then (p.cmp .lss a.2.2.2.1 (p.ofNat (p.len a.1))) else Bool.false)<|
 opt.need _ (p.rowOk a.1 (p.add 0 (p.nat a.2.2.2.1)) [ci])<|
 opt.need _ (p.cmp .neq (2:Int) (0:Int))<|
 opt.need _ (p.eqN 0 0)<|
 opt.need _ (p.eqN (p.len a.1) (p.len a.1))<|
 opt.ret _ (Sum.inl (a.1,((p.ar .sub .i64 a.2.1 (p.ar .quo .i64 (p.ar .mul .i64 (p.rdI a.1 (p.add 0 (p.nat a.2.2.2.1)) 0) (p.ar .sub .i64 (p.rdI a.1 (p.add 0 (p.nat a.2.2.2.1)) 0) (1:Int))) (2:Int))),(a.2.2.1,((p.ar .add .i64 a.2.2.2.1 (1:Int)),())))))) (
 opt.ret _ (Sum.inr (a.2.1,()))))
def g36 (it:It):(p:Prim)→(LD×Unit)→Option T8:=
 fun p x=>
 opt.bnd ((LD×T1)) _ (g35 it p (x.1,())) fun a=>
 opt.ask _ (p.cmp .neq a.2.1 (0:Int)) (
 opt.ret _ ((0:Int),(a.2.1,()))) (
 opt.need _ (p.cmp .neq (6:Int) (0:Int))<|
 opt.need _ (p.eqN 0 0)<|
 opt.need _ (p.eqN (p.len a.1) (p.len a.1))<|
 opt.bnd T2 _ (
 it _ _ (v4f p) (a.1,((p.ar .quo .i64 (p.ar .mul .i64 (p.ar .mul .i64 (p.ofNat (p.len a.1)) (p.ar .sub .i64 (p.ofNat (p.len a.1)) (1:Int))) (p.ar .sub .i64 (p.ofNat (p.len a.1)) (2:Int))) (6:Int)),((p.ofNat (p.len a.1)),((0:Int),()))))) fun b=>
 opt.ret _ (b.1,((0:Int),())))
def G36:=g36 it0
theorem ok36:CtrOk PG w8h (G36 std):=okF (a:=an36) (l:=la36) (gC w9x (gN)) (by kernel_rfl) fun _ _=>by kernel_rfl
end Go.Am
end
section
namespace Go.Am
variable {fl:List Int→Bool}
def y0j (l:List Int):Nat→Int
 |0=> -1
 |i+1=>l.getD i 0
def z83 (l:List Int) (n:Int) (i:Nat):Prop:=l.getD i 0≤y0j l i∨n≤l.getD i 0
instance (l:List Int) (n:Int) (i:Nat):Decidable (z83 l n i):=by unfold z83; infer_instance
theorem y47 (l:List Int) (n:Int):z1o l n↔∀ i,i<l.length→¬ z83 l n i:=by
 constructor
 ·intro h i hi
  obtain ⟨h1,h2,h3⟩:=h i hi
  cases i with
  |zero=>rw [z83,y0j]; omega
  |succ i=>
   have:=h3 (by omega)
   rw [z83,y0j]
   rw [Nat.add_sub_cancel] at this
   omega
 ·intro h
  have h0:∀ i,i<l.length→0≤l.getD i 0:=by
   intro i
   induction i with
   |zero=>
    intro hi
    have:=h 0 hi
    rw [z83,y0j] at this; omega
   |succ i ih=>
    intro hi
    have:=h (i+1) hi
    have:=ih (by omega)
    rw [z83,y0j] at*; omega
  intro i hi
  have hf:=h i hi
  refine ⟨h0 i hi,?_,fun h1=>?_⟩
  ·rw [z83] at hf; omega
  ·cases i with
   |zero=>omega
   |succ i=>
    rw [z83,y0j] at hf
    rw [Nat.add_sub_cancel]
    omega
theorem w2s (l:List Int) (n:Int) (hL:l.length≤1000000):G56 std (z0d l,(n,()))=some (decide (z1o l n),()):=by
 unfold G56
 have key:=z19 (b:=y9t std) l.length (fun i=>(n,(y0j l i,(z0d l,((l.length:Int),((i:Int),())))))) (fun i=>decide (z83 l n i)) (fun i=> .inl (false,())) (.inr ()) (fun i hi=>by
  obtain ⟨m,hm⟩:=z1e hi
  have hw:=z02 (i:=i) (by omega)
  have hlt:(i:Int)<l.length:=by omega
  have h0:(0:Int)≤i:=by omega
  have hla:y0j l (i+1)=m:=z1v hm
  by_cases h1:m≤y0j l i
  ·have hr:z83 l n i:=by rw [z83,z1v hm]; exact .inl h1
   simp only [hr,y9t,z0x,z0y,z0d,z0g,z06,z13,z0n,z0o,hm,hlt,h0,ge_iff_le,z0c,hw,h1,hla,decide_true]
  ·by_cases h2:n≤m
   ·have hr:z83 l n i:=by rw [z83,z1v hm]; exact .inr h2
    simp only [hr,y9t,z0x,z0y,z0d,z0g,z06,z13,z0n,z0o,hm,hlt,h0,ge_iff_le,z0c,hw,h1,h2,hla,decide_true]
   ·have hr:¬ z83 l n i:=by rw [z83,z1v hm]; omega
    simp only [hr,y9t,z0x,z0y,z0d,z0g,z06,z13,z0n,z0o,hm,hlt,h0,ge_iff_le,z0c,hw,h1,h2,hla,decide_false]) (by
  have hn:¬ (l.length:Int)<l.length:=by omega
  simp only [y9t,z0x,z0y,z0d,z0g,z06,z13,z0n,z0o,hn])
 have e:∀ {r:(Bool×Unit)⊕Unit},z4g (y9t std) (n,((-1:Int),(z0d l,((l.length:Int),((0:Int),())))))=some r→g56 it0 std (z0d l,(n,()))=some (match r with| .inl y=>y| .inr _=>(true,())):=by
  intro r hr
  have hr':it0 _ _ (y9t std) (n,((-1:Int),(z0d l,((l.length:Int),((0:Int),())))))=some r:=hr
  simp only [g56,z0x,z0y,z0k,hr']
  rcases r with ⟨y,u⟩|u<;>rfl
 rcases key with ⟨i,h1,h2,_,h4⟩|⟨h1,h2⟩
 ·have:¬ z1o l n:=fun h=>(y47 l n).1 h i h1 (by simpa using h2)
  rw [e h4]
  simp [this]
 ·have:z1o l n:=(y47 l n).2 fun i hi=>by simpa using h1 i hi
  rw [e h2]
  simp [this]
end Go.Am
end
section
namespace Go.Am
variable {fl:List Int→Bool}
def eC (b:Bool):List D:=eI (bif b then 1 else 0)
def fld (n:Int) (f:Nat→Nat→Bool):List (List D):=eI n::(List.range 100).map fun j=>eC (f (j / 10) (j % 10))
theorem x6q (n:Int) (f:Nat→Nat→Bool):(fld n f).length=101:=by simp [fld]
theorem x92 (n:Int):fld n (fun _ _=>false)=eI n::List.replicate 100 (eI 0):=rfl
theorem z2w (n:Int) (f:Nat→Nat→Bool) (i k:Nat) (hi:i<10) (hk:k<10):(fld n f)[1+i*10+k]?=some (eC (f i k)):=by
 have h:1+i*10+k=(i*10+k)+1:=by omega
 have h1:(i*10+k) / 10=i:=by omega
 have h2:(i*10+k) % 10=k:=by omega
 rw [h,fld,List.getElem?_cons_succ,List.getElem?_map,List.getElem?_range (by omega)]
 simp only [Option.map_some,h1,h2]
theorem x03 (n:Int) (f:Nat→Nat→Bool) (i k:Nat) (hi:i<10) (hk:k<10):(fld n f).set (1+i*10+k) (eI 1)=fld n (fun a b=>f a b||(decide (a=i)&&decide (b=k))):=by
 have h:1+i*10+k=(i*10+k)+1:=by omega
 rw [h,fld,fld,List.set_cons_succ]
 congr 1
 apply List.ext_getElem?
 intro j
 rw [List.getElem?_set,List.getElem?_map,List.getElem?_map,List.length_map,List.length_range]
 by_cases hj:i*10+k=j
 ·subst hj
  rw [if_pos rfl,if_pos (by omega),List.getElem?_range (by omega)]
  have h1:(i*10+k) / 10=i:=by omega
  have h2:(i*10+k) % 10=k:=by omega
  simp [h1,h2,eC]
 ·rw [if_neg hj]
  by_cases hl:j<100
  ·rw [List.getElem?_range hl]
   have:¬ (j / 10=i∧j % 10=k):=by omega
   have:(decide (j / 10=i)&&decide (j % 10=k))=false:=by
    cases h:(decide (j / 10=i)&&decide (j % 10=k)) with
    |false=>rfl
    |true=>simp at h; exact absurd h this
   simp [this]
  ·rw [List.getElem?_eq_none (by simp; omega)]; rfl
theorem z14 (b:Bool):z49 [CK.int IntKind.i64] (eC b)=true:=rfl
theorem z9v (b:Bool):dI ((eC b)[0]?.getD D.nilp)=bif b then 1 else 0:=rfl
theorem w1e (d:List (List Int)) (n:Int) (i:Nat) (l:List Int) (hi:i<10) (hL:l.length≤1000000) (hg:∀ x∈l,0≤x∧x<10) (f:Nat→Nat→Bool):
  z4g (x4k std) (fld n f,((0:Int),(n,((i:Int),(z0o fl d,(n,((i:Int),(z0d l,((l.length:Int),((0:Int),()))))))))))=
   some (fld n (fun a b=>f a b||(decide (a=i)&&decide ((b:Int)∈l))),((0:Int),(n,(z0o fl d,(n,((i:Int),())))))):=by
 have key:=z47 (b:=x4k std) l.length (fun j=>(fld n (fun a b=>f a b||(decide (a=i)&&decide ((b:Int)∈l.take j))),((0:Int),(n,((i:Int),(z0o fl d,(n,((i:Int),(z0d l,((l.length:Int),((j:Int),()))))))))))) (fld n (fun a b=>f a b||(decide (a=i)&&decide ((b:Int)∈l))),((0:Int),(n,(z0o fl d,(n,((i:Int),())))))) (fun j hj=>by
  obtain ⟨m,hm⟩:=z1e hj
  have hw:=z02 (i:=j) (by omega)
  have hlt:(j:Int)<l.length:=by omega
  have h0:(0:Int)≤j:=by omega
  obtain ⟨hm0,hm1⟩:=hg m (List.mem_of_getElem? hm)
  obtain ⟨k,rfl⟩:∃ k:Nat,m=(k:Int):=⟨m.toNat,by omega⟩
  have hk:k<10:=by omega
  have hi0:(0:Int)≤i:=by omega
  have hi1:(i:Int)<((10:Nat):Int):=by omega
  have hk1:(k:Int)<((10:Nat):Int):=by omega
  have ht:l.take (j+1)=l.take j++[(k:Int)]:=by
   obtain ⟨h1,h2⟩:=List.getElem?_eq_some_iff.1 hm
   rw [List.take_succ_eq_append_getElem h1,h2]
  have hfe:(fun a b=>f a b||(decide (a=i)&&decide ((b:Int)∈l.take (j+1))))=(fun a b=>(f a b||(decide (a=i)&&decide ((b:Int)∈l.take j)))||(decide (a=i)&&decide (b=k))):=by
   funext a b
   have:decide ((b:Int)∈l.take (j+1))=(decide ((b:Int)∈l.take j)||decide (b=k)):=by
    rw [ht]
    by_cases x:(b:Int)∈l.take j<;>by_cases y:b=k<;>simp [x,y]<;>omega
   rw [this]
   cases f a b<;>cases decide (a=i)<;>rfl
  rw [hfe, ←x03 _ _ _ _ hi hk]
  have hg':=z2w n (fun a b=>f a b||(decide (a=i)&&decide ((b:Int)∈l.take j))) i k hi hk
  generalize fld n (fun a b=>f a b||(decide (a=i)&&decide ((b:Int)∈l.take j)))=F at hg'⊢
  simp only [x4k,z0x,z0y,z0d,z0g,z06,z13,z0n,z0o,hm,hlt,h0,hi0,hi1,hm0,hk1,ge_iff_le,z0c,hw,hg',z14,show [D.int IntKind.i64 (1:Int)]=eI 1 from rfl]) (by
  have hn:¬ (l.length:Int)<l.length:=by omega
  simp only [x4k,z0x,z0y,z0d,z0g,z06,z13,z0n,z0o,hn,List.take_length])
 simpa using key
theorem w2k {d:List (List Int)} {i:Nat} {m:List Int} (hm:d[i]?=some m) (k:Nat):bt d i k=decide ((k:Int)∈m):=by rw [bt,z1v hm]
theorem w2l {d:List (List Int)} {i:Nat} (h:d.length≤i) (k:Nat):bt d i k=false:=by
 rw [bt,List.getD_eq_getElem?_getD,List.getElem?_eq_none h]; simp
theorem w0z (d:List (List Int)) (hr:∀ l∈d,l.length≤1000000) (hl:d.length≤10):
  z4g (y7m it0 std) (fld d.length (fun _ _=>false),((0:Int),((d.length:Int),(z0o fl d,((d.length:Int),((0:Int),()))))))=
   if ∃ i∈List.range d.length,¬ z1o (d.getD i []) d.length then some (.inl (3,())) else some (.inr (fld d.length (bt d),((0:Int),((d.length:Int),())))):=by
 have hz:(fun (_ _:Nat)=>false)=(fun a b=>decide (a<0)&&bt d a b):=by
  funext a b; simp
 have hz':bt d=(fun a b=>decide (a<d.length)&&bt d a b):=by
  funext a b
  by_cases h:a<d.length
  ·simp [h]
  ·rw [w2l (by omega)]; simp
 have key:=z19 (b:=y7m it0 std) d.length (fun i=>(fld d.length (fun a b=>decide (a<i)&&bt d a b),((0:Int),((d.length:Int),(z0o fl d,((d.length:Int),((i:Int),()))))))) (fun i=>decide (¬ z1o (d.getD i []) d.length)) (fun i=> .inl (3,())) (.inr (fld d.length (bt d),((0:Int),((d.length:Int),())))) (fun i hi=>by
  obtain ⟨m,hm⟩:=z1e hi
  have hw:=z02 (i:=i) (by omega)
  have hlt:(i:Int)<d.length:=by omega
  have h0:(0:Int)≤i:=by omega
  have h1:g56 it0 std (z0d m,((d.length:Int),()))=some (decide (z1o m d.length),()):=w2s m d.length (hr m (List.mem_of_getElem? hm))
  simp only [z0d] at h1
  by_cases a:z1o m d.length
  ·have hg:∀ x∈m,0≤x∧x<10:=fun x hx=>by
    obtain ⟨j,hj⟩:=List.getElem?_of_mem hx
    obtain ⟨q1,q2,_⟩:=a j (List.getElem?_eq_some_iff.1 hj).1
    rw [z1v hj] at q1 q2
    omega
   have h2:it0 _ _ (x4k std) (fld d.length (fun a b=>decide (a<i)&&bt d a b),((0:Int),((d.length:Int),((i:Int),(z0o fl d,((d.length:Int),((i:Int),(z0d m,((m.length:Int),((0:Int),()))))))))))=_:=
    w1e d d.length i m (by omega) (hr m (List.mem_of_getElem? hm)) hg _
   have hfe:(fun x b=>(decide (x<i)&&bt d x b)||(decide (x=i)&&decide ((b:Int)∈m)))=(fun x b=>decide (x<i+1)&&bt d x b):=by
    funext x b
    by_cases e:x=i
    ·subst e; simp [w2k hm]
    ·have:decide (x<i+1)=decide (x<i):=by
      by_cases q:x<i
      ·simp [q]; omega
      ·simp [q]; omega
     simp [e,this]
   rw [hfe] at h2
   simp only [z0o,z0d] at h2
   simp only [z1v hm,y7m,z0x,z0y,z0d,z0g,z06,z13,z0n,z0o,hm,hlt,h0,ge_iff_le,z0c,hw,h1,h2,a,List.length_map,decide_true,not_true,decide_false]
  ·simp only [z1v hm,y7m,z0x,z0y,z0d,z0g,z06,z13,z0n,z0o,hm,hlt,h0,ge_iff_le,z0c,hw,h1,a,decide_true,not_false_eq_true,decide_false]) (by
  have hn:¬ (d.length:Int)<d.length:=by omega
  rw [←hz']
  simp only [y7m,z0x,z0y,z0d,z0g,z06,z13,z0n,z0o,hn])
 rw [←hz] at key
 rcases key with ⟨k,h1,h2,_,h4⟩|⟨h1,h2⟩
 ·rw [if_pos ⟨k,List.mem_range.2 h1,of_decide_eq_true h2⟩]
  exact h4
 ·rw [if_neg]
  ·exact h2
  ·rintro ⟨k,hk,h⟩
   exact of_decide_eq_false (h1 k (List.mem_range.1 hk)) h
theorem w1d (d:List (List Int)) (hl:d.length≤10) (f:Nat→Nat→Bool):
  z4g (x4j std) (fld d.length f,((0:Int),((d.length:Int),((0:Int),()))))=
   if ∃ i∈List.range d.length,f i i=true then some (.inl (16,())) else some (.inr (fld d.length f,((0:Int),()))):=by
 have key:=z19 (b:=x4j std) d.length (fun i=>(fld d.length f,((0:Int),((d.length:Int),((i:Int),()))))) (fun i=>f i i) (fun i=> .inl (16,())) (.inr (fld d.length f,((0:Int),()))) (fun i hi=>by
  have hw:=z02 (i:=i) (by omega)
  have hlt:(i:Int)<d.length:=by omega
  have h0:(0:Int)≤i:=by omega
  have hi1:(i:Int)<((10:Nat):Int):=by omega
  have hg:=z2w d.length f i i (by omega) (by omega)
  generalize fld d.length f=F at hg⊢
  revert hg
  cases f i i<;>intro hg<;>simp only [x4j,z0x,z0y,hlt,h0,hi1,ge_iff_le,z0c,hw,hg,z14,z9v,cond_true,cond_false]<;>rfl) (by
  have hn:¬ (d.length:Int)<d.length:=by omega
  simp only [x4j,z0x,z0y,hn])
 rcases key with ⟨k,h1,h2,_,h4⟩|⟨h1,h2⟩
 ·rw [if_pos ⟨k,List.mem_range.2 h1,h2⟩]
  exact h4
 ·rw [if_neg]
  ·exact h2
  ·rintro ⟨k,hk,h⟩
   rw [h1 k (List.mem_range.1 hk)] at h
   exact Bool.noConfusion h
theorem w1c (n:Int) (N k:Nat) (hk:k<10) (f:Nat→Nat→Bool):
  z4g (x4i std) (fld n f,((0:Int),((k:Int),((N:Int),((k:Int),((k:Int),((0:Int),())))))))=
   if ∃ i∈List.range k,f i k=f k i then some (.inl (fld n f,(16,()))) else some (.inr (fld n f,((0:Int),((N:Int),((k:Int),()))))):=by
 have key:=z19 (b:=x4i std) k (fun i=>(fld n f,((0:Int),((k:Int),((N:Int),((k:Int),((k:Int),((i:Int),())))))))) (fun i=>f i k==f k i) (fun i=> .inl (fld n f,(16,()))) (.inr (fld n f,((0:Int),((N:Int),((k:Int),()))))) (fun i hi=>by
  have hw:=z02 (i:=i) (by omega)
  have hlt:(i:Int)<k:=by omega
  have h0:(0:Int)≤i:=by omega
  have h0':(0:Int)≤k:=by omega
  have hi1:(i:Int)<((10:Nat):Int):=by omega
  have hk1:(k:Int)<((10:Nat):Int):=by omega
  have hg:=z2w n f i k (by omega) (by omega)
  have hg':=z2w n f k i (by omega) (by omega)
  generalize fld n f=F at hg hg'⊢
  revert hg hg'
  cases f i k<;>cases f k i<;>intro hg hg'<;>simp only [x4i,z0x,z0y,hlt,h0,h0',hi1,hk1,ge_iff_le,z0c,hw,hg,hg',z14,z9v,cond_true,cond_false]<;>rfl) (by
  have hn:¬ (k:Int)<k:=by omega
  simp only [x4i,z0x,z0y,hn])
 rcases key with ⟨i,h1,h2,_,h4⟩|⟨h1,h2⟩
 ·rw [if_pos ⟨i,List.mem_range.2 h1,by simpa using h2⟩]
  exact h4
 ·rw [if_neg]
  ·exact h2
  ·rintro ⟨i,hi,h⟩
   have:=h1 i (List.mem_range.1 hi)
   simp [h] at this
theorem w0y (n:Int) (N:Nat) (hN:N≤10) (f:Nat→Nat→Bool):
  z4g (y7l it0 std) (fld n f,((0:Int),((N:Int),((0:Int),()))))=
   if ∃ k∈List.range N,∃ i∈List.range k,f i k=f k i then some (.inl (fld n f,(16,()))) else some (.inr (fld n f,((0:Int),()))):=by
 have key:=z19 (b:=y7l it0 std) N (fun k=>(fld n f,((0:Int),((N:Int),((k:Int),()))))) (fun k=>decide (∃ i∈List.range k,f i k=f k i)) (fun k=> .inl (fld n f,(16,()))) (.inr (fld n f,((0:Int),()))) (fun k hk=>by
  have hw:=z02 (i:=k) (by omega)
  have hlt:(k:Int)<N:=by omega
  have h1:it0 _ _ (x4i std) (fld n f,((0:Int),((k:Int),((N:Int),((k:Int),((k:Int),((0:Int),())))))))=_:=w1c n N k (by omega) f
  by_cases a:∃ i∈List.range k,f i k=f k i
  ·rw [if_pos a] at h1
   simp only [y7l,z0x,z0y,hlt,z0c,hw,h1,a,decide_true]
  ·rw [if_neg a] at h1
   simp only [y7l,z0x,z0y,hlt,z0c,hw,h1,a,decide_false]) (by
  have hn:¬ (N:Int)<N:=by omega
  simp only [y7l,z0x,z0y,hn])
 rcases key with ⟨i,h1,h2,_,h4⟩|⟨h1,h2⟩
 ·rw [if_pos ⟨i,List.mem_range.2 h1,of_decide_eq_true h2⟩]
  exact h4
 ·rw [if_neg]
  ·exact h2
  ·rintro ⟨i,hi,h⟩
   exact of_decide_eq_false (h1 i (List.mem_range.1 hi)) h
theorem w9g (d:List (List Int)) (hr:∀ l∈d,l.length≤1000000):G54 std (z0o fl d,())=some (if z1c d=0 then .inr (fld d.length (bt d),((0:Int),())) else .inl (z1c d,())):=by
 unfold G54
 by_cases h1:d.length=0
 ·have h1':((d.length:Nat):Int)=0:=by omega
  have hd:z1c d=6:=by rw [z1c,if_pos (.inl (by omega))]
  rw [hd]
  simp only [g54,z0x,z0y,z2m,h1']
  rfl
 ·have h1':¬ ((d.length:Nat):Int)=0:=by omega
  by_cases h2:10<d.length
  ·have h2':((d.length:Nat):Int)>10:=by omega
   have hd:z1c d=6:=by rw [z1c,if_pos (.inr h2)]
   rw [hd]
   simp only [g54,z0x,z0y,z2m,h1',h2']
   rfl
  ·have h2':¬ ((d.length:Nat):Int)>10:=by omega
   have e1:it0 _ _ (y7m it0 std) (fld d.length (fun _ _=>false),((0:Int),((d.length:Int),(z0o fl d,((d.length:Int),((0:Int),()))))))=_:=w0z d hr (by omega)
   have e2:it0 _ _ (x4j std) (fld d.length (bt d),((0:Int),((d.length:Int),((0:Int),()))))=_:=w1d d (by omega) (bt d)
   have e3:it0 _ _ (y7l it0 std) (fld d.length (bt d),((0:Int),((d.length:Int),((0:Int),()))))=_:=w0y d.length d.length (by omega) (bt d)
   have hf0:(fld d.length (bt d))[0]?=some (eI d.length):=rfl
   rw [x92] at e1
   simp only [List.replicate_succ,List.replicate_zero] at e1
   have hd:z1c d=if ∃ i∈List.range d.length,¬ z1o (d.getD i []) d.length then 3 else if ∃ i∈List.range d.length,z84 d i then 16 else 0:=by
    rw [z1c,if_neg (by omega)]
   rw [hd]
   simp only [eI] at e1
   by_cases a:∃ i∈List.range d.length,¬ z1o (d.getD i []) d.length
   ·rw [if_pos a] at e1⊢
    simp only [g54,z0x,z0y,z2m,h1',h2',e1]
    rfl
   ·rw [if_neg a] at e1⊢
    by_cases b:∃ i∈List.range d.length,bt d i i=true
    ·rw [if_pos b] at e2
     have hb:∃ i∈List.range d.length,z84 d i:=by
      obtain ⟨i,hi,h⟩:=b
      exact ⟨i,hi, .inl (by rw [bt] at h; exact of_decide_eq_true h)⟩
     rw [if_pos hb]
     simp only [g54,z0x,z0y,z2m,h1',h2',e1,e2]
     rfl
    ·rw [if_neg b] at e2
     by_cases c:∃ k∈List.range d.length,∃ i∈List.range k,bt d i k=bt d k i
     ·rw [if_pos c] at e3
      have hb:∃ i∈List.range d.length,z84 d i:=by
       obtain ⟨k,hk,i,hi,h⟩:=c
       exact ⟨k,hk, .inr ⟨i,hi,h⟩⟩
      rw [if_pos hb]
      simp only [g54,z0x,z0y,z2m,h1',h2',e1,e2,e3,hf0,z0g,z06]
      rfl
     ·rw [if_neg c] at e3
      have hb:¬ ∃ i∈List.range d.length,z84 d i:=by
       rintro ⟨k,hk,h|⟨i,hi,h⟩⟩
       ·exact b ⟨k,hk,by rw [bt]; exact decide_eq_true h⟩
       ·exact c ⟨k,hk,i,hi,h⟩
      rw [if_neg hb]
      simp only [g54,z0x,z0y,z2m,h1',h2',e1,e2,e3,hf0,z0g,z06]
end Go.Am
end
section
namespace Go.Am
variable {fl:List Int→Bool}
theorem w20 {l:List Int} (h:∀ x∈l,0≤x∧x≤100):0≤l.sum∧l.sum≤100*l.length:=by
 induction l with
 |nil=>simp
 |cons a l ih=>
  have h1:=h a (List.mem_cons_self ..)
  have h2:=ih fun x hx=>h x (List.mem_cons_of_mem _ hx)
  rw [List.sum_cons,List.length_cons]
  omega
theorem w9c (l:List Int) (hL:l.length≤1000) (h:∀ x∈l,0≤x∧x≤100):G70 std (z0d l,())=some (l.sum,()):=by
 unfold G70
 have key:it0 _ _ (x74 std) ((0:Int),(z0d l,((l.length:Int),((0:Int),()))))=some (l.sum,()):=by
  have:=z47 (b:=x74 std) l.length (fun i=>((l.take i).sum,(z0d l,((l.length:Int),((i:Int),()))))) (l.sum,()) (fun i hi=>by
   obtain ⟨m,hm⟩:=z1e hi
   have hw:=z02 (i:=i) (by omega)
   have hlt:(i:Int)<l.length:=by omega
   have h0:(0:Int)≤i:=by omega
   have ht:(l.take (i+1)).sum=(l.take i).sum+m:=by
    obtain ⟨h1,h2⟩:=List.getElem?_eq_some_iff.1 hm
    rw [List.take_succ_eq_append_getElem h1,h2,List.sum_append]
    simp
   have hb:=w20 (l:=l.take (i+1)) fun x hx=>h x (List.mem_of_mem_take hx)
   rw [ht,List.length_take] at hb
   have hw':IntKind.i64.wrap ((l.take i).sum+m)=(l.take i).sum+m:=y6a _ (by omega) (by omega)
   rw [ht]
   simp only [x74,z0x,z0y,z0d,z0g,z06,z13,z0n,z0o,hm,hlt,h0,ge_iff_le,z0c,hw,hw']) (by
   have hn:¬ (l.length:Int)<l.length:=by omega
   simp only [x74,z0x,z0y,z0d,z0g,z06,z13,z0n,z0o,hn,List.take_length])
  exact this
 simp only [g70,z0x,z0y,z0k,key]
end Go.Am
end
section
namespace Go.Am.T11
def o1 (b:Bool):Nat:=bif b then 1 else 0
def sm (n:Nat) (f:Nat→Nat):Nat:=
 match n with
 |0=>0
 |n+1=>sm n f+f n
def cnt (n:Nat) (p:Nat→Bool):Nat:=sm n fun i=>o1 (p i)
theorem z3u (n:Nat) (f:Nat→Nat):sm (n+1) f=sm n f+f n:=rfl
theorem z8o {n:Nat} {f g:Nat→Nat} (h:∀ i,i<n→f i=g i):sm n f=sm n g:=by
 induction n with
 |zero=>rfl
 |succ n ih=>rw [z3u,z3u,ih fun i hi=>h i (by omega),h n (by omega)]
theorem w28 {n:Nat} {f g:Nat→Nat} (h:∀ i,i<n→f i≤g i):sm n f≤sm n g:=by
 induction n with
 |zero=>exact Nat.le_refl _
 |succ n ih=>
  have:=ih fun i hi=>h i (by omega)
  have:=h n (by omega)
  rw [z3u,z3u]; omega
theorem x5i (n:Nat) (f g:Nat→Nat):sm n (fun i=>f i+g i)=sm n f+sm n g:=by
 induction n with
 |zero=>rfl
 |succ n ih=>rw [z3u,z3u,z3u,ih]; omega
theorem x5g (n:Nat):sm n (fun _=>0)=0:=by
 induction n with
 |zero=>rfl
 |succ n ih=>rw [z3u,ih]
theorem x1m (n c:Nat):sm n (fun _=>c)=n*c:=by
 induction n with
 |zero=>simp [sm]
 |succ n ih=>rw [z3u,ih,Nat.succ_mul]
theorem x83 {n:Nat} {f g:Nat→Nat} (h:∀ i,i<n→f i≤g i) (he:sm n f=sm n g):∀ i,i<n→f i=g i:=by
 induction n with
 |zero=>intro i hi; omega
 |succ n ih=>
  intro i hi
  have h1:=w28 (n:=n) fun i hi=>h i (by omega)
  have h2:=h n (by omega)
  rw [z3u,z3u] at he
  by_cases e:i=n
  ·subst e; omega
  ·exact ih (fun i hi=>h i (by omega)) (by omega) i (by omega)
theorem y6q (n k:Nat) (f:Nat→Nat):sm (n+k) f=sm n f+sm k fun i=>f (n+i):=by
 induction k with
 |zero=>rfl
 |succ k ih=>rw [←Nat.add_assoc,z3u,z3u,ih]; omega
theorem w27 {n m:Nat} (f:Nat→Nat) (h:n≤m):sm n f≤sm m f:=by
 obtain ⟨k,rfl⟩:=Nat.exists_eq_add_of_le h
 rw [y6q]; omega
theorem v1a (b:Bool):o1 b≤1:=by cases b<;>simp [o1]
theorem y7g (n:Nat) (p:Nat→Bool):cnt (n+1) p=cnt n p+o1 (p n):=rfl
theorem y0s {n:Nat} {p q:Nat→Bool} (h:∀ i,i<n→p i=q i):cnt n p=cnt n q:=z8o fun i hi=>by rw [h i hi]
theorem w8n (n:Nat) (p:Nat→Bool):cnt n p≤n:=by
 have:=w28 (n:=n) (f:=fun i=>o1 (p i)) (g:=fun _=>1) fun i _=>v1a _
 rw [x1m] at this; rw [cnt]; omega
theorem y0r (n:Nat):cnt n (fun _=>false)=0:=x5g n
theorem x7o (n:Nat) (p:Nat→Bool):cnt n p+cnt n (fun i=>!p i)=n:=by
 rw [cnt,cnt, ←x5i]
 rw [z8o (g:=fun _=>1) fun i _=>by cases p i<;>rfl,x1m,Nat.mul_one]
theorem w0w {n:Nat} {p:Nat→Bool} (h:cnt n p=0):∀ i,i<n→p i=false:=by
 intro i hi
 have:=x83 (n:=n) (f:=fun _=>0) (g:=fun i=>o1 (p i)) (fun i _=>Nat.zero_le _) (by rw [x5g]; exact h.symm) i hi
 cases hp:p i with
 |false=>rfl
 |true=>simp [hp,o1] at this
theorem w5c {n:Nat} {p:Nat→Bool} {i:Nat} (hi:i<n) (h:p i=true):0<cnt n p:=by
 refine Nat.pos_of_ne_zero fun h0=>?_
 rw [w0w h0 i hi] at h; cases h
def c2:Nat→Nat
 |0=>0
 |n+1=>c2 n+n
def c3:Nat→Nat
 |0=>0
 |n+1=>c3 n+c2 n
theorem w8w (n:Nat):2*c2 n=n*(n - 1):=by
 induction n with
 |zero=>rfl
 |succ n ih=>
  rw [c2,Nat.mul_add,ih,Nat.add_sub_cancel]
  cases n with
  |zero=>rfl
  |succ n=>rw [Nat.add_sub_cancel,Nat.mul_comm (n+1) n, ←Nat.add_mul]
section
variable (b:Nat→Nat→Bool)
def w2p (n:Nat):Prop:=(∀ i,i<n→b i i=false)∧∀ i k,i<n→k<n→i≠k→b i k=!b k i
end
variable {b:Nat→Nat→Bool} {N:Nat}
end Go.Am.T11
end
section
namespace Go.Am.T11
variable {b:Nat→Nat→Bool} {N n:Nat}
theorem x1i (h:w2p b N) (k:Nat) (hk:k≤N):sm k (fun q=>cnt k (b q))=c2 k:=by
 induction k with
 |zero=>rfl
 |succ k ih=>
  rw [z3u,c2]
  simp only [y7g]
  rw [x5i,ih (by omega),h.1 k (by omega)]
  have:sm k (fun i=>o1 (b i k))+cnt k (b k)=k:=by
   have:=x7o k (b k)
   have e:sm k (fun i=>o1 (b i k))=cnt k fun i=>!b k i:=z8o fun i hi=>by rw [h.2 i k (by omega) (by omega) (by omega)]
   rw [e]; omega
  simp only [o1,cond_false] at this⊢
  omega
theorem y34 (k m:Nat) (p:Nat→Bool):cnt (k+m) p=cnt k p+cnt m fun j=>p (k+j):=y6q k m _
theorem w67 (h:w2p b N) (k:Nat) (hk:k≤N):c2 k≤sm k (fun q=>cnt N (b q)):=by
 rw [←x1i h k hk]
 exact w28 fun q hq=>w27 _ hk
def cut (b:Nat→Nat→Bool) (n k:Nat):Prop:=sm k (fun q=>cnt n (b q))=c2 k+k*(n - k)
instance (b:Nat→Nat→Bool) (n k:Nat):Decidable (cut b n k):=by unfold cut; infer_instance
def at_ (s:List Nat) (q:Nat):Nat:=s.getD q 0
theorem x5h (l:List Nat) (f:Nat→Nat):sm l.length (fun q=>f (at_ l q))=(l.map f).sum:=by
 induction l with
 |nil=>rfl
 |cons a l ih=>
  rw [List.length_cons,Nat.add_comm,y6q,List.map_cons,List.sum_cons, ←ih]
  congr 1
  ·simp [sm,at_]
  ·refine z8o fun i hi=>?_
   simp [at_,Nat.add_comm 1 i]
theorem x82 (n:Nat) (f:Nat→Nat):sm n f=((List.range n).map f).sum:=by
 have:=x5h (List.range n) f
 rw [List.length_range] at this
 rw [←this]
 refine z8o fun i hi=>?_
 rw [at_,List.getD_eq_getElem?_getD,List.getElem?_range hi]; rfl
def y7q (n:Nat) (s:List Nat):Prop:=s.Perm (List.range n)
variable {s:List Nat}
theorem y7q.len (h:y7q n s):s.length=n:=by rw [h.length_eq,List.length_range]
theorem y7q.sum (h:y7q n s) (f:Nat→Nat):sm n (fun q=>f (at_ s q))=sm n f:=by
 have:=x5h s f
 rw [h.len] at this
 rw [this,x82]
 exact (h.map f).sum_nat
theorem y7q.count (h:y7q n s) (p:Nat→Bool):cnt n (fun q=>p (at_ s q))=cnt n p:=h.sum fun i=>o1 (p i)
theorem y7q.get (h:y7q n s) {q:Nat} (hq:q<n):s[q]?=some (at_ s q):=by
 rw [at_,List.getD_eq_getElem?_getD,List.getElem?_eq_getElem (by rw [h.len]; exact hq)]; rfl
theorem y7q.lt (h:y7q n s) {q:Nat} (hq:q<n):at_ s q<n:=List.mem_range.1 (h.mem_iff.1 (List.mem_of_getElem? (h.get hq)))
theorem y7q.nodup (h:y7q n s):s.Nodup:=h.nodup_iff.2 List.nodup_range
theorem y7q.inj (h:y7q n s) {q r:Nat} (hq:q<n) (hr:r<n) (he:at_ s q=at_ s r):q=r:=by
 have h1:=h.get hq
 have h2:=h.get hr
 rw [←he] at h2
 exact (List.getElem?_inj (by rw [h.len]; exact hq) h.nodup).1 (h1.trans h2.symm)
theorem y7q.ex (h:y7q n s) {i:Nat} (hi:i<n):∃ q,q<n∧at_ s q=i:=by
 have:=h.mem_iff.2 (List.mem_range.2 hi)
 obtain ⟨q,hq⟩:=List.getElem?_of_mem this
 have hl:q<n:=by rw [←h.len]; exact (List.getElem?_eq_some_iff.1 hq).1
 refine ⟨q,hl,?_⟩
 have:=h.get hl
 rw [hq] at this; cases this; rfl
def byR (b:Nat→Nat→Bool) (s:List Nat) (q r:Nat):Bool:=b (at_ s q) (at_ s r)
theorem w01 (h:w2p b n) (hs:y7q n s):w2p (byR b s) n:=
 ⟨fun i hi=>h.1 _ (hs.lt hi),fun i k hi hk hne=>h.2 _ _ (hs.lt hi) (hs.lt hk) fun e=>hne (hs.inj hi hk e)⟩
theorem w5k (hs:y7q n s) (q:Nat):cnt n (byR b s q)=cnt n (b (at_ s q)):=hs.count (b (at_ s q))
theorem w6i {l l':List Nat} (h:l.Pairwise (· < ·)) (h':l'.Pairwise (· < ·)) (he:∀ x,x∈l↔x∈l'):l=l':=by
 induction l generalizing l' with
 |nil=>cases l' with
  |nil=>rfl
  |cons a l'=>exact absurd ((he a).2 (List.mem_cons_self ..)) (by simp)
 |cons a l ih=>cases l' with
  |nil=>exact absurd ((he a).1 (List.mem_cons_self ..)) (by simp)
  |cons a' l'=>
   rw [List.pairwise_cons] at h h'
   have e:a=a':=by
    have h1:=(he a).1 (List.mem_cons_self ..)
    have h2:=(he a').2 (List.mem_cons_self ..)
    rcases List.mem_cons.1 h1 with h1|h1
    ·exact h1
    ·rcases List.mem_cons.1 h2 with h2|h2
     ·exact h2.symm
     ·have:=h.1 _ h2; have:=h'.1 _ h1; omega
   subst e
   rw [ih h.2 h'.2 fun x=>?_]
   have:=he x
   simp only [List.mem_cons] at this
   constructor
   ·intro hx
    rcases this.1 (.inr hx) with rfl|h1
    ·have:=h.1 _ hx; omega
    ·exact h1
   ·intro hx
    rcases this.2 (.inr hx) with rfl|h1
    ·have:=h'.1 _ hx; omega
    ·exact h1
variable {rc:Nat→Nat}
end Go.Am.T11
end
section
namespace Go.Am.T11
def Lan (L:List Int):Prop:=(∀ T:List Int,T.Sublist L→(c2 T.length:Int)≤T.sum)∧L.sum=c2 L.length
theorem y2b {L L':List Int} (h:L.Perm L'):L.sum=L'.sum:=by
 induction h with
 |nil=>rfl
 |cons a _ ih=>simp [ih]
 |swap a b l=>simp; omega
 |trans _ _ h1 h2=>exact h1.trans h2
theorem Lan.perm {L L':List Int} (h:Lan L) (hp:L.Perm L'):Lan L':=by
 refine ⟨fun T hT=>?_,?_⟩
 ·obtain ⟨T',h1,h2⟩:=List.exists_perm_sublist hT hp.symm
  have:=h.1 T' h2
  rw [h1.length_eq,y2b h1] at this
  exact this
 ·rw [←y2b hp,h.2,hp.length_eq]
theorem x9g {T K:List Int} (h:T.Sublist K) (hne:T≠K):∃ (y:Int) (K1:List Int),y∈K∧K1.Sublist K∧K1.Perm (y::T):=by
 induction h with
 |slnil=>exact absurd rfl hne
 |cons a hs ih=>exact ⟨a,a::_,List.mem_cons_self .., .cons_cons a hs, .refl _⟩
 |cons_cons a hs ih=>
  obtain ⟨y,K1,h1,h2,h3⟩:=ih fun e=>hne (by rw [e])
  exact ⟨y,a::K1,List.mem_cons_of_mem _ h1, .cons_cons a h2,(h3.cons a).trans (.swap _ _ _)⟩
theorem x46 (L:List Int):(L.map (· - 1)).sum=L.sum - L.length:=by
 induction L with
 |nil=>rfl
 |cons a L ih=>simp [ih]; omega
theorem Lan.step {v:Int} {L:List Int} (h:Lan (v::L)) (hs:L.Pairwise (· ≤ ·)):
  0≤v∧v≤L.length∧Lan (L.take v.toNat++(L.drop v.toNat).map (· - 1)):=by
 have h0:0≤v:=by
  have:=h.1 [v] (.cons_cons v (List.nil_sublist _))
  simpa [c2] using this
 have htot:=h.2
 rw [List.sum_cons,List.length_cons,c2] at htot
 have h1:v≤L.length:=by
  have:=h.1 L (.cons v (List.Sublist.refl _))
  omega
 refine ⟨h0,h1,?_,?_⟩
 ·intro T hT
  obtain ⟨T1,T2',rfl,hT1,hT2'⟩:=List.sublist_append_iff.1 hT
  obtain ⟨T2,hT2,rfl⟩:=List.sublist_map_iff.1 hT2'
  rw [List.length_append,List.length_map,List.sum_append,x46]
  have hKD:∀ y∈L.take v.toNat,∀ z∈L.drop v.toNat,y≤z:=by
   intro y hy z hz
   have:=hs
   rw [←List.take_append_drop v.toNat L,List.pairwise_append] at this
   exact this.2.2 y hy z hz
  have hKl:(L.take v.toNat).length=v.toNat:=by rw [List.length_take]; omega
  have hDl:(L.drop v.toNat).length=L.length - v.toNat:=List.length_drop ..
  have hall:∀ T1 T2:List Int,T1.Sublist (L.take v.toNat)→T2.Sublist (L.drop v.toNat)→(T1++T2).Sublist L:=fun T1 T2 a b=>by
   have:=a.append b
   rwa [List.take_append_drop] at this
  have key:∀ m:Nat,∀ T1 T2:List Int,T1.Sublist (L.take v.toNat)→T2.Sublist (L.drop v.toNat)→
    (T1.sum+T2.sum - T2.length - c2 (T1.length+T2.length)+L.length).toNat*(L.length+1)+(T1.length+T2.length)≤m→
    (c2 (T1.length+T2.length):Int)≤T1.sum+(T2.sum - T2.length):=by
   intro m
   induction m with
   |zero=>
    intro T1 T2 a b hm
    have e1:T1.length+T2.length=0:=by omega
    have e2:T1=[]:=List.length_eq_zero_iff.1 (by omega)
    have e3:T2=[]:=List.length_eq_zero_iff.1 (by omega)
    subst e2 e3; simp [c2]
   |succ m ih=>
    intro T1 T2 a b hm
    have hsub:=h.1 (T1++T2) (.cons v (hall T1 T2 a b))
    rw [List.length_append,List.sum_append] at hsub
    have hl1:=a.length_le
    have hl2:=b.length_le
    refine Int.not_lt.1 fun hneg=>?_
    match T2,b with
    |[],_=>simp at hneg hsub; omega
    |z::T2,b=>
     rw [List.length_cons,List.sum_cons] at*
     have hz:z∈L.drop v.toNat:=b.subset (List.mem_cons_self ..)
     by_cases hK:T1=L.take v.toNat
     ·have:=h.1 (v::(T1++(z::T2))) (.cons_cons v (hall T1 (z::T2) a b))
      rw [List.length_cons,List.sum_cons,List.length_append,List.sum_append,c2,List.length_cons,List.sum_cons] at this
      have hTl:T1.length=v.toNat:=by rw [hK,hKl]
      push_cast at*
      omega
     ·obtain ⟨y,K1,hy,hK1,hp⟩:=x9g a hK
      have hyz:=hKD y hy z hz
      have hv1:=List.length_pos_of_mem hy
      rw [hKl] at hv1
      rw [hDl] at hl2
      have hKl1:=hp.length_eq
      have hKs:=y2b hp
      rw [List.length_cons] at hKl1
      rw [List.sum_cons] at hKs
      by_cases hyk:y<(T1.length+(T2.length+1):Nat)
      ·have:=ih K1 (z::T2) hK1 b (by
        rw [List.length_cons,List.sum_cons,hKl1,hKs,show T1.length+1+(T2.length+1)=T1.length+(T2.length+1)+1 by omega,c2]
        generalize c2 (T1.length+(T2.length+1))=C at*
        have hd:(y+T1.sum+(z+T2.sum) - ((T2.length+1:Nat):Int) - ((C+(T1.length+(T2.length+1)):Nat):Int)+(L.length:Int)).toNat+1≤
          (T1.sum+(z+T2.sum) - ((T2.length+1:Nat):Int) - (C:Int)+(L.length:Int)).toNat:=by omega
        have hmul:=Nat.mul_le_mul_right (L.length+1) hd
        rw [Nat.add_mul,Nat.one_mul] at hmul
        have:0<L.length:=by
         have:=List.length_pos_of_mem hz
         omega
        omega)
       rw [List.length_cons,List.sum_cons,hKl1,hKs,show T1.length+1+(T2.length+1)=T1.length+(T2.length+1)+1 by omega,c2] at this
       push_cast at*
       omega
      ·have b':T2.Sublist (L.drop v.toNat):=(List.sublist_cons_self z T2).trans b
       have e1:T1.length+(T2.length+1)=T1.length+T2.length+1:=by omega
       have hc2:c2 (T1.length+(T2.length+1))=c2 (T1.length+T2.length)+(T1.length+T2.length):=by rw [e1,c2]
       rw [hc2] at hneg hm hsub
       have hsub':=h.1 (T1++T2) (.cons v (hall T1 T2 a b'))
       rw [List.length_append,List.sum_append] at hsub'
       have:=ih T1 T2 a b' (by
        generalize c2 (T1.length+T2.length)=C at*
        have hd:(T1.sum+T2.sum - ((T2.length:Nat):Int) - (C:Int)+(L.length:Int)).toNat≤
          (T1.sum+(z+T2.sum) - ((T2.length+1:Nat):Int) - ((C+(T1.length+T2.length):Nat):Int)+(L.length:Int)).toNat:=by omega
        have hmul:=Nat.mul_le_mul_right (L.length+1) hd
        omega)
       push_cast at*
       omega
  exact key _ T1 T2 hT1 hT2 (Nat.le_refl _)
 ·have hl:(L.take v.toNat++(L.drop v.toNat).map (· - 1)).length=L.length:=by
   rw [List.length_append,List.length_map, ←List.length_append,List.take_append_drop]
  have hsum:(L.take v.toNat).sum+(L.drop v.toNat).sum=L.sum:=by
   rw [←List.sum_append,List.take_append_drop]
  rw [hl,List.sum_append,x46,List.length_drop]
  push_cast at*
  omega
theorem x6b {L T:List Int} (hs:L.Pairwise (· ≤ ·)) (h:T.Sublist L):(L.take T.length).sum≤T.sum:=by
 induction h with
 |slnil=>simp
 |@cons T L a hT ih=>
  rw [List.pairwise_cons] at hs
  have:=ih hs.2
  cases hk:T.length with
  |zero=>
   have:T=[]:=List.length_eq_zero_iff.1 hk
   subst this; simp
  |succ k=>
   have hle:=hT.length_le
   rw [hk] at this hle
   obtain ⟨x,hx⟩:∃ x,L[k]?=some x:=⟨_,List.getElem?_eq_getElem (by omega)⟩
   obtain ⟨h1,h2⟩:=List.getElem?_eq_some_iff.1 hx
   rw [List.take_succ_eq_append_getElem h1,List.sum_append,h2] at this
   have h3:=hs.1 x (List.mem_of_getElem? hx)
   simp at this⊢
   omega
 |cons_cons a hT ih=>
  rw [List.pairwise_cons] at hs
  have:=ih hs.2
  simp; omega
def z3z (n k:Nat) (sum:Int):Prop:=sum<c2 k∨k=n∧sum≠c2 k
instance (n k:Nat) (sum:Int):Decidable (z3z n k sum):=by unfold z3z; infer_instance
theorem z9p (L:List Int):¬ Lan L↔∃ T:List Int,T.Sublist L∧z3z L.length T.length T.sum:=by
 constructor
 ·intro h
  refine Classical.byContradiction fun hno=>h ⟨fun T hT=>?_,?_⟩
  ·exact Int.not_lt.1 fun hlt=>hno ⟨T,hT, .inl hlt⟩
  ·exact Classical.byContradiction fun hne=>hno ⟨L,List.Sublist.refl _, .inr ⟨rfl,hne⟩⟩
 ·rintro ⟨T,hT,h1|⟨h1,h2⟩⟩ h
  ·have:=h.1 T hT; omega
  ·have:=hT.eq_of_length h1
   subst this; exact h2 h.2
theorem x9r {L S:List Int} (hp:L.Perm S) (hs:S.Pairwise (· ≤ ·)):Lan L↔∀ k,1≤k→k≤L.length→¬ z3z L.length k (S.take k).sum:=by
 constructor
 ·intro h k h1 h2 hsh
  have hS:=h.perm hp
  have hk:(S.take k).length=k:=by rw [List.length_take, ←hp.length_eq]; omega
  exact (z9p S).2 ⟨S.take k,List.take_sublist ..,by rw [hk, ←hp.length_eq]; exact hsh⟩ hS
 ·intro h
  refine Classical.byContradiction fun hno=>?_
  have hS:¬ Lan S:=fun h=>hno (h.perm hp.symm)
  obtain ⟨T,hT,hsh⟩:=(z9p S).1 hS
  have hle:=x6b hs hT
  have hl:=hT.length_le
  rw [←hp.length_eq] at hl hsh
  cases hT0:T.length with
  |zero=>
   have:T=[]:=List.length_eq_zero_iff.1 hT0
   subst this
   rcases hsh with h1|⟨h1,h2⟩
   ·simp [c2] at h1
   ·simp [c2] at h2
  |succ k=>
   rw [hT0] at hle hsh hl
   refine h (k+1) (by omega) hl ?_
   rcases hsh with h1|⟨h1,h2⟩
   ·exact .inl (by omega)
   ·refine .inr ⟨h1,?_⟩
    have:T=S:=hT.eq_of_length (by rw [hT0,h1,hp.length_eq])
    subst this
    rw [List.take_of_length_le (by omega)]; exact h2
end Go.Am.T11
end
section
namespace Go.Am.T11
def gI (l:List Int) (q:Nat):Int:=l.getD q 0
def sw (l:List Int) (j:Nat):List Int:=(l.set (j+1) (gI l j)).set j (gI l (j+1))
def y3r (κ:Int→Int):Nat→List Int→List Int
 |0,l=>l
 |j+1,l=>if κ (gI l (j+1))<κ (gI l j) then y3r κ j (sw l j) else l
def y8z (κ:Int→Int):Nat→Nat→List Int→List Int
 |0,_,l=>l
 |k+1,i,l=>y8z κ k (i+1) (y3r κ i l)
def z3a (κ:Int→Int) (l:List Int):List Int:=y8z κ (l.length - 1) 1 l
theorem z6r (l:List Int) (j:Nat):(sw l j).length=l.length:=by simp [sw]
theorem x32 {l:List Int} {j:Nat} (hj:j+1<l.length) (q:Nat):gI (sw l j) q=if q=j then gI l (j+1) else if q=j+1 then gI l j else gI l q:=by
 have e:gI (sw l j) q=((sw l j)[q]?).getD 0:=by rw [gI,List.getD_eq_getElem?_getD]
 rw [e,sw,List.getElem?_set,List.getElem?_set,List.length_set]
 by_cases h1:q=j
 ·subst h1; rw [if_pos rfl,if_pos (by omega),if_pos rfl]; rfl
 ·by_cases h2:q=j+1
  ·subst h2; rw [if_neg (by omega),if_pos rfl,if_pos hj,if_neg h1,if_pos rfl]; rfl
  ·rw [if_neg (by omega),if_neg (by omega),if_neg h1,if_neg h2,gI,List.getD_eq_getElem?_getD]
theorem w7n {l l':List Int} (hl:l.length=l'.length) (h:∀ q,q<l.length→gI l q=gI l' q):l=l':=by
 apply List.ext_getElem hl
 intro i h1 h2
 have:=h i h1
 simpa [gI,List.getD_eq_getElem?_getD,h1,h2] using this
theorem w2z {l:List Int} {j:Nat} (hj:j+1<l.length):(sw l j).Perm l:=by
 have e:l=l.take j++(gI l j::gI l (j+1)::l.drop (j+2)):=by
  conv=>lhs; rw [←List.take_append_drop j l]
  congr 1
  rw [List.drop_eq_getElem_cons (by omega),List.drop_eq_getElem_cons (by omega)]
  simp [gI,List.getD_eq_getElem?_getD,show j<l.length by omega,hj]
 have e2:sw l j=l.take j++(gI l (j+1)::gI l j::l.drop (j+2)):=by
  apply w7n
  ·simp only [z6r,List.length_append,List.length_take,List.length_cons,List.length_drop]; omega
  ·intro q hq
   rw [z6r] at hq
   rw [x32 hj]
   have hlt:(l.take j).length=j:=by rw [List.length_take]; omega
   have hR:gI (l.take j++(gI l (j+1)::gI l j::l.drop (j+2))) q=((l.take j++(gI l (j+1)::gI l j::l.drop (j+2)))[q]?).getD 0:=by rw [gI,List.getD_eq_getElem?_getD]
   rw [hR,List.getElem?_append,hlt]
   by_cases h1:q<j
   ·rw [if_neg (by omega),if_neg (by omega),if_pos h1,List.getElem?_take_of_lt h1,gI,List.getD_eq_getElem?_getD]
   ·rw [if_neg h1]
    by_cases h2:q=j
    ·subst h2; rw [if_pos rfl,Nat.sub_self]; rfl
    ·by_cases h3:q=j+1
     ·subst h3; rw [if_neg h2,if_pos rfl,show j+1 - j=1 by omega]; rfl
     ·rw [if_neg h2,if_neg h3]
      obtain ⟨m,rfl⟩:∃ m,q=j+2+m:=⟨q - (j+2),by omega⟩
      rw [show j+2+m - j=m+2 by omega,List.getElem?_cons_succ,List.getElem?_cons_succ,List.getElem?_drop,gI,List.getD_eq_getElem?_getD]
 rw [e2]
 conv=>rhs; rw [e]
 exact List.Perm.append_left _ (.swap _ _ _)
theorem z8t (κ:Int→Int) (j:Nat) (l:List Int):(y3r κ j l).length=l.length:=by
 induction j generalizing l with
 |zero=>rfl
 |succ j ih=>
  rw [y3r]
  split
  ·rw [ih,z6r]
  ·rfl
theorem x9z (κ:Int→Int) (k i:Nat) (l:List Int):(y8z κ k i l).length=l.length:=by
 induction k generalizing i l with
 |zero=>rfl
 |succ k ih=>rw [y8z,ih,z8t]
theorem x6i (κ:Int→Int) (j:Nat) (l:List Int) (hj:j<l.length):(y3r κ j l).Perm l:=by
 induction j generalizing l with
 |zero=>exact .refl _
 |succ j ih=>
  rw [y3r]
  split
  ·exact (ih _ (by rw [z6r]; omega)).trans (w2z hj)
  ·exact .refl _
theorem x6h (κ:Int→Int) (k i:Nat) (l:List Int) (h:i+k≤l.length):(y8z κ k i l).Perm l:=by
 induction k generalizing i l with
 |zero=>exact .refl _
 |succ k ih=>
  rw [y8z]
  exact (ih _ _ (by rw [z8t]; omega)).trans (x6i κ i l (by omega))
def w3e (κ:Int→Int) (l:List Int) (i:Nat):Prop:=∀ p q,p<q→q≤i→κ (gI l p)≤κ (gI l q)
theorem x90 (κ:Int→Int) (i j:Nat) (l:List Int) (hj:j≤i) (hi:i<l.length)
  (h1:∀ p q,p<q→q≤i→p≠j→q≠j→κ (gI l p)≤κ (gI l q)) (h2:∀ q,j<q→q≤i→κ (gI l j)≤κ (gI l q)):w3e κ (y3r κ j l) i:=by
 induction j generalizing l with
 |zero=>
  intro p q hpq hq
  by_cases hp:p=0
  ·subst hp; exact h2 q hpq hq
  ·exact h1 p q hpq hq hp (by omega)
 |succ j ih=>
  rw [y3r]
  split
  ·rename_i hlt
   refine ih _ (by omega) (by rw [z6r]; exact hi) (fun p q hpq hq hp hqj=>?_) (fun q hjq hq=>?_)
   ·rw [x32 (by omega),x32 (by omega),if_neg hp,if_neg hqj]
    by_cases e:p=j+1
    ·rw [if_pos e,if_neg (by omega)]
     exact h1 j q (by omega) hq (by omega) (by omega)
    ·rw [if_neg e]
     by_cases e2:q=j+1
     ·rw [if_pos e2]
      exact h1 p j (by omega) (by omega) e (by omega)
     ·rw [if_neg e2]
      exact h1 p q hpq hq e e2
   ·rw [x32 (by omega),x32 (by omega),if_pos rfl,if_neg (by omega)]
    by_cases e2:q=j+1
    ·rw [if_pos e2]; omega
    ·rw [if_neg e2]; exact h2 q (by omega) hq
  ·rename_i hge
   intro p q hpq hq
   by_cases e:q=j+1
   ·subst e
    by_cases e2:p=j
    ·subst e2; omega
    ·have:=h1 p j (by omega) (by omega) (by omega) (by omega)
     omega
   ·by_cases e2:p=j+1
    ·subst e2; exact h2 q hpq hq
    ·exact h1 p q hpq hq e2 e
theorem x9y (κ:Int→Int) (k i:Nat) (l:List Int) (hi:1≤i) (h:i+k≤l.length) (ho:w3e κ l (i - 1)):w3e κ (y8z κ k i l) (i+k - 1):=by
 induction k generalizing i l with
 |zero=>exact ho
 |succ k ih=>
  rw [y8z]
  have:=ih (i+1) (y3r κ i l) (by omega) (by rw [z8t]; omega) (by
   rw [Nat.add_sub_cancel]
   exact x90 κ i i l (Nat.le_refl _) (by omega) (fun p q hpq hq hp hqi=>ho p q hpq (by omega)) (fun q h1 h2=>by omega))
  rwa [show i+1+k - 1=i+(k+1) - 1 by omega] at this
theorem z4x (κ:Int→Int) (l:List Int):(z3a κ l).length=l.length:=x9z ..
theorem z8n (κ:Int→Int) (l:List Int):(z3a κ l).Perm l:=by
 cases hl:l.length with
 |zero=>
  have:l=[]:=List.length_eq_zero_iff.1 hl
  subst this; exact .refl _
 |succ n=>exact x6h κ _ _ _ (by omega)
theorem x5f (κ:Int→Int) (l:List Int):∀ p q,p≤q→q<l.length→κ (gI (z3a κ l) p)≤κ (gI (z3a κ l) q):=by
 intro p q hpq hq
 by_cases e:p=q
 ·subst e; exact Int.le_refl _
 ·exact x9y κ (l.length - 1) 1 l (Nat.le_refl _) (by omega) (fun p q h1 h2=>by omega) p q (by omega) (by omega)
theorem y6p (κ:Int→Int) (l:List Int):(z3a κ l).Pairwise fun a b=>κ a≤κ b:=by
 rw [List.pairwise_iff_getElem]
 intro i j hi hj hij
 have:=x5f κ l i j (by omega) (by rw [z4x] at hj; exact hj)
 simpa [gI,List.getD_eq_getElem?_getD,hi,hj] using this
end Go.Am.T11
end
noncomputable section
namespace Go.Am
def x2u:Ctr:=
 ⟨93,[.full 0 1, .int .i64, .int .i64],[.row [ci]],[]⟩
def v54:Prim→Tup (x2u).scs→Option (STup (scss (x2u).outs)):=
 fun _ _=>none
theorem x68:z2r Go.Proofs.Try.prog 93:=enters_auto (b:=_) rfl (by kernel_rfl)
theorem v0u:CtrOk Go.Proofs.Try.prog x2u (v54 std):=⟨x68,fun x y h=>by cases h⟩
def x2s:Ctr:=
 ⟨94,[.full 0 1, .int .i64, .int .i64],[.row [ci]],[]⟩
def v52:Prim→Tup (x2s).scs→Option (STup (scss (x2s).outs)):=
 fun _ _=>none
theorem x66:z2r Go.Proofs.Try.prog 94:=enters_auto (b:=_) rfl (by kernel_rfl)
theorem v0s:CtrOk Go.Proofs.Try.prog x2s (v52 std):=⟨x66,fun x y h=>by cases h⟩
def x2q:Ctr:=
 ⟨95,[.full 0 1, .int .i64, .int .i64],[.row [ci]],[]⟩
def v50:Prim→Tup (x2q).scs→Option (STup (scss (x2q).outs)):=
 fun _ _=>none
theorem x64:z2r Go.Proofs.Try.prog 95:=enters_auto (b:=_) rfl (by kernel_rfl)
theorem v0q:CtrOk Go.Proofs.Try.prog x2q (v50 std):=⟨x64,fun x y h=>by cases h⟩
def w17:Ctr:=
 ⟨92,[.full 0 1, .int .i64, .int .i64],[.row [ci]],[(.ret,⟨[(0, .tuple [])],[.row [ci]],1⟩)]⟩
def v1v:List LA:=
 [⟨92,[false,true],1,⟨⟨[(0, .full 0 1),(1, .int .i64),(2, .int .i64),(6, .int .i64)],[.row [ci]],49⟩,[((AX.exit 0),⟨[],[.row [ci]],49⟩)]⟩⟩,
 ⟨92,[false,true,false,false,true,false,false,true],1,⟨⟨[(0, .full 0 1),(1, .int .i64),(2, .int .i64),(6, .int .i64),(7, .int .i64)],[.row [ci]],49⟩,[((AX.exit 2),⟨[(0, .full 0 1),(1, .int .i64),(2, .int .i64),(6, .int .i64)],[.row [ci]],49⟩)]⟩⟩]
def v16:List JA:=
 []
def w7e:List CF:=
 [⟨w4x,G98⟩]
def v4m:Anns:=
 ⟨w7e,v16,[]⟩
def w82 (p:Prim):(LD×T7)→Option ((LD×T7)⊕(LD×T4)):=
 fun a=>opt.run _ (
 opt.ask _ (p.cmp .gtr a.2.2.2.2.1 a.2.1) (
 opt.need _ (bif (p.cmp .geq a.2.2.2.2.1 (0:Int)) then (p.cmp .lss a.2.2.2.2.1 (p.ofNat (p.len a.1))) else Bool.false)<|
 opt.need _ (p.rowOk a.1 (p.add 0 (p.nat a.2.2.2.2.1)) [ci])<|
 opt.need _ (bif (p.cmp .geq (p.ar .sub .i64 a.2.2.2.2.1 (1:Int)) (0:Int)) then (p.cmp .lss (p.ar .sub .i64 a.2.2.2.2.1 (1:Int)) (p.ofNat (p.len a.1))) else Bool.false)<|
 opt.need _ (p.rowOk a.1 (p.add 0 (p.nat (p.ar .sub .i64 a.2.2.2.2.1 (1:Int)))) [ci])<|
 opt.bnd T0 _ (G98 p ((p.rdI a.1 (p.add 0 (p.nat a.2.2.2.2.1)) 0),((p.rdI a.1 (p.add 0 (p.nat (p.ar .sub .i64 a.2.2.2.2.1 (1:Int)))) 0),()))) fun b=>
 opt.ask _ b.1 (
 opt.need _ (bif (p.cmp .geq (p.ar .sub .i64 a.2.2.2.2.1 (1:Int)) (0:Int)) then (p.cmp .lss (p.ar .sub .i64 a.2.2.2.2.1 (1:Int)) (p.ofNat (p.len a.1))) else Bool.false)<|
 opt.need _ (p.rowOk a.1 (p.add 0 (p.nat (p.ar .sub .i64 a.2.2.2.2.1 (1:Int)))) [ci])<|
 opt.need _ (bif (p.cmp .geq a.2.2.2.2.1 (0:Int)) then (p.cmp .lss a.2.2.2.2.1 (p.ofNat (p.len a.1))) else Bool.false)<|
 opt.need _ (p.rowOk a.1 (p.add 0 (p.nat a.2.2.2.2.1)) [ci])<|
 opt.need _ (bif (p.cmp .geq a.2.2.2.2.1 (0:Int)) then (p.cmp .lss a.2.2.2.2.1 (p.ofNat (p.len a.1))) else Bool.false)<|
 opt.need _ (p.rowOk a.1 (p.add 0 (p.nat a.2.2.2.2.1)) [ci])<|
 opt.need _ (bif (p.cmp .geq (p.ar .sub .i64 a.2.2.2.2.1 (1:Int)) (0:Int)) then (p.cmp .lss (p.ar .sub .i64 a.2.2.2.2.1 (1:Int)) (p.ofNat (p.len a.1))) else Bool.false)<|
 opt.need _ (p.rowOk (p.set a.1 (p.add 0 (p.nat a.2.2.2.2.1)) [(D.int .i64 (p.rdI a.1 (p.add 0 (p.nat (p.ar .sub .i64 a.2.2.2.2.1 (1:Int)))) 0))]) (p.add 0 (p.nat (p.ar .sub .i64 a.2.2.2.2.1 (1:Int)))) [ci])<|
 opt.need _ (p.eqN 0 0)<|
 opt.need _ (p.eqN (p.len a.1) (p.len (p.set (p.set a.1 (p.add 0 (p.nat a.2.2.2.2.1)) [(D.int .i64 (p.rdI a.1 (p.add 0 (p.nat (p.ar .sub .i64 a.2.2.2.2.1 (1:Int)))) 0))]) (p.add 0 (p.nat (p.ar .sub .i64 a.2.2.2.2.1 (1:Int)))) [(D.int .i64 (p.rdI a.1 (p.add 0 (p.nat a.2.2.2.2.1)) 0))])))<|
 opt.need _ (p.eqN (p.len a.1) (p.len (p.set (p.set a.1 (p.add 0 (p.nat a.2.2.2.2.1)) [(D.int .i64 (p.rdI a.1 (p.add 0 (p.nat (p.ar .sub .i64 a.2.2.2.2.1 (1:Int)))) 0))]) (p.add 0 (p.nat (p.ar .sub .i64 a.2.2.2.2.1 (1:Int)))) [(D.int .i64 (p.rdI a.1 (p.add 0 (p.nat a.2.2.2.2.1)) 0))])))<|
 opt.ret _ (Sum.inl ((p.set (p.set a.1 (p.add 0 (p.nat a.2.2.2.2.1)) [(D.int .i64 (p.rdI a.1 (p.add 0 (p.nat (p.ar .sub .i64 a.2.2.2.2.1 (1:Int)))) 0))]) (p.add 0 (p.nat (p.ar .sub .i64 a.2.2.2.2.1 (1:Int)))) [(D.int .i64 (p.rdI a.1 (p.add 0 (p.nat a.2.2.2.2.1)) 0))]),(a.2.1,(a.2.2.1,(a.2.2.2.1,((p.ar .sub .i64 a.2.2.2.2.1 (1:Int)),()))))))) (
 opt.need _ (p.eqN 0 0)<|
 opt.need _ (p.eqN (p.len a.1) (p.len a.1))<|
 opt.need _ (p.eqN (p.len a.1) (p.len a.1))<|
 opt.ret _ (Sum.inr (a.1,(a.2.1,(a.2.2.1,(a.2.2.2.1,()))))))) (
 opt.need _ (p.eqN 0 0)<|
 opt.need _ (p.eqN (p.len a.1) (p.len a.1))<|
 opt.need _ (p.eqN (p.len a.1) (p.len a.1))<|
 opt.ret _ (Sum.inr (a.1,(a.2.1,(a.2.2.1,(a.2.2.2.1,())))))))
def x7s (it:It) (p:Prim):(LD×T4)→Option ((LD×T4)⊕(LD×Unit)):=
 fun a=>opt.run _ (
 opt.ask _ (p.cmp .lss a.2.2.2.1 a.2.2.1) (
 opt.need _ (p.eqN 0 0)<|
 opt.need _ (p.eqN (p.len a.1) (p.len a.1))<|
 opt.need _ (p.eqN (p.len a.1) (p.len a.1))<|
 opt.bnd ((LD×T4)) _ (
 it _ _ (w82 p) (a.1,(a.2.1,(a.2.2.1,(a.2.2.2.1,(a.2.2.2.1,())))))) fun b=>
 opt.need _ (p.eqN 0 0)<|
 opt.need _ (p.eqN (p.len b.1) (p.len b.1))<|
 opt.need _ (p.eqN (p.len b.1) (p.len b.1))<|
 opt.ret _ (Sum.inl (b.1,(b.2.1,(b.2.2.1,((p.ar .add .i64 b.2.2.2.1 (1:Int)),())))))) (
 opt.ret _ (Sum.inr (a.1,()))))
def w94 (it:It):(p:Prim)→(LD×T3)→Option ((LD×Unit)):=
 fun p x=>
 opt.need _ (p.eqN 0 0)<|
 opt.need _ (p.eqN (p.len x.1) (p.len x.1))<|
 opt.need _ (p.eqN (p.len x.1) (p.len x.1))<|
 opt.bnd ((LD×Unit)) _ (
 it _ _ (x7s it p) (x.1,(x.2.1,(x.2.2.1,((p.ar .add .i64 x.2.1 (1:Int)),()))))) fun a=>
 opt.ret _ (a.1,())
def v5t:=w94 it0
theorem v0w:CtrOk PG w17 (v5t std):=okF (a:=v4m) (l:=v1v) (gC v40 (gN)) (by kernel_rfl) fun _ _=>by kernel_rfl
def w2a:Ctr:=
 ⟨82,[.full 0 1, .int .i64, .int .i64, .int .i64],[.row [ci]],[(.ret,⟨[(0, .tuple [])],[.row [ci]],1⟩)]⟩
def v1y:List LA:=
 [⟨82,[false,true,true],1,⟨⟨[(0, .full 0 1),(1, .int .i64),(2, .int .i64),(3, .int .i64),(8, .bool),(9, .bool)],[.row [ci]],134⟩,[(AX.ret,⟨[],[.row [ci]],134⟩)]⟩⟩]
def v19:List JA:=
 []
def w7h:List CF:=
 [⟨x2q,v50⟩,⟨x2s,v52⟩,⟨x2u,v54⟩,⟨w17,v5t⟩]
def v4p:Anns:=
 ⟨w7h,v19,[]⟩
def x7v (it:It) (p:Prim):(LD×T19)→Option ((LD×T19)⊕(LD×Unit)):=
 fun a=>opt.run _ (
 opt.ask _ (p.cmp .leq (p.ar .sub .i64 a.2.2.1 a.2.1) (12:Int)) (
 opt.need _ (p.eqN 0 0)<|
 opt.need _ (p.eqN (p.len a.1) (p.len a.1))<|
 opt.need _ (p.eqN (p.len a.1) (p.len a.1))<|
 opt.bnd ((LD×Unit)) _ (w94 it p (a.1,(a.2.1,(a.2.2.1,())))) fun b=>
 opt.ret _ (Sum.inr (b.1,()))) (
 opt.ask _ (p.cmp .eql a.2.2.2.1 (0:Int)) (
 opt.need _ (p.eqN 0 0)<|
 opt.need _ (p.eqN (p.len a.1) (p.len a.1))<|
 opt.need _ (p.eqN (p.len a.1) (p.len a.1))<|
 opt.no _ 81) (
 opt.ask _ (bif a.2.2.2.2.1 then Bool.false else Bool.true) (
 opt.need _ (p.eqN 0 0)<|
 opt.need _ (p.eqN (p.len a.1) (p.len a.1))<|
 opt.need _ (p.eqN (p.len a.1) (p.len a.1))<|
 opt.no _ 81) (
 opt.need _ (p.eqN 0 0)<|
 opt.need _ (p.eqN (p.len a.1) (p.len a.1))<|
 opt.need _ (p.eqN (p.len a.1) (p.len a.1))<|
 opt.no _ 81))))
def w95 (it:It):(p:Prim)→(LD×T4)→Option ((LD×Unit)):=
 fun p x=>
 opt.need _ (p.eqN 0 0)<|
 opt.need _ (p.eqN (p.len x.1) (p.len x.1))<|
 opt.need _ (p.eqN (p.len x.1) (p.len x.1))<|
 opt.bnd ((LD×Unit)) _ (
 it _ _ (x7v it p) (x.1,(x.2.1,(x.2.2.1,(x.2.2.2.1,(Bool.true,(Bool.true,()))))))) fun a=>
 opt.ret _ (a.1,())
def v5w:=w95 it0
theorem v0z:CtrOk PG w2a (v5w std):=okF (a:=v4p) (l:=v1y) (gC v0q (gC v0s (gC v0u (gC v0w (gN))))) (by kernel_rfl) fun _ _=>by kernel_rfl
def w2d:Ctr:=
 ⟨55,[.full 0 1],[.row [ci]],[(.ret,⟨[(0, .tuple [])],[.row [ci]],1⟩)]⟩
def v11:List LA:=
 []
def v2c:List JA:=
 []
def w7k:List CF:=
 [⟨w2a,v5w⟩,⟨w4y,G83⟩]
def v4s:Anns:=
 ⟨w7k,v2c,[]⟩
def w7r (it:It):(p:Prim)→(LD×Unit)→Option ((LD×Unit)):=
 fun p x=>
 opt.bnd T2 _ (G83 p ((p.cvt .u64 (p.ofNat (p.len x.1))),())) fun a=>
 opt.need _ (p.eqN 0 0)<|
 opt.need _ (p.eqN (p.len x.1) (p.len x.1))<|
 opt.need _ (p.eqN (p.len x.1) (p.len x.1))<|
 opt.bnd ((LD×Unit)) _ (w95 it p (x.1,((0:Int),((p.ofNat (p.len x.1)),(a.1,()))))) fun b=>
 opt.ret _ (b.1,())
def v5x:=w7r it0
theorem v04:CtrOk PG w2d (v5x std):=okF (a:=v4s) (l:=v11) (gC v0z (gC v41 (gN))) (by kernel_rfl) fun _ _=>by kernel_rfl
end Go.Am
end
noncomputable section
namespace Go.Am
def x2t:Ctr:=
 ⟨93,[.vec 0 1, .int .i64, .int .i64],[.row [ci]],[]⟩
def v53:Prim→Tup (x2t).scs→Option (STup (scss (x2t).outs)):=
 fun _ _=>none
theorem x67:z2r Go.Proofs.Try.prog 93:=enters_auto (b:=_) rfl (by kernel_rfl)
theorem v0t:CtrOk Go.Proofs.Try.prog x2t (v53 std):=⟨x67,fun x y h=>by cases h⟩
def x2r:Ctr:=
 ⟨94,[.vec 0 1, .int .i64, .int .i64],[.row [ci]],[]⟩
def v51:Prim→Tup (x2r).scs→Option (STup (scss (x2r).outs)):=
 fun _ _=>none
theorem x65:z2r Go.Proofs.Try.prog 94:=enters_auto (b:=_) rfl (by kernel_rfl)
theorem v0r:CtrOk Go.Proofs.Try.prog x2r (v51 std):=⟨x65,fun x y h=>by cases h⟩
def x2p:Ctr:=
 ⟨95,[.vec 0 1, .int .i64, .int .i64],[.row [ci]],[]⟩
def v5z:Prim→Tup (x2p).scs→Option (STup (scss (x2p).outs)):=
 fun _ _=>none
theorem x63:z2r Go.Proofs.Try.prog 95:=enters_auto (b:=_) rfl (by kernel_rfl)
theorem v0p:CtrOk Go.Proofs.Try.prog x2p (v5z std):=⟨x63,fun x y h=>by cases h⟩
def w16:Ctr:=
 ⟨92,[.vec 0 1, .int .i64, .int .i64],[.row [ci]],[(.ret,⟨[(0, .tuple [])],[.row [ci]],1⟩)]⟩
def v1u:List LA:=
 [⟨92,[false,true],1,⟨⟨[(0, .vec 0 1),(1, .int .i64),(2, .int .i64),(6, .int .i64)],[.row [ci]],49⟩,[((AX.exit 0),⟨[],[.row [ci]],49⟩)]⟩⟩,
 ⟨92,[false,true,false,false,true,false,false,true],1,⟨⟨[(0, .vec 0 1),(1, .int .i64),(2, .int .i64),(6, .int .i64),(7, .int .i64)],[.row [ci]],49⟩,[((AX.exit 2),⟨[(0, .vec 0 1),(1, .int .i64),(2, .int .i64),(6, .int .i64)],[.row [ci]],49⟩)]⟩⟩]
def v15:List JA:=
 []
def w7d:List CF:=
 [⟨w4x,G98⟩]
def v4l:Anns:=
 ⟨w7d,v15,[]⟩
def y0t (p:Prim):(LD×T7)→Option ((LD×T7)⊕(LD×T4)):=
 fun a=>opt.run _ (
 opt.ask _ (p.cmp .gtr a.2.2.2.2.1 a.2.1) (
 opt.need _ (bif (p.cmp .geq a.2.2.2.2.1 (0:Int)) then (p.cmp .lss a.2.2.2.2.1 (p.ofNat (p.len a.1))) else Bool.false)<|
 opt.need _ (p.rowOk a.1 (p.add 0 (p.nat a.2.2.2.2.1)) [ci])<|
 opt.need _ (bif (p.cmp .geq (p.ar .sub .i64 a.2.2.2.2.1 (1:Int)) (0:Int)) then (p.cmp .lss (p.ar .sub .i64 a.2.2.2.2.1 (1:Int)) (p.ofNat (p.len a.1))) else Bool.false)<|
 opt.need _ (p.rowOk a.1 (p.add 0 (p.nat (p.ar .sub .i64 a.2.2.2.2.1 (1:Int)))) [ci])<|
 opt.bnd T0 _ (G98 p ((p.rdI a.1 (p.add 0 (p.nat a.2.2.2.2.1)) 0),((p.rdI a.1 (p.add 0 (p.nat (p.ar .sub .i64 a.2.2.2.2.1 (1:Int)))) 0),()))) fun b=>
 opt.ask _ b.1 (
 opt.need _ (bif (p.cmp .geq (p.ar .sub .i64 a.2.2.2.2.1 (1:Int)) (0:Int)) then (p.cmp .lss (p.ar .sub .i64 a.2.2.2.2.1 (1:Int)) (p.ofNat (p.len a.1))) else Bool.false)<|
 opt.need _ (p.rowOk a.1 (p.add 0 (p.nat (p.ar .sub .i64 a.2.2.2.2.1 (1:Int)))) [ci])<|
 opt.need _ (bif (p.cmp .geq a.2.2.2.2.1 (0:Int)) then (p.cmp .lss a.2.2.2.2.1 (p.ofNat (p.len a.1))) else Bool.false)<|
 opt.need _ (p.rowOk a.1 (p.add 0 (p.nat a.2.2.2.2.1)) [ci])<|
 opt.need _ (bif (p.cmp .geq a.2.2.2.2.1 (0:Int)) then (p.cmp .lss a.2.2.2.2.1 (p.ofNat (p.len a.1))) else Bool.false)<|
 opt.need _ (p.rowOk a.1 (p.add 0 (p.nat a.2.2.2.2.1)) [ci])<|
 opt.need _ (bif (p.cmp .geq (p.ar .sub .i64 a.2.2.2.2.1 (1:Int)) (0:Int)) then (p.cmp .lss (p.ar .sub .i64 a.2.2.2.2.1 (1:Int)) (p.ofNat (p.len a.1))) else Bool.false)<|
 opt.need _ (p.rowOk (p.set a.1 (p.add 0 (p.nat a.2.2.2.2.1)) [(D.int .i64 (p.rdI a.1 (p.add 0 (p.nat (p.ar .sub .i64 a.2.2.2.2.1 (1:Int)))) 0))]) (p.add 0 (p.nat (p.ar .sub .i64 a.2.2.2.2.1 (1:Int)))) [ci])<|
 opt.need _ (p.eqN 0 0)<|
 opt.need _ (p.eqN (p.len a.1) (p.len (p.set (p.set a.1 (p.add 0 (p.nat a.2.2.2.2.1)) [(D.int .i64 (p.rdI a.1 (p.add 0 (p.nat (p.ar .sub .i64 a.2.2.2.2.1 (1:Int)))) 0))]) (p.add 0 (p.nat (p.ar .sub .i64 a.2.2.2.2.1 (1:Int)))) [(D.int .i64 (p.rdI a.1 (p.add 0 (p.nat a.2.2.2.2.1)) 0))])))<|
 opt.ret _ (Sum.inl ((p.set (p.set a.1 (p.add 0 (p.nat a.2.2.2.2.1)) [(D.int .i64 (p.rdI a.1 (p.add 0 (p.nat (p.ar .sub .i64 a.2.2.2.2.1 (1:Int)))) 0))]) (p.add 0 (p.nat (p.ar .sub .i64 a.2.2.2.2.1 (1:Int)))) [(D.int .i64 (p.rdI a.1 (p.add 0 (p.nat a.2.2.2.2.1)) 0))]),(a.2.1,(a.2.2.1,(a.2.2.2.1,((p.ar .sub .i64 a.2.2.2.2.1 (1:Int)),()))))))) (
 opt.need _ (p.eqN 0 0)<|
 opt.need _ (p.eqN (p.len a.1) (p.len a.1))<|
 opt.ret _ (Sum.inr (a.1,(a.2.1,(a.2.2.1,(a.2.2.2.1,()))))))) (
 opt.need _ (p.eqN 0 0)<|
 opt.need _ (p.eqN (p.len a.1) (p.len a.1))<|
 opt.ret _ (Sum.inr (a.1,(a.2.1,(a.2.2.1,(a.2.2.2.1,())))))))
def z7v (it:It) (p:Prim):(LD×T4)→Option ((LD×T4)⊕(LD×Unit)):=
 fun a=>opt.run _ (
 opt.ask _ (p.cmp .lss a.2.2.2.1 a.2.2.1) (
 opt.need _ (p.eqN 0 0)<|
 opt.need _ (p.eqN (p.len a.1) (p.len a.1))<|
 opt.bnd ((LD×T4)) _ (
 it _ _ (y0t p) (a.1,(a.2.1,(a.2.2.1,(a.2.2.2.1,(a.2.2.2.1,())))))) fun b=>
 opt.need _ (p.eqN 0 0)<|
 opt.need _ (p.eqN (p.len b.1) (p.len b.1))<|
 opt.ret _ (Sum.inl (b.1,(b.2.1,(b.2.2.1,((p.ar .add .i64 b.2.2.2.1 (1:Int)),())))))) (
 opt.ret _ (Sum.inr (a.1,()))))
def w4i (it:It):(p:Prim)→(LD×T3)→Option ((LD×Unit)):=
 fun p x=>
 opt.need _ (p.eqN 0 0)<|
 opt.need _ (p.eqN (p.len x.1) (p.len x.1))<|
 opt.bnd ((LD×Unit)) _ (
 it _ _ (z7v it p) (x.1,(x.2.1,(x.2.2.1,((p.ar .add .i64 x.2.1 (1:Int)),()))))) fun a=>
 opt.ret _ (a.1,())
def v5s:=w4i it0
theorem v0v:CtrOk PG w16 (v5s std):=okF (a:=v4l) (l:=v1u) (gC v40 (gN)) (by kernel_rfl) fun _ _=>by kernel_rfl
def w19:Ctr:=
 ⟨82,[.vec 0 1, .int .i64, .int .i64, .int .i64],[.row [ci]],[(.ret,⟨[(0, .tuple [])],[.row [ci]],1⟩)]⟩
def v1x:List LA:=
 [⟨82,[false,true,true],1,⟨⟨[(0, .vec 0 1),(1, .int .i64),(2, .int .i64),(3, .int .i64),(8, .bool),(9, .bool)],[.row [ci]],134⟩,[(AX.ret,⟨[],[.row [ci]],134⟩)]⟩⟩]
def v18:List JA:=
 []
def w7g:List CF:=
 [⟨x2p,v5z⟩,⟨x2r,v51⟩,⟨x2t,v53⟩,⟨w16,v5s⟩]
def v4o:Anns:=
 ⟨w7g,v18,[]⟩
def y9n (it:It) (p:Prim):(LD×T19)→Option ((LD×T19)⊕(LD×Unit)):=
 fun a=>opt.run _ (
 opt.ask _ (p.cmp .leq (p.ar .sub .i64 a.2.2.1 a.2.1) (12:Int)) (
 opt.need _ (p.eqN 0 0)<|
 opt.need _ (p.eqN (p.len a.1) (p.len a.1))<|
 opt.bnd ((LD×Unit)) _ (w4i it p (a.1,(a.2.1,(a.2.2.1,())))) fun b=>
 opt.ret _ (Sum.inr (b.1,()))) (
 opt.ask _ (p.cmp .eql a.2.2.2.1 (0:Int)) (
 opt.need _ (p.eqN 0 0)<|
 opt.need _ (p.eqN (p.len a.1) (p.len a.1))<|
 opt.no _ 81) (
 opt.ask _ (bif a.2.2.2.2.1 then Bool.false else Bool.true) (
 opt.need _ (p.eqN 0 0)<|
 opt.need _ (p.eqN (p.len a.1) (p.len a.1))<|
 opt.no _ 81) (
 opt.need _ (p.eqN 0 0)<|
 opt.need _ (p.eqN (p.len a.1) (p.len a.1))<|
 opt.no _ 81))))
def w7p (it:It):(p:Prim)→(LD×T4)→Option ((LD×Unit)):=
 fun p x=>
 opt.need _ (p.eqN 0 0)<|
 opt.need _ (p.eqN (p.len x.1) (p.len x.1))<|
 opt.bnd ((LD×Unit)) _ (
 it _ _ (y9n it p) (x.1,(x.2.1,(x.2.2.1,(x.2.2.2.1,(Bool.true,(Bool.true,()))))))) fun a=>
 opt.ret _ (a.1,())
def v5v:=w7p it0
theorem v0y:CtrOk PG w19 (v5v std):=okF (a:=v4o) (l:=v1x) (gC v0p (gC v0r (gC v0t (gC v0v (gN))))) (by kernel_rfl) fun _ _=>by kernel_rfl
def w2c:Ctr:=
 ⟨55,[.vec 0 1],[.row [ci]],[(.ret,⟨[(0, .tuple [])],[.row [ci]],1⟩)]⟩
def v10:List LA:=
 []
def v2b:List JA:=
 []
def w7j:List CF:=
 [⟨w19,v5v⟩,⟨w4y,G83⟩]
def v4r:Anns:=
 ⟨w7j,v2b,[]⟩
def w52 (it:It):(p:Prim)→(LD×Unit)→Option ((LD×Unit)):=
 fun p x=>
 opt.bnd T2 _ (G83 p ((p.cvt .u64 (p.ofNat (p.len x.1))),())) fun a=>
 opt.need _ (p.eqN 0 0)<|
 opt.need _ (p.eqN (p.len x.1) (p.len x.1))<|
 opt.bnd ((LD×Unit)) _ (w7p it p (x.1,((0:Int),((p.ofNat (p.len x.1)),(a.1,()))))) fun b=>
 opt.ret _ (b.1,())
def v0a:=w52 it0
theorem v03:CtrOk PG w2c (v0a std):=okF (a:=v4r) (l:=v10) (gC v0y (gC v41 (gN))) (by kernel_rfl) fun _ _=>by kernel_rfl
end Go.Am
end
noncomputable section
namespace Go.Am
def x2v:Ctr:=
 ⟨105,[.vec 0 1, .int .i64, .int .i64, .int .i64, .clo 88 [] [.bptr 1 0]],[.row [ci], .box [.list 1]],[]⟩
def v55:Prim→Tup (x2v).scs→Option (STup (scss (x2v).outs)):=
 fun _ _=>none
theorem x69:z2r Go.Proofs.Try.prog 105:=enters_auto (b:=_) rfl (by kernel_rfl)
theorem v07:CtrOk Go.Proofs.Try.prog x2v (v55 std):=⟨x69,fun x y h=>by cases h⟩
def w2e:Ctr:=
 ⟨104,[.vec 0 1, .int .i64, .int .i64, .clo 88 [] [.bptr 1 0]],[.row [ci], .box [.list 1]],[(.ret,⟨[(0, .tuple [])],[.row [ci], .box [.list 1]],1⟩)]⟩
def v12:List LA:=
 [⟨104,[false,true],2,⟨⟨[(0, .vec 0 1),(1, .int .i64),(2, .int .i64),(3, .clo 88 [] [.bptr 1 0]),(8, .int .i64)],[.row [ci], .box [.list 1]],53⟩,[((AX.exit 0),⟨[],[.row [ci], .box [.list 1]],53⟩)]⟩⟩,
 ⟨104,[false,true,false,false,true,false,false,true],2,⟨⟨[(0, .vec 0 1),(1, .int .i64),(2, .int .i64),(3, .clo 88 [] [.bptr 1 0]),(8, .int .i64),(9, .int .i64)],[.row [ci], .box [.list 1]],53⟩,[((AX.exit 2),⟨[(0, .vec 0 1),(1, .int .i64),(2, .int .i64),(3, .clo 88 [] [.bptr 1 0]),(8, .int .i64)],[.row [ci], .box [.list 1]],53⟩)]⟩⟩]
def v2d:List JA:=
 [⟨68,[true,false,true,true,true],2,[(AX.ret,⟨[(4, .int .i64)],[.row [ci], .box [.list 1]],20⟩),(AX.normal,⟨[(0, .int .i64),(1, .int .i64),(6, .bool)],[.row [ci], .box [.list 1]],20⟩)]⟩]
def w7l:List CF:=
 []
def v4t:Anns:=
 ⟨w7l,v2d,[]⟩
def z89 (p:Prim):(LD×(LD×T7))→Option ((LD×(LD×T7))⊕(LD×(LD×T4))):=
 fun a=>opt.run _ (
 opt.ask _ (p.cmp .gtr a.2.2.2.2.2.1 a.2.2.1) (
 opt.need _ (bif (p.cmp .geq a.2.2.2.2.2.1 (0:Int)) then (p.cmp .lss a.2.2.2.2.2.1 (p.ofNat (p.len a.1))) else Bool.false)<|
 opt.need _ (p.rowOk a.1 (p.add 0 (p.nat a.2.2.2.2.2.1)) [ci])<|
 opt.need _ (bif (p.cmp .geq (p.ar .sub .i64 a.2.2.2.2.2.1 (1:Int)) (0:Int)) then (p.cmp .lss (p.ar .sub .i64 a.2.2.2.2.2.1 (1:Int)) (p.ofNat (p.len a.1))) else Bool.false)<|
 opt.need _ (p.rowOk a.1 (p.add 0 (p.nat (p.ar .sub .i64 a.2.2.2.2.2.1 (1:Int)))) [ci])<|
 opt.need _ (p.rowOk a.2.1 (p.nat (p.rdI a.1 (p.add 0 (p.nat a.2.2.2.2.2.1)) 0)) [ci])<|
 opt.need _ (p.cmp .geq (p.rdI a.1 (p.add 0 (p.nat a.2.2.2.2.2.1)) 0) (0:Int))<|
 opt.need _ (p.rowOk a.2.1 (p.nat (p.rdI a.1 (p.add 0 (p.nat (p.ar .sub .i64 a.2.2.2.2.2.1 (1:Int)))) 0)) [ci])<|
 opt.need _ (p.cmp .geq (p.rdI a.1 (p.add 0 (p.nat (p.ar .sub .i64 a.2.2.2.2.2.1 (1:Int)))) 0) (0:Int))<|
 opt.alt ((LD×(LD×T1))) ((LD×(LD×T11))) _ (
 opt.run (((LD×(LD×T1))⊕(LD×(LD×T11)))) (
 opt.ask _ (p.cmp .neq (p.rdI a.2.1 (p.nat (p.rdI a.1 (p.add 0 (p.nat a.2.2.2.2.2.1)) 0)) 0) (p.rdI a.2.1 (p.nat (p.rdI a.1 (p.add 0 (p.nat a.2.2.2.2.2.1)) 0)) 0)) (
 opt.ask _ (p.cmp .neq (p.rdI a.2.1 (p.nat (p.rdI a.1 (p.add 0 (p.nat (p.ar .sub .i64 a.2.2.2.2.2.1 (1:Int)))) 0)) 0) (p.rdI a.2.1 (p.nat (p.rdI a.1 (p.add 0 (p.nat (p.ar .sub .i64 a.2.2.2.2.2.1 (1:Int)))) 0)) 0)) (
 opt.ret _ (Sum.inl (a.1,(a.2.1,((0:Int),()))))) (
 opt.ret _ (Sum.inl (a.1,(a.2.1,((-1:Int),())))))) (
 opt.ret _ (Sum.inr (a.1,(a.2.1,((p.rdI a.2.1 (p.nat (p.rdI a.1 (p.add 0 (p.nat a.2.2.2.2.2.1)) 0)) 0),((p.rdI a.2.1 (p.nat (p.rdI a.1 (p.add 0 (p.nat (p.ar .sub .i64 a.2.2.2.2.2.1 (1:Int)))) 0)) 0),((p.cmp .neq (p.rdI a.2.1 (p.nat (p.rdI a.1 (p.add 0 (p.nat (p.ar .sub .i64 a.2.2.2.2.2.1 (1:Int)))) 0)) 0) (p.rdI a.2.1 (p.nat (p.rdI a.1 (p.add 0 (p.nat (p.ar .sub .i64 a.2.2.2.2.2.1 (1:Int)))) 0)) 0)),()))))))))) (fun b=>
 opt.ask _ (p.cmp .lss b.2.2.1 (0:Int)) (
 opt.need _ (bif (p.cmp .geq (p.ar .sub .i64 a.2.2.2.2.2.1 (1:Int)) (0:Int)) then (p.cmp .lss (p.ar .sub .i64 a.2.2.2.2.2.1 (1:Int)) (p.ofNat (p.len a.1))) else Bool.false)<|
 opt.need _ (p.rowOk b.1 (p.add 0 (p.nat (p.ar .sub .i64 a.2.2.2.2.2.1 (1:Int)))) [ci])<|
 opt.need _ (bif (p.cmp .geq a.2.2.2.2.2.1 (0:Int)) then (p.cmp .lss a.2.2.2.2.2.1 (p.ofNat (p.len a.1))) else Bool.false)<|
 opt.need _ (p.rowOk b.1 (p.add 0 (p.nat a.2.2.2.2.2.1)) [ci])<|
 opt.need _ (bif (p.cmp .geq a.2.2.2.2.2.1 (0:Int)) then (p.cmp .lss a.2.2.2.2.2.1 (p.ofNat (p.len a.1))) else Bool.false)<|
 opt.need _ (p.rowOk b.1 (p.add 0 (p.nat a.2.2.2.2.2.1)) [ci])<|
 opt.need _ (bif (p.cmp .geq (p.ar .sub .i64 a.2.2.2.2.2.1 (1:Int)) (0:Int)) then (p.cmp .lss (p.ar .sub .i64 a.2.2.2.2.2.1 (1:Int)) (p.ofNat (p.len a.1))) else Bool.false)<|
 opt.need _ (p.rowOk (p.set b.1 (p.add 0 (p.nat a.2.2.2.2.2.1)) [(D.int .i64 (p.rdI b.1 (p.add 0 (p.nat (p.ar .sub .i64 a.2.2.2.2.2.1 (1:Int)))) 0))]) (p.add 0 (p.nat (p.ar .sub .i64 a.2.2.2.2.2.1 (1:Int)))) [ci])<|
 opt.need _ (p.eqN 0 0)<|
 opt.need _ (p.eqN (p.len a.1) (p.len (p.set (p.set b.1 (p.add 0 (p.nat a.2.2.2.2.2.1)) [(D.int .i64 (p.rdI b.1 (p.add 0 (p.nat (p.ar .sub .i64 a.2.2.2.2.2.1 (1:Int)))) 0))]) (p.add 0 (p.nat (p.ar .sub .i64 a.2.2.2.2.2.1 (1:Int)))) [(D.int .i64 (p.rdI b.1 (p.add 0 (p.nat a.2.2.2.2.2.1)) 0))])))<|
 opt.ret _ (Sum.inl ((p.set (p.set b.1 (p.add 0 (p.nat a.2.2.2.2.2.1)) [(D.int .i64 (p.rdI b.1 (p.add 0 (p.nat (p.ar .sub .i64 a.2.2.2.2.2.1 (1:Int)))) 0))]) (p.add 0 (p.nat (p.ar .sub .i64 a.2.2.2.2.2.1 (1:Int)))) [(D.int .i64 (p.rdI b.1 (p.add 0 (p.nat a.2.2.2.2.2.1)) 0))]),(b.2.1,(a.2.2.1,(a.2.2.2.1,(a.2.2.2.2.1,((p.ar .sub .i64 a.2.2.2.2.2.1 (1:Int)),())))))))) (
 opt.need _ (p.eqN 0 0)<|
 opt.need _ (p.eqN (p.len a.1) (p.len b.1))<|
 opt.ret _ (Sum.inr (b.1,(b.2.1,(a.2.2.1,(a.2.2.2.1,(a.2.2.2.2.1,())))))))) (fun c=>
 opt.bnd ((LD×(LD×T11))) _ (some c) fun d=>
 opt.ask _ d.2.2.2.2.1 (
 opt.ask _ (p.cmp .lss (1:Int) (0:Int)) (
 opt.need _ (bif (p.cmp .geq (p.ar .sub .i64 a.2.2.2.2.2.1 (1:Int)) (0:Int)) then (p.cmp .lss (p.ar .sub .i64 a.2.2.2.2.2.1 (1:Int)) (p.ofNat (p.len a.1))) else Bool.false)<|
 opt.need _ (p.rowOk d.1 (p.add 0 (p.nat (p.ar .sub .i64 a.2.2.2.2.2.1 (1:Int)))) [ci])<|
 opt.need _ (bif (p.cmp .geq a.2.2.2.2.2.1 (0:Int)) then (p.cmp .lss a.2.2.2.2.2.1 (p.ofNat (p.len a.1))) else Bool.false)<|
 opt.need _ (p.rowOk d.1 (p.add 0 (p.nat a.2.2.2.2.2.1)) [ci])<|
 opt.need _ (bif (p.cmp .geq a.2.2.2.2.2.1 (0:Int)) then (p.cmp .lss a.2.2.2.2.2.1 (p.ofNat (p.len a.1))) else Bool.false)<|
 opt.need _ (p.rowOk d.1 (p.add 0 (p.nat a.2.2.2.2.2.1)) [ci])<|
 opt.need _ (bif (p.cmp .geq (p.ar .sub .i64 a.2.2.2.2.2.1 (1:Int)) (0:Int)) then (p.cmp .lss (p.ar .sub .i64 a.2.2.2.2.2.1 (1:Int)) (p.ofNat (p.len a.1))) else Bool.false)<|
 opt.need _ (p.rowOk (p.set d.1 (p.add 0 (p.nat a.2.2.2.2.2.1)) [(D.int .i64 (p.rdI d.1 (p.add 0 (p.nat (p.ar .sub .i64 a.2.2.2.2.2.1 (1:Int)))) 0))]) (p.add 0 (p.nat (p.ar .sub .i64 a.2.2.2.2.2.1 (1:Int)))) [ci])<|
 opt.need _ (p.eqN 0 0)<|
 opt.need _ (p.eqN (p.len a.1) (p.len (p.set (p.set d.1 (p.add 0 (p.nat a.2.2.2.2.2.1)) [(D.int .i64 (p.rdI d.1 (p.add 0 (p.nat (p.ar .sub .i64 a.2.2.2.2.2.1 (1:Int)))) 0))]) (p.add 0 (p.nat (p.ar .sub .i64 a.2.2.2.2.2.1 (1:Int)))) [(D.int .i64 (p.rdI d.1 (p.add 0 (p.nat a.2.2.2.2.2.1)) 0))])))<|
 opt.ret _ (Sum.inl ((p.set (p.set d.1 (p.add 0 (p.nat a.2.2.2.2.2.1)) [(D.int .i64 (p.rdI d.1 (p.add 0 (p.nat (p.ar .sub .i64 a.2.2.2.2.2.1 (1:Int)))) 0))]) (p.add 0 (p.nat (p.ar .sub .i64 a.2.2.2.2.2.1 (1:Int)))) [(D.int .i64 (p.rdI d.1 (p.add 0 (p.nat a.2.2.2.2.2.1)) 0))]),(d.2.1,(a.2.2.1,(a.2.2.2.1,(a.2.2.2.2.1,((p.ar .sub .i64 a.2.2.2.2.2.1 (1:Int)),())))))))) (
 opt.need _ (p.eqN 0 0)<|
 opt.need _ (p.eqN (p.len a.1) (p.len d.1))<|
 opt.ret _ (Sum.inr (d.1,(d.2.1,(a.2.2.1,(a.2.2.2.1,(a.2.2.2.2.1,())))))))) (
 opt.ask _ (p.cmp .lss d.2.2.1 d.2.2.2.1) (
 opt.ask _ (p.cmp .lss (-1:Int) (0:Int)) (
 opt.need _ (bif (p.cmp .geq (p.ar .sub .i64 a.2.2.2.2.2.1 (1:Int)) (0:Int)) then (p.cmp .lss (p.ar .sub .i64 a.2.2.2.2.2.1 (1:Int)) (p.ofNat (p.len a.1))) else Bool.false)<|
 opt.need _ (p.rowOk d.1 (p.add 0 (p.nat (p.ar .sub .i64 a.2.2.2.2.2.1 (1:Int)))) [ci])<|
 opt.need _ (bif (p.cmp .geq a.2.2.2.2.2.1 (0:Int)) then (p.cmp .lss a.2.2.2.2.2.1 (p.ofNat (p.len a.1))) else Bool.false)<|
 opt.need _ (p.rowOk d.1 (p.add 0 (p.nat a.2.2.2.2.2.1)) [ci])<|
 opt.need _ (bif (p.cmp .geq a.2.2.2.2.2.1 (0:Int)) then (p.cmp .lss a.2.2.2.2.2.1 (p.ofNat (p.len a.1))) else Bool.false)<|
 opt.need _ (p.rowOk d.1 (p.add 0 (p.nat a.2.2.2.2.2.1)) [ci])<|
 opt.need _ (bif (p.cmp .geq (p.ar .sub .i64 a.2.2.2.2.2.1 (1:Int)) (0:Int)) then (p.cmp .lss (p.ar .sub .i64 a.2.2.2.2.2.1 (1:Int)) (p.ofNat (p.len a.1))) else Bool.false)<|
 opt.need _ (p.rowOk (p.set d.1 (p.add 0 (p.nat a.2.2.2.2.2.1)) [(D.int .i64 (p.rdI d.1 (p.add 0 (p.nat (p.ar .sub .i64 a.2.2.2.2.2.1 (1:Int)))) 0))]) (p.add 0 (p.nat (p.ar .sub .i64 a.2.2.2.2.2.1 (1:Int)))) [ci])<|
 opt.need _ (p.eqN 0 0)<|
 opt.need _ (p.eqN (p.len a.1) (p.len (p.set (p.set d.1 (p.add 0 (p.nat a.2.2.2.2.2.1)) [(D.int .i64 (p.rdI d.1 (p.add 0 (p.nat (p.ar .sub .i64 a.2.2.2.2.2.1 (1:Int)))) 0))]) (p.add 0 (p.nat (p.ar .sub .i64 a.2.2.2.2.2.1 (1:Int)))) [(D.int .i64 (p.rdI d.1 (p.add 0 (p.nat a.2.2.2.2.2.1)) 0))])))<|
 opt.ret _ (Sum.inl ((p.set (p.set d.1 (p.add 0 (p.nat a.2.2.2.2.2.1)) [(D.int .i64 (p.rdI d.1 (p.add 0 (p.nat (p.ar .sub .i64 a.2.2.2.2.2.1 (1:Int)))) 0))]) (p.add 0 (p.nat (p.ar .sub .i64 a.2.2.2.2.2.1 (1:Int)))) [(D.int .i64 (p.rdI d.1 (p.add 0 (p.nat a.2.2.2.2.2.1)) 0))]),(d.2.1,(a.2.2.1,(a.2.2.2.1,(a.2.2.2.2.1,((p.ar .sub .i64 a.2.2.2.2.2.1 (1:Int)),())))))))) (
 opt.need _ (p.eqN 0 0)<|
 opt.need _ (p.eqN (p.len a.1) (p.len d.1))<|
 opt.ret _ (Sum.inr (d.1,(d.2.1,(a.2.2.1,(a.2.2.2.1,(a.2.2.2.2.1,())))))))) (
 opt.ask _ (p.cmp .gtr d.2.2.1 d.2.2.2.1) (
 opt.ask _ (p.cmp .lss (1:Int) (0:Int)) (
 opt.need _ (bif (p.cmp .geq (p.ar .sub .i64 a.2.2.2.2.2.1 (1:Int)) (0:Int)) then (p.cmp .lss (p.ar .sub .i64 a.2.2.2.2.2.1 (1:Int)) (p.ofNat (p.len a.1))) else Bool.false)<|
 opt.need _ (p.rowOk d.1 (p.add 0 (p.nat (p.ar .sub .i64 a.2.2.2.2.2.1 (1:Int)))) [ci])<|
 opt.need _ (bif (p.cmp .geq a.2.2.2.2.2.1 (0:Int)) then (p.cmp .lss a.2.2.2.2.2.1 (p.ofNat (p.len a.1))) else Bool.false)<|
 opt.need _ (p.rowOk d.1 (p.add 0 (p.nat a.2.2.2.2.2.1)) [ci])<|
 opt.need _ (bif (p.cmp .geq a.2.2.2.2.2.1 (0:Int)) then (p.cmp .lss a.2.2.2.2.2.1 (p.ofNat (p.len a.1))) else Bool.false)<|
 opt.need _ (p.rowOk d.1 (p.add 0 (p.nat a.2.2.2.2.2.1)) [ci])<|
 opt.need _ (bif (p.cmp .geq (p.ar .sub .i64 a.2.2.2.2.2.1 (1:Int)) (0:Int)) then (p.cmp .lss (p.ar .sub .i64 a.2.2.2.2.2.1 (1:Int)) (p.ofNat (p.len a.1))) else Bool.false)<|
 opt.need _ (p.rowOk (p.set d.1 (p.add 0 (p.nat a.2.2.2.2.2.1)) [(D.int .i64 (p.rdI d.1 (p.add 0 (p.nat (p.ar .sub .i64 a.2.2.2.2.2.1 (1:Int)))) 0))]) (p.add 0 (p.nat (p.ar .sub .i64 a.2.2.2.2.2.1 (1:Int)))) [ci])<|
 opt.need _ (p.eqN 0 0)<|
 opt.need _ (p.eqN (p.len a.1) (p.len (p.set (p.set d.1 (p.add 0 (p.nat a.2.2.2.2.2.1)) [(D.int .i64 (p.rdI d.1 (p.add 0 (p.nat (p.ar .sub .i64 a.2.2.2.2.2.1 (1:Int)))) 0))]) (p.add 0 (p.nat (p.ar .sub .i64 a.2.2.2.2.2.1 (1:Int)))) [(D.int .i64 (p.rdI d.1 (p.add 0 (p.nat a.2.2.2.2.2.1)) 0))])))<|
 opt.ret _ (Sum.inl ((p.set (p.set d.1 (p.add 0 (p.nat a.2.2.2.2.2.1)) [(D.int .i64 (p.rdI d.1 (p.add 0 (p.nat (p.ar .sub .i64 a.2.2.2.2.2.1 (1:Int)))) 0))]) (p.add 0 (p.nat (p.ar .sub .i64 a.2.2.2.2.2.1 (1:Int)))) [(D.int .i64 (p.rdI d.1 (p.add 0 (p.nat a.2.2.2.2.2.1)) 0))]),(d.2.1,(a.2.2.1,(a.2.2.2.1,(a.2.2.2.2.1,((p.ar .sub .i64 a.2.2.2.2.2.1 (1:Int)),())))))))) (
 opt.need _ (p.eqN 0 0)<|
 opt.need _ (p.eqN (p.len a.1) (p.len d.1))<|
 opt.ret _ (Sum.inr (d.1,(d.2.1,(a.2.2.1,(a.2.2.2.1,(a.2.2.2.2.1,())))))))) (
 opt.ask _ (p.cmp .lss (0:Int) (0:Int)) (
 opt.need _ (bif (p.cmp .geq (p.ar .sub .i64 a.2.2.2.2.2.1 (1:Int)) (0:Int)) then (p.cmp .lss (p.ar .sub .i64 a.2.2.2.2.2.1 (1:Int)) (p.ofNat (p.len a.1))) else Bool.false)<|
 opt.need _ (p.rowOk d.1 (p.add 0 (p.nat (p.ar .sub .i64 a.2.2.2.2.2.1 (1:Int)))) [ci])<|
 opt.need _ (bif (p.cmp .geq a.2.2.2.2.2.1 (0:Int)) then (p.cmp .lss a.2.2.2.2.2.1 (p.ofNat (p.len a.1))) else Bool.false)<|
 opt.need _ (p.rowOk d.1 (p.add 0 (p.nat a.2.2.2.2.2.1)) [ci])<|
 opt.need _ (bif (p.cmp .geq a.2.2.2.2.2.1 (0:Int)) then (p.cmp .lss a.2.2.2.2.2.1 (p.ofNat (p.len a.1))) else Bool.false)<|
 opt.need _ (p.rowOk d.1 (p.add 0 (p.nat a.2.2.2.2.2.1)) [ci])<|
 opt.need _ (bif (p.cmp .geq (p.ar .sub .i64 a.2.2.2.2.2.1 (1:Int)) (0:Int)) then (p.cmp .lss (p.ar .sub .i64 a.2.2.2.2.2.1 (1:Int)) (p.ofNat (p.len a.1))) else Bool.false)<|
 opt.need _ (p.rowOk (p.set d.1 (p.add 0 (p.nat a.2.2.2.2.2.1)) [(D.int .i64 (p.rdI d.1 (p.add 0 (p.nat (p.ar .sub .i64 a.2.2.2.2.2.1 (1:Int)))) 0))]) (p.add 0 (p.nat (p.ar .sub .i64 a.2.2.2.2.2.1 (1:Int)))) [ci])<|
 opt.need _ (p.eqN 0 0)<|
 opt.need _ (p.eqN (p.len a.1) (p.len (p.set (p.set d.1 (p.add 0 (p.nat a.2.2.2.2.2.1)) [(D.int .i64 (p.rdI d.1 (p.add 0 (p.nat (p.ar .sub .i64 a.2.2.2.2.2.1 (1:Int)))) 0))]) (p.add 0 (p.nat (p.ar .sub .i64 a.2.2.2.2.2.1 (1:Int)))) [(D.int .i64 (p.rdI d.1 (p.add 0 (p.nat a.2.2.2.2.2.1)) 0))])))<|
 opt.ret _ (Sum.inl ((p.set (p.set d.1 (p.add 0 (p.nat a.2.2.2.2.2.1)) [(D.int .i64 (p.rdI d.1 (p.add 0 (p.nat (p.ar .sub .i64 a.2.2.2.2.2.1 (1:Int)))) 0))]) (p.add 0 (p.nat (p.ar .sub .i64 a.2.2.2.2.2.1 (1:Int)))) [(D.int .i64 (p.rdI d.1 (p.add 0 (p.nat a.2.2.2.2.2.1)) 0))]),(d.2.1,(a.2.2.1,(a.2.2.2.1,(a.2.2.2.2.1,((p.ar .sub .i64 a.2.2.2.2.2.1 (1:Int)),())))))))) (
 opt.need _ (p.eqN 0 0)<|
 opt.need _ (p.eqN (p.len a.1) (p.len d.1))<|
 opt.ret _ (Sum.inr (d.1,(d.2.1,(a.2.2.1,(a.2.2.2.1,(a.2.2.2.2.1,())))))))))))) (
 opt.need _ (p.eqN 0 0)<|
 opt.need _ (p.eqN (p.len a.1) (p.len a.1))<|
 opt.ret _ (Sum.inr (a.1,(a.2.1,(a.2.2.1,(a.2.2.2.1,(a.2.2.2.2.1,()))))))))
def z7w (it:It) (p:Prim):(LD×(LD×T4))→Option ((LD×(LD×T4))⊕(LD×(LD×Unit))):=
 fun a=>opt.run _ (
 opt.ask _ (p.cmp .lss a.2.2.2.2.1 a.2.2.2.1) (
 opt.need _ (p.eqN 0 0)<|
 opt.need _ (p.eqN (p.len a.1) (p.len a.1))<|
 opt.bnd ((LD×(LD×T4))) _ (
 it _ _ (z89 p) (a.1,(a.2.1,(a.2.2.1,(a.2.2.2.1,(a.2.2.2.2.1,(a.2.2.2.2.1,()))))))) fun b=>
 opt.need _ (p.eqN 0 0)<|
 opt.need _ (p.eqN (p.len b.1) (p.len b.1))<|
 opt.ret _ (Sum.inl (b.1,(b.2.1,(b.2.2.1,(b.2.2.2.1,((p.ar .add .i64 b.2.2.2.2.1 (1:Int)),()))))))) (
 opt.ret _ (Sum.inr (a.1,(a.2.1,())))))
def w13 (it:It):(p:Prim)→(LD×(LD×T3))→Option ((LD×(LD×Unit))):=
 fun p x=>
 opt.need _ (p.eqN 0 0)<|
 opt.need _ (p.eqN (p.len x.1) (p.len x.1))<|
 opt.bnd ((LD×(LD×Unit))) _ (
 it _ _ (z7w it p) (x.1,(x.2.1,(x.2.2.1,(x.2.2.2.1,((p.ar .add .i64 x.2.2.1 (1:Int)),())))))) fun a=>
 opt.ret _ (a.1,(a.2.1,()))
def v5y:=w13 it0
theorem v08:CtrOk PG w2e (v5y std):=okF (a:=v4t) (l:=v12) (gN) (by kernel_rfl) fun _ _=>by kernel_rfl
def w75:Ctr:=
 ⟨86,[.vec 0 1, .int .i64, .clo 88 [] [.bptr 1 0]],[.row [ci], .box [.list 1]],[(.ret,⟨[(0, .tuple [])],[.row [ci], .box [.list 1]],1⟩)]⟩
def la86:List LA:=
 [⟨86,[false,false,true,true],2,⟨⟨[(0, .vec 0 1),(1, .int .i64),(2, .clo 88 [] [.bptr 1 0]),(6, .int .i64),(7, .int .i64),(8, .int .i64)],[.row [ci], .box [.list 1]],63⟩,[((AX.exit 0),⟨[(0, .vec 0 1),(1, .int .i64),(2, .clo 88 [] [.bptr 1 0]),(6, .int .i64),(7, .int .i64)],[.row [ci], .box [.list 1]],63⟩)]⟩⟩,
 ⟨86,[false,true,true,true,true],2,⟨⟨[(0, .vec 0 1),(1, .int .i64),(2, .clo 88 [] [.bptr 1 0]),(6, .int .i64)],[.row [ci], .box [.list 1]],63⟩,[((AX.exit 2),⟨[],[.row [ci], .box [.list 1]],63⟩)]⟩⟩,
 ⟨86,[false,false,true,false,true,false,false,true,true,true,true],2,⟨⟨[(0, .vec 0 1),(1, .int .i64),(2, .clo 88 [] [.bptr 1 0]),(6, .int .i64),(7, .int .i64),(8, .int .i64)],[.row [ci], .box [.list 1]],63⟩,[((AX.exit 4),⟨[(0, .vec 0 1),(1, .int .i64),(2, .clo 88 [] [.bptr 1 0]),(6, .int .i64),(7, .int .i64)],[.row [ci], .box [.list 1]],63⟩)]⟩⟩]
def ja86:List JA:=
 []
def v2o:List CF:=
 [⟨x2v,v55⟩,⟨w2e,v5y⟩]
def an86:Anns:=
 ⟨v2o,ja86,[]⟩
def v4c (p:Prim):(LD×(LD×T7))→Option ((LD×(LD×T7))⊕(LD×(LD×T4))):=
 fun a=>opt.run _ (
 opt.ask _ (p.cmp .leq a.2.2.2.2.2.1 a.2.2.1) (
 opt.need _ (p.eqN 0 0)<|
 opt.need _ (p.eqN (p.len a.1) (p.len a.1))<|
 opt.no _ 81) (
 opt.need _ (p.eqN 0 0)<|
 opt.need _ (p.eqN (p.len a.1) (p.len a.1))<|
 opt.ret _ (Sum.inr (a.1,(a.2.1,(a.2.2.1,(a.2.2.2.1,(a.2.2.2.2.1,()))))))))
def x7t (it:It) (p:Prim):(LD×(LD×T3))→Option ((LD×(LD×T3))⊕(LD×(LD×Unit))):=
 fun a=>opt.run _ (
 opt.ask _ (p.cmp .lss a.2.2.2.1 a.2.2.1) (
 opt.need _ (p.eqN 0 0)<|
 opt.need _ (p.eqN (p.len a.1) (p.len a.1))<|
 opt.bnd ((LD×(LD×T4))) _ (
 it _ _ (v4c p) (a.1,(a.2.1,(a.2.2.1,(a.2.2.2.1,((0:Int),((p.ar .mul .i64 (2:Int) a.2.2.2.1),()))))))) fun b=>
 opt.ask _ (p.cmp .lss (p.ar .add .i64 b.2.2.2.2.1 b.2.2.2.1) b.2.2.1) (
 opt.need _ (p.eqN 0 0)<|
 opt.need _ (p.eqN (p.len b.1) (p.len b.1))<|
 opt.no _ 81) (
 opt.need _ (p.eqN 0 0)<|
 opt.need _ (p.eqN (p.len b.1) (p.len b.1))<|
 opt.ret _ (Sum.inl (b.1,(b.2.1,(b.2.2.1,((p.ar .mul .i64 b.2.2.2.1 (2:Int)),()))))))) (
 opt.ret _ (Sum.inr (a.1,(a.2.1,())))))
def x7u (it:It) (p:Prim):(LD×(LD×T7))→Option ((LD×(LD×T7))⊕(LD×(LD×T4))):=
 fun a=>opt.run _ (
 opt.ask _ (p.cmp .leq a.2.2.2.2.2.1 a.2.2.1) (
 opt.need _ (p.eqN 0 0)<|
 opt.need _ (p.eqN (p.len a.1) (p.len a.1))<|
 opt.bnd ((LD×(LD×Unit))) _ (w13 it p (a.1,(a.2.1,(a.2.2.2.2.1,(a.2.2.2.2.2.1,()))))) fun b=>
 opt.need _ (p.eqN 0 0)<|
 opt.need _ (p.eqN (p.len a.1) (p.len b.1))<|
 opt.ret _ (Sum.inl (b.1,(b.2.1,(a.2.2.1,(a.2.2.2.1,(a.2.2.2.2.2.1,((p.ar .add .i64 a.2.2.2.2.2.1 a.2.2.2.1),())))))))) (
 opt.need _ (p.eqN 0 0)<|
 opt.need _ (p.eqN (p.len a.1) (p.len a.1))<|
 opt.ret _ (Sum.inr (a.1,(a.2.1,(a.2.2.1,(a.2.2.2.1,(a.2.2.2.2.1,()))))))))
def g86 (it:It):(p:Prim)→(LD×(LD×T1))→Option ((LD×(LD×Unit))):=
 fun p x=>
 opt.need _ (p.eqN 0 0)<|
 opt.need _ (p.eqN (p.len x.1) (p.len x.1))<|
 opt.bnd ((LD×(LD×T4))) _ (
 it _ _ (x7u it p) (x.1,(x.2.1,(x.2.2.1,((20:Int),((0:Int),((20:Int),()))))))) fun a=>
 opt.need _ (p.eqN 0 0)<|
 opt.need _ (p.eqN (p.len a.1) (p.len a.1))<|
 opt.bnd ((LD×(LD×Unit))) _ (w13 it p (a.1,(a.2.1,(a.2.2.2.2.1,(a.2.2.1,()))))) fun b=>
 opt.need _ (p.eqN 0 0)<|
 opt.need _ (p.eqN (p.len a.1) (p.len b.1))<|
 opt.bnd ((LD×(LD×Unit))) _ (
 it _ _ (x7t it p) (b.1,(b.2.1,(a.2.2.1,(a.2.2.2.1,()))))) fun c=>
 opt.ret _ (c.1,(c.2.1,()))
def G86:=g86 it0
theorem ok86:CtrOk PG w75 (G86 std):=okF (a:=an86) (l:=la86) (gC v07 (gC v08 (gN))) (by kernel_rfl) fun _ _=>by kernel_rfl
def w78:Ctr:=
 ⟨66,[.vec 0 1, .clo 88 [] [.bptr 1 0]],[.row [ci], .box [.list 1]],[(.ret,⟨[(0, .tuple [])],[.row [ci], .box [.list 1]],1⟩)]⟩
def la66:List LA:=
 []
def ja66:List JA:=
 []
def v2u:List CF:=
 [⟨w75,G86⟩]
def an66:Anns:=
 ⟨v2u,ja66,[]⟩
def g66 (it:It):(p:Prim)→(LD×(LD×Unit))→Option ((LD×(LD×Unit))):=
 fun p x=>
 opt.need _ (p.eqN 0 0)<|
 opt.need _ (p.eqN (p.len x.1) (p.len x.1))<|
 opt.bnd ((LD×(LD×Unit))) _ (g86 it p (x.1,(x.2.1,((p.ofNat (p.len x.1)),())))) fun a=>
 opt.ret _ (a.1,(a.2.1,()))
def G66:=g66 it0
theorem ok66:CtrOk PG w78 (G66 std):=okF (a:=an66) (l:=la66) (gC ok86 (gN)) (by kernel_rfl) fun _ _=>by kernel_rfl
def w40:Ctr:=
 ⟨71,[.list 1],[],[(.ret,⟨[(0, .vec 0 1)],[.row [ci]],1⟩)]⟩
def la71:List LA:=
 [⟨71,[false,true,false,true,true],0,⟨⟨[(1, .bptr 0 0),(3, .vec 1 1),(6, .int .i64),(7, .int .i64)],[.box [.list 1], .row [ci]],19⟩,[((AX.exit 0),⟨[(1, .bptr 0 0),(3, .vec 1 1)],[.box [.list 1], .row [ci]],19⟩)]⟩⟩]
def ja71:List JA:=
 []
def v2s:List CF:=
 [⟨w78,G66⟩]
def an71:Anns:=
 ⟨v2s,ja71,[]⟩
def x73 (p:Prim):(LD×(LD×T3))→Option ((LD×(LD×T3))⊕(LD×(LD×Unit))):=
 fun a=>opt.run _ (
 opt.ask _ (p.cmp .lss a.2.2.2.1 a.2.2.1) (
 opt.need _ (p.and (p.leN (p.add 0 1) (p.len [[(D.int .i64 a.2.2.2.1)]])) (p.and (p.leN (p.add 0 (p.len a.1)) (p.len a.1)) (p.and (p.leN 1 1) (p.leN (p.add (p.len a.1) 1) 1000000))))<|
 opt.need _ (p.eqN 0 0)<|
 opt.need _ (p.eqN (p.add (p.len a.1) 1) (p.len (p.app (p.cut a.1 0 (p.len a.1)) (p.cut [[(D.int .i64 a.2.2.2.1)]] 0 1))))<|
 opt.ret _ (Sum.inl ((p.app (p.cut a.1 0 (p.len a.1)) (p.cut [[(D.int .i64 a.2.2.2.1)]] 0 1)),(a.2.1,(a.2.2.1,((p.ar .add .i64 a.2.2.2.1 (1:Int)),())))))) (
 opt.need _ (p.eqN 0 0)<|
 opt.need _ (p.eqN (p.len a.1) (p.len a.1))<|
 opt.ret _ (Sum.inr (a.1,(a.2.1,())))))
def g71 (it:It):(p:Prim)→(LD×Unit)→Option ((LD×Unit)):=
 fun p x=>
 opt.bnd ((LD×(LD×Unit))) _ (
 it _ _ (x73 p) ([],(x.1,((p.ofNat (p.len x.1)),((0:Int),()))))) fun a=>
 opt.need _ (p.eqN 0 0)<|
 opt.need _ (p.eqN (p.len a.1) (p.len a.1))<|
 opt.bnd ((LD×(LD×Unit))) _ (g66 it p (a.1,(a.2.1,()))) fun b=>
 opt.need _ (p.eqN 0 0)<|
 opt.need _ (p.eqN (p.len a.1) (p.len b.1))<|
 opt.ret _ (b.1,())
def G71:=g71 it0
theorem v43:CtrOk PG w40 (G71 std):=okF (a:=an71) (l:=la71) (gC ok66 (gN)) (by kernel_rfl) fun _ _=>by kernel_rfl
end Go.Am
end
noncomputable section
namespace Go.Am
def w4z:Ctr:=
 ⟨73,[.clo 90 [] [.bptr 0 0]],[.box [.sl 1 1], .row [ci]],[(.ret,⟨[(0, .vec 2 1)],[.box [.sl 1 1], .row [ci], .row [ci]],1⟩)]⟩
def la73:List LA:=
 [⟨90,[false,true],4,⟨⟨[(0, .yld 3),(5, .sl 1 1),(6, .int .i64),(7, .int .i64)],[.box [.sl 1 1], .row [ci], .box [.vec 4 1], .loop Go.LoopState.ready Option.none 106 [Bool.false,Bool.true,Bool.false,Bool.true] 13 [(6, .clo 90 [] [.bptr 0 0]),(2, .bptr 2 0)], .row [ci]],16⟩,[((AX.exit 0),⟨[],[.box [.sl 1 1], .row [ci], .box [.vec 4 1], .loop Go.LoopState.ready Option.none 106 [Bool.false,Bool.true,Bool.false,Bool.true] 13 [(6, .clo 90 [] [.bptr 0 0]),(2, .bptr 2 0)], .row [ci]],16⟩)]⟩⟩]
def ja73:List JA:=
 []
def v2q:List CF:=
 [⟨w2c,v0a⟩]
def an73:Anns:=
 ⟨v2q,ja73,[]⟩
def x4g (p:Prim):(LD×(LD×T16))→Option ((LD×(LD×T16))⊕(LD×(LD×T5))):=
 fun a=>opt.run _ (
 opt.ask _ (p.cmp .lss a.2.2.2.2.2.2.2.1 a.2.2.2.2.2.2.1) (
 opt.need _ (bif (p.cmp .geq a.2.2.2.2.2.2.2.1 (0:Int)) then (p.cmp .lss a.2.2.2.2.2.2.2.1 (p.ofNat a.2.2.2.2.2.1)) else Bool.false)<|
 opt.need _ (p.rowOk a.1 (p.add a.2.2.2.2.1 (p.nat a.2.2.2.2.2.2.2.1)) [ci])<|
 opt.need _ (p.and (p.leN (p.add 0 1) (p.len [[(D.int .i64 (p.rdI a.1 (p.add a.2.2.2.2.1 (p.nat a.2.2.2.2.2.2.2.1)) 0))]])) (p.and (p.leN (p.add 0 (p.len a.2.1)) (p.len a.2.1)) (p.and (p.leN 1 1) (p.leN (p.add (p.len a.2.1) 1) 1000000))))<|
 opt.need _ (p.eqN 0 0)<|
 opt.need _ (p.eqN (p.add (p.len a.2.1) 1) (p.len (p.app (p.cut a.2.1 0 (p.len a.2.1)) (p.cut [[(D.int .i64 (p.rdI a.1 (p.add a.2.2.2.2.1 (p.nat a.2.2.2.2.2.2.2.1)) 0))]] 0 1))))<|
 opt.ret _ (Sum.inl (a.1,((p.app (p.cut a.2.1 0 (p.len a.2.1)) (p.cut [[(D.int .i64 (p.rdI a.1 (p.add a.2.2.2.2.1 (p.nat a.2.2.2.2.2.2.2.1)) 0))]] 0 1)),(a.2.2.1,(a.2.2.2.1,(a.2.2.2.2.1,(a.2.2.2.2.2.1,(a.2.2.2.2.2.2.1,((p.ar .add .i64 a.2.2.2.2.2.2.2.1 (1:Int)),())))))))))) (
 opt.need _ (p.eqN 0 0)<|
 opt.need _ (p.eqN (p.len a.2.1) (p.len a.2.1))<|
 opt.ret _ (Sum.inr (a.1,(a.2.1,(a.2.2.1,(a.2.2.2.1,())))))))
def g73 (it:It):(p:Prim)→(LD×T5)→Option ((LD×(LD×T5))):=
 fun p x=>
 opt.bnd ((LD×(LD×T5))) _ (
 it _ _ (x4g p) (x.1,([],(x.2.1,(x.2.2.1,(x.2.1,(x.2.2.1,((p.ofNat x.2.2.1),((0:Int),()))))))))) fun a=>
 opt.need _ (p.eqN 0 0)<|
 opt.need _ (p.eqN (p.len a.2.1) (p.len a.2.1))<|
 opt.bnd ((LD×Unit)) _ (w52 it p (a.2.1,())) fun b=>
 opt.need _ (p.eqN 0 0)<|
 opt.need _ (p.eqN (p.len a.2.1) (p.len b.1))<|
 opt.ret _ (a.1,(b.1,(a.2.2.1,(a.2.2.2.1,()))))
def G73:=g73 it0
theorem v42:CtrOk PG w4z (G73 std):=okF (a:=an73) (l:=la73) (gC v03 (gN)) (by kernel_rfl) fun _ _=>by kernel_rfl
end Go.Am
end
section
namespace Go.Am
open T11
theorem z2f {l:List Int} {q:Nat} (h:q<l.length):l[q]?=some (gI l q):=by
 rw [gI,List.getD_eq_getElem?_getD,List.getElem?_eq_getElem h]; rfl
theorem z5b (x:Int):[D.int IntKind.i64 x]=eI x:=rfl
theorem w1y (l:List Int) (j:Nat):(sw l j).map eI=((l.map eI).set (j+1) (eI (gI l j))).set j (eI (gI l (j+1))):=by
 simp [sw,List.map_set]
theorem w2q (x y:Int):G98 std (x,(y,()))=some (decide (x<y),()):=by
 unfold G98
 simp only [z0x,z0y,eq_self,not_true,not_false_eq_true,decide_true,decide_false,Bool.not_true,Bool.not_false,Int.reduceLT,Int.reduceNeg,Int.reduceGT,cond_true,cond_false]
theorem y2t {j:Nat} (h:j≤1000000):IntKind.i64.wrap (((j+1:Nat):Int) - 1)=(j:Int):=by rw [z7s]<;>omega
theorem w1p (n:Nat) (h:n≤12):∃ y,G83 std (IntKind.u64.wrap (n:Int),())=some y:=by
 have hs:n=0∨n=1∨n=2∨n=3∨n=4∨n=5∨n=6∨n=7∨n=8∨n=9∨n=10∨n=11∨n=12:=by omega
 rcases hs with h|h|h|h|h|h|h|h|h|h|h|h|h<;>rw [h]<;>exact ⟨_,rfl⟩
theorem x72 (b i:Int):∀ (j:Nat) (l:List Int),j<l.length→l.length≤1000→
  z4g (y0t std) (z0d l,((0:Int),(b,(i,((j:Int),())))))=some (z0d (y3r id j l),((0:Int),(b,(i,())))):=by
 intro j
 induction j with
 |zero=>
  intro l hj hl
  have:y0t std (z0d l,((0:Int),(b,(i,(((0:Nat):Int),())))))=some (.inr (z0d l,((0:Int),(b,(i,()))))):=by
   have hn:¬ ((0:Nat):Int)>0:=by omega
   simp only [y0t,z0x,z0y,hn]
  rw [z0p,this]; rfl
 |succ j ih=>
  intro l hj hl
  have hx:=z2f hj
  have hy:=z2f (l:=l) (q:=j) (by omega)
  have hw:=y2t (j:=j) (by omega)
  have hg:((j+1:Nat):Int)>0:=by omega
  have hsj:((l.map eI).set (j+1) (eI (gI l j)))[j]?=some (eI (gI l j)):=by rw [List.getElem?_set_ne (by omega),List.getElem?_map,hy]; rfl
  have h0:((j+1:Nat):Int)≥0:=by omega
  have h1:((j+1:Nat):Int)<(l.length:Int):=by omega
  have h2:(j:Int)≥0:=by omega
  have h3:(j:Int)<(l.length:Int):=by omega
  by_cases hlt:gI l (j+1)<gI l j
  ·have hb:y0t std (z0d l,((0:Int),(b,(i,(((j+1:Nat):Int),())))))=some (.inl (z0d (sw l j),((0:Int),(b,(i,((j:Int),())))))):=by
    simp only [y0t,w2q,z0x,z0y,z0d,z0g,z06,z13,z0n,z0o,z01,hg,h0,h1,h2,h3,hw,hx,hy,hlt,z5b,w1y,hsj,List.length_set]
   rw [z0p,hb,y3r,if_pos (show id (gI l (j+1))<id (gI l j) from hlt)]
   exact ih (sw l j) (by rw [z6r]; omega) (by rw [z6r]; exact hl)
  ·have hb:y0t std (z0d l,((0:Int),(b,(i,(((j+1:Nat):Int),())))))=some (.inr (z0d l,((0:Int),(b,(i,()))))):=by
    simp only [y0t,w2q,z0x,z0y,z0d,z0g,z06,z13,z0n,z0o,z01,hg,h0,h1,h2,h3,hw,hx,hy,hlt,z5b,List.length_set]
   rw [z0p,hb,y3r,if_neg (show ¬ id (gI l (j+1))<id (gI l j) from hlt)]
theorem x7r (n:Nat):∀ (k i:Nat) (l:List Int),l.length=n→n≤1000→i+k=n→
  z4g (z7v it0 std) (z0d l,((0:Int),((n:Int),((i:Int),()))))=some (z0d (y8z id k i l),()):=by
 intro k
 induction k with
 |zero=>
  intro i l hl hn hi
  have:z7v it0 std (z0d l,((0:Int),((n:Int),((i:Int),()))))=some (.inr (z0d l,())):=by
   have hn:¬ (i:Int)<n:=by omega
   simp only [z7v,z0x,z0y,hn]
  rw [z0p,this]; rfl
 |succ k ih=>
  intro i l hl hn hi
  have hw:=z02 (i:=i) (by omega)
  have hlt:(i:Int)<n:=by omega
  have h1:it0 _ _ (y0t std) (z0d l,((0:Int),((n:Int),((i:Int),((i:Int),())))))=_:=x72 n i i l (by omega) (by omega)
  have:z7v it0 std (z0d l,((0:Int),((n:Int),((i:Int),()))))=some (.inl (z0d (y3r id i l),((0:Int),((n:Int),(((i+1:Nat):Int),()))))):=by
   simp only [z7v,z0x,z0y,hlt,h1,z0c,hw]
  rw [z0p,this,y8z]
  exact ih (i+1) _ (by rw [z8t]; exact hl) hn (by omega)
theorem w4h (l:List Int) (hl:l.length≤1000):w4i it0 std (z0d l,((0:Int),((l.length:Int),())))=some (z0d (z3a id l),()):=by
 have hw:IntKind.i64.wrap ((0:Int)+1)=((1:Nat):Int):=by decide
 cases hn:l.length with
 |zero=>
  have e:l=[]:=List.length_eq_zero_iff.1 hn
  subst e
  have hb:z7v it0 std (z0d [],((0:Int),(((0:Nat):Int),(((1:Nat):Int),()))))=some (.inr (z0d [],())):=by
   have hn:¬ ((1:Nat):Int)<((0:Nat):Int):=by omega
   simp only [z7v,z0x,z0y,hn]
  have h1:it0 _ _ (z7v it0 std) (z0d [],((0:Int),(((0:Nat):Int),(((1:Nat):Int),()))))=some (z0d [],()):=by
   show z4g _ _=_
   rw [z0p,hb]
  simp only [w4i,z0x,z0y,z0c,hw,h1]
  rfl
 |succ n=>
  have h1:it0 _ _ (z7v it0 std) (z0d l,((0:Int),(((n+1:Nat):Int),(((1:Nat):Int),()))))=_:=x7r (n+1) n 1 l hn (by omega) (by omega)
  have e:z3a id l=y8z id n 1 l:=by rw [z3a,hn]; rfl
  simp only [w4i,z0x,z0y,z0c,hw,h1,e]
theorem w5r (l:List Int) (hl:l.length≤12):v0a std (z0d l,())=some (z0d (z3a id l),()):=by
 obtain ⟨y,hy⟩:=w1p l.length hl
 have h92:=w4h l (by omega)
 have hw:IntKind.i64.wrap ((l.length:Int) - 0)=(l.length:Int):=by rw [z7s]<;>omega
 have h12:(l.length:Int)≤12:=by omega
 have hb:∀ q:Int,it0 _ _ (y9n it0 std) (z0d l,((0:Int),((l.length:Int),(q,(true,(true,()))))))=some (z0d (z3a id l),()):=by
  intro q
  show z4g _ _=_
  rw [z0p]
  simp only [y9n,z0x,z0y,z01,hw,h12,h92]
 unfold v0a
 simp only [w52,w7p,z0x,z0y,z0k,hy,hb]
theorem w09 (A:List Int) (off len:Nat) (hl:off+len≤A.length) (h12:len≤1000):
  z4g (x4g std) (z0d A,(z0d [],(off,(len,(off,(len,((len:Int),((0:Int),()))))))))=some (z0d A,(z0d ((A.drop off).take len),(off,(len,())))):=by
 have key:=z47 (b:=x4g std) len (fun i=>(z0d A,(z0d ((A.drop off).take i),(off,(len,(off,(len,((len:Int),((i:Int),())))))))))
  (z0d A,(z0d ((A.drop off).take len),(off,(len,())))) (fun i hi=>by
  have hm:=z2f (l:=A) (q:=off+i) (by omega)
  have hw:=z02 (i:=i) (by omega)
  have hlt:(i:Int)<len:=by omega
  have h0:(0:Int)≤i:=by omega
  have ht:(A.drop off).take (i+1)=(A.drop off).take i++[gI A (off+i)]:=by
   have h1:i<(A.drop off).length:=by rw [List.length_drop]; omega
   have h2:(A.drop off)[i]?=some (gI A (off+i)):=by rw [List.getElem?_drop]; exact hm
   rw [List.take_succ_eq_append_getElem h1,(List.getElem?_eq_some_iff.1 h2).2]
  have hll:((A.drop off).take i).length=i:=by rw [List.length_take,List.length_drop]; omega
  rw [ht]
  generalize (A.drop off).take i=B at hll⊢
  have hle:i+1≤1000000:=by omega
  have hbl:(B.map eI).length=i:=by rw [List.length_map,hll]
  simp only [x4g,z0x,z0y,z0d,z0g,z06,z13,z0n,z0o,hm,hlt,h0,ge_iff_le,z0c,hw,hbl,hle,z5b,List.map_append,List.map_cons,List.map_nil,List.drop_zero,List.take_of_length_le (Nat.le_of_eq hbl),Nat.le_refl,decide_true,Bool.and_true,
   List.take_succ_cons,List.take_zero,List.length_append,List.length_cons,List.length_nil,Nat.zero_add,cond_true,hll]) (by
  have hn:¬ (len:Int)<len:=by omega
  simp only [x4g,z0x,z0y,hn,decide_true])
 exact key
theorem w9b (A:List Int) (off len:Nat) (hl:off+len≤A.length) (h12:len≤12):
  G73 std (z0d A,(off,(len,())))=some (z0d A,(z0d (z3a id ((A.drop off).take len)),(off,(len,())))):=by
 have h1:it0 _ _ (x4g std) (z0d A,([],(off,(len,(off,(len,((len:Int),((0:Int),()))))))))=_:=w09 A off len hl (by omega)
 have hll:((A.drop off).take len).length=len:=by rw [List.length_take,List.length_drop]; omega
 have h2:w52 it0 std (z0d ((A.drop off).take len),())=_:=w5r ((A.drop off).take len) (by omega)
 unfold G73
 simp only [g73,z0x,z0y,h1,h2,z0k,z4x,decide_true]
def key (w:List Int) (x:Int):Int:=gI w x.toNat
def z56 (w l:List Int):Prop:=∀ q,q<l.length→0≤gI l q∧gI l q<w.length
theorem y3i {w l:List Int} (h:z56 w l) {j:Nat} (hj:j+1<l.length):z56 w (sw l j):=by
 intro q hq
 rw [z6r] at hq
 rw [x32 hj]
 split
 ·exact h _ hj
 ·split
  ·exact h _ (by omega)
  ·exact h _ hq
theorem y3j {w:List Int} (κ:Int→Int) (j:Nat) (l:List Int) (h:z56 w l) (hj:j<l.length):z56 w (y3r κ j l):=by
 induction j generalizing l with
 |zero=>exact h
 |succ j ih=>
  rw [y3r]
  split
  ·exact ih _ (y3i h hj) (by rw [z6r]; omega)
  ·exact h
theorem x76 (w:List Int) (b i:Int):∀ (j:Nat) (l:List Int),z56 w l→j<l.length→l.length≤1000→
  z4g (z89 std) (z0d l,(z0d w,((0:Int),(b,(i,((j:Int),()))))))=some (z0d (y3r (key w) j l),(z0d w,((0:Int),(b,(i,()))))):=by
 intro j
 induction j with
 |zero=>
  intro l hp hj hl
  have:z89 std (z0d l,(z0d w,((0:Int),(b,(i,(((0:Nat):Int),()))))))=some (.inr (z0d l,(z0d w,((0:Int),(b,(i,())))))):=by
   have hn:¬ ((0:Nat):Int)>0:=by omega
   simp only [z89,z0x,z0y,hn]
  rw [z0p,this]; rfl
 |succ j ih=>
  intro l hp hj hl
  have hx:=z2f hj
  have hy:=z2f (l:=l) (q:=j) (by omega)
  obtain ⟨p0,p1⟩:=hp (j+1) hj
  obtain ⟨q0,q1⟩:=hp j (by omega)
  have hkx:w[(gI l (j+1)).toNat]?=some (key w (gI l (j+1))):=z2f (by omega)
  have hky:w[(gI l j).toNat]?=some (key w (gI l j)):=z2f (by omega)
  have hw:=y2t (j:=j) (by omega)
  have hg:((j+1:Nat):Int)>0:=by omega
  have hsj:((l.map eI).set (j+1) (eI (gI l j)))[j]?=some (eI (gI l j)):=by rw [List.getElem?_set_ne (by omega),List.getElem?_map,hy]; rfl
  have h0:((j+1:Nat):Int)≥0:=by omega
  have h1:((j+1:Nat):Int)<(l.length:Int):=by omega
  have h2:(j:Int)≥0:=by omega
  have h3:(j:Int)<(l.length:Int):=by omega
  by_cases hlt:key w (gI l (j+1))<key w (gI l j)
  ·have hb:z89 std (z0d l,(z0d w,((0:Int),(b,(i,(((j+1:Nat):Int),()))))))=some (.inl (z0d (sw l j),(z0d w,((0:Int),(b,(i,((j:Int),()))))))):=by
    simp only [z89,z0x,z0y,z0d,z0g,z06,z13,z0n,z0o,eq_self,not_true,not_false_eq_true,decide_true,decide_false,Bool.not_true,Bool.not_false,Int.reduceLT,Int.reduceNeg,Int.reduceGT,cond_true,cond_false,z01,hg,h0,h1,h2,h3,hw,hx,hy,hkx,hky,ge_iff_le,p0,q0,hlt,z5b,w1y,hsj,List.length_set]
   rw [z0p,hb,y3r,if_pos hlt]
   exact ih (sw l j) (y3i hp hj) (by rw [z6r]; omega) (by rw [z6r]; exact hl)
  ·have hb:z89 std (z0d l,(z0d w,((0:Int),(b,(i,(((j+1:Nat):Int),()))))))=some (.inr (z0d l,(z0d w,((0:Int),(b,(i,())))))):=by
    by_cases hgt:key w (gI l (j+1))>key w (gI l j)
    ·simp only [z89,z0x,z0y,z0d,z0g,z06,z13,z0n,z0o,eq_self,not_true,not_false_eq_true,decide_true,decide_false,Bool.not_true,Bool.not_false,Int.reduceLT,Int.reduceNeg,Int.reduceGT,cond_true,cond_false,z01,hg,h0,h1,h2,h3,hw,hx,hy,hkx,hky,ge_iff_le,p0,q0,hlt,hgt,z5b,List.length_set]
    ·simp only [z89,z0x,z0y,z0d,z0g,z06,z13,z0n,z0o,eq_self,not_true,not_false_eq_true,decide_true,decide_false,Bool.not_true,Bool.not_false,Int.reduceLT,Int.reduceNeg,Int.reduceGT,cond_true,cond_false,z01,hg,h0,h1,h2,h3,hw,hx,hy,hkx,hky,ge_iff_le,p0,q0,hlt,hgt,z5b,List.length_set]
   rw [z0p,hb,y3r,if_neg hlt]
theorem x7w (w:List Int) (n:Nat):∀ (k i:Nat) (l:List Int),z56 w l→l.length=n→n≤1000→i+k=n→
  z4g (z7w it0 std) (z0d l,(z0d w,((0:Int),((n:Int),((i:Int),())))))=some (z0d (y8z (key w) k i l),(z0d w,())):=by
 intro k
 induction k with
 |zero=>
  intro i l hp hl hn hi
  have:z7w it0 std (z0d l,(z0d w,((0:Int),((n:Int),((i:Int),())))))=some (.inr (z0d l,(z0d w,()))):=by
   have hn:¬ (i:Int)<n:=by omega
   simp only [z7w,z0x,z0y,hn]
  rw [z0p,this]; rfl
 |succ k ih=>
  intro i l hp hl hn hi
  have hw:=z02 (i:=i) (by omega)
  have hlt:(i:Int)<n:=by omega
  have h1:it0 _ _ (z89 std) (z0d l,(z0d w,((0:Int),((n:Int),((i:Int),((i:Int),()))))))=_:=x76 w n i i l hp (by omega) (by omega)
  have:z7w it0 std (z0d l,(z0d w,((0:Int),((n:Int),((i:Int),())))))=some (.inl (z0d (y3r (key w) i l),(z0d w,((0:Int),((n:Int),(((i+1:Nat):Int),())))))):=by
   simp only [z7w,z0x,z0y,hlt,h1,z0c,hw]
  rw [z0p,this,y8z]
  exact ih (i+1) _ (y3j _ _ _ hp (by omega)) (by rw [z8t]; exact hl) hn (by omega)
theorem w4j (w l:List Int) (hp:z56 w l) (hl:l.length≤1000):w13 it0 std (z0d l,(z0d w,((0:Int),((l.length:Int),()))))=some (z0d (z3a (key w) l),(z0d w,())):=by
 have hw:IntKind.i64.wrap ((0:Int)+1)=((1:Nat):Int):=by decide
 cases hn:l.length with
 |zero=>
  have e:l=[]:=List.length_eq_zero_iff.1 hn
  subst e
  have hb:z7w it0 std (z0d [],(z0d w,((0:Int),(((0:Nat):Int),(((1:Nat):Int),())))))=some (.inr (z0d [],(z0d w,()))):=by
   have hn:¬ ((1:Nat):Int)<((0:Nat):Int):=by omega
   simp only [z7w,z0x,z0y,hn]
  have h1:it0 _ _ (z7w it0 std) (z0d [],(z0d w,((0:Int),(((0:Nat):Int),(((1:Nat):Int),())))))=some (z0d [],(z0d w,())):=by
   show z4g _ _=_
   rw [z0p,hb]
  simp only [w13,z0x,z0y,z0c,hw,h1]
  rfl
 |succ n=>
  have h1:it0 _ _ (z7w it0 std) (z0d l,(z0d w,((0:Int),(((n+1:Nat):Int),(((1:Nat):Int),())))))=_:=x7w w (n+1) n 1 l hp hn (by omega) (by omega)
  have e:z3a (key w) l=y8z (key w) n 1 l:=by rw [z3a,hn]; rfl
  simp only [w13,z0x,z0y,z0c,hw,h1,e]
theorem w7q (w l:List Int) (hp:z56 w l) (hl:l.length≤12):g66 it0 std (z0d l,(z0d w,()))=some (z0d (z3a (key w) l),(z0d w,())):=by
 have h1:=w4j w l hp (by omega)
 have n20:¬ (20:Int)≤(l.length:Int):=by omega
 have n20':¬ (20:Int)<(l.length:Int):=by omega
 have e1:it0 _ _ (x7u it0 std) (z0d l,(z0d w,((l.length:Int),((20:Int),((0:Int),((20:Int),()))))))=some (z0d l,(z0d w,((l.length:Int),((20:Int),((0:Int),()))))):=by
  show z4g _ _=_
  rw [z0p]
  simp only [x7u,z0x,z0y,n20]
 have e2:it0 _ _ (x7t it0 std) (z0d (z3a (key w) l),(z0d w,((l.length:Int),((20:Int),()))))=some (z0d (z3a (key w) l),(z0d w,())):=by
  show z4g _ _=_
  rw [z0p]
  simp only [x7t,z0x,z0y,n20']
 simp only [g66,g86,z0x,z0y,z0k,e1,h1,e2,z4x]
def y2p (n:Nat):List Int:=(List.range n).map fun (i:Nat)=>(i:Int)
theorem y0v (n:Nat):(y2p n).length=n:=by simp [y2p]
theorem x79 (n:Nat):y2p (n+1)=y2p n++[(n:Int)]:=by simp [y2p,List.range_succ]
theorem x3l (w:List Int):z56 w (y2p w.length):=by
 intro q hq
 rw [y0v] at hq
 have:gI (y2p w.length) q=(q:Int):=by
  rw [gI,y2p,List.getD_eq_getElem?_getD,List.getElem?_map,List.getElem?_range hq]; rfl
 rw [this]; omega
def z09 (w:List Int):List Int:=z3a (key w) (y2p w.length)
theorem w2r (w:List Int) (hl:w.length≤12):G71 std (z0d w,())=some (z0d (z09 w),()):=by
 have h1:it0 _ _ (x73 std) ([],(z0d w,((w.length:Int),((0:Int),()))))=some (z0d (y2p w.length),(z0d w,())):=by
  have key:=z47 (b:=x73 std) w.length (fun i=>(z0d (y2p i),(z0d w,((w.length:Int),((i:Int),()))))) (z0d (y2p w.length),(z0d w,())) (fun i hi=>by
   have hw:=z02 (i:=i) (by omega)
   have hlt:(i:Int)<w.length:=by omega
   have hle:i+1≤1000000:=by omega
   have hll:=y0v i
   rw [x79]
   generalize y2p i=B at hll⊢
   have hbl:(B.map eI).length=i:=by rw [List.length_map,hll]
   simp only [x73,z0x,z0y,z0d,hlt,z0c,hw,hbl,hle,z5b,List.map_append,List.map_cons,List.map_nil,List.drop_zero,List.take_of_length_le (Nat.le_of_eq hbl),Nat.le_refl,decide_true,Bool.and_true,
    List.take_succ_cons,List.take_zero,List.length_append,List.length_cons,List.length_nil,Nat.zero_add,hll]) (by
   have hn:¬ (w.length:Int)<w.length:=by omega
   simp only [x73,z0x,z0y,hn,decide_true])
  exact key
 have h2:=w7q w (y2p w.length) (x3l w) (by rw [y0v]; exact hl)
 unfold G71
 simp only [g71,z0x,z0y,z0k,h1,h2,z09,z4x,y0v,decide_true]
end Go.Am
end
section
namespace Go.Am
open T11
variable {fl:List Int→Bool}
theorem z6a {d:List (List Int)} (h:z1c d=0):1≤d.length∧d.length≤10:=by
 refine ⟨Nat.le_of_not_lt fun h'=>?_,Nat.le_of_not_lt fun h'=>?_⟩
 ·rw [z1c,if_pos (.inl (by omega))] at h; exact absurd h (by decide)
 ·rw [z1c,if_pos (.inr h')] at h; exact absurd h (by decide)
theorem y2l {d:List (List Int)} (h:z1c d=0):∀ i,i<d.length→z1o (d.getD i []) d.length:=by
 have hl:=z6a h
 rw [z1c,if_neg (by omega)] at h
 by_cases a:∃ i∈List.range d.length,¬ z1o (d.getD i []) d.length
 ·rw [if_pos a] at h; exact absurd h (by decide)
 ·intro i hi
  exact Classical.byContradiction fun hn=>a ⟨i,List.mem_range.2 hi,hn⟩
theorem y9e {d:List (List Int)} (h:z1c d=0):w2p (bt d) d.length:=by
 have hl:=z6a h
 have hr:=y2l h
 rw [z1c,if_neg (by omega)] at h
 rw [if_neg (by rintro ⟨i,hi,hn⟩; exact hn (hr i (List.mem_range.1 hi)))] at h
 by_cases a:∃ i∈List.range d.length,z84 d i
 ·rw [if_pos a] at h; exact absurd h (by decide)
 have hno:∀ i,i<d.length→¬ z84 d i:=fun i hi hb=>a ⟨i,List.mem_range.2 hi,hb⟩
 have h1:∀ i k,i<d.length→k<i→bt d i k=!bt d k i:=by
  intro i k hi hk
  have:=hno i hi
  have h2:¬ decide ((i:Int)∈d.getD k [])=decide ((k:Int)∈d.getD i []):=fun e=>this (.inr ⟨k,List.mem_range.2 hk,e⟩)
  rw [bt,bt]
  cases h3:decide ((i:Int)∈d.getD k [])<;>cases h4:decide ((k:Int)∈d.getD i [])<;>rw [h3,h4] at h2
  ·exact absurd rfl h2
  ·rfl
  ·rfl
  ·exact absurd rfl h2
 refine ⟨fun i hi=>?_,fun i k hi hk hne=>?_⟩
 ·rw [bt]; exact decide_eq_false fun hm=>hno i hi (.inl hm)
 ·by_cases hlt:k<i
  ·exact h1 i k hi hlt
  ·rw [h1 k i hk (by omega),Bool.not_not]
theorem w6f {l:List Int} {n:Int} (h:z1o l n):l.Pairwise (· < ·):=by
 have hstep:∀ i,i+1<l.length→gI l i<gI l (i+1):=fun i hi=>by
  have:=(h (i+1) hi).2.2 (by omega)
  rwa [Nat.add_sub_cancel] at this
 have hall:∀ k i,i+k+1<l.length→gI l i<gI l (i+k+1):=by
  intro k
  induction k with
  |zero=>intro i hi; exact hstep i hi
  |succ k ih=>
   intro i hi
   have h1:=ih i (by omega)
   have h2:=hstep (i+k+1) (by omega)
   rw [show i+(k+1)+1=i+k+1+1 by omega]
   omega
 rw [List.pairwise_iff_getElem]
 intro i j hi hj hij
 have:=hall (j - i - 1) i (by omega)
 rw [show i+(j - i - 1)+1=j by omega] at this
 simpa [gI,List.getD_eq_getElem?_getD,hi,hj] using this
theorem y3f {l:List Int} {n:Int} (h:z1o l n) {x:Int} (hx:x∈l):0≤x∧x<n:=by
 obtain ⟨i,hi⟩:=List.getElem?_of_mem hx
 have:=h i (List.getElem?_eq_some_iff.1 hi).1
 rw [z9k,z1v hi] at this
 exact ⟨this.1,this.2.1⟩
theorem y51 (n:Nat) (p:Nat→Bool):cnt n p=((List.range n).filter p).length:=by
 induction n with
 |zero=>rfl
 |succ n ih=>
  rw [y7g,ih,List.range_succ,List.filter_append,List.length_append]
  congr 1
  cases h:p n<;>simp [h,o1]
theorem y48 {l:List Int} {n:Nat} (h:z1o l n):(List.range n).filter (fun (k:Nat)=>decide ((k:Int)∈l))=l.map Int.toNat:=by
 refine w6i (List.Pairwise.filter _ List.pairwise_lt_range) ?_ fun x=>?_
 ·rw [List.pairwise_map]
  exact (w6f h).imp_of_mem fun {a b} ha hb hab=>by
   have:=y3f h ha; have:=y3f h hb; omega
 ·simp only [List.mem_filter,List.mem_range,decide_eq_true_eq,List.mem_map]
  constructor
  ·rintro ⟨_,h2⟩; exact ⟨(x:Int),h2,by omega⟩
  ·rintro ⟨y,hy,rfl⟩
   have:=y3f h hy
   have e:((y.toNat:Nat):Int)=y:=by omega
   exact ⟨by omega,by rw [e]; exact hy⟩
theorem x5r {l:List Int} {n:Nat} (h:z1o l n):cnt n (fun (k:Nat)=>decide ((k:Int)∈l))=l.length:=by
 rw [y51,y48 h,List.length_map]
def wn (d:List (List Int)) (i:Nat):Nat:=cnt d.length (bt d i)
theorem w55 {d:List (List Int)} (h:z1c d=0) {i:Nat} {m:List Int} (hm:d[i]?=some m):m.length=wn d i:=by
 have hi:=(List.getElem?_eq_some_iff.1 hm).1
 have hr:=y2l h i hi
 rw [z1v hm] at hr
 rw [wn, ←x5r hr]
 exact y0s fun k _=>(w2k hm k).symm
theorem x8p {d:List (List Int)} (h:z1c d=0):z1l d=(List.range d.length).map fun i=>((wn d i:Nat):Int):=by
 apply List.ext_getElem?
 intro i
 rw [z1l,List.getElem?_map,List.getElem?_map]
 by_cases hi:i<d.length
 ·obtain ⟨m,hm⟩:=z1e hi
  rw [hm,List.getElem?_range hi,Option.map_some,Option.map_some,w55 h hm]
 ·rw [List.getElem?_eq_none (by omega),List.getElem?_eq_none (by simp; omega)]; rfl
theorem y2u {d:List (List Int)} (h:z1c d=0) {i:Nat} (hi:i<d.length):(z1l d)[i]?=some ((wn d i:Nat):Int):=by
 rw [x8p h,List.getElem?_map,List.getElem?_range hi]; rfl
theorem v0c {d:List (List Int)} (h:z1c d=0) {i:Nat} (hi:i<d.length):wn d i<d.length:=by
 have h1:=y9e h
 have h2:=x7o d.length (bt d i)
 have h3:=w5c (p:=fun k=>!bt d i k) hi (by rw [h1.1 i hi]; rfl)
 rw [wn]; omega
theorem w4l (n:Int) (f:Nat→Nat→Bool) (i:Nat) (hi:i<10):((fld n f).drop (1+i*10)).take 10=z0d ((List.range 10).map fun k=>bif f i k then 1 else 0):=by
 apply List.ext_getElem?
 intro k
 rw [z0d,List.map_map,List.getElem?_map]
 by_cases hk:k<10
 ·rw [List.getElem?_take_of_lt hk,List.getElem?_drop,z2w n f i k hi hk,List.getElem?_range hk]; rfl
 ·rw [List.getElem?_eq_none (by rw [List.length_take]; omega),List.getElem?_eq_none (by simp; omega)]; rfl
theorem x8y (p:Nat→Bool) (n:Nat):((List.range n).map fun k=>(bif p k then 1 else 0:Int)).sum=(cnt n p:Nat):=by
 induction n with
 |zero=>rfl
 |succ n ih=>
  rw [List.range_succ,List.map_append,List.sum_append,ih,y7g]
  cases h:p n<;>simp [h,o1]
theorem v4a {d:List (List Int)} (h:z1c d=0) {i k:Nat} (hk:d.length≤k):bt d i k=false:=by
 by_cases hi:i<d.length
 ·rw [bt]
  refine decide_eq_false fun hm=>?_
  have:=y3f (y2l h i hi) hm
  omega
 ·exact w2l (by omega) k
theorem w5b {d:List (List Int)} (h:z1c d=0) (i:Nat):cnt 10 (bt d i)=wn d i:=by
 have hl:=z6a h
 have e:cnt 10 (bt d i)=cnt d.length (bt d i)+cnt (10 - d.length) fun j=>bt d i (d.length+j):=by
  rw [←y34]; congr 1; omega
 rw [e,y0s (n:=10 - d.length) (q:=fun _=>false) fun j _=>v4a h (by omega),y0r]; rfl
theorem w2u (d:List (List Int)) (hr:∀ l∈d,l.length≤1000000):G35 std (z0o fl d,())=some (if z1c d=0 then (z0d (z1l d),((0:Int),())) else ([],(z1c d,()))):=by
 have h54:g54 it0 std (z0o fl d,())=_:=w9g d hr
 unfold G35
 by_cases h:z1c d=0
 ·rw [if_pos h] at h54
  have hl:=z6a h
  have key:=z47 (b:=x1b it0 std) d.length (fun i=>(fld d.length (bt d),(z0d ((z1l d).take i++List.replicate (d.length - i) 0),((d.length:Int),((i:Int),()))))) (z0d (z1l d),()) (fun i hi=>by
   have hw:=z02 (i:=i) (by omega)
   have hlt:(i:Int)<d.length:=by omega
   have h0:(0:Int)≤i:=by omega
   have hi1:(i:Int)<((10:Nat):Int):=by omega
   have hrow:=w4l d.length (bt d) i (by omega)
   have hfl:=x6q d.length (bt d)
   have hsum:=x8y (bt d i) 10
   rw [w5b h] at hsum
   have h70:g70 it0 std (z0d ((List.range 10).map fun k=>bif bt d i k then 1 else 0),())=some (((wn d i:Nat):Int),()):=by
    have:=w9c ((List.range 10).map fun k=>bif bt d i k then 1 else 0) (by simp) (fun x hx=>by
     simp only [List.mem_map] at hx
     obtain ⟨k,_,rfl⟩:=hx
     cases bt d i k<;>simp)
    rw [hsum] at this
    exact this
   have hget:=y2u h hi
   have hwl:=z5l d
   have hset:((z1l d).take i++List.replicate (d.length - i) 0).set i ((wn d i:Nat):Int)=(z1l d).take (i+1)++List.replicate (d.length - (i+1)) 0:=by
    have hti:((z1l d).take i).length=i:=by rw [List.length_take]; omega
    rw [List.take_succ_eq_append_getElem (by omega),(List.getElem?_eq_some_iff.1 hget).2,show d.length - i=(d.length - (i+1))+1 by omega,List.replicate_succ,List.set_append_right (h:=by omega),hti,Nat.sub_self,List.set_cons_zero,List.append_assoc]
    rfl
   rw [←hset]
   have hBl:((z1l d).take i++List.replicate (d.length - i) 0).length=d.length:=by
    rw [List.length_append,List.length_take,List.length_replicate]; omega
   generalize (z1l d).take i++List.replicate (d.length - i) (0:Int)=B at hBl⊢
   have hEl:(B.map eI).length=d.length:=by rw [List.length_map,hBl]
   have h111:1+i*10+10≤101:=by omega
   have hF0:(fld d.length (bt d))[1+i*10]?=some (eC (bt d i 0)):=z2w d.length (bt d) i 0 (by omega) (by omega)
   have hBi:=z2f (l:=B) (q:=i) (by omega)
   have hms:(B.set i ((wn d i:Nat):Int)).map eI=(B.map eI).set i (eI ((wn d i:Nat):Int)):=by rw [List.map_set]
   generalize fld d.length (bt d)=F at hrow hfl hF0⊢
   simp only [z0d] at h70 hrow
   generalize ((List.range 10).map fun k=>(bif bt d i k then 1 else 0:Int))=ROW at hrow h70
   simp only [x1b,z0x,z0y,z0d,hlt,h0,hi1,ge_iff_le,z0c,hw,hfl,h111,hrow,h70,hEl,hBl,z5b,hms,hF0,hBi,z14,z0g,decide_true,cond_true,Bool.and_true,List.length_set]) (by
   have hn:¬ (d.length:Int)<d.length:=by omega
   rw [Nat.sub_self,List.replicate_zero,List.append_nil,List.take_of_length_le (by rw [z5l]; exact Nat.le_refl _)]
   simp only [x1b,z0x,z0y,hn,decide_true])
  have key':it0 _ _ (x1b it0 std) (fld d.length (bt d),(z0d (List.replicate d.length 0),((d.length:Int),((0:Int),()))))=some (z0d (z1l d),()):=by
   have:=key
   simp only [List.take_zero,List.nil_append,Nat.sub_zero] at this
   exact this
  have hf0:(fld d.length (bt d))[0]?=some (eI d.length):=rfl
  have hrep:z0d (List.replicate d.length 0)=List.replicate d.length (eI 0):=by rw [z0d,List.map_replicate]
  rw [hrep] at key'
  have hn0:(0:Int)≤d.length:=by omega
  have hnm:(d.length:Int)≤1000000:=by omega
  have hwl:=z5l d
  simp only [g35,z0x,z0y,eq_self,not_true,not_false_eq_true,decide_true,decide_false,Bool.not_true,Bool.not_false,Int.reduceLT,Int.reduceNeg,Int.reduceGT,cond_true,cond_false,h54,h,hf0,z0g,z06,ge_iff_le,hn0,hnm,Int.le_refl,Bool.and_true,z5b,key',z0k,Nat.le_refl,ne_eq,List.length_replicate]
  done
 ·rw [if_neg h] at h54
  simp only [g35,z0x,z0y,eq_self,not_true,not_false_eq_true,decide_true,decide_false,Bool.not_true,Bool.not_false,Int.reduceLT,Int.reduceNeg,Int.reduceGT,cond_true,cond_false,h54,h,ne_eq]
  done
theorem w8v (w:Nat):((w:Int)*((w:Int) - 1)).tdiv 2=(c2 w:Nat):=by
 have:=w8w w
 cases w with
 |zero=>rfl
 |succ w=>
  rw [Nat.add_sub_cancel] at this
  have e:(((w+1:Nat):Int)*(((w+1:Nat):Int) - 1))=2*(c2 (w+1):Nat):=by
   have e1:(((w+1:Nat):Int) - 1)=(w:Int):=by omega
   rw [e1]
   have:=congrArg (fun (n:Nat)=>(n:Int)) this
   simp only [Int.natCast_mul] at this
   rw [←this]; rfl
  rw [e]
  exact Int.mul_tdiv_cancel_left _ (by decide)
end Go.Am
end
noncomputable section
namespace Go.Am
def w8k:Ctr:=
 ⟨24,[.list 1, .list 1],[],[(.ret,⟨[(0, .int .i64)],[],1⟩)]⟩
def la24:List LA:=
 [⟨24,[false,true,false,true,true,true,true,true,true,true],0,⟨⟨[(1, .list 1),(5, .bptr 0 0),(8, .int .i64)],[.row [ci]],59⟩,[(AX.ret,⟨[(4, .int .i64)],[],59⟩),((AX.exit 1),⟨[],[],59⟩)]⟩⟩]
def ja24:List JA:=
 [⟨24,[true,false,false,true,true],0,[(AX.ret,⟨[(4, .int .i64)],[],59⟩),(AX.normal,⟨[(1, .list 1),(5, .bptr 0 0)],[.row [ci]],59⟩)]⟩]
def v3k:List CF:=
 [⟨w0q,G56⟩,⟨w2d,v5x⟩,⟨w0r,G54⟩]
def an24:Anns:=
 ⟨v3k,ja24,[]⟩
def v4i (p:Prim):(LD×(LD×T1))→Option ((LD×(LD×T1))⊕T15):=
 fun a=>opt.run _ (
 opt.ask _ (p.cmp .lss a.2.2.1 (p.ofNat (p.len a.2.1))) (
 opt.need _ (p.rowOk a.2.1 (p.nat (p.ar .sub .i64 a.2.2.1 (1:Int))) [ci])<|
 opt.need _ (p.cmp .geq (p.ar .sub .i64 a.2.2.1 (1:Int)) (0:Int))<|
 opt.need _ (p.rowOk a.2.1 (p.nat a.2.2.1) [ci])<|
 opt.need _ (p.cmp .geq a.2.2.1 (0:Int))<|
 opt.need _ (bif (p.cmp .geq (p.rdI a.2.1 (p.nat (p.ar .sub .i64 a.2.2.1 (1:Int))) 0) (0:Int)) then (p.cmp .lss (p.rdI a.2.1 (p.nat (p.ar .sub .i64 a.2.2.1 (1:Int))) 0) (p.ofNat 10)) else Bool.false)<|
 opt.need _ (bif (p.cmp .geq (p.rdI a.2.1 (p.nat a.2.2.1) 0) (0:Int)) then (p.cmp .lss (p.rdI a.2.1 (p.nat a.2.2.1) 0) (p.ofNat 10)) else Bool.false)<|
 opt.need _ (p.rowOk a.1 (p.add (p.add 1 (p.mul (p.nat (p.rdI a.2.1 (p.nat (p.ar .sub .i64 a.2.2.1 (1:Int))) 0)) 10)) (p.nat (p.rdI a.2.1 (p.nat a.2.2.1) 0))) [ci])<|
 opt.ask _ (bif (p.cmp .eql (p.rdI a.1 (p.add (p.add 1 (p.mul (p.nat (p.rdI a.2.1 (p.nat (p.ar .sub .i64 a.2.2.1 (1:Int))) 0)) 10)) (p.nat (p.rdI a.2.1 (p.nat a.2.2.1) 0))) 0) (1:Int)) then Bool.false else Bool.true) (
 opt.ret _ (Sum.inr (Sum.inl ((16:Int),())))) (
 opt.ret _ (Sum.inl (a.1,(a.2.1,((p.ar .add .i64 a.2.2.1 (1:Int)),())))))) (
 opt.ret _ (Sum.inr (Sum.inr ()))))
def v4j (p:Prim):(LD×(LD×T1))→Option ((LD×(LD×T1))⊕T15):=
 fun a=>opt.run _ (
 opt.ask _ (p.cmp .lss a.2.2.1 (p.ofNat (p.len a.2.1))) (
 opt.need _ (p.rowOk a.2.1 (p.nat (p.ar .sub .i64 a.2.2.1 (1:Int))) [ci])<|
 opt.need _ (p.cmp .geq (p.ar .sub .i64 a.2.2.1 (1:Int)) (0:Int))<|
 opt.need _ (p.rowOk a.2.1 (p.nat a.2.2.1) [ci])<|
 opt.need _ (p.cmp .geq a.2.2.1 (0:Int))<|
 opt.need _ (bif (p.cmp .geq (p.rdI a.2.1 (p.nat (p.ar .sub .i64 a.2.2.1 (1:Int))) 0) (0:Int)) then (p.cmp .lss (p.rdI a.2.1 (p.nat (p.ar .sub .i64 a.2.2.1 (1:Int))) 0) (p.ofNat 10)) else Bool.false)<|
 opt.need _ (bif (p.cmp .geq (p.rdI a.2.1 (p.nat a.2.2.1) 0) (0:Int)) then (p.cmp .lss (p.rdI a.2.1 (p.nat a.2.2.1) 0) (p.ofNat 10)) else Bool.false)<|
 opt.need _ (p.rowOk a.1 (p.add (p.add 1 (p.mul (p.nat (p.rdI a.2.1 (p.nat (p.ar .sub .i64 a.2.2.1 (1:Int))) 0)) 10)) (p.nat (p.rdI a.2.1 (p.nat a.2.2.1) 0))) [ci])<|
 opt.ask _ (bif (p.cmp .eql (p.rdI a.1 (p.add (p.add 1 (p.mul (p.nat (p.rdI a.2.1 (p.nat (p.ar .sub .i64 a.2.2.1 (1:Int))) 0)) 10)) (p.nat (p.rdI a.2.1 (p.nat a.2.2.1) 0))) 0) (1:Int)) then Bool.false else Bool.true) (
 opt.ret _ (Sum.inr (Sum.inl ((16:Int),())))) (
 opt.ret _ (Sum.inl (a.1,(a.2.1,((p.ar .add .i64 a.2.2.1 (1:Int)),())))))) (
 opt.ret _ (Sum.inr (Sum.inr ()))))
def g24 (it:It):(p:Prim)→(LD×(LD×Unit))→Option T2:=
 fun p x=>
 opt.alt T2 ((LD×T1)) _ (g54 it p (x.1,())) (fun a=>
 opt.alt T2 ((LD×(LD×Unit))) _ (
 opt.run T32 (
 opt.ask _ (p.cmp .neq a.1 (0:Int)) (
 opt.ret _ (Sum.inl (a.1,()))) (
 opt.no _ 41))) (fun b=>
 opt.ret _ (b.1,())) (fun c=>
 opt.bnd ((LD×(LD×Unit))) _ (some c) fun d=>
 opt.need _ (p.and (p.cmp .geq (p.ofNat (p.len d.2.1)) (0:Int)) (p.and (p.cmp .leq (p.ofNat (p.len d.2.1)) (p.ofNat (p.len d.2.1))) (p.cmp .leq (p.ofNat (p.len d.2.1)) (1000000:Int))))<|
 opt.need _ (p.and Bool.true (p.and (p.leN (p.len d.2.1) (p.nat (p.ofNat (p.len d.2.1)))) (p.leN (p.add 0 (p.nat (p.ofNat (p.len d.2.1)))) (p.len (p.rep (p.nat (p.ofNat (p.len d.2.1))) k0k)))))<|
 opt.need _ (p.eqN 0 0)<|
 opt.need _ (p.eqN (p.nat (p.ofNat (p.len d.2.1))) (p.len (p.splice (p.rep (p.nat (p.ofNat (p.len d.2.1))) k0k) 0 d.2.1)))<|
 opt.need _ (p.eqN (p.nat (p.ofNat (p.len d.2.1))) (p.len (p.splice (p.rep (p.nat (p.ofNat (p.len d.2.1))) k0k) 0 d.2.1)))<|
 opt.bnd ((LD×Unit)) _ (w7r it p ((p.splice (p.rep (p.nat (p.ofNat (p.len d.2.1))) k0k) 0 d.2.1),())) fun e=>
 opt.need _ (p.rowOk d.1 0 [ci])<|
 opt.need _ (p.and (p.leN (p.add 0 (p.nat (p.ofNat (p.len d.2.1)))) (p.len e.1)) (p.and Bool.true Bool.true))<|
 opt.bnd T0 _ (g56 it p ((p.cut e.1 0 (p.nat (p.ofNat (p.len d.2.1)))),((p.rdI d.1 0 0),()))) fun f=>
 opt.ask _ (bif f.1 then Bool.false else Bool.true) (
 opt.ret _ ((3:Int),())) (
 opt.alt T2 (Unit) _ (
 it _ _ (v4j p) (d.1,(d.2.1,((1:Int),())))) (fun g=>
 opt.ret _ (g.1,())) (fun h=>
 opt.bnd (Unit) _ (some h) fun i=>
 opt.ret _ ((0:Int),()))))) (fun j=>
 opt.bnd ((LD×T1)) _ (some j) fun k=>
 opt.alt T2 ((LD×(LD×Unit))) _ (
 opt.run T32 (
 opt.ask _ (p.cmp .neq k.2.1 (0:Int)) (
 opt.ret _ (Sum.inl (k.2.1,()))) (
 opt.need _ (p.rowOk k.1 0 [ci])<|
 opt.ask _ (p.cmp .neq (p.ofNat (p.len x.2.1)) (p.rdI k.1 0 0)) (
 opt.ret _ (Sum.inl ((15:Int),()))) (
 opt.ret _ (Sum.inr (k.1,(x.2.1,()))))))) (fun l=>
 opt.ret _ (l.1,())) (fun m=>
 opt.bnd ((LD×(LD×Unit))) _ (some m) fun n=>
 opt.need _ (p.and (p.cmp .geq (p.ofNat (p.len n.2.1)) (0:Int)) (p.and (p.cmp .leq (p.ofNat (p.len n.2.1)) (p.ofNat (p.len n.2.1))) (p.cmp .leq (p.ofNat (p.len n.2.1)) (1000000:Int))))<|
 opt.need _ (p.and Bool.true (p.and (p.leN (p.len n.2.1) (p.nat (p.ofNat (p.len n.2.1)))) (p.leN (p.add 0 (p.nat (p.ofNat (p.len n.2.1)))) (p.len (p.rep (p.nat (p.ofNat (p.len n.2.1))) k0k)))))<|
 opt.need _ (p.eqN 0 0)<|
 opt.need _ (p.eqN (p.nat (p.ofNat (p.len n.2.1))) (p.len (p.splice (p.rep (p.nat (p.ofNat (p.len n.2.1))) k0k) 0 n.2.1)))<|
 opt.need _ (p.eqN (p.nat (p.ofNat (p.len n.2.1))) (p.len (p.splice (p.rep (p.nat (p.ofNat (p.len n.2.1))) k0k) 0 n.2.1)))<|
 opt.bnd ((LD×Unit)) _ (w7r it p ((p.splice (p.rep (p.nat (p.ofNat (p.len n.2.1))) k0k) 0 n.2.1),())) fun o=>
 opt.need _ (p.rowOk n.1 0 [ci])<|
 opt.need _ (p.and (p.leN (p.add 0 (p.nat (p.ofNat (p.len n.2.1)))) (p.len o.1)) (p.and Bool.true Bool.true))<|
 opt.bnd T0 _ (g56 it p ((p.cut o.1 0 (p.nat (p.ofNat (p.len n.2.1)))),((p.rdI n.1 0 0),()))) fun q=>
 opt.ask _ (bif q.1 then Bool.false else Bool.true) (
 opt.ret _ ((3:Int),())) (
 opt.alt T2 (Unit) _ (
 it _ _ (v4i p) (n.1,(n.2.1,((1:Int),())))) (fun r=>
 opt.ret _ (r.1,())) (fun t=>
 opt.bnd (Unit) _ (some t) fun u=>
 opt.ret _ ((0:Int),())))))
def G24:=g24 it0
theorem ok24:CtrOk PG w8k (G24 std):=okF (a:=an24) (l:=la24) (gC v02 (gC v04 (gC v05 (gN)))) (by kernel_rfl) fun _ _=>by kernel_rfl
end Go.Am
end
section
namespace Go.Am
open T11
variable {fl:List Int→Bool}
def v5q (o:List Int) (n:Nat) (i:Nat):Prop:=gI o i<0∨(n:Int)≤gI o i∨∃ k∈List.range i,gI o i=gI o k
instance v3y (o:List Int) (n i:Nat):Decidable (v5q o n i):=by unfold v5q; infer_instance
def w98 (d:List (List Int)) (o:List Int) (i:Nat):Prop:=bt d (gI o i).toNat (gI o (i+1)).toNat=false
instance v3z (d:List (List Int)) (o:List Int) (i:Nat):Decidable (w98 d o i):=by unfold w98; infer_instance
def anyN (d:List (List Int)) (o:List Int):Prop:=∃ i∈List.range (d.length - 1),w98 d o i
instance v30 (d:List (List Int)) (o:List Int):Decidable (anyN d o):=inferInstanceAs (Decidable (∃ i,i∈List.range (d.length - 1)∧w98 d o i))
theorem y2o {n:Nat} {x:Int}:x∈y2p n↔0≤x∧x<n:=by
 rw [y2p,List.mem_map]
 constructor
 ·rintro ⟨a,ha,rfl⟩; have:=List.mem_range.1 ha; omega
 ·rintro ⟨h1,h2⟩; exact ⟨x.toNat,List.mem_range.2 (by omega),by omega⟩
theorem x4q (n:Nat):(y2p n).Nodup:=by
 rw [y2p,List.nodup_iff_pairwise_ne,List.pairwise_map]
 exact (List.nodup_range (n:=n)).imp fun {a b} hab=>by omega
end Go.Am
end
noncomputable section
namespace Go.Am
def w76:Ctr:=
 ⟨72,[.vec 0 1],[.row [ci]],[(.ret,⟨[(0, .tuple [])],[.row [ci]],1⟩)]⟩
def la72:List LA:=
 [⟨72,[false,true],1,⟨⟨[(0, .vec 0 1),(2, .int .i64),(3, .int .i64)],[.row [ci]],28⟩,[((AX.exit 0),⟨[],[.row [ci]],28⟩)]⟩⟩]
def ja72:List JA:=
 []
def v2r:List CF:=
 []
def an72:Anns:=
 ⟨v2r,ja72,[]⟩
def v4d (p:Prim):(LD×T3)→Option ((LD×T3)⊕(LD×Unit)):=
 fun a=>opt.run _ (
 opt.ask _ (p.cmp .lss a.2.1 a.2.2.1) (
 opt.need _ (bif (p.cmp .geq a.2.2.1 (0:Int)) then (p.cmp .lss a.2.2.1 (p.ofNat (p.len a.1))) else Bool.false)<|
 opt.need _ (p.rowOk a.1 (p.add 0 (p.nat a.2.2.1)) [ci])<|
 opt.need _ (bif (p.cmp .geq a.2.1 (0:Int)) then (p.cmp .lss a.2.1 (p.ofNat (p.len a.1))) else Bool.false)<|
 opt.need _ (p.rowOk a.1 (p.add 0 (p.nat a.2.1)) [ci])<|
 opt.need _ (bif (p.cmp .geq a.2.1 (0:Int)) then (p.cmp .lss a.2.1 (p.ofNat (p.len a.1))) else Bool.false)<|
 opt.need _ (p.rowOk a.1 (p.add 0 (p.nat a.2.1)) [ci])<|
 opt.need _ (bif (p.cmp .geq a.2.2.1 (0:Int)) then (p.cmp .lss a.2.2.1 (p.ofNat (p.len a.1))) else Bool.false)<|
 opt.need _ (p.rowOk (p.set a.1 (p.add 0 (p.nat a.2.1)) [(D.int .i64 (p.rdI a.1 (p.add 0 (p.nat a.2.2.1)) 0))]) (p.add 0 (p.nat a.2.2.1)) [ci])<|
 opt.need _ (p.eqN 0 0)<|
 opt.need _ (p.eqN (p.len a.1) (p.len (p.set (p.set a.1 (p.add 0 (p.nat a.2.1)) [(D.int .i64 (p.rdI a.1 (p.add 0 (p.nat a.2.2.1)) 0))]) (p.add 0 (p.nat a.2.2.1)) [(D.int .i64 (p.rdI a.1 (p.add 0 (p.nat a.2.1)) 0))])))<|
 opt.ret _ (Sum.inl ((p.set (p.set a.1 (p.add 0 (p.nat a.2.1)) [(D.int .i64 (p.rdI a.1 (p.add 0 (p.nat a.2.2.1)) 0))]) (p.add 0 (p.nat a.2.2.1)) [(D.int .i64 (p.rdI a.1 (p.add 0 (p.nat a.2.1)) 0))]),((p.ar .add .i64 a.2.1 (1:Int)),((p.ar .sub .i64 a.2.2.1 (1:Int)),()))))) (
 opt.ret _ (Sum.inr (a.1,()))))
def g72 (it:It):(p:Prim)→(LD×Unit)→Option ((LD×Unit)):=
 fun p x=>
 opt.need _ (p.eqN 0 0)<|
 opt.need _ (p.eqN (p.len x.1) (p.len x.1))<|
 opt.bnd ((LD×Unit)) _ (
 it _ _ (v4d p) (x.1,((0:Int),((p.ar .sub .i64 (p.ofNat (p.len x.1)) (1:Int)),())))) fun a=>
 opt.ret _ (a.1,())
def G72:=g72 it0
theorem ok72:CtrOk PG w76 (G72 std):=okF (a:=an72) (l:=la72) (gN) (by kernel_rfl) fun _ _=>by kernel_rfl
def w8g:Ctr:=
 ⟨37,[.list 1],[],[(.ret,⟨[(0, .tuple [.list 1, .int .i64])],[],1⟩)]⟩
def la37:List LA:=
 [⟨37,[false,true,false,true,true,true,true,true,true,true,true],0,⟨⟨[(4, .vec 0 1),(6, .vec 1 1),(7, .int .i64),(8, .vec 2 1),(9, .int .i64),(10, .int .i64),(29, .vec 1 1),(30, .int .i64),(31, .int .i64)],[.row [ci], .row [ci], .row [(CK.list 1)]],70⟩,[((AX.exit 0),⟨[(8, .vec 0 1)],[.row [(CK.list 1)]],70⟩)]⟩⟩]
def ja37:List JA:=
 [⟨37,[true,true,true,true,false,false,true,true,false,false,true,false,true,true,true,true,true,true,true,true],0,[(AX.normal,⟨[(4, .vec 0 1),(6, .vec 1 1),(7, .int .i64),(8, .vec 2 1),(9, .int .i64),(10, .int .i64),(29, .vec 1 1),(30, .int .i64),(31, .int .i64)],[.row [ci], .row [ci], .row [(CK.list 1)]],70⟩)]⟩]
def v29:List CF:=
 [⟨w4z,G73⟩,⟨w76,G72⟩,⟨w40,G71⟩,⟨x7e,G35⟩]
def an37:Anns:=
 ⟨v29,ja37,[⟨37,[false,true,false,true,true,true,true,false,false,true,true,false,false,true,false,true,true,true,true,true,true,true,true],⟨[(4, .vec 0 1),(6, .vec 1 1),(7, .int .i64),(8, .vec 2 1),(10, .int .i64),(13, .int .i64),(14, .list 1),(29, .vec 1 1),(30, .int .i64),(31, .int .i64)],[.row [ci], .row [ci], .row [(CK.list 1)]],70⟩⟩]⟩
def w5d (it:It) (p:Prim):(LD×(LD×(LD×T20)))→Option ((LD×(LD×(LD×T20)))⊕(LD×Unit)):=
 fun a=>opt.run _ (
 opt.ask _ (p.cmp .lss a.2.2.2.2.2.2.2.1 a.2.2.2.2.2.2.1) (
 opt.need _ (bif (p.cmp .geq a.2.2.2.2.2.2.2.1 (0:Int)) then (p.cmp .lss a.2.2.2.2.2.2.2.1 (p.ofNat (p.len a.2.1))) else Bool.false)<|
 opt.need _ (p.rowOk a.2.1 (p.add 0 (p.nat a.2.2.2.2.2.2.2.1)) [ci])<|
 opt.need _ (bif (p.cmp .geq (p.rdI a.2.1 (p.add 0 (p.nat a.2.2.2.2.2.2.2.1)) 0) (0:Int)) then (p.cmp .lss (p.rdI a.2.1 (p.add 0 (p.nat a.2.2.2.2.2.2.2.1)) 0) (p.ofNat (p.len a.1))) else Bool.false)<|
 opt.need _ (p.rowOk a.1 (p.add 0 (p.nat (p.rdI a.2.1 (p.add 0 (p.nat a.2.2.2.2.2.2.2.1)) 0))) [ci])<|
 opt.need _ (p.cmp .neq (2:Int) (0:Int))<|
 opt.bnd ((LD×(LD×(LD×T20)))) _ (
 opt.run ((LD×(LD×(LD×T20)))) (
 opt.ask _ (p.cmp .eql (p.ar .add .i64 a.2.2.2.2.2.1 (p.rdI a.1 (p.add 0 (p.nat (p.rdI a.2.1 (p.add 0 (p.nat a.2.2.2.2.2.2.2.1)) 0))) 0)) (p.ar .add .i64 (p.ar .quo .i64 (p.ar .mul .i64 (p.ar .add .i64 a.2.2.2.2.2.2.2.1 (1:Int)) (p.ar .sub .i64 (p.ar .add .i64 a.2.2.2.2.2.2.2.1 (1:Int)) (1:Int))) (2:Int)) (p.ar .mul .i64 (p.ar .add .i64 a.2.2.2.2.2.2.2.1 (1:Int)) (p.ar .sub .i64 a.2.2.2.1 (p.ar .add .i64 a.2.2.2.2.2.2.2.1 (1:Int)))))) (
 opt.need _ (p.and (p.cmp .geq a.2.2.2.2.1 (0:Int)) (p.and (p.cmp .leq a.2.2.2.2.1 (p.ar .add .i64 a.2.2.2.2.2.2.2.1 (1:Int))) (p.cmp .leq (p.ar .add .i64 a.2.2.2.2.2.2.2.1 (1:Int)) (p.ofNat (p.len a.2.1)))))<|
 opt.bnd ((LD×(LD×T5))) _ (g73 it p (a.2.1,((p.add 0 (p.nat a.2.2.2.2.1)),((p.sub (p.nat (p.ar .add .i64 a.2.2.2.2.2.2.2.1 (1:Int))) (p.nat a.2.2.2.2.1)),())))) fun b=>
 opt.need _ (p.eqN 0 0)<|
 opt.need _ (p.eqN (p.len a.1) (p.len a.1))<|
 opt.need _ (p.eqN 0 0)<|
 opt.need _ (p.eqN (p.len a.2.1) (p.len b.1))<|
 opt.need _ (p.eqN 0 0)<|
 opt.need _ (p.eqN (p.len a.2.2.1) (p.len a.2.2.1))<|
 opt.need _ (p.leN (p.add 0 (p.len b.2.1)) (p.len b.2.1))<|
 opt.need _ (p.eqN 0 0)<|
 opt.need _ (p.eqN (p.len a.2.1) (p.len b.1))<|
 opt.need _ (p.and (p.leN (p.add 0 1) (p.len [[(D.list Bool.false 1 (p.cut b.2.1 0 (p.len b.2.1)))]])) (p.and (p.leN (p.add 0 (p.len a.2.2.1)) (p.len a.2.2.1)) (p.and (p.leN 1 1) (p.leN (p.add (p.len a.2.2.1) 1) 1000000))))<|
 opt.need _ (p.eqN 0 0)<|
 opt.need _ (p.eqN (p.len a.1) (p.len a.1))<|
 opt.need _ (p.eqN 0 0)<|
 opt.need _ (p.eqN (p.len b.1) (p.len b.1))<|
 opt.need _ (p.eqN 0 0)<|
 opt.need _ (p.eqN (p.add (p.len a.2.2.1) 1) (p.len (p.app (p.cut a.2.2.1 0 (p.len a.2.2.1)) (p.cut [[(D.list Bool.false 1 (p.cut b.2.1 0 (p.len b.2.1)))]] 0 1))))<|
 opt.need _ (p.eqN 0 0)<|
 opt.need _ (p.eqN (p.len b.1) (p.len b.1))<|
 opt.ret _ (a.1,(b.1,((p.app (p.cut a.2.2.1 0 (p.len a.2.2.1)) (p.cut [[(D.list Bool.false 1 (p.cut b.2.1 0 (p.len b.2.1)))]] 0 1)),(a.2.2.2.1,((p.ar .add .i64 a.2.2.2.2.2.2.2.1 (1:Int)),((p.ar .add .i64 a.2.2.2.2.2.1 (p.rdI a.1 (p.add 0 (p.nat (p.rdI a.2.1 (p.add 0 (p.nat a.2.2.2.2.2.2.2.1)) 0))) 0)),(a.2.2.2.2.2.2.1,(a.2.2.2.2.2.2.2.1,()))))))))) (
 opt.need _ (p.eqN 0 0)<|
 opt.need _ (p.eqN (p.len a.1) (p.len a.1))<|
 opt.need _ (p.eqN 0 0)<|
 opt.need _ (p.eqN (p.len a.2.1) (p.len a.2.1))<|
 opt.need _ (p.eqN 0 0)<|
 opt.need _ (p.eqN (p.len a.2.2.1) (p.len a.2.2.1))<|
 opt.need _ (p.eqN 0 0)<|
 opt.need _ (p.eqN (p.len a.2.1) (p.len a.2.1))<|
 opt.ret _ (a.1,(a.2.1,(a.2.2.1,(a.2.2.2.1,(a.2.2.2.2.1,((p.ar .add .i64 a.2.2.2.2.2.1 (p.rdI a.1 (p.add 0 (p.nat (p.rdI a.2.1 (p.add 0 (p.nat a.2.2.2.2.2.2.2.1)) 0))) 0)),(a.2.2.2.2.2.2.1,(a.2.2.2.2.2.2.2.1,()))))))))))) fun c=>
 opt.need _ (p.eqN 0 0)<|
 opt.need _ (p.eqN (p.len c.1) (p.len c.1))<|
 opt.need _ (p.eqN 0 0)<|
 opt.need _ (p.eqN (p.len c.2.1) (p.len c.2.1))<|
 opt.need _ (p.eqN 0 0)<|
 opt.need _ (p.eqN (p.len c.2.2.1) (p.len c.2.2.1))<|
 opt.need _ (p.eqN 0 0)<|
 opt.need _ (p.eqN (p.len c.2.1) (p.len c.2.1))<|
 opt.ret _ (Sum.inl (c.1,(c.2.1,(c.2.2.1,(c.2.2.2.1,(c.2.2.2.2.1,(c.2.2.2.2.2.1,(c.2.2.2.2.2.2.1,((p.ar .add .i64 c.2.2.2.2.2.2.2.1 (1:Int)),())))))))))) (
 opt.need _ (p.eqN 0 0)<|
 opt.need _ (p.eqN (p.len a.2.2.1) (p.len a.2.2.1))<|
 opt.ret _ (Sum.inr (a.2.2.1,()))))
def g37 (it:It):(p:Prim)→(LD×Unit)→Option ((LD×T1)):=
 fun p x=>
 opt.bnd ((LD×T1)) _ (g35 it p (x.1,())) fun a=>
 opt.ask _ (p.cmp .neq a.2.1 (0:Int)) (
 opt.ret _ ([],(a.2.1,()))) (
 opt.need _ (p.and (p.leN (p.add 0 (p.len a.1)) (p.len a.1)) Bool.true)<|
 opt.bnd ((LD×Unit)) _ (g71 it p ((p.cut a.1 0 (p.len a.1)),())) fun b=>
 opt.need _ (p.plain b.1)<|
 opt.need _ (p.eqN 0 0)<|
 opt.need _ (p.eqN (p.len b.1) (p.len b.1))<|
 opt.bnd ((LD×Unit)) _ (g72 it p (b.1,())) fun c=>
 opt.need _ (p.eqN 0 0)<|
 opt.need _ (p.eqN (p.len a.1) (p.len a.1))<|
 opt.need _ (p.eqN 0 0)<|
 opt.need _ (p.eqN (p.len b.1) (p.len c.1))<|
 opt.need _ (p.eqN 0 0)<|
 opt.need _ (p.eqN (p.len b.1) (p.len c.1))<|
 opt.bnd ((LD×Unit)) _ (
 it _ _ (w5d it p) (a.1,(c.1,([],((p.ofNat (p.len a.1)),((0:Int),((0:Int),((p.ofNat (p.len b.1)),((0:Int),()))))))))) fun d=>
 opt.need _ (p.leN (p.add 0 (p.len d.1)) (p.len d.1))<|
 opt.ret _ ((p.cut d.1 0 (p.len d.1)),((0:Int),())))
def G37:=g37 it0
theorem ok37:CtrOk PG w8g (G37 std):=okF (a:=an37) (l:=la37) (gC v42 (gC ok72 (gC v43 (gC w9x (gN))))) (by kernel_rfl) fun _ _=>by kernel_rfl
end Go.Am
end
section
namespace Go.Am
open T11
variable {fl:List Int→Bool}
def fz:List Int→Bool:=fun _=>false
def toI (l:List Nat):List Int:=l.map fun (n:Nat)=>(n:Int)
theorem y94 (a b:List Nat):toI (a++b)=toI a++toI b:=by simp [toI]
theorem z7z (l:List Nat):(toI l).length=l.length:=by simp [toI]
theorem x6n {l:List Int} {j:Nat} (hj:j<l.length) (v:Int) (q:Nat):gI (l.set j v) q=if q=j then v else gI l q:=by
 rw [gI,gI,List.getD_eq_getElem?_getD,List.getD_eq_getElem?_getD,List.getElem?_set]
 by_cases h:j=q
 ·subst h; rw [if_pos rfl,if_pos hj,if_pos rfl]; rfl
 ·rw [if_neg h,if_neg (Ne.symm h)]
theorem z4o (w:List Int):(z09 w).Perm (y2p w.length):=z8n _ _
theorem z5s (w:List Int):(z09 w).length=w.length:=by rw [z09,z4x,y0v]
end Go.Am
end
section
namespace Go.Am
open Go.ChangeShapes Go.WideShapes Go.ChangeAt
theorem w7c {x:D} (h:DK (.int .i64) x):∃ n:Int,x= .int .i64 n∧(Lit.int IntKind.i64 n).wf=true:=by
 match x,h with
 | .int k n,h=>obtain ⟨rfl,h⟩:=h; exact ⟨n,rfl,h⟩
theorem v0g {x:D} (h:DK (.int .u8) x):∃ n:Int,x= .int .u8 n∧(Lit.int IntKind.u8 n).wf=true:=by
 match x,h with
 | .int k n,h=>obtain ⟨rfl,h⟩:=h; exact ⟨n,rfl,h⟩
theorem w57 {x:D} (h:DK (.int .u64) x):∃ n:Int,x= .int .u64 n∧(Lit.int IntKind.u64 n).wf=true:=by
 match x,h with
 | .int k n,h=>obtain ⟨rfl,h⟩:=h; exact ⟨n,rfl,h⟩
theorem x6f {x:D} (h:DK (.list [.int .i64]) x):∃ l:List Int,x= .list false 1 (z0d l):=by
 match x,h with
 | .list f z es,h=>
  obtain ⟨rfl,rfl,hl,hr⟩:=h
  rw [y1n] at hr
  clear hl
  have:∃ l:List Int,es=z0d l:=by
   induction es with
   |nil=>exact ⟨[],rfl⟩
   |cons r es ih=>
    obtain ⟨l,rfl⟩:=ih fun r hr'=>hr r (List.mem_cons_of_mem _ hr')
    have h0:=hr r (List.mem_cons_self ..)
    match r,h0 with
    |[y],h0=>
     obtain ⟨n,rfl,w⟩:=w7c h0.1
     exact ⟨n::l,rfl⟩
  obtain ⟨l,rfl⟩:=this
  exact ⟨l,rfl⟩
end Go.Am
end
noncomputable section
namespace Go.Am
def w41:Ctr:=
 ⟨64,[.list 1],[],[(.ret,⟨[(0, .tuple [.list 1, .bool])],[],1⟩)]⟩
def la64:List LA:=
 [⟨64,[false,true,false,true,true,true,true,false,true],0,⟨⟨[(0, .list 1),(4, .vec 0 1),(5, .int .i64),(6, .int .i64),(12, .vec 0 1),(13, .int .i64),(14, .int .i64)],[.row [ci]],58⟩,[((AX.exit 0),⟨[(4, .vec 0 1),(6, .int .i64)],[.row [ci]],58⟩)]⟩⟩]
def ja64:List JA:=
 [⟨64,[false,true,true,true,false,false,true,true,false,false,true,false,true,true,true,true,false,true],0,[(AX.normal,⟨[(0, .list 1),(4, .vec 0 1),(5, .int .i64),(6, .int .i64),(9, .int .i64),(12, .vec 0 1),(13, .int .i64),(14, .int .i64),(48, .bool)],[.row [ci]],58⟩)]⟩]
def v2w:List CF:=
 [⟨w4z,G73⟩,⟨w40,G71⟩]
def an64:Anns:=
 ⟨v2w,ja64,[]⟩
def y37 (p:Prim):(LD×(LD×T7))→Option ((LD×(LD×T7))⊕(LD×T1)):=
 fun a=>opt.run _ (
 opt.ask _ (p.cmp .lss a.2.2.2.2.2.1 a.2.2.2.2.1) (
 opt.need _ (bif (p.cmp .geq a.2.2.2.2.2.1 (0:Int)) then (p.cmp .lss a.2.2.2.2.2.1 (p.ofNat (p.len a.1))) else Bool.false)<|
 opt.need _ (p.rowOk a.1 (p.add 0 (p.nat a.2.2.2.2.2.1)) [ci])<|
 opt.need _ (p.rowOk a.2.1 (p.nat (p.rdI a.1 (p.add 0 (p.nat a.2.2.2.2.2.1)) 0)) [ci])<|
 opt.need _ (p.cmp .geq (p.rdI a.1 (p.add 0 (p.nat a.2.2.2.2.2.1)) 0) (0:Int))<|
 opt.bnd ((LD×(LD×T33))) _ (
 opt.run ((LD×(LD×T33))) (
 opt.need _ (p.cmp .neq (2:Int) (0:Int))<|
 opt.ask _ (p.cmp .lss (p.ar .add .i64 a.2.2.1 (p.rdI a.2.1 (p.nat (p.rdI a.1 (p.add 0 (p.nat a.2.2.2.2.2.1)) 0)) 0)) (p.ar .quo .i64 (p.ar .mul .i64 (p.ar .add .i64 a.2.2.2.2.2.1 (1:Int)) (p.ar .sub .i64 (p.ar .add .i64 a.2.2.2.2.2.1 (1:Int)) (1:Int))) (2:Int))) (
 opt.need _ (p.eqN 0 0)<|
 opt.need _ (p.eqN (p.len a.1) (p.len a.1))<|
 opt.need _ (p.eqN 0 0)<|
 opt.need _ (p.eqN (p.len a.1) (p.len a.1))<|
 opt.ret _ (a.1,(a.2.1,((p.ar .add .i64 a.2.2.1 (p.rdI a.2.1 (p.nat (p.rdI a.1 (p.add 0 (p.nat a.2.2.2.2.2.1)) 0)) 0)),(a.2.2.2.1,((p.ar .add .i64 a.2.2.2.2.2.1 (1:Int)),(a.2.2.2.2.1,(a.2.2.2.2.2.1,(Bool.true,()))))))))) (
 opt.ask _ (p.cmp .eql (p.ar .add .i64 a.2.2.2.2.2.1 (1:Int)) (p.ofNat (p.len a.1))) (
 opt.need _ (p.cmp .neq (2:Int) (0:Int))<|
 opt.need _ (p.eqN 0 0)<|
 opt.need _ (p.eqN (p.len a.1) (p.len a.1))<|
 opt.need _ (p.eqN 0 0)<|
 opt.need _ (p.eqN (p.len a.1) (p.len a.1))<|
 opt.ret _ (a.1,(a.2.1,((p.ar .add .i64 a.2.2.1 (p.rdI a.2.1 (p.nat (p.rdI a.1 (p.add 0 (p.nat a.2.2.2.2.2.1)) 0)) 0)),(a.2.2.2.1,((p.ar .add .i64 a.2.2.2.2.2.1 (1:Int)),(a.2.2.2.2.1,(a.2.2.2.2.2.1,((p.cmp .neq (p.ar .add .i64 a.2.2.1 (p.rdI a.2.1 (p.nat (p.rdI a.1 (p.add 0 (p.nat a.2.2.2.2.2.1)) 0)) 0)) (p.ar .quo .i64 (p.ar .mul .i64 (p.ar .add .i64 a.2.2.2.2.2.1 (1:Int)) (p.ar .sub .i64 (p.ar .add .i64 a.2.2.2.2.2.1 (1:Int)) (1:Int))) (2:Int))),()))))))))) (
 opt.need _ (p.eqN 0 0)<|
 opt.need _ (p.eqN (p.len a.1) (p.len a.1))<|
 opt.need _ (p.eqN 0 0)<|
 opt.need _ (p.eqN (p.len a.1) (p.len a.1))<|
 opt.ret _ (a.1,(a.2.1,((p.ar .add .i64 a.2.2.1 (p.rdI a.2.1 (p.nat (p.rdI a.1 (p.add 0 (p.nat a.2.2.2.2.2.1)) 0)) 0)),(a.2.2.2.1,((p.ar .add .i64 a.2.2.2.2.2.1 (1:Int)),(a.2.2.2.2.1,(a.2.2.2.2.2.1,(Bool.false,())))))))))))) fun b=>
 opt.ask _ b.2.2.2.2.2.2.2.1 (
 opt.need _ (p.eqN 0 0)<|
 opt.need _ (p.eqN (p.len b.1) (p.len b.1))<|
 opt.ret _ (Sum.inr (b.1,(b.2.2.2.2.1,())))) (
 opt.need _ (p.eqN 0 0)<|
 opt.need _ (p.eqN (p.len b.1) (p.len b.1))<|
 opt.need _ (p.eqN 0 0)<|
 opt.need _ (p.eqN (p.len b.1) (p.len b.1))<|
 opt.ret _ (Sum.inl (b.1,(b.2.1,(b.2.2.1,(b.2.2.2.1,(b.2.2.2.2.2.1,((p.ar .add .i64 b.2.2.2.2.2.2.1 (1:Int)),()))))))))) (
 opt.need _ (p.eqN 0 0)<|
 opt.need _ (p.eqN (p.len a.1) (p.len a.1))<|
 opt.ret _ (Sum.inr (a.1,(a.2.2.2.1,())))))
def g64 (it:It):(p:Prim)→(LD×Unit)→Option ((LD×T6)):=
 fun p x=>
 opt.bnd ((LD×Unit)) _ (g71 it p (x.1,())) fun a=>
 opt.need _ (p.eqN 0 0)<|
 opt.need _ (p.eqN (p.len a.1) (p.len a.1))<|
 opt.need _ (p.eqN 0 0)<|
 opt.need _ (p.eqN (p.len a.1) (p.len a.1))<|
 opt.bnd ((LD×T1)) _ (
 it _ _ (y37 p) (a.1,(x.1,((0:Int),((-1:Int),((p.ofNat (p.len a.1)),((0:Int),()))))))) fun b=>
 opt.ask _ (p.cmp .lss b.2.1 (0:Int)) (
 opt.ret _ ([],(Bool.false,()))) (
 opt.need _ (p.and (p.cmp .geq (0:Int) (0:Int)) (p.and (p.cmp .leq (0:Int) b.2.1) (p.cmp .leq b.2.1 (p.ofNat (p.len b.1)))))<|
 opt.bnd ((LD×(LD×T5))) _ (g73 it p (b.1,((p.add 0 (p.nat (0:Int))),((p.sub (p.nat b.2.1) (p.nat (0:Int))),())))) fun c=>
 opt.need _ (p.leN (p.add 0 (p.len c.2.1)) (p.len c.2.1))<|
 opt.ret _ ((p.cut c.2.1 0 (p.len c.2.1)),(Bool.true,())))
def G64:=g64 it0
theorem v44:CtrOk PG w41 (G64 std):=okF (a:=an64) (l:=la64) (gC v42 (gC v43 (gN))) (by kernel_rfl) fun _ _=>by kernel_rfl
def w45:Ctr:=
 ⟨31,[.list 1],[],[(.ret,⟨[(0, .tuple [.list 1, .int .i64])],[],1⟩)]⟩
def la31:List LA:=
 []
def ja31:List JA:=
 []
def v3d:List CF:=
 [⟨w41,G64⟩,⟨w0p,G61⟩]
def an31:Anns:=
 ⟨v3d,ja31,[]⟩
def g31 (it:It):(p:Prim)→(LD×Unit)→Option ((LD×T1)):=
 fun p x=>
 opt.bnd T2 _ (g61 it p (x.1,())) fun a=>
 opt.ask _ (p.cmp .neq a.1 (0:Int)) (
 opt.ret _ ([],(a.1,()))) (
 opt.bnd ((LD×T6)) _ (g64 it p (x.1,())) fun b=>
 opt.ask _ (bif b.2.1 then Bool.false else Bool.true) (
 opt.ret _ ([],((5:Int),()))) (
 opt.ret _ (b.1,((0:Int),()))))
def G31:=g31 it0
theorem v48:CtrOk PG w45 (G31 std):=okF (a:=an31) (l:=la31) (gC v44 (gC v01 (gN))) (by kernel_rfl) fun _ _=>by kernel_rfl
def w48:Ctr:=
 ⟨28,[.list 1, .list 1],[],[(.ret,⟨[(0, .int .i64)],[],1⟩)]⟩
def la28:List LA:=
 [⟨28,[false,true,false,true,true,true,true],0,⟨⟨[(0, .list 1),(6, .int .i64),(7, .int .i64),(22, .list 1),(23, .int .i64),(24, .int .i64)],[],57⟩,[((AX.exit 0),⟨[(0, .list 1),(6, .int .i64),(7, .int .i64)],[],57⟩)]⟩⟩]
def ja28:List JA:=
 [⟨28,[false,false,true,true,true,true,true],0,[(AX.normal,⟨[(56, .bool)],[],57⟩)]⟩]
def v3g:List CF:=
 [⟨w0q,G56⟩,⟨w0p,G61⟩]
def an28:Anns:=
 ⟨v3g,ja28,[]⟩
def x4n (p:Prim):(LD×T9)→Option ((LD×T9)⊕(LD×T3)):=
 fun a=>opt.run _ (
 opt.ask _ (p.cmp .lss a.2.2.2.2.2.1 a.2.2.2.2.1) (
 opt.need _ (p.rowOk a.2.2.2.1 (p.nat a.2.2.2.2.2.1) [ci])<|
 opt.need _ (p.cmp .geq a.2.2.2.2.2.1 (0:Int))<|
 opt.need _ (p.rowOk a.1 (p.nat (p.rdI a.2.2.2.1 (p.nat a.2.2.2.2.2.1) 0)) [ci])<|
 opt.need _ (p.cmp .geq (p.rdI a.2.2.2.1 (p.nat a.2.2.2.2.2.1) 0) (0:Int))<|
 opt.ret _ (Sum.inl (a.1,((p.ar .add .i64 a.2.1 (p.rdI a.1 (p.nat (p.rdI a.2.2.2.1 (p.nat a.2.2.2.2.2.1) 0)) 0)),(a.2.2.1,(a.2.2.2.1,(a.2.2.2.2.1,((p.ar .add .i64 a.2.2.2.2.2.1 (1:Int)),())))))))) (
 opt.ret _ (Sum.inr (a.1,(a.2.1,(a.2.2.1,()))))))
def g28 (it:It):(p:Prim)→(LD×(LD×Unit))→Option T2:=
 fun p x=>
 opt.bnd T2 _ (g61 it p (x.1,())) fun a=>
 opt.ask _ (p.cmp .neq a.1 (0:Int)) (
 opt.ret _ (a.1,())) (
 opt.bnd T0 _ (g56 it p (x.2.1,((p.ofNat (p.len x.1)),()))) fun b=>
 opt.ask _ (bif b.1 then Bool.false else Bool.true) (
 opt.ret _ ((3:Int),())) (
 opt.bnd ((LD×T3)) _ (
 it _ _ (x4n p) (x.1,((0:Int),((p.ofNat (p.len x.2.1)),(x.2.1,((p.ofNat (p.len x.2.1)),((0:Int),()))))))) fun c=>
 opt.bnd T0 _ (
 opt.run T0 (
 opt.need _ (p.cmp .neq (2:Int) (0:Int))<|
 opt.ask _ (p.cmp .lss c.2.1 (p.ar .quo .i64 (p.ar .mul .i64 c.2.2.1 (p.ar .sub .i64 c.2.2.1 (1:Int))) (2:Int))) (
 opt.ret _ (Bool.true,())) (
 opt.ask _ (p.cmp .eql c.2.2.1 (p.ofNat (p.len c.1))) (
 opt.need _ (p.cmp .neq (2:Int) (0:Int))<|
 opt.ret _ ((p.cmp .neq c.2.1 (p.ar .quo .i64 (p.ar .mul .i64 c.2.2.1 (p.ar .sub .i64 c.2.2.1 (1:Int))) (2:Int))),())) (
 opt.ret _ (Bool.false,()))))) fun d=>
 opt.ask _ d.1 (
 opt.ret _ ((0:Int),())) (
 opt.ret _ ((14:Int),()))))
def G28:=g28 it0
theorem v5b:CtrOk PG w48 (G28 std):=okF (a:=an28) (l:=la28) (gC v02 (gC v01 (gN))) (by kernel_rfl) fun _ _=>by kernel_rfl
end Go.Am
end
section
namespace Go.Am
open T11
def y1a (lo hi:Int) (l:List Int) (i:Nat):Prop:=gI l i<lo∨hi<gI l i
instance w96 (lo hi:Int) (l:List Int) (i:Nat):Decidable (y1a lo hi l i):=by unfold y1a; infer_instance
def inR (lo hi:Int) (l:List Int):Prop:=∀ i,i<l.length→¬ y1a lo hi l i
instance v5n (lo hi:Int) (l:List Int):Decidable (inR lo hi l):=by unfold inR; infer_instance
theorem w9h (lo hi:Int) (l:List Int) (hl:l.length≤1000000):G52 std (lo,(hi,(z0d l,())))=some (decide (inR lo hi l),()):=by
 unfold G52
 have key:=z19 (b:=x1d std) l.length (fun i=>(lo,(hi,(z0d l,((l.length:Int),((i:Int),())))))) (fun i=>decide (y1a lo hi l i)) (fun i=> .inl (lo,(hi,((i:Int),())))) (.inr (lo,(hi,()))) (fun i hi'=>by
  have hx:=z2f hi'
  have hw:=z02 (i:=i) (by omega)
  have hlt:(i:Int)<l.length:=by omega
  have h0:(0:Int)≤i:=by omega
  by_cases a:gI l i<lo
  ·have hb:y1a lo hi l i:= .inl a
   simp only [hb,x1d,z0x,z0y,z0d,z0g,z06,z13,z0n,z0o,eq_self,not_true,not_false_eq_true,decide_true,decide_false,Bool.not_true,Bool.not_false,Int.reduceLT,Int.reduceNeg,Int.reduceGT,cond_true,cond_false,Int.reduceEq,Int.reduceLE,Int.reduceGE,hx,hlt,h0,ge_iff_le,a]
  ·by_cases b:hi<gI l i
   ·have hb:y1a lo hi l i:= .inr b
    simp only [hb,x1d,z0x,z0y,z0d,z0g,z06,z13,z0n,z0o,eq_self,not_true,not_false_eq_true,decide_true,decide_false,Bool.not_true,Bool.not_false,Int.reduceLT,Int.reduceNeg,Int.reduceGT,cond_true,cond_false,Int.reduceEq,Int.reduceLE,Int.reduceGE,hx,hlt,h0,ge_iff_le,a,b,gt_iff_lt]
   ·have hb:¬ y1a lo hi l i:=by rintro (h|h)<;>omega
    simp only [hb,x1d,z0x,z0y,z0d,z0g,z06,z13,z0n,z0o,eq_self,not_true,not_false_eq_true,decide_true,decide_false,Bool.not_true,Bool.not_false,Int.reduceLT,Int.reduceNeg,Int.reduceGT,cond_true,cond_false,Int.reduceEq,Int.reduceLE,Int.reduceGE,hx,hlt,h0,ge_iff_le,a,b,gt_iff_lt,z0c,hw]) (by
  have hn:¬ (l.length:Int)<l.length:=by omega
  simp only [x1d,z0x,z0y,eq_self,not_true,not_false_eq_true,decide_true,decide_false,Bool.not_true,Bool.not_false,Int.reduceLT,Int.reduceNeg,Int.reduceGT,cond_true,cond_false,Int.reduceEq,Int.reduceLE,Int.reduceGE,hn])
 have key:∃ r,it0 _ _ (x1d std) (lo,(hi,(z0d l,((l.length:Int),((0:Int),())))))=some r∧((∃ i:Nat,r= .inl (lo,(hi,((i:Int),())))∧¬ inR lo hi l)∨(r= .inr (lo,(hi,()))∧inR lo hi l)):=by
  rcases key with ⟨i,h1,h2,_,h4⟩|⟨h1,h2⟩
  ·exact ⟨_,h4, .inl ⟨i,rfl,fun h=>h i h1 (of_decide_eq_true h2)⟩⟩
  ·exact ⟨_,h2, .inr ⟨rfl,fun i hi=>of_decide_eq_false (h1 i hi)⟩⟩
 obtain ⟨r,hr,⟨i,rfl,h⟩|⟨rfl,h⟩⟩:=key
 ·have h0:(i:Int)≥0:=by omega
  simp only [g52,z0x,z0y,eq_self,not_true,not_false_eq_true,decide_true,decide_false,Bool.not_true,Bool.not_false,Int.reduceLT,Int.reduceNeg,Int.reduceGT,cond_true,cond_false,Int.reduceEq,Int.reduceLE,Int.reduceGE,z0k,hr,h,h0]
 ·have h0:¬ (-1:Int)≥0:=by decide
  simp only [g52,z0x,z0y,eq_self,not_true,not_false_eq_true,decide_true,decide_false,Bool.not_true,Bool.not_false,Int.reduceLT,Int.reduceNeg,Int.reduceGT,cond_true,cond_false,Int.reduceEq,Int.reduceLE,Int.reduceGE,z0k,hr,h,h0]
def z1a (w:List Int):Int:=
 if w.length<1∨10<w.length then 6 else if inR 0 9 w then 0 else 3
theorem z7i {w:List Int} (h:z1a w=0):1≤w.length∧w.length≤10:=by
 refine ⟨Nat.le_of_not_lt fun h'=>?_,Nat.le_of_not_lt fun h'=>?_⟩
 ·rw [z1a,if_pos (.inl h')] at h; exact absurd h (by decide)
 ·rw [z1a,if_pos (.inr h')] at h; exact absurd h (by decide)
theorem y64 {w:List Int} (h:z1a w=0) {i:Nat} (hi:i<w.length):0≤gI w i∧gI w i≤9:=by
 have hl:=z7i h
 rw [z1a,if_neg (by omega)] at h
 by_cases a:inR 0 9 w
 ·have:=a i hi
  unfold y1a at this; omega
 ·rw [if_neg a] at h; exact absurd h (by decide)
theorem w1b (w:List Int) (hl:w.length≤1000):z4g (y9s std) (z0d w,((0:Int),()))=if inR 0 9 w then some (.inr ()) else some (.inl (3,())):=by
 have key:=z19 (b:=y9s std) w.length (fun i=>(z0d w,((i:Int),()))) (fun i=>decide (y1a 0 9 w i)) (fun i=> .inl (3,())) (.inr ()) (fun i hi'=>by
  have hx:=z2f hi'
  have hw:=z02 (i:=i) (by omega)
  have hlt:(i:Int)<w.length:=by omega
  have h0:(0:Int)≤i:=by omega
  by_cases a:gI w i<0
  ·have hb:y1a 0 9 w i:= .inl a
   simp only [hb,y9s,z0x,z0y,z0d,z0g,z06,z13,z0n,z0o,eq_self,not_true,not_false_eq_true,decide_true,decide_false,Bool.not_true,Bool.not_false,Int.reduceLT,Int.reduceNeg,Int.reduceGT,cond_true,cond_false,Int.reduceEq,Int.reduceLE,Int.reduceGE,hx,hlt,h0,ge_iff_le,a]
  ·by_cases b:9<gI w i
   ·have hb:y1a 0 9 w i:= .inr b
    simp only [hb,y9s,z0x,z0y,z0d,z0g,z06,z13,z0n,z0o,eq_self,not_true,not_false_eq_true,decide_true,decide_false,Bool.not_true,Bool.not_false,Int.reduceLT,Int.reduceNeg,Int.reduceGT,cond_true,cond_false,Int.reduceEq,Int.reduceLE,Int.reduceGE,hx,hlt,h0,ge_iff_le,a,b,gt_iff_lt]
   ·have hb:¬ y1a 0 9 w i:=by rintro (h|h)<;>omega
    simp only [hb,y9s,z0x,z0y,z0d,z0g,z06,z13,z0n,z0o,eq_self,not_true,not_false_eq_true,decide_true,decide_false,Bool.not_true,Bool.not_false,Int.reduceLT,Int.reduceNeg,Int.reduceGT,cond_true,cond_false,Int.reduceEq,Int.reduceLE,Int.reduceGE,hx,hlt,h0,ge_iff_le,a,b,gt_iff_lt,z0c,hw]) (by
  have hn:¬ (w.length:Int)<w.length:=by omega
  simp only [y9s,z0x,z0y,z0d,z0g,z06,z13,z0n,z0o,eq_self,not_true,not_false_eq_true,decide_true,decide_false,Bool.not_true,Bool.not_false,Int.reduceLT,Int.reduceNeg,Int.reduceGT,cond_true,cond_false,Int.reduceEq,Int.reduceLE,Int.reduceGE,hn])
 rcases key with ⟨i,h1,h2,_,h4⟩|⟨h1,h2⟩
 ·have hno:¬ inR 0 9 w:=fun h=>h i h1 (of_decide_eq_true h2)
  rw [if_neg hno]; exact h4
 ·have hin:inR 0 9 w:=fun i hi=>of_decide_eq_false (h1 i hi)
  rw [if_pos hin]; exact h2
theorem w9f (w:List Int):G62 std (z0d w,())=some (z1a w,()):=by
 unfold G62
 by_cases a:w.length<1
 ·have a':((w.length:Nat):Int)<1:=by omega
  have e:z1a w=6:=by rw [z1a,if_pos (.inl a)]
  simp only [g62,z0x,z0y,eq_self,not_true,not_false_eq_true,decide_true,decide_false,Bool.not_true,Bool.not_false,Int.reduceLT,Int.reduceNeg,Int.reduceGT,cond_true,cond_false,Int.reduceEq,Int.reduceLE,Int.reduceGE,z0k,a',e]
 ·have a':¬ ((w.length:Nat):Int)<1:=by omega
  by_cases b:10<w.length
  ·have b':((w.length:Nat):Int)>10:=by omega
   have e:z1a w=6:=by rw [z1a,if_pos (.inr b)]
   simp only [g62,z0x,z0y,eq_self,not_true,not_false_eq_true,decide_true,decide_false,Bool.not_true,Bool.not_false,Int.reduceLT,Int.reduceNeg,Int.reduceGT,cond_true,cond_false,Int.reduceEq,Int.reduceLE,Int.reduceGE,z0k,a',b',e]
  ·have b':¬ ((w.length:Nat):Int)>10:=by omega
   have e:z1a w=if inR 0 9 w then 0 else 3:=by rw [z1a,if_neg (by omega)]
   have h1:it0 _ _ (y9s std) (z0d w,((0:Int),()))=_:=w1b w (by omega)
   rw [e]
   by_cases c:inR 0 9 w
   ·rw [if_pos c] at h1⊢
    simp only [g62,z0x,z0y,eq_self,not_true,not_false_eq_true,decide_true,decide_false,Bool.not_true,Bool.not_false,Int.reduceLT,Int.reduceNeg,Int.reduceGT,cond_true,cond_false,Int.reduceEq,Int.reduceLE,Int.reduceGE,z0k,a',b',h1]
   ·rw [if_neg c] at h1⊢
    simp only [g62,z0x,z0y,eq_self,not_true,not_false_eq_true,decide_true,decide_false,Bool.not_true,Bool.not_false,Int.reduceLT,Int.reduceNeg,Int.reduceGT,cond_true,cond_false,Int.reduceEq,Int.reduceLE,Int.reduceGE,z0k,a',b',h1]
theorem y39 (w:List Int):G61 std (z0d w,())=some (z1a w,()):=by
 unfold G61
 by_cases a:w.length<1
 ·have a':((w.length:Nat):Int)=0:=by omega
  have e:z1a w=6:=by rw [z1a,if_pos (.inl a)]
  simp only [g61,z0x,z0y,eq_self,not_true,not_false_eq_true,decide_true,decide_false,Bool.not_true,Bool.not_false,Int.reduceLT,Int.reduceNeg,Int.reduceGT,cond_true,cond_false,Int.reduceEq,Int.reduceLE,Int.reduceGE,z0k,a',e]
 ·have a':¬ ((w.length:Nat):Int)=0:=by omega
  by_cases b:10<w.length
  ·have b':((w.length:Nat):Int)>10:=by omega
   have e:z1a w=6:=by rw [z1a,if_pos (.inr b)]
   simp only [g61,z0x,z0y,eq_self,not_true,not_false_eq_true,decide_true,decide_false,Bool.not_true,Bool.not_false,Int.reduceLT,Int.reduceNeg,Int.reduceGT,cond_true,cond_false,Int.reduceEq,Int.reduceLE,Int.reduceGE,z0k,a',b',e]
  ·have b':¬ ((w.length:Nat):Int)>10:=by omega
   have e:z1a w=if inR 0 9 w then 0 else 3:=by rw [z1a,if_neg (by omega)]
   have h1:g52 it0 std ((0:Int),((9:Int),(z0d w,())))=_:=w9h 0 9 w (by omega)
   rw [e]
   by_cases c:inR 0 9 w
   ·rw [if_pos c]
    simp only [g61,z0x,z0y,eq_self,not_true,not_false_eq_true,decide_true,decide_false,Bool.not_true,Bool.not_false,Int.reduceLT,Int.reduceNeg,Int.reduceGT,cond_true,cond_false,Int.reduceEq,Int.reduceLE,Int.reduceGE,z0k,a',b',h1,c]
   ·rw [if_neg c]
    simp only [g61,z0x,z0y,eq_self,not_true,not_false_eq_true,decide_true,decide_false,Bool.not_true,Bool.not_false,Int.reduceLT,Int.reduceNeg,Int.reduceGT,cond_true,cond_false,Int.reduceEq,Int.reduceLE,Int.reduceGE,z0k,a',b',h1,c]
def z1i (w:List Int) (l:List Int):Int:=(l.map fun x=>gI w x.toNat).sum
theorem z6t (w a b:List Int):z1i w (a++b)=z1i w a+z1i w b:=by simp [z1i,List.sum_append]
theorem z6s (w:List Int) (x:Int):z1i w [x]=gI w x.toNat:=by simp [z1i]
def w5y (w l:List Int):Prop:=∀ x∈l,0≤x∧x<w.length
theorem y6c {w:List Int} (hw:∀ i,i<w.length→0≤gI w i∧gI w i≤9) {l:List Int} (h:w5y w l):0≤z1i w l∧z1i w l≤9*l.length:=by
 induction l with
 |nil=>simp [z1i]
 |cons x l ih=>
  have h1:=h x (List.mem_cons_self ..)
  have h2:=ih fun y hy=>h y (List.mem_cons_of_mem _ hy)
  have h3:=hw x.toNat (by omega)
  have e:z1i w (x::l)=gI w x.toNat+z1i w l:=by simp [z1i]
  rw [e,List.length_cons]; omega
theorem y3a (n k:Nat) (s:Int) (hk:k≤1000):(s<IntKind.i64.wrap ((IntKind.i64.wrap ((k:Int)*IntKind.i64.wrap ((k:Int) - 1))).tdiv 2)∨((k:Int)=(n:Int)∧¬ s=IntKind.i64.wrap ((IntKind.i64.wrap ((k:Int)*IntKind.i64.wrap ((k:Int) - 1))).tdiv 2)))↔z3z n k s:=by
 have hc:IntKind.i64.wrap ((IntKind.i64.wrap ((k:Int)*IntKind.i64.wrap ((k:Int) - 1))).tdiv 2)=(c2 k:Nat):=by
  have h2:=w8w k
  have hb:c2 k≤1000*1000:=by
   have:k*(k - 1)≤1000*1000:=Nat.mul_le_mul hk (by omega)
   omega
  have e1:IntKind.i64.wrap ((k:Int) - 1)=(k:Int) - 1:=by rw [z7s]<;>omega
  have e0:(k:Int)*((k:Int) - 1)=2*(c2 k:Nat):=by
   cases k with
   |zero=>rfl
   |succ k=>
    have e1:(((k+1:Nat):Int) - 1)=((k:Nat):Int):=by omega
    rw [e1]
    have:=congrArg (fun (n:Nat)=>(n:Int)) h2
    rw [Nat.add_sub_cancel] at this
    simp only [Int.natCast_mul] at this
    rw [←this]; rfl
  have e2:IntKind.i64.wrap ((k:Int)*((k:Int) - 1))=(k:Int)*((k:Int) - 1):=by rw [z7s]<;>rw [e0]<;>omega
  rw [e1,e2,w8v,z7s]<;>omega
 rw [hc]
 unfold z3z
 constructor
 ·rintro (h|⟨h1,h2⟩)
  ·exact .inl h
  ·exact .inr ⟨by omega,h2⟩
 ·rintro (h|⟨h1,h2⟩)
  ·exact .inl h
  ·exact .inr ⟨by omega,h2⟩
theorem z95 {l:List Int} {i:Nat} (h:i<l.length):l.take (i+1)=l.take i++[gI l i]:=by
 rw [List.take_succ_eq_append_getElem h,(List.getElem?_eq_some_iff.1 (z2f h)).2]
theorem w1a (w l:List Int) (hw:∀ i,i<w.length→0≤gI w i∧gI w i≤9) (h:w5y w l) (hl:l.length≤1000):
  z4g (x4h std) (z0d w,(z0d l,((l.length:Int),((0:Int),((0:Int),())))))=some (z0d w,((l.length:Int),(z1i w l,()))):=by
 have key:=z47 (b:=x4h std) l.length (fun i=>(z0d w,(z0d l,((l.length:Int),(z1i w (l.take i),((i:Int),())))))) (z0d w,((l.length:Int),(z1i w l,()))) (fun i hi=>by
  have hx:=z2f hi
  obtain ⟨a0,a1⟩:=h (gI l i) (List.mem_of_getElem? hx)
  have hy:=z2f (l:=w) (q:=(gI l i).toNat) (by omega)
  have hwi:=z02 (i:=i) (by omega)
  have hlt:(i:Int)<l.length:=by omega
  have h0:(0:Int)≤i:=by omega
  have hs:=y6c hw (l:=l.take (i+1)) fun x hx=>h x (List.mem_of_mem_take hx)
  rw [z95 hi,z6t,z6s,List.length_append,List.length_take] at hs
  have hadd:IntKind.i64.wrap (z1i w (l.take i)+gI w (gI l i).toNat)=z1i w (l.take i)+gI w (gI l i).toNat:=by
   rw [z7s]<;>simp at hs<;>omega
  rw [z95 hi,z6t,z6s]
  simp only [x4h,z0x,z0y,z0d,z0g,z06,z13,z0n,z0o,eq_self,not_true,not_false_eq_true,decide_true,decide_false,Bool.not_true,Bool.not_false,Int.reduceLT,Int.reduceNeg,Int.reduceGT,cond_true,cond_false,Int.reduceEq,Int.reduceLE,Int.reduceGE,hx,hy,hlt,h0,a0,ge_iff_le,z0c,hwi,hadd]) (by
  have hn:¬ (l.length:Int)<l.length:=by omega
  simp only [x4h,z0x,z0y,eq_self,not_true,not_false_eq_true,decide_true,decide_false,Bool.not_true,Bool.not_false,Int.reduceLT,Int.reduceNeg,Int.reduceGT,cond_true,cond_false,Int.reduceEq,Int.reduceLE,Int.reduceGE,hn,List.take_length])
 exact key
theorem w9e (w l:List Int) (hw:∀ i,i<w.length→0≤gI w i∧gI w i≤9) (h:w5y w l) (hl:l.length≤1000):
  G63 std (z0d w,(z0d l,()))=some (decide (z3z w.length l.length (z1i w l)),()):=by
 have h1:it0 _ _ (x4h std) (z0d w,(z0d l,((l.length:Int),((0:Int),((0:Int),())))))=_:=w1a w l hw h hl
 have hs:=y3a w.length l.length (z1i w l) hl
 have h2:¬ ((2:Int)=0):=by decide
 unfold G63
 by_cases a:z1i w l<IntKind.i64.wrap ((IntKind.i64.wrap ((l.length:Int)*IntKind.i64.wrap ((l.length:Int) - 1))).tdiv 2)
 ·have hsh:=hs.1 (.inl a)
  simp only [g63,z0x,z0y,eq_self,not_true,not_false_eq_true,decide_true,decide_false,Bool.not_true,Bool.not_false,Int.reduceLT,Int.reduceNeg,Int.reduceGT,cond_true,cond_false,Int.reduceEq,Int.reduceLE,Int.reduceGE,z0k,h1,h2,z01,z2c,z2b,a,hsh]
 ·by_cases b:(l.length:Int)=(w.length:Int)
  ·by_cases c:z1i w l=IntKind.i64.wrap ((IntKind.i64.wrap ((l.length:Int)*IntKind.i64.wrap ((l.length:Int) - 1))).tdiv 2)
   ·have hsh:¬ z3z w.length l.length (z1i w l):=fun h=>by
     rcases hs.2 h with h|⟨_,h⟩
     ·exact a h
     ·exact h c
    have hc:decide (z1i w l=IntKind.i64.wrap ((IntKind.i64.wrap ((l.length:Int)*IntKind.i64.wrap ((l.length:Int) - 1))).tdiv 2))=true:=decide_eq_true c
    simp only [g63,z0x,z0y,eq_self,not_true,not_false_eq_true,decide_true,decide_false,Bool.not_true,Bool.not_false,Int.reduceLT,Int.reduceNeg,Int.reduceGT,cond_true,cond_false,Int.reduceEq,Int.reduceLE,Int.reduceGE,z0k,h1,h2,z01,z2c,z2b,a,hsh]
    rw [if_pos b,hc]; rfl
   ·have hsh:=hs.1 (.inr ⟨b,c⟩)
    simp only [g63,z0x,z0y,eq_self,not_true,not_false_eq_true,decide_true,decide_false,Bool.not_true,Bool.not_false,Int.reduceLT,Int.reduceNeg,Int.reduceGT,cond_true,cond_false,Int.reduceEq,Int.reduceLE,Int.reduceGE,z0k,h1,h2,z01,z2c,z2b,a,hsh]
    rw [if_pos b,decide_eq_false c]; rfl
  ·have hsh:¬ z3z w.length l.length (z1i w l):=fun h=>by
    rcases hs.2 h with h|⟨h,_⟩
    ·exact a h
    ·exact b h
   simp only [g63,z0x,z0y,eq_self,not_true,not_false_eq_true,decide_true,decide_false,Bool.not_true,Bool.not_false,Int.reduceLT,Int.reduceNeg,Int.reduceGT,cond_true,cond_false,Int.reduceEq,Int.reduceLE,Int.reduceGE,z0k,h1,h2,z01,z2c,z2b,a,hsh]
   rw [if_neg b]; rfl
def z5o (w l:List Int):Int:=
 if z1a w=0 then if z1o l w.length then if z3z w.length l.length (z1i w l) then 0 else 14 else 3 else z1a w
theorem x1q {w l:List Int} (h:z1o l w.length):w5y w l:=fun x hx=>y3f h hx
theorem x0l {l:List Int} {n:Nat} (h:z1o l n):l.length≤n:=by
 have:=x5r h
 have:=w8n n fun (k:Nat)=>decide ((k:Int)∈l)
 omega
theorem w9l (w l:List Int) (hl:l.length≤1000000):G29 std (z0d w,(z0d l,()))=some (z5o w l,()):=by
 have h62:g62 it0 std (z0d w,())=_:=w9f w
 have h38:g38 it0 std (z0d l,((w.length:Int),()))=_:=w2t l w.length hl
 unfold G29 z5o
 by_cases h:z1a w=0
 ·rw [if_pos h]
  have hwl:=z7i h
  by_cases hr:z1o l w.length
  ·rw [if_pos hr]
   have hll:=x0l hr
   have h63:g63 it0 std (z0d w,(z0d l,()))=_:=w9e w l (fun i hi=>y64 h hi) (x1q hr) (by omega)
   by_cases a:z3z w.length l.length (z1i w l)
   ·simp only [g29,z0x,z0y,eq_self,not_true,not_false_eq_true,decide_true,decide_false,Bool.not_true,Bool.not_false,Int.reduceLT,Int.reduceNeg,Int.reduceGT,cond_true,cond_false,Int.reduceEq,Int.reduceLE,Int.reduceGE,z0k,h62,h,h38,hr,h63,a,ne_eq]
   ·simp only [g29,z0x,z0y,eq_self,not_true,not_false_eq_true,decide_true,decide_false,Bool.not_true,Bool.not_false,Int.reduceLT,Int.reduceNeg,Int.reduceGT,cond_true,cond_false,Int.reduceEq,Int.reduceLE,Int.reduceGE,z0k,h62,h,h38,hr,h63,a,ne_eq]
  ·simp only [g29,z0x,z0y,eq_self,not_true,not_false_eq_true,decide_true,decide_false,Bool.not_true,Bool.not_false,Int.reduceLT,Int.reduceNeg,Int.reduceGT,cond_true,cond_false,Int.reduceEq,Int.reduceLE,Int.reduceGE,z0k,h62,h,h38,hr,ne_eq]
 ·rw [if_neg h]
  simp only [g29,z0x,z0y,eq_self,not_true,not_false_eq_true,decide_true,decide_false,Bool.not_true,Bool.not_false,Int.reduceLT,Int.reduceNeg,Int.reduceGT,cond_true,cond_false,Int.reduceEq,Int.reduceLE,Int.reduceGE,z0k,h62,h,ne_eq]
theorem w1j (w l:List Int) (hw:∀ i,i<w.length→0≤gI w i∧gI w i≤9) (h:w5y w l) (hl:l.length≤1000):
  z4g (x4n std) (z0d w,((0:Int),((l.length:Int),(z0d l,((l.length:Int),((0:Int),()))))))=some (z0d w,(z1i w l,((l.length:Int),()))):=by
 have key:=z47 (b:=x4n std) l.length (fun i=>(z0d w,(z1i w (l.take i),((l.length:Int),(z0d l,((l.length:Int),((i:Int),()))))))) (z0d w,(z1i w l,((l.length:Int),()))) (fun i hi=>by
  have hx:=z2f hi
  obtain ⟨a0,a1⟩:=h (gI l i) (List.mem_of_getElem? hx)
  have hy:=z2f (l:=w) (q:=(gI l i).toNat) (by omega)
  have hwi:=z02 (i:=i) (by omega)
  have hlt:(i:Int)<l.length:=by omega
  have h0:(0:Int)≤i:=by omega
  have hs:=y6c hw (l:=l.take (i+1)) fun x hx=>h x (List.mem_of_mem_take hx)
  rw [z95 hi,z6t,z6s,List.length_append,List.length_take] at hs
  have hadd:IntKind.i64.wrap (z1i w (l.take i)+gI w (gI l i).toNat)=z1i w (l.take i)+gI w (gI l i).toNat:=by
   rw [z7s]<;>simp at hs<;>omega
  rw [z95 hi,z6t,z6s]
  simp only [x4n,z0x,z0y,z0d,z0g,z06,z13,z0n,z0o,eq_self,not_true,not_false_eq_true,decide_true,decide_false,Bool.not_true,Bool.not_false,Int.reduceLT,Int.reduceNeg,Int.reduceGT,cond_true,cond_false,Int.reduceEq,Int.reduceLE,Int.reduceGE,hx,hy,hlt,h0,a0,ge_iff_le,z0c,hwi,hadd]) (by
  have hn:¬ (l.length:Int)<l.length:=by omega
  simp only [x4n,z0x,z0y,eq_self,not_true,not_false_eq_true,decide_true,decide_false,Bool.not_true,Bool.not_false,Int.reduceLT,Int.reduceNeg,Int.reduceGT,cond_true,cond_false,Int.reduceEq,Int.reduceLE,Int.reduceGE,hn,List.take_length])
 exact key
theorem w2v (w l:List Int) (hl:l.length≤1000000):G28 std (z0d w,(z0d l,()))=some (z5o w l,()):=by
 have h61:g61 it0 std (z0d w,())=_:=y39 w
 have h56:g56 it0 std (z0d l,((w.length:Int),()))=_:=w2s l w.length hl
 unfold G28 z5o
 by_cases h:z1a w=0
 ·rw [if_pos h]
  have hwl:=z7i h
  by_cases hr:z1o l w.length
  ·rw [if_pos hr]
   have hll:=x0l hr
   have h1:it0 _ _ (x4n std) (z0d w,((0:Int),((l.length:Int),(z0d l,((l.length:Int),((0:Int),()))))))=_:=w1j w l (fun i hi=>y64 h hi) (x1q hr) (by omega)
   have hs:=y3a w.length l.length (z1i w l) (by omega)
   have h2:¬ ((2:Int)=0):=by decide
   by_cases a:z1i w l<IntKind.i64.wrap ((IntKind.i64.wrap ((l.length:Int)*IntKind.i64.wrap ((l.length:Int) - 1))).tdiv 2)
   ·rw [if_pos (hs.1 (.inl a))]
    simp only [g28,z0x,z0y,eq_self,not_true,not_false_eq_true,decide_true,decide_false,Bool.not_true,Bool.not_false,Int.reduceLT,Int.reduceNeg,Int.reduceGT,cond_true,cond_false,Int.reduceEq,Int.reduceLE,Int.reduceGE,z0k,h61,h,h56,hr,h1,h2,z01,z2c,z2b,a,ne_eq]
   ·by_cases b:(l.length:Int)=(w.length:Int)
    ·by_cases c:z1i w l=IntKind.i64.wrap ((IntKind.i64.wrap ((l.length:Int)*IntKind.i64.wrap ((l.length:Int) - 1))).tdiv 2)
     ·have hsh:¬ z3z w.length l.length (z1i w l):=fun h=>by
       rcases hs.2 h with h|⟨_,h⟩
       ·exact a h
       ·exact h c
      rw [if_neg hsh]
      have hc:decide (z1i w l=IntKind.i64.wrap ((IntKind.i64.wrap ((l.length:Int)*IntKind.i64.wrap ((l.length:Int) - 1))).tdiv 2))=true:=decide_eq_true c
      simp only [g28,z0x,z0y,eq_self,not_true,not_false_eq_true,decide_true,decide_false,Bool.not_true,Bool.not_false,Int.reduceLT,Int.reduceNeg,Int.reduceGT,cond_true,cond_false,Int.reduceEq,Int.reduceLE,Int.reduceGE,z0k,h61,h,h56,hr,h1,h2,z01,z2c,z2b,a,ne_eq]
      rw [if_pos b,hc]; rfl
     ·rw [if_pos (hs.1 (.inr ⟨b,c⟩))]
      simp only [g28,z0x,z0y,eq_self,not_true,not_false_eq_true,decide_true,decide_false,Bool.not_true,Bool.not_false,Int.reduceLT,Int.reduceNeg,Int.reduceGT,cond_true,cond_false,Int.reduceEq,Int.reduceLE,Int.reduceGE,z0k,h61,h,h56,hr,h1,h2,z01,z2c,z2b,a,ne_eq]
      rw [if_pos b,decide_eq_false c]; rfl
    ·have hsh:¬ z3z w.length l.length (z1i w l):=fun h=>by
      rcases hs.2 h with h|⟨h,_⟩
      ·exact a h
      ·exact b h
     rw [if_neg hsh]
     simp only [g28,z0x,z0y,eq_self,not_true,not_false_eq_true,decide_true,decide_false,Bool.not_true,Bool.not_false,Int.reduceLT,Int.reduceNeg,Int.reduceGT,cond_true,cond_false,Int.reduceEq,Int.reduceLE,Int.reduceGE,z0k,h61,h,h56,hr,h1,h2,z01,z2c,z2b,a,ne_eq]
     rw [if_neg b]; rfl
  ·rw [if_neg hr]
   simp only [g28,z0x,z0y,eq_self,not_true,not_false_eq_true,decide_true,decide_false,Bool.not_true,Bool.not_false,Int.reduceLT,Int.reduceNeg,Int.reduceGT,cond_true,cond_false,Int.reduceEq,Int.reduceLE,Int.reduceGE,z0k,h61,h,h56,hr,ne_eq]
 ·rw [if_neg h]
  simp only [g28,z0x,z0y,eq_self,not_true,not_false_eq_true,decide_true,decide_false,Bool.not_true,Bool.not_false,Int.reduceLT,Int.reduceNeg,Int.reduceGT,cond_true,cond_false,Int.reduceEq,Int.reduceLE,Int.reduceGE,z0k,h61,h,ne_eq]
end Go.Am
end
section
namespace Go.Am
open T11
theorem x9c {w:List Int} {q:Nat} (hq:q<w.length):0≤gI (z09 w) q∧gI (z09 w) q<w.length:=
 y2o.1 ((z4o w).mem_iff.1 (List.mem_of_getElem? (z2f (by rw [z5s]; exact hq))))
theorem w1n (w:List Int):(y2p w.length).map (key w)=w:=by
 apply List.ext_getElem?
 intro i
 rw [y2p,List.map_map,List.getElem?_map]
 by_cases hi:i<w.length
 ·rw [List.getElem?_range hi,z2f hi]
  simp [key]
 ·rw [List.getElem?_eq_none (by simp; omega),List.getElem?_eq_none (by omega)]; rfl
theorem y6y (w:List Int):w.Perm ((z09 w).map (key w)):=by
 have:=(z4o w).map (key w)
 rw [w1n] at this
 exact this.symm
theorem x0m (w:List Int):((z09 w).map (key w)).Pairwise (· ≤ ·):=by
 rw [List.pairwise_map]
 exact y6p (key w) (y2p w.length)
theorem y21 (w l:List Int):z1i w l=(l.map (key w)).sum:=rfl
theorem y65 (w:List Int):Lan w↔∀ k,1≤k→k≤w.length→¬ z3z w.length k (z1i w ((z09 w).take k)):=by
 have:=x9r (y6y w) (x0m w)
 rw [this]
 have e:∀ k,(((z09 w).map (key w)).take k).sum=z1i w ((z09 w).take k):=fun k=>by rw [←List.map_take,y21]
 simp only [e]
theorem x20 (w:List Int) (h:z1a w=0):
  (∃ k,1≤k∧k≤w.length∧z3z w.length k (z1i w ((z09 w).take k))∧z4g (y37 std) (z0d (z09 w),(z0d w,((0:Int),((-1:Int),((w.length:Int),((0:Int),()))))))=some (z0d (z09 w),((k:Int),())))∨
  (Lan w∧z4g (y37 std) (z0d (z09 w),(z0d w,((0:Int),((-1:Int),((w.length:Int),((0:Int),()))))))=some (z0d (z09 w),((-1:Int),()))):=by
 have hl:=z7i h
 have hrl:=z5s w
 have hrok:∀ k,w5y w ((z09 w).take k):=fun k x hx=>y2o.1 ((z4o w).mem_iff.1 (List.mem_of_mem_take hx))
 have key:=z19 (b:=y37 std) w.length (fun i=>(z0d (z09 w),(z0d w,(z1i w ((z09 w).take i),((-1:Int),((w.length:Int),((i:Int),()))))))) (fun i=>decide (z3z w.length (i+1) (z1i w ((z09 w).take (i+1))))) (fun i=>(z0d (z09 w),(((i+1:Nat):Int),()))) (z0d (z09 w),((-1:Int),())) (fun i hi=>by
  have hx:=z2f (l:=z09 w) (q:=i) (by omega)
  obtain ⟨a0,a1⟩:=x9c hi
  have hy:=z2f (l:=w) (q:=(gI (z09 w) i).toNat) (by omega)
  have hwi:=z02 (i:=i) (by omega)
  have hlt:(i:Int)<w.length:=by omega
  have h0:(0:Int)≤i:=by omega
  have hs:=y6c (fun i hi=>y64 h hi) (hrok (i+1))
  have htl:((z09 w).take (i+1)).length≤10:=by rw [List.length_take]; omega
  have hsp:z1i w ((z09 w).take (i+1))=z1i w ((z09 w).take i)+gI w (gI (z09 w) i).toNat:=by
   rw [z95 (by omega),z6t,z6s]
  have hadd:IntKind.i64.wrap (z1i w ((z09 w).take i)+gI w (gI (z09 w) i).toNat)=z1i w ((z09 w).take (i+1)):=by
   rw [←hsp,z7s]<;>omega
  have hsh:=y3a w.length (i+1) (z1i w ((z09 w).take (i+1))) (by omega)
  have h2:¬ ((2:Int)=0):=by decide
  have hel:(z0d (z09 w)).length=w.length:=by rw [z0k,hrl]
  have hx':(z0d (z09 w))[i]?=some (eI (gI (z09 w) i)):=by rw [z0d,List.getElem?_map,hx]; rfl
  have hy':(z0d w)[(gI (z09 w) i).toNat]?=some (eI (gI w (gI (z09 w) i).toNat)):=by rw [z0d,List.getElem?_map,hy]; rfl
  generalize z0d (z09 w)=R at hel hx'⊢
  generalize z0d w=E at hy'⊢
  generalize z1i w ((z09 w).take i)=s0 at hadd⊢
  generalize z1i w ((z09 w).take (i+1))=s1 at hadd hsh⊢
  by_cases a:s1<IntKind.i64.wrap ((IntKind.i64.wrap (((i+1:Nat):Int)*IntKind.i64.wrap (((i+1:Nat):Int) - 1))).tdiv 2)
  ·have hss:=hsh.1 (.inl a)
   simp only [y37,z0x,z0y,z0g,z06,eq_self,not_true,not_false_eq_true,decide_true,decide_false,Bool.not_true,Bool.not_false,Int.reduceLT,Int.reduceNeg,Int.reduceGT,cond_true,cond_false,Int.reduceEq,Int.reduceLE,Int.reduceGE,hx',hy',hel,hlt,h0,a0,ge_iff_le,z0c,z01,z2c,z2b,hwi,hadd,h2,a,hss]
  ·by_cases b:((i+1:Nat):Int)=(w.length:Int)
   ·by_cases c:s1=IntKind.i64.wrap ((IntKind.i64.wrap (((i+1:Nat):Int)*IntKind.i64.wrap (((i+1:Nat):Int) - 1))).tdiv 2)
    ·have hss:¬ z3z w.length (i+1) s1:=fun h=>by
      rcases hsh.2 h with h|⟨_,h⟩
      ·exact a h
      ·exact h c
     have hc:decide (s1=IntKind.i64.wrap ((IntKind.i64.wrap (((i+1:Nat):Int)*IntKind.i64.wrap (((i+1:Nat):Int) - 1))).tdiv 2))=true:=decide_eq_true c
     simp only [y37,z0x,z0y,z0g,z06,eq_self,not_true,not_false_eq_true,decide_true,decide_false,Bool.not_true,Bool.not_false,Int.reduceLT,Int.reduceNeg,Int.reduceGT,cond_true,cond_false,Int.reduceEq,Int.reduceLE,Int.reduceGE,hx',hy',hel,hlt,h0,a0,ge_iff_le,z0c,z01,z2c,z2b,hwi,hadd,h2,a,hss]
     rw [if_pos b,hc]
     simp only [z0x,z0y,eq_self,not_true,not_false_eq_true,decide_true,decide_false,Bool.not_true,Bool.not_false,Int.reduceLT,Int.reduceNeg,Int.reduceGT,cond_true,cond_false,Int.reduceEq,Int.reduceLE,Int.reduceGE,z0c,hwi]
    ·have hss:=hsh.1 (.inr ⟨b,c⟩)
     have hc:=decide_eq_false c
     simp only [y37,z0x,z0y,z0g,z06,eq_self,not_true,not_false_eq_true,decide_true,decide_false,Bool.not_true,Bool.not_false,Int.reduceLT,Int.reduceNeg,Int.reduceGT,cond_true,cond_false,Int.reduceEq,Int.reduceLE,Int.reduceGE,hx',hy',hel,hlt,h0,a0,ge_iff_le,z0c,z01,z2c,z2b,hwi,hadd,h2,a,hss]
     rw [if_pos b,hc]
     simp only [z0x,z0y,eq_self,not_true,not_false_eq_true,decide_true,decide_false,Bool.not_true,Bool.not_false,Int.reduceLT,Int.reduceNeg,Int.reduceGT,cond_true,cond_false,Int.reduceEq,Int.reduceLE,Int.reduceGE]
   ·have hss:¬ z3z w.length (i+1) s1:=fun h=>by
     rcases hsh.2 h with h|⟨h,_⟩
     ·exact a h
     ·exact b h
    simp only [y37,z0x,z0y,z0g,z06,eq_self,not_true,not_false_eq_true,decide_true,decide_false,Bool.not_true,Bool.not_false,Int.reduceLT,Int.reduceNeg,Int.reduceGT,cond_true,cond_false,Int.reduceEq,Int.reduceLE,Int.reduceGE,hx',hy',hel,hlt,h0,a0,ge_iff_le,z0c,z01,z2c,z2b,hwi,hadd,h2,a,hss]
    rw [if_neg b]
    simp only [z0x,z0y,eq_self,not_true,not_false_eq_true,decide_true,decide_false,Bool.not_true,Bool.not_false,Int.reduceLT,Int.reduceNeg,Int.reduceGT,cond_true,cond_false,Int.reduceEq,Int.reduceLE,Int.reduceGE,z0c,hwi]) (by
  have hn:¬ (w.length:Int)<w.length:=by omega
  simp only [y37,z0x,z0y,eq_self,not_true,not_false_eq_true,decide_true,decide_false,Bool.not_true,Bool.not_false,Int.reduceLT,Int.reduceNeg,Int.reduceGT,cond_true,cond_false,Int.reduceEq,Int.reduceLE,Int.reduceGE,hn])
 have e0:z1i w ((z09 w).take 0)=0:=rfl
 simp only [e0] at key
 rcases key with ⟨i,h1,h2,_,h4⟩|⟨h1,h2⟩
 ·exact .inl ⟨i+1,by omega,by omega,of_decide_eq_true h2,h4⟩
 ·refine .inr ⟨(y65 w).2 fun k hk hk'=>?_,h2⟩
  have:=of_decide_eq_false (h1 (k - 1) (by omega))
  rwa [show k - 1+1=k by omega] at this
def z37 (w:List Int) (k:Nat):List Int:=z3a id ((z09 w).take k)
theorem x5j {w:List Int} (h:z1a w=0) {k:Nat} (hk:k≤w.length) (hs:z3z w.length k (z1i w ((z09 w).take k))):z5o w (z37 w k)=0:=by
 have hp:=z8n id ((z09 w).take k)
 have hrl:=z5s w
 have hnd:((z09 w).take k).Nodup:=((z4o w).nodup_iff.2 (x4q _)).sublist (List.take_sublist _ _)
 have hX:(z09 w).take k=toI (((z09 w).take k).map Int.toNat):=by
  rw [toI,List.map_map]
  refine (List.map_id _).symm.trans (List.map_congr_left fun x hx=>?_)
  have:=y2o.1 ((z4o w).mem_iff.1 (List.mem_of_mem_take hx))
  simp; omega
 have hris:z1o (z37 w k) w.length:=by
  have hpw:=y6p id ((z09 w).take k)
  have hndS:=hp.nodup_iff.2 hnd
  have hlt:(z3a id ((z09 w).take k)).Pairwise (· < ·):=(hpw.and (List.nodup_iff_pairwise_ne.1 hndS)).imp fun {a b} hab=>by
   have h1:a≤b:=hab.1
   have h2:=hab.2
   omega
  intro i hi
  have hx:=z2f hi
  have hm:=y2o.1 ((z4o w).mem_iff.1 (List.mem_of_mem_take (hp.mem_iff.1 (List.mem_of_getElem? hx))))
  refine ⟨hm.1,hm.2,fun h0=>?_⟩
  rw [List.pairwise_iff_getElem] at hlt
  have hi1:i<(z3a id ((z09 w).take k)).length:=hi
  have hi2:i - 1<(z3a id ((z09 w).take k)).length:=by omega
  have:=hlt (i - 1) i hi2 hi1 (by omega)
  show gI (z3a id ((z09 w).take k)) (i - 1)<gI (z3a id ((z09 w).take k)) i
  rw [gI,gI,List.getD_eq_getElem?_getD,List.getD_eq_getElem?_getD,List.getElem?_eq_getElem hi1,List.getElem?_eq_getElem hi2]
  exact this
 have hlen:(z37 w k).length=k:=by rw [z37,z4x,List.length_take]; omega
 have hsum:z1i w (z37 w k)=z1i w ((z09 w).take k):=by
  rw [y21,y21]
  exact y2b (hp.map _)
 rw [z5o,if_pos h,if_pos hris,hlen,hsum,if_pos hs]
theorem x8g (w:List Int) (h:z1a w=0) (hL:Lan w):G64 std (z0d w,())=some ([],(false,())):=by
 have hl:=z7i h
 have h71:g71 it0 std (z0d w,())=_:=w2r w (by omega)
 have hel:(z0d (z09 w)).length=w.length:=by rw [z0k,z5s]
 unfold G64
 rcases x20 w h with ⟨k,h1,h2,h3,h4⟩|⟨_,h4⟩
 ·exact absurd h3 ((y65 w).1 hL k h1 h2)
 ·have h4:it0 _ _ (y37 std) _=_:=h4
  simp only [g64,z0x,z0y,eq_self,not_true,not_false_eq_true,decide_true,decide_false,Bool.not_true,Bool.not_false,Int.reduceLT,Int.reduceNeg,Int.reduceGT,cond_true,cond_false,Int.reduceEq,Int.reduceLE,Int.reduceGE,h71,hel,h4]
theorem x8f (w:List Int) (h:z1a w=0) (hL:¬ Lan w):∃ k,z5o w (z37 w k)=0∧k≤w.length∧G64 std (z0d w,())=some (z0d (z37 w k),(true,())):=by
 have hl:=z7i h
 have h71:g71 it0 std (z0d w,())=_:=w2r w (by omega)
 have hrl:=z5s w
 have hel:(z0d (z09 w)).length=w.length:=by rw [z0k,z5s]
 unfold G64
 rcases x20 w h with ⟨k,h1,h2,h3,h4⟩|⟨h3,_⟩
 ·refine ⟨k,x5j h h2 h3,h2,?_⟩
  have h4:it0 _ _ (y37 std) _=_:=h4
  have h73:g73 it0 std (z0d (z09 w),(0,(k,())))=_:=w9b (z09 w) 0 k (by omega) (by omega)
  rw [List.drop_zero, ←z37] at h73
  have hk0:¬ (k:Int)<0:=by omega
  have hk1:(0:Int)≤k:=by omega
  have hk2:(k:Int)≤w.length:=by omega
  have ht:(z0d (z37 w k)).take (z0d (z37 w k)).length=z0d (z37 w k):=List.take_length
  have hz:(0:Int).toNat=0:=rfl
  simp only [g64,z0x,z0y,eq_self,not_true,not_false_eq_true,decide_true,decide_false,Bool.not_true,Bool.not_false,Int.reduceLT,Int.reduceNeg,Int.reduceGT,cond_true,cond_false,Int.reduceEq,Int.reduceLE,Int.reduceGE,h71,hel,h4,hk0,hk1,hk2,ge_iff_le,Int.le_refl,hz,Nat.sub_zero,h73,ht,List.drop_zero,Nat.le_refl,Bool.and_true]
 ·exact absurd h3 hL
theorem x8i (w:List Int) (h:z1a w=0) (hL:Lan w):G31 std (z0d w,())=some ([],(5,())):=by
 have h61:g61 it0 std (z0d w,())=_:=y39 w
 have h64:g64 it0 std (z0d w,())=_:=x8g w h hL
 unfold G31
 simp only [g31,z0x,z0y,eq_self,not_true,not_false_eq_true,decide_true,decide_false,Bool.not_true,Bool.not_false,Int.reduceLT,Int.reduceNeg,Int.reduceGT,cond_true,cond_false,Int.reduceEq,Int.reduceLE,Int.reduceGE,h61,h,h64,ne_eq]
theorem w5s (w:List Int) (h:z1a w=0) (hL:¬ Lan w):∃ k,z5o w (z37 w k)=0∧k≤w.length∧G31 std (z0d w,())=some (z0d (z37 w k),(0,())):=by
 have h61:g61 it0 std (z0d w,())=_:=y39 w
 obtain ⟨k,h1,h2,h3⟩:=x8f w h hL
 have h64:g64 it0 std (z0d w,())=_:=h3
 refine ⟨k,h1,h2,?_⟩
 unfold G31
 simp only [g31,z0x,z0y,eq_self,not_true,not_false_eq_true,decide_true,decide_false,Bool.not_true,Bool.not_false,Int.reduceLT,Int.reduceNeg,Int.reduceGT,cond_true,cond_false,Int.reduceEq,Int.reduceLE,Int.reduceGE,h61,h,h64,ne_eq]
theorem w5t (w:List Int) (h:z1a w≠0):G31 std (z0d w,())=some ([],(z1a w,())):=by
 have h61:g61 it0 std (z0d w,())=_:=y39 w
 unfold G31
 simp only [g31,z0x,z0y,eq_self,not_true,not_false_eq_true,decide_true,decide_false,Bool.not_true,Bool.not_false,Int.reduceLT,Int.reduceNeg,Int.reduceGT,cond_true,cond_false,Int.reduceEq,Int.reduceLE,Int.reduceGE,h61,h,ne_eq]
end Go.Am
end
noncomputable section
namespace Go.Am
def y7f:Ctr:=
 ⟨105,[.sl 0 1, .int .i64, .int .i64, .int .i64, .clo 67 [] [.bptr 1 0]],[.row [ci], .box [.sl 2 1], .row [ci]],[]⟩
def w9q:Prim→Tup (y7f).scs→Option (STup (scss (y7f).outs)):=
 fun _ _=>none
theorem x35:z2r Go.Proofs.Try.prog 105:=enters_auto (b:=_) rfl (by kernel_rfl)
theorem w6m:CtrOk Go.Proofs.Try.prog y7f (w9q std):=⟨x35,fun x y h=>by cases h⟩
def x7h:Ctr:=
 ⟨104,[.sl 0 1, .int .i64, .int .i64, .clo 67 [] [.bptr 1 0]],[.row [ci], .box [.sl 2 1], .row [ci]],[(.ret,⟨[(0, .tuple [])],[.row [ci], .box [.sl 2 1], .row [ci]],1⟩)]⟩
def w68:List LA:=
 [⟨104,[false,true],3,⟨⟨[(0, .sl 0 1),(1, .int .i64),(2, .int .i64),(3, .clo 67 [] [.bptr 1 0]),(8, .int .i64)],[.row [ci], .box [.sl 2 1], .row [ci]],53⟩,[((AX.exit 0),⟨[],[.row [ci], .box [.sl 2 1], .row [ci]],53⟩)]⟩⟩,
 ⟨104,[false,true,false,false,true,false,false,true],3,⟨⟨[(0, .sl 0 1),(1, .int .i64),(2, .int .i64),(3, .clo 67 [] [.bptr 1 0]),(8, .int .i64),(9, .int .i64)],[.row [ci], .box [.sl 2 1], .row [ci]],53⟩,[((AX.exit 2),⟨[(0, .sl 0 1),(1, .int .i64),(2, .int .i64),(3, .clo 67 [] [.bptr 1 0]),(8, .int .i64)],[.row [ci], .box [.sl 2 1], .row [ci]],53⟩)]⟩⟩]
def w69:List JA:=
 [⟨68,[true,false,true,true,true],3,[(AX.ret,⟨[(4, .int .i64)],[.row [ci], .box [.sl 2 1], .row [ci]],20⟩),(AX.normal,⟨[(0, .int .i64),(1, .int .i64),(6, .bool)],[.row [ci], .box [.sl 2 1], .row [ci]],20⟩)]⟩]
def w4g:List CF:=
 []
def w88:Anns:=
 ⟨w4g,w69,[]⟩
def z6l (p:Prim):(LD×(LD×T13))→Option ((LD×(LD×T13))⊕(LD×(LD×T10))):=
 fun a=>opt.run _ (
 opt.ask _ (p.cmp .gtr a.2.2.2.2.2.2.2.2.2.1 a.2.2.2.2.2.2.1) (
 opt.need _ (bif (p.cmp .geq a.2.2.2.2.2.2.2.2.2.1 (0:Int)) then (p.cmp .lss a.2.2.2.2.2.2.2.2.2.1 (p.ofNat a.2.2.2.2.2.1)) else Bool.false)<|
 opt.need _ (p.rowOk a.1 (p.add a.2.2.2.2.1 (p.nat a.2.2.2.2.2.2.2.2.2.1)) [ci])<|
 opt.need _ (bif (p.cmp .geq (p.ar .sub .i64 a.2.2.2.2.2.2.2.2.2.1 (1:Int)) (0:Int)) then (p.cmp .lss (p.ar .sub .i64 a.2.2.2.2.2.2.2.2.2.1 (1:Int)) (p.ofNat a.2.2.2.2.2.1)) else Bool.false)<|
 opt.need _ (p.rowOk a.1 (p.add a.2.2.2.2.1 (p.nat (p.ar .sub .i64 a.2.2.2.2.2.2.2.2.2.1 (1:Int)))) [ci])<|
 opt.need _ (bif (p.cmp .geq (p.rdI a.1 (p.add a.2.2.2.2.1 (p.nat a.2.2.2.2.2.2.2.2.2.1)) 0) (0:Int)) then (p.cmp .lss (p.rdI a.1 (p.add a.2.2.2.2.1 (p.nat a.2.2.2.2.2.2.2.2.2.1)) 0) (p.ofNat a.2.2.2.1)) else Bool.false)<|
 opt.need _ (p.rowOk a.2.1 (p.add a.2.2.1 (p.nat (p.rdI a.1 (p.add a.2.2.2.2.1 (p.nat a.2.2.2.2.2.2.2.2.2.1)) 0))) [ci])<|
 opt.need _ (bif (p.cmp .geq (p.rdI a.1 (p.add a.2.2.2.2.1 (p.nat (p.ar .sub .i64 a.2.2.2.2.2.2.2.2.2.1 (1:Int)))) 0) (0:Int)) then (p.cmp .lss (p.rdI a.1 (p.add a.2.2.2.2.1 (p.nat (p.ar .sub .i64 a.2.2.2.2.2.2.2.2.2.1 (1:Int)))) 0) (p.ofNat a.2.2.2.1)) else Bool.false)<|
 opt.need _ (p.rowOk a.2.1 (p.add a.2.2.1 (p.nat (p.rdI a.1 (p.add a.2.2.2.2.1 (p.nat (p.ar .sub .i64 a.2.2.2.2.2.2.2.2.2.1 (1:Int)))) 0))) [ci])<|
 opt.alt ((LD×(LD×(Nat×(Nat×(Int×Unit)))))) ((LD×(LD×T23))) _ (
 opt.run (((LD×(LD×(Nat×(Nat×(Int×Unit)))))⊕(LD×(LD×T23)))) (
 opt.ask _ (p.cmp .neq (p.rdI a.2.1 (p.add a.2.2.1 (p.nat (p.rdI a.1 (p.add a.2.2.2.2.1 (p.nat a.2.2.2.2.2.2.2.2.2.1)) 0))) 0) (p.rdI a.2.1 (p.add a.2.2.1 (p.nat (p.rdI a.1 (p.add a.2.2.2.2.1 (p.nat a.2.2.2.2.2.2.2.2.2.1)) 0))) 0)) (
 opt.ask _ (p.cmp .neq (p.rdI a.2.1 (p.add a.2.2.1 (p.nat (p.rdI a.1 (p.add a.2.2.2.2.1 (p.nat (p.ar .sub .i64 a.2.2.2.2.2.2.2.2.2.1 (1:Int)))) 0))) 0) (p.rdI a.2.1 (p.add a.2.2.1 (p.nat (p.rdI a.1 (p.add a.2.2.2.2.1 (p.nat (p.ar .sub .i64 a.2.2.2.2.2.2.2.2.2.1 (1:Int)))) 0))) 0)) (
 opt.ret _ (Sum.inl (a.1,(a.2.1,(a.2.2.1,(a.2.2.2.1,((0:Int),()))))))) (
 opt.ret _ (Sum.inl (a.1,(a.2.1,(a.2.2.1,(a.2.2.2.1,((-1:Int),())))))))) (
 opt.ret _ (Sum.inr (a.1,(a.2.1,(a.2.2.1,(a.2.2.2.1,((p.rdI a.2.1 (p.add a.2.2.1 (p.nat (p.rdI a.1 (p.add a.2.2.2.2.1 (p.nat a.2.2.2.2.2.2.2.2.2.1)) 0))) 0),((p.rdI a.2.1 (p.add a.2.2.1 (p.nat (p.rdI a.1 (p.add a.2.2.2.2.1 (p.nat (p.ar .sub .i64 a.2.2.2.2.2.2.2.2.2.1 (1:Int)))) 0))) 0),((p.cmp .neq (p.rdI a.2.1 (p.add a.2.2.1 (p.nat (p.rdI a.1 (p.add a.2.2.2.2.1 (p.nat (p.ar .sub .i64 a.2.2.2.2.2.2.2.2.2.1 (1:Int)))) 0))) 0) (p.rdI a.2.1 (p.add a.2.2.1 (p.nat (p.rdI a.1 (p.add a.2.2.2.2.1 (p.nat (p.ar .sub .i64 a.2.2.2.2.2.2.2.2.2.1 (1:Int)))) 0))) 0)),()))))))))))) (fun b=>
 opt.ask _ (p.cmp .lss b.2.2.2.2.1 (0:Int)) (
 opt.need _ (bif (p.cmp .geq (p.ar .sub .i64 a.2.2.2.2.2.2.2.2.2.1 (1:Int)) (0:Int)) then (p.cmp .lss (p.ar .sub .i64 a.2.2.2.2.2.2.2.2.2.1 (1:Int)) (p.ofNat a.2.2.2.2.2.1)) else Bool.false)<|
 opt.need _ (p.rowOk b.1 (p.add a.2.2.2.2.1 (p.nat (p.ar .sub .i64 a.2.2.2.2.2.2.2.2.2.1 (1:Int)))) [ci])<|
 opt.need _ (bif (p.cmp .geq a.2.2.2.2.2.2.2.2.2.1 (0:Int)) then (p.cmp .lss a.2.2.2.2.2.2.2.2.2.1 (p.ofNat a.2.2.2.2.2.1)) else Bool.false)<|
 opt.need _ (p.rowOk b.1 (p.add a.2.2.2.2.1 (p.nat a.2.2.2.2.2.2.2.2.2.1)) [ci])<|
 opt.need _ (bif (p.cmp .geq a.2.2.2.2.2.2.2.2.2.1 (0:Int)) then (p.cmp .lss a.2.2.2.2.2.2.2.2.2.1 (p.ofNat a.2.2.2.2.2.1)) else Bool.false)<|
 opt.need _ (p.rowOk b.1 (p.add a.2.2.2.2.1 (p.nat a.2.2.2.2.2.2.2.2.2.1)) [ci])<|
 opt.need _ (bif (p.cmp .geq (p.ar .sub .i64 a.2.2.2.2.2.2.2.2.2.1 (1:Int)) (0:Int)) then (p.cmp .lss (p.ar .sub .i64 a.2.2.2.2.2.2.2.2.2.1 (1:Int)) (p.ofNat a.2.2.2.2.2.1)) else Bool.false)<|
 opt.need _ (p.rowOk (p.set b.1 (p.add a.2.2.2.2.1 (p.nat a.2.2.2.2.2.2.2.2.2.1)) [(D.int .i64 (p.rdI b.1 (p.add a.2.2.2.2.1 (p.nat (p.ar .sub .i64 a.2.2.2.2.2.2.2.2.2.1 (1:Int)))) 0))]) (p.add a.2.2.2.2.1 (p.nat (p.ar .sub .i64 a.2.2.2.2.2.2.2.2.2.1 (1:Int)))) [ci])<|
 opt.ret _ (Sum.inl ((p.set (p.set b.1 (p.add a.2.2.2.2.1 (p.nat a.2.2.2.2.2.2.2.2.2.1)) [(D.int .i64 (p.rdI b.1 (p.add a.2.2.2.2.1 (p.nat (p.ar .sub .i64 a.2.2.2.2.2.2.2.2.2.1 (1:Int)))) 0))]) (p.add a.2.2.2.2.1 (p.nat (p.ar .sub .i64 a.2.2.2.2.2.2.2.2.2.1 (1:Int)))) [(D.int .i64 (p.rdI b.1 (p.add a.2.2.2.2.1 (p.nat a.2.2.2.2.2.2.2.2.2.1)) 0))]),(b.2.1,(b.2.2.1,(b.2.2.2.1,(a.2.2.2.2.1,(a.2.2.2.2.2.1,(a.2.2.2.2.2.2.1,(a.2.2.2.2.2.2.2.1,(a.2.2.2.2.2.2.2.2.1,((p.ar .sub .i64 a.2.2.2.2.2.2.2.2.2.1 (1:Int)),())))))))))))) (
 opt.ret _ (Sum.inr (b.1,(b.2.1,(b.2.2.1,(b.2.2.2.1,(a.2.2.2.2.1,(a.2.2.2.2.2.1,(a.2.2.2.2.2.2.1,(a.2.2.2.2.2.2.2.1,(a.2.2.2.2.2.2.2.2.1,())))))))))))) (fun c=>
 opt.bnd ((LD×(LD×T23))) _ (some c) fun d=>
 opt.ask _ d.2.2.2.2.2.2.1 (
 opt.ask _ (p.cmp .lss (1:Int) (0:Int)) (
 opt.need _ (bif (p.cmp .geq (p.ar .sub .i64 a.2.2.2.2.2.2.2.2.2.1 (1:Int)) (0:Int)) then (p.cmp .lss (p.ar .sub .i64 a.2.2.2.2.2.2.2.2.2.1 (1:Int)) (p.ofNat a.2.2.2.2.2.1)) else Bool.false)<|
 opt.need _ (p.rowOk d.1 (p.add a.2.2.2.2.1 (p.nat (p.ar .sub .i64 a.2.2.2.2.2.2.2.2.2.1 (1:Int)))) [ci])<|
 opt.need _ (bif (p.cmp .geq a.2.2.2.2.2.2.2.2.2.1 (0:Int)) then (p.cmp .lss a.2.2.2.2.2.2.2.2.2.1 (p.ofNat a.2.2.2.2.2.1)) else Bool.false)<|
 opt.need _ (p.rowOk d.1 (p.add a.2.2.2.2.1 (p.nat a.2.2.2.2.2.2.2.2.2.1)) [ci])<|
 opt.need _ (bif (p.cmp .geq a.2.2.2.2.2.2.2.2.2.1 (0:Int)) then (p.cmp .lss a.2.2.2.2.2.2.2.2.2.1 (p.ofNat a.2.2.2.2.2.1)) else Bool.false)<|
 opt.need _ (p.rowOk d.1 (p.add a.2.2.2.2.1 (p.nat a.2.2.2.2.2.2.2.2.2.1)) [ci])<|
 opt.need _ (bif (p.cmp .geq (p.ar .sub .i64 a.2.2.2.2.2.2.2.2.2.1 (1:Int)) (0:Int)) then (p.cmp .lss (p.ar .sub .i64 a.2.2.2.2.2.2.2.2.2.1 (1:Int)) (p.ofNat a.2.2.2.2.2.1)) else Bool.false)<|
 opt.need _ (p.rowOk (p.set d.1 (p.add a.2.2.2.2.1 (p.nat a.2.2.2.2.2.2.2.2.2.1)) [(D.int .i64 (p.rdI d.1 (p.add a.2.2.2.2.1 (p.nat (p.ar .sub .i64 a.2.2.2.2.2.2.2.2.2.1 (1:Int)))) 0))]) (p.add a.2.2.2.2.1 (p.nat (p.ar .sub .i64 a.2.2.2.2.2.2.2.2.2.1 (1:Int)))) [ci])<|
 opt.ret _ (Sum.inl ((p.set (p.set d.1 (p.add a.2.2.2.2.1 (p.nat a.2.2.2.2.2.2.2.2.2.1)) [(D.int .i64 (p.rdI d.1 (p.add a.2.2.2.2.1 (p.nat (p.ar .sub .i64 a.2.2.2.2.2.2.2.2.2.1 (1:Int)))) 0))]) (p.add a.2.2.2.2.1 (p.nat (p.ar .sub .i64 a.2.2.2.2.2.2.2.2.2.1 (1:Int)))) [(D.int .i64 (p.rdI d.1 (p.add a.2.2.2.2.1 (p.nat a.2.2.2.2.2.2.2.2.2.1)) 0))]),(d.2.1,(d.2.2.1,(d.2.2.2.1,(a.2.2.2.2.1,(a.2.2.2.2.2.1,(a.2.2.2.2.2.2.1,(a.2.2.2.2.2.2.2.1,(a.2.2.2.2.2.2.2.2.1,((p.ar .sub .i64 a.2.2.2.2.2.2.2.2.2.1 (1:Int)),())))))))))))) (
 opt.ret _ (Sum.inr (d.1,(d.2.1,(d.2.2.1,(d.2.2.2.1,(a.2.2.2.2.1,(a.2.2.2.2.2.1,(a.2.2.2.2.2.2.1,(a.2.2.2.2.2.2.2.1,(a.2.2.2.2.2.2.2.2.1,())))))))))))) (
 opt.ask _ (p.cmp .lss d.2.2.2.2.1 d.2.2.2.2.2.1) (
 opt.ask _ (p.cmp .lss (-1:Int) (0:Int)) (
 opt.need _ (bif (p.cmp .geq (p.ar .sub .i64 a.2.2.2.2.2.2.2.2.2.1 (1:Int)) (0:Int)) then (p.cmp .lss (p.ar .sub .i64 a.2.2.2.2.2.2.2.2.2.1 (1:Int)) (p.ofNat a.2.2.2.2.2.1)) else Bool.false)<|
 opt.need _ (p.rowOk d.1 (p.add a.2.2.2.2.1 (p.nat (p.ar .sub .i64 a.2.2.2.2.2.2.2.2.2.1 (1:Int)))) [ci])<|
 opt.need _ (bif (p.cmp .geq a.2.2.2.2.2.2.2.2.2.1 (0:Int)) then (p.cmp .lss a.2.2.2.2.2.2.2.2.2.1 (p.ofNat a.2.2.2.2.2.1)) else Bool.false)<|
 opt.need _ (p.rowOk d.1 (p.add a.2.2.2.2.1 (p.nat a.2.2.2.2.2.2.2.2.2.1)) [ci])<|
 opt.need _ (bif (p.cmp .geq a.2.2.2.2.2.2.2.2.2.1 (0:Int)) then (p.cmp .lss a.2.2.2.2.2.2.2.2.2.1 (p.ofNat a.2.2.2.2.2.1)) else Bool.false)<|
 opt.need _ (p.rowOk d.1 (p.add a.2.2.2.2.1 (p.nat a.2.2.2.2.2.2.2.2.2.1)) [ci])<|
 opt.need _ (bif (p.cmp .geq (p.ar .sub .i64 a.2.2.2.2.2.2.2.2.2.1 (1:Int)) (0:Int)) then (p.cmp .lss (p.ar .sub .i64 a.2.2.2.2.2.2.2.2.2.1 (1:Int)) (p.ofNat a.2.2.2.2.2.1)) else Bool.false)<|
 opt.need _ (p.rowOk (p.set d.1 (p.add a.2.2.2.2.1 (p.nat a.2.2.2.2.2.2.2.2.2.1)) [(D.int .i64 (p.rdI d.1 (p.add a.2.2.2.2.1 (p.nat (p.ar .sub .i64 a.2.2.2.2.2.2.2.2.2.1 (1:Int)))) 0))]) (p.add a.2.2.2.2.1 (p.nat (p.ar .sub .i64 a.2.2.2.2.2.2.2.2.2.1 (1:Int)))) [ci])<|
 opt.ret _ (Sum.inl ((p.set (p.set d.1 (p.add a.2.2.2.2.1 (p.nat a.2.2.2.2.2.2.2.2.2.1)) [(D.int .i64 (p.rdI d.1 (p.add a.2.2.2.2.1 (p.nat (p.ar .sub .i64 a.2.2.2.2.2.2.2.2.2.1 (1:Int)))) 0))]) (p.add a.2.2.2.2.1 (p.nat (p.ar .sub .i64 a.2.2.2.2.2.2.2.2.2.1 (1:Int)))) [(D.int .i64 (p.rdI d.1 (p.add a.2.2.2.2.1 (p.nat a.2.2.2.2.2.2.2.2.2.1)) 0))]),(d.2.1,(d.2.2.1,(d.2.2.2.1,(a.2.2.2.2.1,(a.2.2.2.2.2.1,(a.2.2.2.2.2.2.1,(a.2.2.2.2.2.2.2.1,(a.2.2.2.2.2.2.2.2.1,((p.ar .sub .i64 a.2.2.2.2.2.2.2.2.2.1 (1:Int)),())))))))))))) (
 opt.ret _ (Sum.inr (d.1,(d.2.1,(d.2.2.1,(d.2.2.2.1,(a.2.2.2.2.1,(a.2.2.2.2.2.1,(a.2.2.2.2.2.2.1,(a.2.2.2.2.2.2.2.1,(a.2.2.2.2.2.2.2.2.1,())))))))))))) (
 opt.ask _ (p.cmp .gtr d.2.2.2.2.1 d.2.2.2.2.2.1) (
 opt.ask _ (p.cmp .lss (1:Int) (0:Int)) (
 opt.need _ (bif (p.cmp .geq (p.ar .sub .i64 a.2.2.2.2.2.2.2.2.2.1 (1:Int)) (0:Int)) then (p.cmp .lss (p.ar .sub .i64 a.2.2.2.2.2.2.2.2.2.1 (1:Int)) (p.ofNat a.2.2.2.2.2.1)) else Bool.false)<|
 opt.need _ (p.rowOk d.1 (p.add a.2.2.2.2.1 (p.nat (p.ar .sub .i64 a.2.2.2.2.2.2.2.2.2.1 (1:Int)))) [ci])<|
 opt.need _ (bif (p.cmp .geq a.2.2.2.2.2.2.2.2.2.1 (0:Int)) then (p.cmp .lss a.2.2.2.2.2.2.2.2.2.1 (p.ofNat a.2.2.2.2.2.1)) else Bool.false)<|
 opt.need _ (p.rowOk d.1 (p.add a.2.2.2.2.1 (p.nat a.2.2.2.2.2.2.2.2.2.1)) [ci])<|
 opt.need _ (bif (p.cmp .geq a.2.2.2.2.2.2.2.2.2.1 (0:Int)) then (p.cmp .lss a.2.2.2.2.2.2.2.2.2.1 (p.ofNat a.2.2.2.2.2.1)) else Bool.false)<|
 opt.need _ (p.rowOk d.1 (p.add a.2.2.2.2.1 (p.nat a.2.2.2.2.2.2.2.2.2.1)) [ci])<|
 opt.need _ (bif (p.cmp .geq (p.ar .sub .i64 a.2.2.2.2.2.2.2.2.2.1 (1:Int)) (0:Int)) then (p.cmp .lss (p.ar .sub .i64 a.2.2.2.2.2.2.2.2.2.1 (1:Int)) (p.ofNat a.2.2.2.2.2.1)) else Bool.false)<|
 opt.need _ (p.rowOk (p.set d.1 (p.add a.2.2.2.2.1 (p.nat a.2.2.2.2.2.2.2.2.2.1)) [(D.int .i64 (p.rdI d.1 (p.add a.2.2.2.2.1 (p.nat (p.ar .sub .i64 a.2.2.2.2.2.2.2.2.2.1 (1:Int)))) 0))]) (p.add a.2.2.2.2.1 (p.nat (p.ar .sub .i64 a.2.2.2.2.2.2.2.2.2.1 (1:Int)))) [ci])<|
 opt.ret _ (Sum.inl ((p.set (p.set d.1 (p.add a.2.2.2.2.1 (p.nat a.2.2.2.2.2.2.2.2.2.1)) [(D.int .i64 (p.rdI d.1 (p.add a.2.2.2.2.1 (p.nat (p.ar .sub .i64 a.2.2.2.2.2.2.2.2.2.1 (1:Int)))) 0))]) (p.add a.2.2.2.2.1 (p.nat (p.ar .sub .i64 a.2.2.2.2.2.2.2.2.2.1 (1:Int)))) [(D.int .i64 (p.rdI d.1 (p.add a.2.2.2.2.1 (p.nat a.2.2.2.2.2.2.2.2.2.1)) 0))]),(d.2.1,(d.2.2.1,(d.2.2.2.1,(a.2.2.2.2.1,(a.2.2.2.2.2.1,(a.2.2.2.2.2.2.1,(a.2.2.2.2.2.2.2.1,(a.2.2.2.2.2.2.2.2.1,((p.ar .sub .i64 a.2.2.2.2.2.2.2.2.2.1 (1:Int)),())))))))))))) (
 opt.ret _ (Sum.inr (d.1,(d.2.1,(d.2.2.1,(d.2.2.2.1,(a.2.2.2.2.1,(a.2.2.2.2.2.1,(a.2.2.2.2.2.2.1,(a.2.2.2.2.2.2.2.1,(a.2.2.2.2.2.2.2.2.1,())))))))))))) (
 opt.ask _ (p.cmp .lss (0:Int) (0:Int)) (
 opt.need _ (bif (p.cmp .geq (p.ar .sub .i64 a.2.2.2.2.2.2.2.2.2.1 (1:Int)) (0:Int)) then (p.cmp .lss (p.ar .sub .i64 a.2.2.2.2.2.2.2.2.2.1 (1:Int)) (p.ofNat a.2.2.2.2.2.1)) else Bool.false)<|
 opt.need _ (p.rowOk d.1 (p.add a.2.2.2.2.1 (p.nat (p.ar .sub .i64 a.2.2.2.2.2.2.2.2.2.1 (1:Int)))) [ci])<|
 opt.need _ (bif (p.cmp .geq a.2.2.2.2.2.2.2.2.2.1 (0:Int)) then (p.cmp .lss a.2.2.2.2.2.2.2.2.2.1 (p.ofNat a.2.2.2.2.2.1)) else Bool.false)<|
 opt.need _ (p.rowOk d.1 (p.add a.2.2.2.2.1 (p.nat a.2.2.2.2.2.2.2.2.2.1)) [ci])<|
 opt.need _ (bif (p.cmp .geq a.2.2.2.2.2.2.2.2.2.1 (0:Int)) then (p.cmp .lss a.2.2.2.2.2.2.2.2.2.1 (p.ofNat a.2.2.2.2.2.1)) else Bool.false)<|
 opt.need _ (p.rowOk d.1 (p.add a.2.2.2.2.1 (p.nat a.2.2.2.2.2.2.2.2.2.1)) [ci])<|
 opt.need _ (bif (p.cmp .geq (p.ar .sub .i64 a.2.2.2.2.2.2.2.2.2.1 (1:Int)) (0:Int)) then (p.cmp .lss (p.ar .sub .i64 a.2.2.2.2.2.2.2.2.2.1 (1:Int)) (p.ofNat a.2.2.2.2.2.1)) else Bool.false)<|
 opt.need _ (p.rowOk (p.set d.1 (p.add a.2.2.2.2.1 (p.nat a.2.2.2.2.2.2.2.2.2.1)) [(D.int .i64 (p.rdI d.1 (p.add a.2.2.2.2.1 (p.nat (p.ar .sub .i64 a.2.2.2.2.2.2.2.2.2.1 (1:Int)))) 0))]) (p.add a.2.2.2.2.1 (p.nat (p.ar .sub .i64 a.2.2.2.2.2.2.2.2.2.1 (1:Int)))) [ci])<|
 opt.ret _ (Sum.inl ((p.set (p.set d.1 (p.add a.2.2.2.2.1 (p.nat a.2.2.2.2.2.2.2.2.2.1)) [(D.int .i64 (p.rdI d.1 (p.add a.2.2.2.2.1 (p.nat (p.ar .sub .i64 a.2.2.2.2.2.2.2.2.2.1 (1:Int)))) 0))]) (p.add a.2.2.2.2.1 (p.nat (p.ar .sub .i64 a.2.2.2.2.2.2.2.2.2.1 (1:Int)))) [(D.int .i64 (p.rdI d.1 (p.add a.2.2.2.2.1 (p.nat a.2.2.2.2.2.2.2.2.2.1)) 0))]),(d.2.1,(d.2.2.1,(d.2.2.2.1,(a.2.2.2.2.1,(a.2.2.2.2.2.1,(a.2.2.2.2.2.2.1,(a.2.2.2.2.2.2.2.1,(a.2.2.2.2.2.2.2.2.1,((p.ar .sub .i64 a.2.2.2.2.2.2.2.2.2.1 (1:Int)),())))))))))))) (
 opt.ret _ (Sum.inr (d.1,(d.2.1,(d.2.2.1,(d.2.2.2.1,(a.2.2.2.2.1,(a.2.2.2.2.2.1,(a.2.2.2.2.2.2.1,(a.2.2.2.2.2.2.2.1,(a.2.2.2.2.2.2.2.2.1,())))))))))))))))) (
 opt.ret _ (Sum.inr (a.1,(a.2.1,(a.2.2.1,(a.2.2.2.1,(a.2.2.2.2.1,(a.2.2.2.2.2.1,(a.2.2.2.2.2.2.1,(a.2.2.2.2.2.2.2.1,(a.2.2.2.2.2.2.2.2.1,()))))))))))))
def z5a (it:It) (p:Prim):(LD×(LD×T10))→Option ((LD×(LD×T10))⊕(LD×(LD×T5))):=
 fun a=>opt.run _ (
 opt.ask _ (p.cmp .lss a.2.2.2.2.2.2.2.2.1 a.2.2.2.2.2.2.2.1) (
 opt.bnd ((LD×(LD×T10))) _ (
 it _ _ (z6l p) (a.1,(a.2.1,(a.2.2.1,(a.2.2.2.1,(a.2.2.2.2.1,(a.2.2.2.2.2.1,(a.2.2.2.2.2.2.1,(a.2.2.2.2.2.2.2.1,(a.2.2.2.2.2.2.2.2.1,(a.2.2.2.2.2.2.2.2.1,()))))))))))) fun b=>
 opt.ret _ (Sum.inl (b.1,(b.2.1,(b.2.2.1,(b.2.2.2.1,(b.2.2.2.2.1,(b.2.2.2.2.2.1,(b.2.2.2.2.2.2.1,(b.2.2.2.2.2.2.2.1,((p.ar .add .i64 b.2.2.2.2.2.2.2.2.1 (1:Int)),()))))))))))) (
 opt.ret _ (Sum.inr (a.1,(a.2.1,(a.2.2.1,(a.2.2.2.1,())))))))
def y84 (it:It):(p:Prim)→(LD×(LD×T16))→Option ((LD×(LD×T5))):=
 fun p x=>
 opt.bnd ((LD×(LD×T5))) _ (
 it _ _ (z5a it p) (x.1,(x.2.1,(x.2.2.1,(x.2.2.2.1,(x.2.2.2.2.1,(x.2.2.2.2.2.1,(x.2.2.2.2.2.2.1,(x.2.2.2.2.2.2.2.1,((p.ar .add .i64 x.2.2.2.2.2.2.1 (1:Int)),())))))))))) fun a=>
 opt.ret _ (a.1,(a.2.1,(a.2.2.1,(a.2.2.2.1,()))))
def w9o:=y84 it0
theorem w6n:CtrOk PG x7h (w9o std):=okF (a:=w88) (l:=w68) (gN) (by kernel_rfl) fun _ _=>by kernel_rfl
def w18:Ctr:=
 ⟨86,[.sl 0 1, .int .i64, .clo 67 [] [.bptr 1 0]],[.row [ci], .box [.sl 2 1], .row [ci]],[(.ret,⟨[(0, .tuple [])],[.row [ci], .box [.sl 2 1], .row [ci]],1⟩)]⟩
def v1w:List LA:=
 [⟨86,[false,false,true,true],3,⟨⟨[(0, .sl 0 1),(1, .int .i64),(2, .clo 67 [] [.bptr 1 0]),(6, .int .i64),(7, .int .i64),(8, .int .i64)],[.row [ci], .box [.sl 2 1], .row [ci]],63⟩,[((AX.exit 0),⟨[(0, .sl 0 1),(1, .int .i64),(2, .clo 67 [] [.bptr 1 0]),(6, .int .i64),(7, .int .i64)],[.row [ci], .box [.sl 2 1], .row [ci]],63⟩)]⟩⟩,
 ⟨86,[false,true,true,true,true],3,⟨⟨[(0, .sl 0 1),(1, .int .i64),(2, .clo 67 [] [.bptr 1 0]),(6, .int .i64)],[.row [ci], .box [.sl 2 1], .row [ci]],63⟩,[((AX.exit 2),⟨[],[.row [ci], .box [.sl 2 1], .row [ci]],63⟩)]⟩⟩,
 ⟨86,[false,false,true,false,true,false,false,true,true,true,true],3,⟨⟨[(0, .sl 0 1),(1, .int .i64),(2, .clo 67 [] [.bptr 1 0]),(6, .int .i64),(7, .int .i64),(8, .int .i64)],[.row [ci], .box [.sl 2 1], .row [ci]],63⟩,[((AX.exit 4),⟨[(0, .sl 0 1),(1, .int .i64),(2, .clo 67 [] [.bptr 1 0]),(6, .int .i64),(7, .int .i64)],[.row [ci], .box [.sl 2 1], .row [ci]],63⟩)]⟩⟩]
def v17:List JA:=
 []
def w7f:List CF:=
 [⟨y7f,w9q⟩,⟨x7h,w9o⟩]
def v4n:Anns:=
 ⟨w7f,v17,[]⟩
def w83 (p:Prim):(LD×(LD×T13))→Option ((LD×(LD×T13))⊕(LD×(LD×T10))):=
 fun a=>opt.run _ (
 opt.ask _ (p.cmp .leq a.2.2.2.2.2.2.2.2.2.1 a.2.2.2.2.2.2.1) (
 opt.no _ 81) (
 opt.ret _ (Sum.inr (a.1,(a.2.1,(a.2.2.1,(a.2.2.2.1,(a.2.2.2.2.1,(a.2.2.2.2.2.1,(a.2.2.2.2.2.2.1,(a.2.2.2.2.2.2.2.1,(a.2.2.2.2.2.2.2.2.1,()))))))))))))
def y9l (it:It) (p:Prim):(LD×(LD×T16))→Option ((LD×(LD×T16))⊕(LD×(LD×T5))):=
 fun a=>opt.run _ (
 opt.ask _ (p.cmp .lss a.2.2.2.2.2.2.2.1 a.2.2.2.2.2.2.1) (
 opt.bnd ((LD×(LD×T10))) _ (
 it _ _ (w83 p) (a.1,(a.2.1,(a.2.2.1,(a.2.2.2.1,(a.2.2.2.2.1,(a.2.2.2.2.2.1,(a.2.2.2.2.2.2.1,(a.2.2.2.2.2.2.2.1,((0:Int),((p.ar .mul .i64 (2:Int) a.2.2.2.2.2.2.2.1),()))))))))))) fun b=>
 opt.ask _ (p.cmp .lss (p.ar .add .i64 b.2.2.2.2.2.2.2.2.1 b.2.2.2.2.2.2.2.1) b.2.2.2.2.2.2.1) (
 opt.no _ 81) (
 opt.ret _ (Sum.inl (b.1,(b.2.1,(b.2.2.1,(b.2.2.2.1,(b.2.2.2.2.1,(b.2.2.2.2.2.1,(b.2.2.2.2.2.2.1,((p.ar .mul .i64 b.2.2.2.2.2.2.2.1 (2:Int)),()))))))))))) (
 opt.ret _ (Sum.inr (a.1,(a.2.1,(a.2.2.1,(a.2.2.2.1,())))))))
def y9m (it:It) (p:Prim):(LD×(LD×T13))→Option ((LD×(LD×T13))⊕(LD×(LD×T10))):=
 fun a=>opt.run _ (
 opt.ask _ (p.cmp .leq a.2.2.2.2.2.2.2.2.2.1 a.2.2.2.2.2.2.1) (
 opt.bnd ((LD×(LD×T5))) _ (y84 it p (a.1,(a.2.1,(a.2.2.1,(a.2.2.2.1,(a.2.2.2.2.1,(a.2.2.2.2.2.1,(a.2.2.2.2.2.2.2.2.1,(a.2.2.2.2.2.2.2.2.2.1,()))))))))) fun b=>
 opt.ret _ (Sum.inl (b.1,(b.2.1,(b.2.2.1,(b.2.2.2.1,(a.2.2.2.2.1,(a.2.2.2.2.2.1,(a.2.2.2.2.2.2.1,(a.2.2.2.2.2.2.2.1,(a.2.2.2.2.2.2.2.2.2.1,((p.ar .add .i64 a.2.2.2.2.2.2.2.2.2.1 a.2.2.2.2.2.2.2.1),())))))))))))) (
 opt.ret _ (Sum.inr (a.1,(a.2.1,(a.2.2.1,(a.2.2.2.1,(a.2.2.2.2.1,(a.2.2.2.2.2.1,(a.2.2.2.2.2.2.1,(a.2.2.2.2.2.2.2.1,(a.2.2.2.2.2.2.2.2.1,()))))))))))))
def w7o (it:It):(p:Prim)→(LD×(LD×(Nat×(Nat×(Nat×(Nat×(Int×Unit)))))))→Option ((LD×(LD×T5))):=
 fun p x=>
 opt.bnd ((LD×(LD×T10))) _ (
 it _ _ (y9m it p) (x.1,(x.2.1,(x.2.2.1,(x.2.2.2.1,(x.2.2.2.2.1,(x.2.2.2.2.2.1,(x.2.2.2.2.2.2.1,((20:Int),((0:Int),((20:Int),()))))))))))) fun a=>
 opt.bnd ((LD×(LD×T5))) _ (y84 it p (a.1,(a.2.1,(a.2.2.1,(a.2.2.2.1,(a.2.2.2.2.1,(a.2.2.2.2.2.1,(a.2.2.2.2.2.2.2.2.1,(a.2.2.2.2.2.2.1,()))))))))) fun b=>
 opt.bnd ((LD×(LD×T5))) _ (
 it _ _ (y9l it p) (b.1,(b.2.1,(b.2.2.1,(b.2.2.2.1,(a.2.2.2.2.1,(a.2.2.2.2.2.1,(a.2.2.2.2.2.2.1,(a.2.2.2.2.2.2.2.1,()))))))))) fun c=>
 opt.ret _ (c.1,(c.2.1,(c.2.2.1,(c.2.2.2.1,()))))
def v5u:=w7o it0
theorem v0x:CtrOk PG w18 (v5u std):=okF (a:=v4n) (l:=v1w) (gC w6m (gC w6n (gN))) (by kernel_rfl) fun _ _=>by kernel_rfl
def w2b:Ctr:=
 ⟨66,[.sl 0 1, .clo 67 [] [.bptr 1 0]],[.row [ci], .box [.sl 2 1], .row [ci]],[(.ret,⟨[(0, .tuple [])],[.row [ci], .box [.sl 2 1], .row [ci]],1⟩)]⟩
def v1z:List LA:=
 []
def v2a:List JA:=
 []
def w7i:List CF:=
 [⟨w18,v5u⟩]
def v4q:Anns:=
 ⟨w7i,v2a,[]⟩
def w51 (it:It):(p:Prim)→(LD×(LD×T17))→Option ((LD×(LD×T5))):=
 fun p x=>
 opt.bnd ((LD×(LD×T5))) _ (w7o it p (x.1,(x.2.1,(x.2.2.1,(x.2.2.2.1,(x.2.2.2.2.1,(x.2.2.2.2.2.1,((p.ofNat x.2.2.2.2.2.1),())))))))) fun a=>
 opt.ret _ (a.1,(a.2.1,(a.2.2.1,(a.2.2.2.1,()))))
def w99:=w51 it0
theorem v00:CtrOk PG w2b (w99 std):=okF (a:=v4q) (l:=v1z) (gC v0x (gN)) (by kernel_rfl) fun _ _=>by kernel_rfl
end Go.Am
end
noncomputable section
namespace Go.Am
def w8d:Ctr:=
 ⟨49,[.bptr 0 0],[.row [ci]],[(.ret,⟨[(0, .list 1)],[.row [ci]],1⟩)]⟩
def la49:List LA:=
 [⟨49,[false,true,false,true,true,true],1,⟨⟨[(0, .bptr 0 0),(3, .full 1 1),(4, .bptr 2 0),(14, .int .i64),(15, .int .i64)],[.row [ci], .row [(CK.list 1)], .box [.int .i64, .int .i64, .int .i64, .int .i64, .int .i64, .int .i64, .int .i64, .int .i64, .int .i64, .int .i64]],65⟩,[((AX.exit 0),⟨[(3, .full 1 1)],[.row [ci], .row [(CK.list 1)]],65⟩)]⟩⟩,
 ⟨49,[false,true,true,true,false,false,true,true,false,false,true,false,true,true,true],1,⟨⟨[(0, .bptr 0 0),(3, .full 1 1),(4, .bptr 2 0),(5, .int .i64),(14, .int .i64),(15, .int .i64),(33, .int .i64),(34, .int .i64)],[.row [ci], .row [(CK.list 1)], .box [.int .i64, .int .i64, .int .i64, .int .i64, .int .i64, .int .i64, .int .i64, .int .i64, .int .i64, .int .i64]],65⟩,[((AX.exit 2),⟨[(0, .bptr 0 0),(3, .full 1 1),(4, .bptr 2 0),(14, .int .i64),(15, .int .i64)],[.row [ci], .row [(CK.list 1)], .box [.int .i64, .int .i64, .int .i64, .int .i64, .int .i64, .int .i64, .int .i64, .int .i64, .int .i64, .int .i64]],65⟩)]⟩⟩]
def ja49:List JA:=
 [⟨49,[true,true,false,false,true,true,false,false,true,true,true,false,false,true,true,false,false,true,false,true,true,true],1,[(AX.normal,⟨[(0, .bptr 0 0),(3, .full 1 1),(4, .bptr 2 0),(5, .int .i64),(14, .int .i64),(15, .int .i64),(33, .int .i64),(34, .int .i64)],[.row [ci], .row [(CK.list 1)], .box [.int .i64, .int .i64, .int .i64, .int .i64, .int .i64, .int .i64, .int .i64, .int .i64, .int .i64, .int .i64]],65⟩)]⟩,
 ⟨49,[false,true,true,false,false,true,false,true,true,true],1,[(AX.normal,⟨[(0, .bptr 0 0),(3, .full 1 1),(4, .bptr 2 0),(14, .int .i64),(15, .int .i64)],[.row [ci], .row [(CK.list 1)], .box [.int .i64, .int .i64, .int .i64, .int .i64, .int .i64, .int .i64, .int .i64, .int .i64, .int .i64, .int .i64]],65⟩)]⟩]
def v24:List CF:=
 []
def an49:Anns:=
 ⟨v24,ja49,[]⟩
def x1e (p:Prim):(LD×(LD×T21))→Option ((LD×(LD×T21))⊕(LD×(LD×T14))):=
 fun a=>opt.run _ (
 opt.ask _ (p.cmp .lss a.2.2.2.2.2.2.2.2.2.2.2.2.2.2.2.2.1 a.2.2.2.2.2.2.2.2.2.2.2.2.2.2.2.1) (
 opt.need _ (bif (p.cmp .geq a.2.2.2.2.2.2.2.2.2.2.2.2.1 (0:Int)) then (p.cmp .lss a.2.2.2.2.2.2.2.2.2.2.2.2.1 (p.ofNat 10)) else Bool.false)<|
 opt.need _ (bif (p.cmp .geq a.2.2.2.2.2.2.2.2.2.2.2.2.2.2.2.2.1 (0:Int)) then (p.cmp .lss a.2.2.2.2.2.2.2.2.2.2.2.2.2.2.2.2.1 (p.ofNat 10)) else Bool.false)<|
 opt.need _ (p.rowOk a.1 (p.add (p.add 1 (p.mul (p.nat a.2.2.2.2.2.2.2.2.2.2.2.2.1) 10)) (p.nat a.2.2.2.2.2.2.2.2.2.2.2.2.2.2.2.2.1)) [ci])<|
 opt.bnd ((LD×(LD×T21))) _ (
 opt.run ((LD×(LD×T21))) (
 opt.ask _ (p.cmp .eql (p.rdI a.1 (p.add (p.add 1 (p.mul (p.nat a.2.2.2.2.2.2.2.2.2.2.2.2.1) 10)) (p.nat a.2.2.2.2.2.2.2.2.2.2.2.2.2.2.2.2.1)) 0) (1:Int)) (
 opt.need _ (bif (p.cmp .geq a.2.2.2.2.2.2.2.2.2.2.2.2.1 (0:Int)) then (p.cmp .lss a.2.2.2.2.2.2.2.2.2.2.2.2.1 (p.ofNat (p.len a.2.1))) else Bool.false)<|
 opt.need _ (p.rowOk a.2.1 (p.add 0 (p.nat a.2.2.2.2.2.2.2.2.2.2.2.2.1)) [(CK.list 1)])<|
 opt.need _ (bif (p.cmp .geq a.2.2.2.2.2.2.2.2.2.2.2.2.1 (0:Int)) then (p.cmp .lss a.2.2.2.2.2.2.2.2.2.2.2.2.1 (p.ofNat (p.len a.2.1))) else Bool.false)<|
 opt.need _ (p.rowOk a.2.1 (p.add 0 (p.nat a.2.2.2.2.2.2.2.2.2.2.2.2.1)) [(CK.list 1)])<|
 opt.need _ (bif (p.cmp .geq a.2.2.2.2.2.2.2.2.2.2.2.2.1 (0:Int)) then (p.cmp .lss a.2.2.2.2.2.2.2.2.2.2.2.2.1 (p.ofNat (p.len a.2.1))) else Bool.false)<|
 opt.need _ (p.rowOk a.2.1 (p.add 0 (p.nat a.2.2.2.2.2.2.2.2.2.2.2.2.1)) [(CK.list 1)])<|
 opt.need _ (p.and (p.cmp .geq (0:Int) (0:Int)) (p.and (p.cmp .leq (0:Int) (p.ofNat (p.len (p.rdL a.2.1 (p.add 0 (p.nat a.2.2.2.2.2.2.2.2.2.2.2.2.1)) 0)))) (p.and (p.cmp .leq (p.ofNat (p.len (p.rdL a.2.1 (p.add 0 (p.nat a.2.2.2.2.2.2.2.2.2.2.2.2.1)) 0))) (p.ofNat (p.len (p.rdL a.2.1 (p.add 0 (p.nat a.2.2.2.2.2.2.2.2.2.2.2.2.1)) 0)))) (p.cmp .leq (p.ofNat (p.len (p.rdL a.2.1 (p.add 0 (p.nat a.2.2.2.2.2.2.2.2.2.2.2.2.1)) 0))) (p.ofNat (p.len (p.rdL a.2.1 (p.add 0 (p.nat a.2.2.2.2.2.2.2.2.2.2.2.2.1)) 0)))))))<|
 opt.ask _ (p.cmp .eql (p.ofNat (p.len (p.rdL a.2.1 (p.add 0 (p.nat a.2.2.2.2.2.2.2.2.2.2.2.2.1)) 0))) (p.ofNat (p.len (p.rdL a.2.1 (p.add 0 (p.nat a.2.2.2.2.2.2.2.2.2.2.2.2.1)) 0)))) (
 opt.need _ (p.and (p.leN (p.add 0 1) (p.len [[(D.int .i64 a.2.2.2.2.2.2.2.2.2.2.2.2.2.2.2.2.1)]])) (p.and (p.leN 1 1) (p.leN (p.add (p.len (p.cut (p.rdL a.2.1 (p.add 0 (p.nat a.2.2.2.2.2.2.2.2.2.2.2.2.1)) 0) (p.nat (0:Int)) (p.sub (p.nat (p.ofNat (p.len (p.rdL a.2.1 (p.add 0 (p.nat a.2.2.2.2.2.2.2.2.2.2.2.2.1)) 0)))) (p.nat (0:Int))))) 1) 1000000)))<|
 opt.need _ (bif (p.cmp .geq a.2.2.2.2.2.2.2.2.2.2.2.2.1 (0:Int)) then (p.cmp .lss a.2.2.2.2.2.2.2.2.2.2.2.2.1 (p.ofNat (p.len a.2.1))) else Bool.false)<|
 opt.need _ (p.rowOk a.2.1 (p.add 0 (p.nat a.2.2.2.2.2.2.2.2.2.2.2.2.1)) [(CK.list 1)])<|
 opt.need _ (p.eqN 0 0)<|
 opt.need _ (p.eqN (p.len a.2.1) (p.len (p.set a.2.1 (p.add 0 (p.nat a.2.2.2.2.2.2.2.2.2.2.2.2.1)) [(D.list Bool.false 1 (p.app (p.cut (p.rdL a.2.1 (p.add 0 (p.nat a.2.2.2.2.2.2.2.2.2.2.2.2.1)) 0) (p.nat (0:Int)) (p.sub (p.nat (p.ofNat (p.len (p.rdL a.2.1 (p.add 0 (p.nat a.2.2.2.2.2.2.2.2.2.2.2.2.1)) 0)))) (p.nat (0:Int)))) (p.cut [[(D.int .i64 a.2.2.2.2.2.2.2.2.2.2.2.2.2.2.2.2.1)]] 0 1)))])))<|
 opt.need _ (p.eqN (p.len a.2.1) (p.len (p.set a.2.1 (p.add 0 (p.nat a.2.2.2.2.2.2.2.2.2.2.2.2.1)) [(D.list Bool.false 1 (p.app (p.cut (p.rdL a.2.1 (p.add 0 (p.nat a.2.2.2.2.2.2.2.2.2.2.2.2.1)) 0) (p.nat (0:Int)) (p.sub (p.nat (p.ofNat (p.len (p.rdL a.2.1 (p.add 0 (p.nat a.2.2.2.2.2.2.2.2.2.2.2.2.1)) 0)))) (p.nat (0:Int)))) (p.cut [[(D.int .i64 a.2.2.2.2.2.2.2.2.2.2.2.2.2.2.2.2.1)]] 0 1)))])))<|
 opt.ret _ (a.1,((p.set a.2.1 (p.add 0 (p.nat a.2.2.2.2.2.2.2.2.2.2.2.2.1)) [(D.list Bool.false 1 (p.app (p.cut (p.rdL a.2.1 (p.add 0 (p.nat a.2.2.2.2.2.2.2.2.2.2.2.2.1)) 0) (p.nat (0:Int)) (p.sub (p.nat (p.ofNat (p.len (p.rdL a.2.1 (p.add 0 (p.nat a.2.2.2.2.2.2.2.2.2.2.2.2.1)) 0)))) (p.nat (0:Int)))) (p.cut [[(D.int .i64 a.2.2.2.2.2.2.2.2.2.2.2.2.2.2.2.2.1)]] 0 1)))]),(a.2.2.1,(a.2.2.2.1,(a.2.2.2.2.1,(a.2.2.2.2.2.1,(a.2.2.2.2.2.2.1,(a.2.2.2.2.2.2.2.1,(a.2.2.2.2.2.2.2.2.1,(a.2.2.2.2.2.2.2.2.2.1,(a.2.2.2.2.2.2.2.2.2.2.1,(a.2.2.2.2.2.2.2.2.2.2.2.1,(a.2.2.2.2.2.2.2.2.2.2.2.2.1,(a.2.2.2.2.2.2.2.2.2.2.2.2.2.1,(a.2.2.2.2.2.2.2.2.2.2.2.2.2.2.1,(a.2.2.2.2.2.2.2.2.2.2.2.2.2.2.2.1,(a.2.2.2.2.2.2.2.2.2.2.2.2.2.2.2.2.1,())))))))))))))))))) (
 opt.no _ 41)) (
 opt.need _ (p.eqN 0 0)<|
 opt.need _ (p.eqN (p.len a.2.1) (p.len a.2.1))<|
 opt.need _ (p.eqN (p.len a.2.1) (p.len a.2.1))<|
 opt.ret _ (a.1,(a.2.1,(a.2.2.1,(a.2.2.2.1,(a.2.2.2.2.1,(a.2.2.2.2.2.1,(a.2.2.2.2.2.2.1,(a.2.2.2.2.2.2.2.1,(a.2.2.2.2.2.2.2.2.1,(a.2.2.2.2.2.2.2.2.2.1,(a.2.2.2.2.2.2.2.2.2.2.1,(a.2.2.2.2.2.2.2.2.2.2.2.1,(a.2.2.2.2.2.2.2.2.2.2.2.2.1,(a.2.2.2.2.2.2.2.2.2.2.2.2.2.1,(a.2.2.2.2.2.2.2.2.2.2.2.2.2.2.1,(a.2.2.2.2.2.2.2.2.2.2.2.2.2.2.2.1,(a.2.2.2.2.2.2.2.2.2.2.2.2.2.2.2.2.1,())))))))))))))))))))) fun b=>
 opt.need _ (p.eqN 0 0)<|
 opt.need _ (p.eqN (p.len b.2.1) (p.len b.2.1))<|
 opt.need _ (p.eqN (p.len b.2.1) (p.len b.2.1))<|
 opt.ret _ (Sum.inl (b.1,(b.2.1,(b.2.2.1,(b.2.2.2.1,(b.2.2.2.2.1,(b.2.2.2.2.2.1,(b.2.2.2.2.2.2.1,(b.2.2.2.2.2.2.2.1,(b.2.2.2.2.2.2.2.2.1,(b.2.2.2.2.2.2.2.2.2.1,(b.2.2.2.2.2.2.2.2.2.2.1,(b.2.2.2.2.2.2.2.2.2.2.2.1,(b.2.2.2.2.2.2.2.2.2.2.2.2.1,(b.2.2.2.2.2.2.2.2.2.2.2.2.2.1,(b.2.2.2.2.2.2.2.2.2.2.2.2.2.2.1,(b.2.2.2.2.2.2.2.2.2.2.2.2.2.2.2.1,((p.ar .add .i64 b.2.2.2.2.2.2.2.2.2.2.2.2.2.2.2.2.1 (1:Int)),()))))))))))))))))))) (
 opt.need _ (p.eqN 0 0)<|
 opt.need _ (p.eqN (p.len a.2.1) (p.len a.2.1))<|
 opt.need _ (p.eqN (p.len a.2.1) (p.len a.2.1))<|
 opt.ret _ (Sum.inr (a.1,(a.2.1,(a.2.2.1,(a.2.2.2.1,(a.2.2.2.2.1,(a.2.2.2.2.2.1,(a.2.2.2.2.2.2.1,(a.2.2.2.2.2.2.2.1,(a.2.2.2.2.2.2.2.2.1,(a.2.2.2.2.2.2.2.2.2.1,(a.2.2.2.2.2.2.2.2.2.2.1,(a.2.2.2.2.2.2.2.2.2.2.2.1,(a.2.2.2.2.2.2.2.2.2.2.2.2.2.1,(a.2.2.2.2.2.2.2.2.2.2.2.2.2.2.1,())))))))))))))))))
def z7y (it:It) (p:Prim):(LD×(LD×T14))→Option ((LD×(LD×T14))⊕(LD×(LD×Unit))):=
 fun a=>opt.run _ (
 opt.ask _ (p.cmp .lss a.2.2.2.2.2.2.2.2.2.2.2.2.2.1 a.2.2.2.2.2.2.2.2.2.2.2.2.1) (
 opt.bnd ((LD×(LD×T14))) _ (
 opt.run ((LD×(LD×T14))) (
 opt.need _ (bif (p.cmp .geq a.2.2.2.2.2.2.2.2.2.2.2.2.2.1 (0:Int)) then (p.cmp .lss a.2.2.2.2.2.2.2.2.2.2.2.2.2.1 (p.ofNat 10)) else Bool.false)<|
 opt.need _ (p.rowOk a.1 (p.add 1 (p.mul (p.nat a.2.2.2.2.2.2.2.2.2.2.2.2.2.1) 10)) [ci])<|
 opt.need _ (p.rowOk a.1 (p.add (p.add 1 (p.mul (p.nat a.2.2.2.2.2.2.2.2.2.2.2.2.2.1) 10)) 1) [ci])<|
 opt.need _ (p.rowOk a.1 (p.add (p.add 1 (p.mul (p.nat a.2.2.2.2.2.2.2.2.2.2.2.2.2.1) 10)) 2) [ci])<|
 opt.need _ (p.rowOk a.1 (p.add (p.add 1 (p.mul (p.nat a.2.2.2.2.2.2.2.2.2.2.2.2.2.1) 10)) 3) [ci])<|
 opt.need _ (p.rowOk a.1 (p.add (p.add 1 (p.mul (p.nat a.2.2.2.2.2.2.2.2.2.2.2.2.2.1) 10)) 4) [ci])<|
 opt.need _ (p.rowOk a.1 (p.add (p.add 1 (p.mul (p.nat a.2.2.2.2.2.2.2.2.2.2.2.2.2.1) 10)) 5) [ci])<|
 opt.need _ (p.rowOk a.1 (p.add (p.add 1 (p.mul (p.nat a.2.2.2.2.2.2.2.2.2.2.2.2.2.1) 10)) 6) [ci])<|
 opt.need _ (p.rowOk a.1 (p.add (p.add 1 (p.mul (p.nat a.2.2.2.2.2.2.2.2.2.2.2.2.2.1) 10)) 7) [ci])<|
 opt.need _ (p.rowOk a.1 (p.add (p.add 1 (p.mul (p.nat a.2.2.2.2.2.2.2.2.2.2.2.2.2.1) 10)) 8) [ci])<|
 opt.need _ (p.rowOk a.1 (p.add (p.add 1 (p.mul (p.nat a.2.2.2.2.2.2.2.2.2.2.2.2.2.1) 10)) 9) [ci])<|
 opt.ask _ (bif (p.cmp .eql (p.rdI a.1 (p.add 1 (p.mul (p.nat a.2.2.2.2.2.2.2.2.2.2.2.2.2.1) 10)) 0) a.2.2.1) then (bif (p.cmp .eql (p.rdI a.1 (p.add (p.add 1 (p.mul (p.nat a.2.2.2.2.2.2.2.2.2.2.2.2.2.1) 10)) 1) 0) a.2.2.2.1) then (bif (p.cmp .eql (p.rdI a.1 (p.add (p.add 1 (p.mul (p.nat a.2.2.2.2.2.2.2.2.2.2.2.2.2.1) 10)) 2) 0) a.2.2.2.2.1) then (bif (p.cmp .eql (p.rdI a.1 (p.add (p.add 1 (p.mul (p.nat a.2.2.2.2.2.2.2.2.2.2.2.2.2.1) 10)) 3) 0) a.2.2.2.2.2.1) then (bif (p.cmp .eql (p.rdI a.1 (p.add (p.add 1 (p.mul (p.nat a.2.2.2.2.2.2.2.2.2.2.2.2.2.1) 10)) 4) 0) a.2.2.2.2.2.2.1) then (bif (p.cmp .eql (p.rdI a.1 (p.add (p.add 1 (p.mul (p.nat a.2.2.2.2.2.2.2.2.2.2.2.2.2.1) 10)) 5) 0) a.2.2.2.2.2.2.2.1) then (bif (p.cmp .eql (p.rdI a.1 (p.add (p.add 1 (p.mul (p.nat a.2.2.2.2.2.2.2.2.2.2.2.2.2.1) 10)) 6) 0) a.2.2.2.2.2.2.2.2.1) then (bif (p.cmp .eql (p.rdI a.1 (p.add (p.add 1 (p.mul (p.nat a.2.2.2.2.2.2.2.2.2.2.2.2.2.1) 10)) 7) 0) a.2.2.2.2.2.2.2.2.2.1) then (bif (p.cmp .eql (p.rdI a.1 (p.add (p.add 1 (p.mul (p.nat a.2.2.2.2.2.2.2.2.2.2.2.2.2.1) 10)) 8) 0) a.2.2.2.2.2.2.2.2.2.2.1) then (bif (p.cmp .eql (p.rdI a.1 (p.add (p.add 1 (p.mul (p.nat a.2.2.2.2.2.2.2.2.2.2.2.2.2.1) 10)) 9) 0) a.2.2.2.2.2.2.2.2.2.2.2.1) then Bool.true else Bool.false) else Bool.false) else Bool.false) else Bool.false) else Bool.false) else Bool.false) else Bool.false) else Bool.false) else Bool.false) else Bool.false) (
 opt.need _ (bif (p.cmp .geq a.2.2.2.2.2.2.2.2.2.2.2.2.2.1 (0:Int)) then (p.cmp .lss a.2.2.2.2.2.2.2.2.2.2.2.2.2.1 (p.ofNat (p.len a.2.1))) else Bool.false)<|
 opt.need _ (p.rowOk a.2.1 (p.add 0 (p.nat a.2.2.2.2.2.2.2.2.2.2.2.2.2.1)) [(CK.list 1)])<|
 opt.need _ (p.eqN 0 0)<|
 opt.need _ (p.eqN (p.len a.2.1) (p.len (p.set a.2.1 (p.add 0 (p.nat a.2.2.2.2.2.2.2.2.2.2.2.2.2.1)) [(D.list Bool.true 1 [])])))<|
 opt.need _ (p.eqN (p.len a.2.1) (p.len (p.set a.2.1 (p.add 0 (p.nat a.2.2.2.2.2.2.2.2.2.2.2.2.2.1)) [(D.list Bool.true 1 [])])))<|
 opt.ret _ (a.1,((p.set a.2.1 (p.add 0 (p.nat a.2.2.2.2.2.2.2.2.2.2.2.2.2.1)) [(D.list Bool.true 1 [])]),(a.2.2.1,(a.2.2.2.1,(a.2.2.2.2.1,(a.2.2.2.2.2.1,(a.2.2.2.2.2.2.1,(a.2.2.2.2.2.2.2.1,(a.2.2.2.2.2.2.2.2.1,(a.2.2.2.2.2.2.2.2.2.1,(a.2.2.2.2.2.2.2.2.2.2.1,(a.2.2.2.2.2.2.2.2.2.2.2.1,(a.2.2.2.2.2.2.2.2.2.2.2.2.1,(a.2.2.2.2.2.2.2.2.2.2.2.2.2.1,()))))))))))))))) (
 opt.need _ (p.rowOk a.1 0 [ci])<|
 opt.need _ (p.eqN 0 0)<|
 opt.need _ (p.eqN (p.len a.2.1) (p.len a.2.1))<|
 opt.need _ (p.eqN (p.len a.2.1) (p.len a.2.1))<|
 opt.bnd ((LD×(LD×T14))) _ (
 it _ _ (x1e p) (a.1,(a.2.1,(a.2.2.1,(a.2.2.2.1,(a.2.2.2.2.1,(a.2.2.2.2.2.1,(a.2.2.2.2.2.2.1,(a.2.2.2.2.2.2.2.1,(a.2.2.2.2.2.2.2.2.1,(a.2.2.2.2.2.2.2.2.2.1,(a.2.2.2.2.2.2.2.2.2.2.1,(a.2.2.2.2.2.2.2.2.2.2.2.1,(a.2.2.2.2.2.2.2.2.2.2.2.2.2.1,(a.2.2.2.2.2.2.2.2.2.2.2.2.1,(a.2.2.2.2.2.2.2.2.2.2.2.2.2.1,((p.rdI a.1 0 0),((0:Int),())))))))))))))))))) fun b=>
 opt.need _ (p.eqN 0 0)<|
 opt.need _ (p.eqN (p.len b.2.1) (p.len b.2.1))<|
 opt.need _ (p.eqN (p.len b.2.1) (p.len b.2.1))<|
 opt.ret _ (b.1,(b.2.1,(b.2.2.1,(b.2.2.2.1,(b.2.2.2.2.1,(b.2.2.2.2.2.1,(b.2.2.2.2.2.2.1,(b.2.2.2.2.2.2.2.1,(b.2.2.2.2.2.2.2.2.1,(b.2.2.2.2.2.2.2.2.2.1,(b.2.2.2.2.2.2.2.2.2.2.1,(b.2.2.2.2.2.2.2.2.2.2.2.1,(b.2.2.2.2.2.2.2.2.2.2.2.2.1,(b.2.2.2.2.2.2.2.2.2.2.2.2.2.1,()))))))))))))))))) fun c=>
 opt.need _ (p.eqN 0 0)<|
 opt.need _ (p.eqN (p.len c.2.1) (p.len c.2.1))<|
 opt.need _ (p.eqN (p.len c.2.1) (p.len c.2.1))<|
 opt.ret _ (Sum.inl (c.1,(c.2.1,(c.2.2.1,(c.2.2.2.1,(c.2.2.2.2.1,(c.2.2.2.2.2.1,(c.2.2.2.2.2.2.1,(c.2.2.2.2.2.2.2.1,(c.2.2.2.2.2.2.2.2.1,(c.2.2.2.2.2.2.2.2.2.1,(c.2.2.2.2.2.2.2.2.2.2.1,(c.2.2.2.2.2.2.2.2.2.2.2.1,(c.2.2.2.2.2.2.2.2.2.2.2.2.1,((p.ar .add .i64 c.2.2.2.2.2.2.2.2.2.2.2.2.2.1 (1:Int)),())))))))))))))))) (
 opt.need _ (p.eqN 0 0)<|
 opt.need _ (p.eqN (p.len a.2.1) (p.len a.2.1))<|
 opt.need _ (p.eqN (p.len a.2.1) (p.len a.2.1))<|
 opt.ret _ (Sum.inr (a.1,(a.2.1,())))))
def g49 (it:It):(p:Prim)→(LD×Unit)→Option ((LD×(LD×Unit))):=
 fun p x=>
 opt.need _ (p.rowOk x.1 0 [ci])<|
 opt.need _ (p.and (p.cmp .geq (p.rdI x.1 0 0) (0:Int)) (p.and (p.cmp .leq (p.rdI x.1 0 0) (p.rdI x.1 0 0)) (p.cmp .leq (p.rdI x.1 0 0) (1000000:Int))))<|
 opt.need _ (p.eqN 0 0)<|
 opt.need _ (p.eqN (p.nat (p.rdI x.1 0 0)) (p.len (p.rep (p.nat (p.rdI x.1 0 0)) [(D.list Bool.true 0 [])])))<|
 opt.need _ (p.eqN (p.nat (p.rdI x.1 0 0)) (p.len (p.rep (p.nat (p.rdI x.1 0 0)) [(D.list Bool.true 0 [])])))<|
 opt.bnd ((LD×(LD×Unit))) _ (
 it _ _ (z7y it p) (x.1,((p.rep (p.nat (p.rdI x.1 0 0)) [(D.list Bool.true 0 [])]),((0:Int),((0:Int),((0:Int),((0:Int),((0:Int),((0:Int),((0:Int),((0:Int),((0:Int),((0:Int),((p.ofNat (p.nat (p.rdI x.1 0 0))),((0:Int),()))))))))))))))) fun a=>
 opt.need _ (p.leN (p.add 0 (p.len a.2.1)) (p.len a.2.1))<|
 opt.ret _ (a.1,((p.cut a.2.1 0 (p.len a.2.1)),()))
def G49:=g49 it0
theorem ok49:CtrOk PG w8d (G49 std):=okF (a:=an49) (l:=la49) (gN) (by kernel_rfl) fun _ _=>by kernel_rfl
def w46:Ctr:=
 ⟨30,[.list 1],[],[(.ret,⟨[(0, .tuple [.list 1, .int .i64])],[],1⟩)]⟩
def la30:List LA:=
 [⟨30,[false,true,false,true,true,true,true,true,true],0,⟨⟨[(7, .bptr 0 0),(8, .bptr 1 0),(9, .vec 3 1),(31, .int .i64),(32, .int .i64)],[.row [ci], .box [.sl 2 1], .row [ci], .row [ci]],82⟩,[((AX.exit 0),⟨[(7, .bptr 0 0),(8, .bptr 1 0),(9, .vec 2 1)],[.row [ci], .box [.sl 3 1], .row [ci], .row [ci]],82⟩)]⟩⟩,
 ⟨30,[false,false,true,true,true,true,true,true,true],0,⟨⟨[(7, .bptr 0 0),(8, .bptr 1 0),(9, .sl 2 1)],[.row [ci], .box [.sl 3 1], .row [ci], .row [ci]],82⟩,[((AX.exit 2),⟨[(7, .bptr 0 0)],[.row [ci]],82⟩)]⟩⟩,
 ⟨30,[false,true,true,true,true,false,true,false,false,false,true,true,true,true,true,true,true],0,⟨⟨[(7, .bptr 0 0),(8, .bptr 1 0),(9, .sl 2 1),(11, .int .i64),(51, .sl 2 1),(52, .int .i64),(53, .int .i64)],[.row [ci], .box [.sl 3 1], .row [ci], .row [ci]],82⟩,[((AX.exit 4),⟨[(7, .bptr 0 0),(8, .bptr 1 0),(9, .sl 2 1)],[.row [ci], .box [.sl 3 1], .row [ci], .row [ci]],82⟩)]⟩⟩]
def ja30:List JA:=
 [⟨30,[true,true,false,false,true,true,false,false,true,true,true,true,false,true,false,false,false,true,true,true,true,true,true,true],0,[(AX.normal,⟨[(7, .bptr 0 0),(8, .bptr 1 0),(9, .sl 2 1),(11, .int .i64),(51, .sl 2 1),(52, .int .i64),(53, .int .i64)],[.row [ci], .box [.sl 3 1], .row [ci], .row [ci]],82⟩)]⟩]
def v3e:List CF:=
 [⟨w8d,G49⟩,⟨w2b,w99⟩,⟨w79,G65⟩,⟨w41,G64⟩,⟨w0p,G61⟩]
def an30:Anns:=
 ⟨v3e,ja30,[]⟩
def x1g (p:Prim):(LD×(LD×(LD×T22)))→Option ((LD×(LD×(LD×T22)))⊕(LD×(LD×(LD×T17)))):=
 fun a=>opt.run _ (
 opt.ask _ (p.cmp .lss a.2.2.2.2.2.2.2.2.2.2.2.1 a.2.2.2.2.2.2.2.2.2.2.1) (
 opt.need _ (bif (p.cmp .geq a.2.2.2.2.2.2.2.2.2.2.2.1 (0:Int)) then (p.cmp .lss a.2.2.2.2.2.2.2.2.2.2.2.1 (p.ofNat a.2.2.2.2.2.2.2.2.2.1)) else Bool.false)<|
 opt.need _ (p.rowOk a.2.1 (p.add a.2.2.2.2.2.2.2.2.1 (p.nat a.2.2.2.2.2.2.2.2.2.2.2.1)) [ci])<|
 opt.need _ (bif (p.cmp .geq a.2.2.2.2.2.2.2.1 (0:Int)) then (p.cmp .lss a.2.2.2.2.2.2.2.1 (p.ofNat a.2.2.2.2.1)) else Bool.false)<|
 opt.need _ (p.rowOk a.2.2.1 (p.add a.2.2.2.1 (p.nat a.2.2.2.2.2.2.2.1)) [ci])<|
 opt.bnd ((LD×(LD×(LD×T22)))) _ (
 opt.run ((LD×(LD×(LD×T22)))) (
 opt.ask _ (p.cmp .lss a.2.2.2.2.2.2.2.2.2.2.2.1 (p.rdI a.2.2.1 (p.add a.2.2.2.1 (p.nat a.2.2.2.2.2.2.2.1)) 0)) (
 opt.need _ (bif (p.cmp .geq a.2.2.2.2.2.2.2.1 (0:Int)) then (p.cmp .lss a.2.2.2.2.2.2.2.1 (p.ofNat 10)) else Bool.false)<|
 opt.need _ (bif (p.cmp .geq (p.rdI a.2.1 (p.add a.2.2.2.2.2.2.2.2.1 (p.nat a.2.2.2.2.2.2.2.2.2.2.2.1)) 0) (0:Int)) then (p.cmp .lss (p.rdI a.2.1 (p.add a.2.2.2.2.2.2.2.2.1 (p.nat a.2.2.2.2.2.2.2.2.2.2.2.1)) 0) (p.ofNat 10)) else Bool.false)<|
 opt.need _ (p.rowOk a.1 (p.add (p.add 1 (p.mul (p.nat a.2.2.2.2.2.2.2.1) 10)) (p.nat (p.rdI a.2.1 (p.add a.2.2.2.2.2.2.2.2.1 (p.nat a.2.2.2.2.2.2.2.2.2.2.2.1)) 0))) [ci])<|
 opt.ret _ ((p.set a.1 (p.add (p.add 1 (p.mul (p.nat a.2.2.2.2.2.2.2.1) 10)) (p.nat (p.rdI a.2.1 (p.add a.2.2.2.2.2.2.2.2.1 (p.nat a.2.2.2.2.2.2.2.2.2.2.2.1)) 0))) [k1k]),(a.2.1,(a.2.2.1,(a.2.2.2.1,(a.2.2.2.2.1,(a.2.2.2.2.2.1,(a.2.2.2.2.2.2.1,(a.2.2.2.2.2.2.2.1,(a.2.2.2.2.2.2.2.2.1,(a.2.2.2.2.2.2.2.2.2.1,(a.2.2.2.2.2.2.2.2.2.2.1,(a.2.2.2.2.2.2.2.2.2.2.2.1,()))))))))))))) (
 opt.need _ (bif (p.cmp .geq (p.rdI a.2.1 (p.add a.2.2.2.2.2.2.2.2.1 (p.nat a.2.2.2.2.2.2.2.2.2.2.2.1)) 0) (0:Int)) then (p.cmp .lss (p.rdI a.2.1 (p.add a.2.2.2.2.2.2.2.2.1 (p.nat a.2.2.2.2.2.2.2.2.2.2.2.1)) 0) (p.ofNat 10)) else Bool.false)<|
 opt.need _ (bif (p.cmp .geq a.2.2.2.2.2.2.2.1 (0:Int)) then (p.cmp .lss a.2.2.2.2.2.2.2.1 (p.ofNat 10)) else Bool.false)<|
 opt.need _ (p.rowOk a.1 (p.add (p.add 1 (p.mul (p.nat (p.rdI a.2.1 (p.add a.2.2.2.2.2.2.2.2.1 (p.nat a.2.2.2.2.2.2.2.2.2.2.2.1)) 0)) 10)) (p.nat a.2.2.2.2.2.2.2.1)) [ci])<|
 opt.need _ (bif (p.cmp .geq (p.rdI a.2.1 (p.add a.2.2.2.2.2.2.2.2.1 (p.nat a.2.2.2.2.2.2.2.2.2.2.2.1)) 0) (0:Int)) then (p.cmp .lss (p.rdI a.2.1 (p.add a.2.2.2.2.2.2.2.2.1 (p.nat a.2.2.2.2.2.2.2.2.2.2.2.1)) 0) (p.ofNat a.2.2.2.2.1)) else Bool.false)<|
 opt.need _ (p.rowOk a.2.2.1 (p.add a.2.2.2.1 (p.nat (p.rdI a.2.1 (p.add a.2.2.2.2.2.2.2.2.1 (p.nat a.2.2.2.2.2.2.2.2.2.2.2.1)) 0))) [ci])<|
 opt.need _ (bif (p.cmp .geq (p.rdI a.2.1 (p.add a.2.2.2.2.2.2.2.2.1 (p.nat a.2.2.2.2.2.2.2.2.2.2.2.1)) 0) (0:Int)) then (p.cmp .lss (p.rdI a.2.1 (p.add a.2.2.2.2.2.2.2.2.1 (p.nat a.2.2.2.2.2.2.2.2.2.2.2.1)) 0) (p.ofNat a.2.2.2.2.1)) else Bool.false)<|
 opt.need _ (p.rowOk a.2.2.1 (p.add a.2.2.2.1 (p.nat (p.rdI a.2.1 (p.add a.2.2.2.2.2.2.2.2.1 (p.nat a.2.2.2.2.2.2.2.2.2.2.2.1)) 0))) [ci])<|
 opt.ret _ ((p.set a.1 (p.add (p.add 1 (p.mul (p.nat (p.rdI a.2.1 (p.add a.2.2.2.2.2.2.2.2.1 (p.nat a.2.2.2.2.2.2.2.2.2.2.2.1)) 0)) 10)) (p.nat a.2.2.2.2.2.2.2.1)) [k1k]),(a.2.1,((p.set a.2.2.1 (p.add a.2.2.2.1 (p.nat (p.rdI a.2.1 (p.add a.2.2.2.2.2.2.2.2.1 (p.nat a.2.2.2.2.2.2.2.2.2.2.2.1)) 0))) [(D.int .i64 (p.ar .sub .i64 (p.rdI a.2.2.1 (p.add a.2.2.2.1 (p.nat (p.rdI a.2.1 (p.add a.2.2.2.2.2.2.2.2.1 (p.nat a.2.2.2.2.2.2.2.2.2.2.2.1)) 0))) 0) (1:Int)))]),(a.2.2.2.1,(a.2.2.2.2.1,(a.2.2.2.2.2.1,(a.2.2.2.2.2.2.1,(a.2.2.2.2.2.2.2.1,(a.2.2.2.2.2.2.2.2.1,(a.2.2.2.2.2.2.2.2.2.1,(a.2.2.2.2.2.2.2.2.2.2.1,(a.2.2.2.2.2.2.2.2.2.2.2.1,()))))))))))))))) fun b=>
 opt.ret _ (Sum.inl (b.1,(b.2.1,(b.2.2.1,(b.2.2.2.1,(b.2.2.2.2.1,(b.2.2.2.2.2.1,(b.2.2.2.2.2.2.1,(b.2.2.2.2.2.2.2.1,(b.2.2.2.2.2.2.2.2.1,(b.2.2.2.2.2.2.2.2.2.1,(b.2.2.2.2.2.2.2.2.2.2.1,((p.ar .add .i64 b.2.2.2.2.2.2.2.2.2.2.2.1 (1:Int)),())))))))))))))) (
 opt.ret _ (Sum.inr (a.1,(a.2.1,(a.2.2.1,(a.2.2.2.1,(a.2.2.2.2.1,(a.2.2.2.2.2.1,(a.2.2.2.2.2.2.1,()))))))))))
def y9o (it:It) (p:Prim):(LD×(LD×(LD×T17)))→Option ((LD×(LD×(LD×T17)))⊕(LD×Unit)):=
 fun a=>opt.run _ (
 opt.ask _ (p.cmp .gtr (p.ofNat a.2.2.2.2.2.2.1) (0:Int)) (
 opt.need _ (bif (p.cmp .geq (0:Int) (0:Int)) then (p.cmp .lss (0:Int) (p.ofNat a.2.2.2.2.2.2.1)) else Bool.false)<|
 opt.need _ (p.rowOk a.2.1 (p.add a.2.2.2.2.2.1 (p.nat (0:Int))) [ci])<|
 opt.need _ (p.and (p.cmp .geq (1:Int) (0:Int)) (p.and (p.cmp .leq (1:Int) (p.ofNat a.2.2.2.2.2.2.1)) (p.cmp .leq (p.ofNat a.2.2.2.2.2.2.1) (p.ofNat a.2.2.2.2.2.2.1))))<|
 opt.bnd ((LD×(LD×T5))) _ (w51 it p (a.2.1,(a.2.2.1,(a.2.2.2.1,(a.2.2.2.2.1,((p.add a.2.2.2.2.2.1 (p.nat (1:Int))),((p.sub (p.nat (p.ofNat a.2.2.2.2.2.2.1)) (p.nat (1:Int))),()))))))) fun b=>
 opt.bnd ((LD×(LD×(LD×T17)))) _ (
 it _ _ (x1g p) (a.1,(b.1,(b.2.1,(b.2.2.1,(b.2.2.2.1,((p.add a.2.2.2.2.2.1 (p.nat (1:Int))),((p.sub (p.nat (p.ofNat a.2.2.2.2.2.2.1)) (p.nat (1:Int))),((p.rdI a.2.1 (p.add a.2.2.2.2.2.1 (p.nat (0:Int))) 0),((p.add a.2.2.2.2.2.1 (p.nat (1:Int))),((p.sub (p.nat (p.ofNat a.2.2.2.2.2.2.1)) (p.nat (1:Int))),((p.ofNat (p.sub (p.nat (p.ofNat a.2.2.2.2.2.2.1)) (p.nat (1:Int)))),((0:Int),()))))))))))))) fun c=>
 opt.ret _ (Sum.inl (c.1,(c.2.1,(c.2.2.1,(c.2.2.2.1,(c.2.2.2.2.1,(c.2.2.2.2.2.1,(c.2.2.2.2.2.2.1,()))))))))) (
 opt.ret _ (Sum.inr (a.1,()))))
def x4m (p:Prim):(LD×(LD×(LD×T34)))→Option ((LD×(LD×(LD×T34)))⊕(LD×(LD×(LD×T5)))):=
 fun a=>opt.run _ (
 opt.ask _ (p.cmp .lss a.2.2.2.2.2.2.1 a.2.2.2.2.2.1) (
 opt.need _ (p.and (p.leN (p.add 0 1) (p.len [[(D.int .i64 a.2.2.2.2.2.2.1)]])) (p.and (p.leN (p.add 0 (p.len a.2.2.1)) (p.len a.2.2.1)) (p.and (p.leN 1 1) (p.leN (p.add (p.len a.2.2.1) 1) 1000000))))<|
 opt.need _ (p.eqN 0 0)<|
 opt.need _ (p.eqN (p.add (p.len a.2.2.1) 1) (p.len (p.app (p.cut a.2.2.1 0 (p.len a.2.2.1)) (p.cut [[(D.int .i64 a.2.2.2.2.2.2.1)]] 0 1))))<|
 opt.ret _ (Sum.inl (a.1,(a.2.1,((p.app (p.cut a.2.2.1 0 (p.len a.2.2.1)) (p.cut [[(D.int .i64 a.2.2.2.2.2.2.1)]] 0 1)),(a.2.2.2.1,(a.2.2.2.2.1,(a.2.2.2.2.2.1,((p.ar .add .i64 a.2.2.2.2.2.2.1 (1:Int)),()))))))))) (
 opt.need _ (p.eqN 0 0)<|
 opt.need _ (p.eqN (p.len a.2.2.1) (p.len a.2.2.1))<|
 opt.ret _ (Sum.inr (a.1,(a.2.2.1,(a.2.1,(a.2.2.2.1,(a.2.2.2.2.1,()))))))))
def g30 (it:It):(p:Prim)→(LD×Unit)→Option ((LD×T1)):=
 fun p x=>
 opt.bnd T2 _ (g61 it p (x.1,())) fun a=>
 opt.ask _ (p.cmp .neq a.1 (0:Int)) (
 opt.ret _ ([],(a.1,()))) (
 opt.bnd ((LD×T6)) _ (g64 it p (x.1,())) fun b=>
 opt.ask _ b.2.1 (
 opt.ret _ ([],((13:Int),()))) (
 opt.need _ (p.rowOk (p.rep 101 k0k) 0 [ci])<|
 opt.need _ (p.leN (p.add 0 101) (p.len (p.rep 101 k0k)))<|
 opt.bnd ((LD×T5)) _ (G65 p (x.1,())) fun c=>
 opt.bnd ((LD×(LD×(LD×T5)))) _ (
 it _ _ (x4m p) ((p.splice (p.rep 101 k0k) 0 [[(D.int .i64 (p.ofNat (p.len x.1)))],k0k,k0k,k0k,k0k,k0k,k0k,k0k,k0k,k0k,k0k,k0k,k0k,k0k,k0k,k0k,k0k,k0k,k0k,k0k,k0k,k0k,k0k,k0k,k0k,k0k,k0k,k0k,k0k,k0k,k0k,k0k,k0k,k0k,k0k,k0k,k0k,k0k,k0k,k0k,k0k,k0k,k0k,k0k,k0k,k0k,k0k,k0k,k0k,k0k,k0k,k0k,k0k,k0k,k0k,k0k,k0k,k0k,k0k,k0k,k0k,k0k,k0k,k0k,k0k,k0k,k0k,k0k,k0k,k0k,k0k,k0k,k0k,k0k,k0k,k0k,k0k,k0k,k0k,k0k,k0k,k0k,k0k,k0k,k0k,k0k,k0k,k0k,k0k,k0k,k0k,k0k,k0k,k0k,k0k,k0k,k0k,k0k,k0k,k0k,k0k]),(c.1,([],(c.2.1,(c.2.2.1,((p.ofNat (p.len x.1)),((0:Int),())))))))) fun d=>
 opt.bnd ((LD×Unit)) _ (
 it _ _ (y9o it p) (d.1,(d.2.1,(d.2.2.1,(d.2.2.2.1,(d.2.2.2.2.1,(0,((p.len d.2.1),())))))))) fun e=>
 opt.bnd ((LD×(LD×Unit))) _ (g49 it p (e.1,())) fun f=>
 opt.ret _ (f.2.1,((0:Int),()))))
def G30:=g30 it0
theorem v49:CtrOk PG w46 (G30 std):=okF (a:=an30) (l:=la30) (gC ok49 (gC v00 (gC ok65 (gC v44 (gC v01 (gN)))))) (by kernel_rfl) fun _ _=>by kernel_rfl
end Go.Am
end
section
namespace Go.Am
open T11
theorem x5v {pre l:List Int} {q:Nat} (h:q<l.length):(pre++l)[pre.length+q]?=some (gI l q):=by
 rw [List.getElem?_append_right (by omega),Nat.add_sub_cancel_left,z2f h]
theorem w3x (pre l:List Int) (j:Nat):(pre++sw l j).map eI=(((pre++l).map eI).set (pre.length+(j+1)) (eI (gI l j))).set (pre.length+j) (eI (gI l (j+1))):=by
 have e:((pre++l).set (pre.length+(j+1)) (gI l j)).set (pre.length+j) (gI l (j+1))=pre++sw l j:=by
  rw [List.set_append_right (h:=by omega),Nat.add_sub_cancel_left,List.set_append_right (h:=by omega),Nat.add_sub_cancel_left,sw]
 rw [←e,List.map_set,List.map_set]
theorem x4o (w pre:List Int) (N:Nat) (b i:Int):∀ (j:Nat) (l:List Int),z56 w l→j<l.length→l.length=N→N≤1000→
  z4g (z6l std) (z0d (pre++l),(z0d w,(0,(w.length,(pre.length,(N,((0:Int),(b,(i,((j:Int),()))))))))))=
   some (z0d (pre++y3r (key w) j l),(z0d w,(0,(w.length,(pre.length,(N,((0:Int),(b,(i,()))))))))):=by
 intro j
 induction j with
 |zero=>
  intro l hp hj hl hN
  have:z6l std (z0d (pre++l),(z0d w,(0,(w.length,(pre.length,(N,((0:Int),(b,(i,(((0:Nat):Int),()))))))))))=some (.inr (z0d (pre++l),(z0d w,(0,(w.length,(pre.length,(N,((0:Int),(b,(i,())))))))))):=by
   have hn:¬ ((0:Nat):Int)>0:=by omega
   simp only [z6l,z0x,z0y,hn]
  rw [z0p,this]; rfl
 |succ j ih=>
  intro l hp hj hl hN
  have hx:=x5v (pre:=pre) hj
  have hy:=x5v (pre:=pre) (l:=l) (q:=j) (by omega)
  obtain ⟨p0,p1⟩:=hp (j+1) hj
  obtain ⟨q0,q1⟩:=hp j (by omega)
  have hkx:w[(gI l (j+1)).toNat]?=some (key w (gI l (j+1))):=z2f (by omega)
  have hky:w[(gI l j).toNat]?=some (key w (gI l j)):=z2f (by omega)
  have hw:=y2t (j:=j) (by omega)
  have hg:((j+1:Nat):Int)>0:=by omega
  have hsj:(((pre++l).map eI).set (pre.length+(j+1)) (eI (gI l j)))[pre.length+j]?=some (eI (gI l j)):=by rw [List.getElem?_set_ne (by omega),List.getElem?_map,hy]; rfl
  have h0:((j+1:Nat):Int)≥0:=by omega
  have h1:((j+1:Nat):Int)<(N:Int):=by omega
  have h2:(j:Int)≥0:=by omega
  have h3:(j:Int)<(N:Int):=by omega
  have hms:=w3x pre l j
  by_cases hlt:key w (gI l (j+1))<key w (gI l j)
  ·have hb:z6l std (z0d (pre++l),(z0d w,(0,(w.length,(pre.length,(N,((0:Int),(b,(i,(((j+1:Nat):Int),()))))))))))=some (.inl (z0d (pre++sw l j),(z0d w,(0,(w.length,(pre.length,(N,((0:Int),(b,(i,((j:Int),()))))))))))):=by
    have hN':((pre++l).map eI).length=pre.length+N:=by rw [List.length_map,List.length_append,hl]
    generalize pre++l=A at hx hy hsj hms hN'⊢
    simp only [z6l,z0x,z0y,z0d,z0g,z06,z13,z0n,z0o,eq_self,not_true,not_false_eq_true,decide_true,decide_false,Bool.not_true,Bool.not_false,Int.reduceLT,Int.reduceNeg,Int.reduceGT,cond_true,cond_false,Int.reduceEq,Int.reduceLE,Int.reduceGE,z01,hg,h0,h1,h2,h3,hw,hx,hy,hkx,hky,ge_iff_le,p0,p1,q0,q1,hlt,z5b,hms,hsj,List.length_set]
   rw [z0p,hb,y3r,if_pos hlt]
   exact ih (sw l j) (y3i hp hj) (by rw [z6r]; omega) (by rw [z6r]; exact hl) hN
  ·have hb:z6l std (z0d (pre++l),(z0d w,(0,(w.length,(pre.length,(N,((0:Int),(b,(i,(((j+1:Nat):Int),()))))))))))=some (.inr (z0d (pre++l),(z0d w,(0,(w.length,(pre.length,(N,((0:Int),(b,(i,())))))))))):=by
    generalize pre++l=A at hx hy⊢
    by_cases hgt:key w (gI l (j+1))>key w (gI l j)
    ·simp only [z6l,z0x,z0y,z0d,z0g,z06,z13,z0n,z0o,eq_self,not_true,not_false_eq_true,decide_true,decide_false,Bool.not_true,Bool.not_false,Int.reduceLT,Int.reduceNeg,Int.reduceGT,cond_true,cond_false,Int.reduceEq,Int.reduceLE,Int.reduceGE,z01,hg,h0,h1,h2,h3,hw,hx,hy,hkx,hky,ge_iff_le,p0,p1,q0,q1,hlt,hgt,z5b,List.length_set]
    ·simp only [z6l,z0x,z0y,z0d,z0g,z06,z13,z0n,z0o,eq_self,not_true,not_false_eq_true,decide_true,decide_false,Bool.not_true,Bool.not_false,Int.reduceLT,Int.reduceNeg,Int.reduceGT,cond_true,cond_false,Int.reduceEq,Int.reduceLE,Int.reduceGE,z01,hg,h0,h1,h2,h3,hw,hx,hy,hkx,hky,ge_iff_le,p0,p1,q0,q1,hlt,hgt,z5b,List.length_set]
   rw [z0p,hb,y3r,if_neg hlt]
theorem x4e (w pre:List Int) (n:Nat):∀ (k i:Nat) (l:List Int),z56 w l→l.length=n→n≤1000→i+k=n→
  z4g (z5a it0 std) (z0d (pre++l),(z0d w,(0,(w.length,(pre.length,(n,((0:Int),((n:Int),((i:Int),())))))))))=some (z0d (pre++y8z (key w) k i l),(z0d w,(0,(w.length,())))):=by
 intro k
 induction k with
 |zero=>
  intro i l hp hl hn hi
  have:z5a it0 std (z0d (pre++l),(z0d w,(0,(w.length,(pre.length,(n,((0:Int),((n:Int),((i:Int),())))))))))=some (.inr (z0d (pre++l),(z0d w,(0,(w.length,()))))):=by
   have hn:¬ (i:Int)<n:=by omega
   simp only [z5a,z0x,z0y,hn]
  rw [z0p,this]; rfl
 |succ k ih=>
  intro i l hp hl hn hi
  have hw:=z02 (i:=i) (by omega)
  have hlt:(i:Int)<n:=by omega
  have h1:it0 _ _ (z6l std) (z0d (pre++l),(z0d w,(0,(w.length,(pre.length,(n,((0:Int),((n:Int),((i:Int),((i:Int),()))))))))))=_:=x4o w pre n n i i l hp (by omega) hl (by omega)
  have:z5a it0 std (z0d (pre++l),(z0d w,(0,(w.length,(pre.length,(n,((0:Int),((n:Int),((i:Int),())))))))))=some (.inl (z0d (pre++y3r (key w) i l),(z0d w,(0,(w.length,(pre.length,(n,((0:Int),((n:Int),(((i+1:Nat):Int),())))))))))):=by
   simp only [z5a,z0x,z0y,hlt,h1,z0c,hw]
  rw [z0p,this,y8z]
  exact ih (i+1) _ (y3j _ _ _ hp (by omega)) (by rw [z8t]; exact hl) hn (by omega)
theorem x91 (w pre l:List Int) (hp:z56 w l) (hl:l.length≤1000):y84 it0 std (z0d (pre++l),(z0d w,(0,(w.length,(pre.length,(l.length,((0:Int),((l.length:Int),()))))))))=some (z0d (pre++z3a (key w) l),(z0d w,(0,(w.length,())))):=by
 have hw:IntKind.i64.wrap ((0:Int)+1)=((1:Nat):Int):=by decide
 cases hn:l.length with
 |zero=>
  have e:l=[]:=List.length_eq_zero_iff.1 hn
  subst e
  have hb:z5a it0 std (z0d (pre++[]),(z0d w,(0,(w.length,(pre.length,(0,((0:Int),(((0:Nat):Int),(((1:Nat):Int),())))))))))=some (.inr (z0d (pre++[]),(z0d w,(0,(w.length,()))))):=by
   have hn:¬ ((1:Nat):Int)<((0:Nat):Int):=by omega
   simp only [z5a,z0x,z0y,hn]
  have h1:it0 _ _ (z5a it0 std) (z0d (pre++[]),(z0d w,(0,(w.length,(pre.length,(0,((0:Int),(((0:Nat):Int),(((1:Nat):Int),())))))))))=some (z0d (pre++[]),(z0d w,(0,(w.length,())))):=by
   show z4g _ _=_
   rw [z0p,hb]
  simp only [y84,z0x,z0y,z0c,hw,h1]
  rfl
 |succ n=>
  have h1:it0 _ _ (z5a it0 std) (z0d (pre++l),(z0d w,(0,(w.length,(pre.length,(n+1,((0:Int),(((n+1:Nat):Int),(((1:Nat):Int),())))))))))=_:=x4e w pre (n+1) n 1 l hp hn (by omega) (by omega)
  have e:z3a (key w) l=y8z (key w) n 1 l:=by rw [z3a,hn]; rfl
  simp only [y84,z0x,z0y,z0c,hw,h1,e]
theorem w5q (w pre l:List Int) (hp:z56 w l) (hl:l.length≤12):w99 std (z0d (pre++l),(z0d w,(0,(w.length,(pre.length,(l.length,()))))))=some (z0d (pre++z3a (key w) l),(z0d w,(0,(w.length,())))):=by
 have h1:=x91 w pre l hp (by omega)
 have n20:¬ (20:Int)≤(l.length:Int):=by omega
 have n20':¬ (20:Int)<(l.length:Int):=by omega
 have e1:it0 _ _ (y9m it0 std) (z0d (pre++l),(z0d w,(0,(w.length,(pre.length,(l.length,((l.length:Int),((20:Int),((0:Int),((20:Int),()))))))))))=some (z0d (pre++l),(z0d w,(0,(w.length,(pre.length,(l.length,((l.length:Int),((20:Int),((0:Int),()))))))))):=by
  show z4g _ _=_
  rw [z0p]
  simp only [y9m,z0x,z0y,n20]
 have e2:it0 _ _ (y9l it0 std) (z0d (pre++z3a (key w) l),(z0d w,(0,(w.length,(pre.length,(l.length,((l.length:Int),((20:Int),()))))))))=some (z0d (pre++z3a (key w) l),(z0d w,(0,(w.length,())))):=by
  show z4g _ _=_
  rw [z0p]
  simp only [y9l,z0x,z0y,n20']
 have hs:(z0d (pre++z3a (key w) l)).length=(z0d (pre++l)).length:=by rw [z0k,z0k,List.length_append,List.length_append,z4x]
 unfold w99
 simp only [w51,w7o,z0x,z0y,eq_self,not_true,not_false_eq_true,decide_true,decide_false,Bool.not_true,Bool.not_false,Int.reduceLT,Int.reduceNeg,Int.reduceGT,cond_true,cond_false,Int.reduceEq,Int.reduceLE,Int.reduceGE,e1,h1,e2,hs]
def fe:List Int→Bool:=List.isEmpty
def dOf (f:Nat→Nat→Bool) (n:Nat):List (List Int):=(List.range n).map fun i=>toI ((List.range n).filter (f i))
theorem z7q (f:Nat→Nat→Bool) (n:Nat):(dOf f n).length=n:=by simp [dOf]
theorem x7c (f:Nat→Nat→Bool) {n i:Nat} (hi:i<n):(dOf f n)[i]?=some (toI ((List.range n).filter (f i))):=by
 rw [dOf,List.getElem?_map,List.getElem?_range hi]; rfl
def y4r (l:List Int):List D:=[.list l.isEmpty (bif l.isEmpty then 0 else 1) (z0d l)]
theorem y52 (l:List Int):z49 [CK.list 1] (y4r l)=true:=by cases l<;>rfl
theorem w4t (l:List Int):dL ((y4r l)[0]?.getD D.nilp)=z0d l:=rfl
theorem x88 (l:List Int) (k:Int):[D.list false 1 (z0d l++[eI k])]=y4r (l++[k]):=by
 cases l<;>simp [y4r,z0d]
def z3v (f:Nat→Nat→Bool) (i k:Nat):List Int:=toI ((List.range k).filter (f i))
theorem x5q (f:Nat→Nat→Bool) (i k:Nat):(z3v f i k).length≤k:=by
 rw [z3v,z7z]
 have:=List.length_filter_le (f i) (List.range k)
 rw [List.length_range] at this; exact this
theorem y08 (f:Nat→Nat→Bool) (i k:Nat):z3v f i (k+1)=z3v f i k++(if f i k=true then [(k:Int)] else []):=by
 rw [z3v,List.range_succ,List.filter_append,y94, ←z3v]
 congr 1
 cases h:f i k<;>simp [h,toI]
theorem w1f (f:Nat→Nat→Bool) (n i:Nat) (hi:i<n) (hn:n≤10) (A:List (List D)) (hA:A.length=n) (hAi:A[i]?=some (y4r [])):
  z4g (x1e std) (fld n f,(A,((0:Int),((0:Int),((0:Int),((0:Int),((0:Int),((0:Int),((0:Int),((0:Int),((0:Int),((0:Int),((i:Int),((n:Int),((i:Int),((n:Int),((0:Int),())))))))))))))))))=
   some (fld n f,(A.set i (y4r (z3v f i n)),((0:Int),((0:Int),((0:Int),((0:Int),((0:Int),((0:Int),((0:Int),((0:Int),((0:Int),((0:Int),((n:Int),((i:Int),())))))))))))))):=by
 have key:=z47 (b:=x1e std) n (fun k=>(fld n f,(A.set i (y4r (z3v f i k)),((0:Int),((0:Int),((0:Int),((0:Int),((0:Int),((0:Int),((0:Int),((0:Int),((0:Int),((0:Int),((i:Int),((n:Int),((i:Int),((n:Int),((k:Int),()))))))))))))))))))
  (fld n f,(A.set i (y4r (z3v f i n)),((0:Int),((0:Int),((0:Int),((0:Int),((0:Int),((0:Int),((0:Int),((0:Int),((0:Int),((0:Int),((n:Int),((i:Int),())))))))))))))) (fun k hk=>by
  have hw:=z02 (i:=k) (by omega)
  have hlt:(k:Int)<n:=by omega
  have h0:(0:Int)≤k:=by omega
  have h1:(k:Int)<((10:Nat):Int):=by omega
  have h2:(0:Int)≤i:=by omega
  have h3:(i:Int)<((10:Nat):Int):=by omega
  have h4:(i:Int)<n:=by omega
  have hf:=z2w n f i k (by omega) (by omega)
  generalize fld n f=F at hf⊢
  cases hb:f i k with
  |false=>
   rw [hb] at hf
   have e:z3v f i (k+1)=z3v f i k:=by rw [y08,hb]; simp
   rw [e]
   generalize A.set i (y4r (z3v f i k))=B
   simp only [x1e,z0x,z0y,z14,z9v,eq_self,not_true,not_false_eq_true,decide_true,decide_false,Bool.not_true,Bool.not_false,Int.reduceLT,Int.reduceNeg,Int.reduceGT,cond_true,cond_false,Int.reduceEq,Int.reduceLE,Int.reduceGE,hlt,h0,h1,h2,h3,hf,ge_iff_le,z0c,hw]
  |true=>
   rw [hb] at hf
   have e:z3v f i (k+1)=z3v f i k++[(k:Int)]:=by rw [y08,hb]; simp
   have hset:A.set i (y4r (z3v f i (k+1)))=(A.set i (y4r (z3v f i k))).set i (y4r (z3v f i k++[(k:Int)])):=by rw [e,List.set_set]
   rw [hset]
   have hll:=x5q f i k
   have hBl:(A.set i (y4r (z3v f i k))).length=n:=by rw [List.length_set,hA]
   have hBi:(A.set i (y4r (z3v f i k)))[i]?=some (y4r (z3v f i k)):=by rw [List.getElem?_set]; simp [hA,hi]
   generalize A.set i (y4r (z3v f i k))=B at hBl hBi⊢
   generalize z3v f i k=R at hll hBi⊢
   have hel:=z0k R
   have hle:R.length+1≤1000000:=by omega
   have hz:(0:Int).toNat=0:=rfl
   have hR0:(0:Int)≤R.length:=by omega
   have ht:(z0d R).take R.length=z0d R:=by rw [←hel,List.take_length]
   have hone:=x88 R k
   simp only [eI] at hone
   simp only [x1e,z0x,z0y,z14,z9v,y52,w4t,eq_self,not_true,not_false_eq_true,decide_true,decide_false,Bool.not_true,Bool.not_false,Int.reduceLT,Int.reduceNeg,Int.reduceGT,cond_true,cond_false,Int.reduceEq,Int.reduceLE,Int.reduceGE,hlt,h0,h1,h2,h3,h4,hf,hBl,hBi,hel,hz,hR0,ge_iff_le,Int.le_refl,z0c,hw,ht,hle,List.drop_zero,Nat.sub_zero,Nat.le_refl,Bool.and_true,
    List.take_succ_cons,List.take_zero,List.length_append,List.length_cons,List.length_nil,Nat.zero_add,hone,List.length_set]) (by
  have hn:¬ (n:Int)<n:=by omega
  simp only [x1e,z0x,z0y,eq_self,not_true,not_false_eq_true,decide_true,decide_false,Bool.not_true,Bool.not_false,Int.reduceLT,Int.reduceNeg,Int.reduceGT,cond_true,cond_false,Int.reduceEq,Int.reduceLE,Int.reduceGE,hn])
 have e0:A.set i (y4r (z3v f i 0))=A:=by
  apply List.ext_getElem?
  intro j
  rw [List.getElem?_set]
  by_cases h:i=j
  ·subst h; rw [if_pos rfl,if_pos (by omega),hAi]; rfl
  ·rw [if_neg h]
 rw [e0] at key
 exact key
end Go.Am
end
section
namespace Go.Am
open T11
theorem x5p {f:Nat→Nat→Bool} {i n:Nat} (h:∀ k,k<n→f i k=false):z3v f i n=[]:=by
 induction n with
 |zero=>rfl
 |succ n ih=>rw [y08,ih fun k hk=>h k (by omega),h n (by omega)]; rfl
theorem x86 {f:Nat→Nat→Bool} {i n k:Nat} (hk:k<n) (h:f i k=true):(z3v f i n).isEmpty=false:=by
 rw [List.isEmpty_eq_false_iff]
 intro e
 have:(k:Int)∈z3v f i n:=by
  rw [z3v,toI,List.mem_map]
  exact ⟨k,List.mem_filter.2 ⟨List.mem_range.2 hk,h⟩,rfl⟩
 rw [e] at this; cases this
def z3c (f:Nat→Nat→Bool) (n i:Nat):List (List D):=z0o fe ((dOf f n).take i)++List.replicate (n - i) (y4r [])
theorem y46 (f:Nat→Nat→Bool) {n i:Nat} (hi:i≤n):(z3c f n i).length=n:=by
 rw [z3c,List.length_append,z2m,List.length_take,z7q,List.length_replicate]; omega
theorem x3f (f:Nat→Nat→Bool) {n i:Nat} (hi:i<n):(z3c f n i)[i]?=some (y4r []):=by
 have hl:(z0o fe ((dOf f n).take i)).length=i:=by rw [z2m,List.length_take,z7q]; omega
 rw [z3c,List.getElem?_append_right (by omega),hl,Nat.sub_self,List.getElem?_replicate,if_pos (by omega)]
theorem x3e (f:Nat→Nat→Bool) {n i:Nat} (hi:i<n):(z3c f n i).set i (eLf fe (z3v f i n))=z3c f n (i+1):=by
 have hl:(z0o fe ((dOf f n).take i)).length=i:=by rw [z2m,List.length_take,z7q]; omega
 have hg:=x7c f hi
 rw [z3c,List.set_append_right (h:=by omega),hl,Nat.sub_self,show n - i=(n - (i+1))+1 by omega,List.replicate_succ,List.set_cons_zero,z3c,
  List.take_succ_eq_append_getElem (by rw [z7q]; exact hi),(List.getElem?_eq_some_iff.1 hg).2]
 simp [z0o,z3v]
theorem x4d (f:Nat→Nat→Bool) (n i:Nat) (hi:i<n) (hn:n≤10) (hsup:∀ k,n≤k→f i k=false):
  z7y it0 std (fld n f,(z3c f n i,((0:Int),((0:Int),((0:Int),((0:Int),((0:Int),((0:Int),((0:Int),((0:Int),((0:Int),((0:Int),((n:Int),((i:Int),()))))))))))))))=
   some (.inl (fld n f,(z3c f n (i+1),((0:Int),((0:Int),((0:Int),((0:Int),((0:Int),((0:Int),((0:Int),((0:Int),((0:Int),((0:Int),((n:Int),(((i+1:Nat):Int),()))))))))))))))):=by
 have hw:=z02 (i:=i) (by omega)
 have hlt:(i:Int)<n:=by omega
 have h2:(0:Int)≤i:=by omega
 have h3:(i:Int)<((10:Nat):Int):=by omega
 have f0:(fld n f)[1+i*10]?=some (eC (f i 0)):=z2w n f i 0 (by omega) (by omega)
 have f1:=z2w n f i 1 (by omega) (by omega)
 have f2:=z2w n f i 2 (by omega) (by omega)
 have f3:=z2w n f i 3 (by omega) (by omega)
 have f4:=z2w n f i 4 (by omega) (by omega)
 have f5:=z2w n f i 5 (by omega) (by omega)
 have f6:=z2w n f i 6 (by omega) (by omega)
 have f7:=z2w n f i 7 (by omega) (by omega)
 have f8:=z2w n f i 8 (by omega) (by omega)
 have f9:=z2w n f i 9 (by omega) (by omega)
 have hBl:=y46 f (i:=i) (n:=n) (by omega)
 have hBi:=x3f f hi
 have hst:=x3e f hi
 have h49:it0 _ _ (x1e std) (fld n f,(z3c f n i,((0:Int),((0:Int),((0:Int),((0:Int),((0:Int),((0:Int),((0:Int),((0:Int),((0:Int),((0:Int),((i:Int),((n:Int),((i:Int),((n:Int),((0:Int),())))))))))))))))))=_:=w1f f n i hi hn (z3c f n i) hBl hBi
 have hF0:(fld n f)[0]?=some (eI n):=rfl
 by_cases hz:∀ k,k<n→f i k=false
 ·have hz:∀ k,f i k=false:=fun k=>by
   by_cases hk:k<n
   ·exact hz k hk
   ·exact hsup k (by omega)
  have he:=x5p (f:=f) (i:=i) (n:=n) fun k _=>hz k
  have hset:(z3c f n i).set i [D.list true 1 []]=z3c f n (i+1):=by
   rw [←hst,he]; rfl
  rw [hz 0] at f0
  rw [hz 1] at f1
  rw [hz 2] at f2
  rw [hz 3] at f3
  rw [hz 4] at f4
  rw [hz 5] at f5
  rw [hz 6] at f6
  rw [hz 7] at f7
  rw [hz 8] at f8
  rw [hz 9] at f9
  rw [←hset]
  generalize z3c f n i=B at hBl hBi⊢
  generalize fld n f=F at f0 f1 f2 f3 f4 f5 f6 f7 f8 f9⊢
  simp only [z7y,z0x,z0y,z14,z9v,y52,eq_self,not_true,not_false_eq_true,decide_true,decide_false,Bool.not_true,Bool.not_false,Int.reduceLT,Int.reduceNeg,Int.reduceGT,cond_true,cond_false,Int.reduceEq,Int.reduceLE,Int.reduceGE,hlt,h2,h3,f0,f1,f2,f3,f4,f5,f6,f7,f8,f9,hBl,hBi,ge_iff_le,z0c,hw,List.length_set]
 ·have hex:∃ k,k<n∧f i k=true:=by
   refine Classical.byContradiction fun hno=>hz fun k hk=>?_
   cases hb:f i k with
   |false=>rfl
   |true=>exact absurd ⟨k,hk,hb⟩ hno
  obtain ⟨k0,hk0,hk1⟩:=hex
  have hne:=x86 (f:=f) (i:=i) (n:=n) hk0 hk1
  have hrow:y4r (z3v f i n)=eLf fe (z3v f i n):=by
   rw [y4r,eLf,fe,hne]; rfl
  rw [hrow,hst] at h49
  have hBl':=y46 f (i:=i+1) (n:=n) (by omega)
  generalize z3c f n (i+1)=B' at h49 hBl'⊢
  generalize z3c f n i=B at hBl hBi h49⊢
  generalize fld n f=F at f0 f1 f2 f3 f4 f5 f6 f7 f8 f9 hF0 h49⊢
  cases b0:f i 0 with
  |true=>
   rw [b0] at f0
   simp only [z7y,z0x,z0y,z14,z9v,z0g,z06,eq_self,not_true,not_false_eq_true,decide_true,decide_false,Bool.not_true,Bool.not_false,Int.reduceLT,Int.reduceNeg,Int.reduceGT,cond_true,cond_false,Int.reduceEq,Int.reduceLE,Int.reduceGE,hlt,h2,h3,f0,f1,f2,f3,f4,f5,f6,f7,f8,f9,hF0,hBl,hBl',ge_iff_le,z0c,hw,h49]
  |false=>
   rw [b0] at f0
   cases b1:f i 1 with
   |true=>
    rw [b1] at f1
    simp only [z7y,z0x,z0y,z14,z9v,z0g,z06,eq_self,not_true,not_false_eq_true,decide_true,decide_false,Bool.not_true,Bool.not_false,Int.reduceLT,Int.reduceNeg,Int.reduceGT,cond_true,cond_false,Int.reduceEq,Int.reduceLE,Int.reduceGE,hlt,h2,h3,f0,f1,f2,f3,f4,f5,f6,f7,f8,f9,hF0,hBl,hBl',ge_iff_le,z0c,hw,h49]
   |false=>
    rw [b1] at f1
    cases b2:f i 2 with
    |true=>
     rw [b2] at f2
     simp only [z7y,z0x,z0y,z14,z9v,z0g,z06,eq_self,not_true,not_false_eq_true,decide_true,decide_false,Bool.not_true,Bool.not_false,Int.reduceLT,Int.reduceNeg,Int.reduceGT,cond_true,cond_false,Int.reduceEq,Int.reduceLE,Int.reduceGE,hlt,h2,h3,f0,f1,f2,f3,f4,f5,f6,f7,f8,f9,hF0,hBl,hBl',ge_iff_le,z0c,hw,h49]
    |false=>
     rw [b2] at f2
     cases b3:f i 3 with
     |true=>
      rw [b3] at f3
      simp only [z7y,z0x,z0y,z14,z9v,z0g,z06,eq_self,not_true,not_false_eq_true,decide_true,decide_false,Bool.not_true,Bool.not_false,Int.reduceLT,Int.reduceNeg,Int.reduceGT,cond_true,cond_false,Int.reduceEq,Int.reduceLE,Int.reduceGE,hlt,h2,h3,f0,f1,f2,f3,f4,f5,f6,f7,f8,f9,hF0,hBl,hBl',ge_iff_le,z0c,hw,h49]
     |false=>
      rw [b3] at f3
      cases b4:f i 4 with
      |true=>
       rw [b4] at f4
       simp only [z7y,z0x,z0y,z14,z9v,z0g,z06,eq_self,not_true,not_false_eq_true,decide_true,decide_false,Bool.not_true,Bool.not_false,Int.reduceLT,Int.reduceNeg,Int.reduceGT,cond_true,cond_false,Int.reduceEq,Int.reduceLE,Int.reduceGE,hlt,h2,h3,f0,f1,f2,f3,f4,f5,f6,f7,f8,f9,hF0,hBl,hBl',ge_iff_le,z0c,hw,h49]
      |false=>
       rw [b4] at f4
       cases b5:f i 5 with
       |true=>
        rw [b5] at f5
        simp only [z7y,z0x,z0y,z14,z9v,z0g,z06,eq_self,not_true,not_false_eq_true,decide_true,decide_false,Bool.not_true,Bool.not_false,Int.reduceLT,Int.reduceNeg,Int.reduceGT,cond_true,cond_false,Int.reduceEq,Int.reduceLE,Int.reduceGE,hlt,h2,h3,f0,f1,f2,f3,f4,f5,f6,f7,f8,f9,hF0,hBl,hBl',ge_iff_le,z0c,hw,h49]
       |false=>
        rw [b5] at f5
        cases b6:f i 6 with
        |true=>
         rw [b6] at f6
         simp only [z7y,z0x,z0y,z14,z9v,z0g,z06,eq_self,not_true,not_false_eq_true,decide_true,decide_false,Bool.not_true,Bool.not_false,Int.reduceLT,Int.reduceNeg,Int.reduceGT,cond_true,cond_false,Int.reduceEq,Int.reduceLE,Int.reduceGE,hlt,h2,h3,f0,f1,f2,f3,f4,f5,f6,f7,f8,f9,hF0,hBl,hBl',ge_iff_le,z0c,hw,h49]
        |false=>
         rw [b6] at f6
         cases b7:f i 7 with
         |true=>
          rw [b7] at f7
          simp only [z7y,z0x,z0y,z14,z9v,z0g,z06,eq_self,not_true,not_false_eq_true,decide_true,decide_false,Bool.not_true,Bool.not_false,Int.reduceLT,Int.reduceNeg,Int.reduceGT,cond_true,cond_false,Int.reduceEq,Int.reduceLE,Int.reduceGE,hlt,h2,h3,f0,f1,f2,f3,f4,f5,f6,f7,f8,f9,hF0,hBl,hBl',ge_iff_le,z0c,hw,h49]
         |false=>
          rw [b7] at f7
          cases b8:f i 8 with
          |true=>
           rw [b8] at f8
           simp only [z7y,z0x,z0y,z14,z9v,z0g,z06,eq_self,not_true,not_false_eq_true,decide_true,decide_false,Bool.not_true,Bool.not_false,Int.reduceLT,Int.reduceNeg,Int.reduceGT,cond_true,cond_false,Int.reduceEq,Int.reduceLE,Int.reduceGE,hlt,h2,h3,f0,f1,f2,f3,f4,f5,f6,f7,f8,f9,hF0,hBl,hBl',ge_iff_le,z0c,hw,h49]
          |false=>
           rw [b8] at f8
           cases b9:f i 9 with
           |true=>
            rw [b9] at f9
            simp only [z7y,z0x,z0y,z14,z9v,z0g,z06,eq_self,not_true,not_false_eq_true,decide_true,decide_false,Bool.not_true,Bool.not_false,Int.reduceLT,Int.reduceNeg,Int.reduceGT,cond_true,cond_false,Int.reduceEq,Int.reduceLE,Int.reduceGE,hlt,h2,h3,f0,f1,f2,f3,f4,f5,f6,f7,f8,f9,hF0,hBl,hBl',ge_iff_le,z0c,hw,h49]
           |false=>
            rw [b9] at f9
            exfalso
            have hk:k0<10:=by omega
            have hs:k0=0∨k0=1∨k0=2∨k0=3∨k0=4∨k0=5∨k0=6∨k0=7∨k0=8∨k0=9:=by omega
            rcases hs with h|h|h|h|h|h|h|h|h|h<;>subst h<;>simp_all
theorem w9i (f:Nat→Nat→Bool) (n:Nat) (hn:n≤10) (hsup:∀ i k,n≤k→f i k=false):G49 std (fld n f,())=some (fld n f,(z0o fe (dOf f n),())):=by
 have hF0:(fld n f)[0]?=some (eI n):=rfl
 have key:it0 _ _ (z7y it0 std) (fld n f,(z3c f n 0,((0:Int),((0:Int),((0:Int),((0:Int),((0:Int),((0:Int),((0:Int),((0:Int),((0:Int),((0:Int),((n:Int),((0:Int),()))))))))))))))=some (fld n f,(z0o fe (dOf f n),())):=
  z47 (b:=z7y it0 std) n (fun i=>(fld n f,(z3c f n i,((0:Int),((0:Int),((0:Int),((0:Int),((0:Int),((0:Int),((0:Int),((0:Int),((0:Int),((0:Int),((n:Int),((i:Int),()))))))))))))))) (fld n f,(z0o fe (dOf f n),())) (fun i hi=>x4d f n i hi hn (hsup i)) (by
   have hn:¬ (n:Int)<n:=by omega
   have e:z3c f n n=z0o fe (dOf f n):=by
    rw [z3c,Nat.sub_self,List.replicate_zero,List.append_nil,List.take_of_length_le (by rw [z7q]; exact Nat.le_refl _)]
   rw [e]
   simp only [z7y,z0x,z0y,eq_self,not_true,not_false_eq_true,decide_true,decide_false,Bool.not_true,Bool.not_false,Int.reduceLT,Int.reduceNeg,Int.reduceGT,cond_true,cond_false,Int.reduceEq,Int.reduceLE,Int.reduceGE,hn])
 have e0:z3c f n 0=List.replicate n [D.list true 0 []]:=by
  rw [z3c,List.take_zero,Nat.sub_zero]; rfl
 rw [e0] at key
 have hn0:(0:Int)≤n:=by omega
 have hnm:(n:Int)≤1000000:=by omega
 have hl:(z0o fe (dOf f n)).length=n:=by rw [z2m,z7q]
 have ht:(z0o fe (dOf f n)).take n=z0o fe (dOf f n):=List.take_of_length_le (Nat.le_of_eq hl)
 unfold G49
 generalize fld n f=F at hF0 key⊢
 simp only [g49,z0x,z0y,z0g,z06,eq_self,not_true,not_false_eq_true,decide_true,decide_false,Bool.not_true,Bool.not_false,Int.reduceLT,Int.reduceNeg,Int.reduceGT,cond_true,cond_false,Int.reduceEq,Int.reduceLE,Int.reduceGE,hF0,hn0,hnm,ge_iff_le,Int.le_refl,Bool.and_true,key,hl,Nat.le_refl,List.drop_zero,ht,List.length_replicate]
end Go.Am
end
section
namespace Go.Am
open T11
theorem x2k (f:Nat→Nat→Bool) {n i:Nat} (hi:i<n):(dOf f n).getD i []=toI ((List.range n).filter (f i)):=by
 rw [List.getD_eq_getElem?_getD,x7c f hi]; rfl
theorem x7d {f:Nat→Nat→Bool} {n i k:Nat} (hi:i<n) (hk:k<n):bt (dOf f n) i k=f i k:=by
 rw [bt,x2k f hi]
 cases h:f i k with
 |true=>exact decide_eq_true (by rw [toI,List.mem_map]; exact ⟨k,List.mem_filter.2 ⟨List.mem_range.2 hk,h⟩,rfl⟩)
 |false=>
  refine decide_eq_false fun hm=>?_
  rw [toI,List.mem_map] at hm
  obtain ⟨j,hj,he⟩:=hm
  have:j=k:=by omega
  subst this
  rw [(List.mem_filter.1 hj).2] at h; cases h
theorem x24 {l:List Nat} {n:Nat} (hp:l.Pairwise (· < ·)) (hl:∀ x∈l,x<n):z1o (toI l) n:=by
 intro i hi
 rw [z7z] at hi
 have hx:∀ j,j<l.length→∃ a,l[j]?=some a∧gI (toI l) j=(a:Int):=fun j hj=>by
  obtain ⟨a,ha⟩:=z1e hj
  refine ⟨a,ha,?_⟩
  rw [gI,toI,List.getD_eq_getElem?_getD,List.getElem?_map,ha]; rfl
 obtain ⟨a,ha,he⟩:=hx i hi
 have hal:=hl a (List.mem_of_getElem? ha)
 refine ⟨?_,?_,fun h0=>?_⟩
 ·show 0≤gI (toI l) i; omega
 ·show gI (toI l) i<n; omega
 ·obtain ⟨b,hb,he'⟩:=hx (i - 1) (by omega)
  show gI (toI l) (i - 1)<gI (toI l) i
  rw [he,he']
  rw [List.pairwise_iff_getElem] at hp
  have:=hp (i - 1) i (by omega) hi (by omega)
  rw [(List.getElem?_eq_some_iff.1 ha).2,(List.getElem?_eq_some_iff.1 hb).2] at this
  omega
theorem x2l {f:Nat→Nat→Bool} {n:Nat} (h1:1≤n) (h10:n≤10) (ht:w2p f n):z1c (dOf f n)=0:=by
 rw [z1c,if_neg (by rw [z7q]; omega),if_neg,if_neg]
 ·rintro ⟨i,hi,hb⟩
  rw [z7q] at hi
  have hi:=List.mem_range.1 hi
  rcases hb with hb|⟨k,hk,hb⟩
  ·have h2:=ht.1 i hi
   have h3:=x7d (f:=f) hi hi
   rw [bt,decide_eq_true hb,h2] at h3; cases h3
  ·have hk:=List.mem_range.1 hk
   have h2:=ht.2 i k hi (by omega) (by omega)
   have h3:=x7d (f:=f) (i:=i) (k:=k) hi (by omega)
   have h4:=x7d (f:=f) (i:=k) (k:=i) (by omega) hi
   rw [bt] at h3 h4
   rw [h3,h4,h2] at hb
   revert hb
   cases f k i<;>simp
 ·rintro ⟨i,hi,hb⟩
  rw [z7q] at hi hb
  have hi:=List.mem_range.1 hi
  refine hb ?_
  rw [x2k f hi]
  exact x24 (List.Pairwise.filter _ List.pairwise_lt_range) fun x hx=>List.mem_range.1 (List.mem_filter.1 hx).1
theorem w0o (f:Nat→Nat→Bool) (n:Nat):z1l (dOf f n)=(List.range n).map fun i=>((cnt n (f i):Nat):Int):=by
 rw [z1l,dOf,List.map_map]
 refine List.map_congr_left fun i _=>?_
 simp only [Function.comp,z7z,y51]
def y7t (f:Nat→Nat→Bool) (i k:Nat):Nat→Nat→Bool:=fun a b=>f a b||(decide (a=i)&&decide (b=k))
def stG (s v:Nat) (rest:List Nat) (st:(Nat→Nat→Bool)×List Int):Nat→(Nat→Nat→Bool)×List Int
 |0=>st
 |k+1=>if k<v then (y7t (stG s v rest st k).1 s (at_ rest k),(stG s v rest st k).2)
   else (y7t (stG s v rest st k).1 (at_ rest k) s,(stG s v rest st k).2.set (at_ rest k) (gI (stG s v rest st k).2 (at_ rest k) - 1))
theorem y1y {l:List Nat} {q:Nat} (h:q<l.length):at_ l q∈l:=by
 rw [at_,List.getD_eq_getElem?_getD,List.getElem?_eq_getElem h]; exact List.getElem_mem h
theorem y9u {l:List Nat} (hn:l.Nodup) {q r:Nat} (hq:q<l.length) (hr:r<l.length) (h:at_ l q=at_ l r):q=r:=by
 rw [at_,at_,List.getD_eq_getElem?_getD,List.getD_eq_getElem?_getD,List.getElem?_eq_getElem hq,List.getElem?_eq_getElem hr] at h
 exact (List.getElem?_inj hq hn).1 (by rw [List.getElem?_eq_getElem hq,List.getElem?_eq_getElem hr]; exact congrArg some h)
theorem w84 {l:List Nat} {x:Nat} (h:x∈l):∃ q,q<l.length∧at_ l q=x:=by
 obtain ⟨q,hq⟩:=List.getElem?_of_mem h
 refine ⟨q,(List.getElem?_eq_some_iff.1 hq).1,?_⟩
 rw [at_,List.getD_eq_getElem?_getD,hq]; rfl
theorem w2g {n:Nat} {p:Nat→Bool} {x:Nat} (hx:x<n) (hp:p x=false):cnt n (fun b=>p b||decide (b=x))=cnt n p+1:=by
 have h1:cnt n (fun b=>decide (b=x))=1:=by
  have:=y34 x (n - x) (fun b=>decide (b=x))
  rw [show x+(n - x)=n by omega] at this
  rw [this,y0s (n:=x) (q:=fun _=>false) fun i hi=>decide_eq_false (by omega),y0r]
  obtain ⟨m,hm⟩:∃ m,n - x=1+m:=⟨n - x - 1,by omega⟩
  rw [hm,y34,y0s (n:=m) (q:=fun _=>false) fun i hi=>decide_eq_false (by omega),y0r]
  simp [cnt,sm,o1]
 rw [←h1,cnt,cnt,cnt, ←x5i]
 refine z8o fun i hi=>?_
 by_cases e:i=x
 ·subst e; rw [hp]; simp [o1]
 ·simp [e,o1]
structure Step (n s v:Nat) (rest:List Nat) (f0:Nat→Nat→Bool) (l0:List Int) (f:Nat→Nat→Bool) (l:List Int) (k:Nat):Prop where
 len:l.length=n
 sup:∀ a b,f a b=true→a<n∧b<n
 oth:∀ x,x<n→x≠s→(cnt n (f x):Int)+gI l x=(cnt n (f0 x):Int)+gI l0 x
 own:cnt n (f s)=cnt n (f0 s)+min k v
 left:∀ x,x<n→gI l x=if ∃ q∈List.range k,v≤q∧at_ rest q=x then gI l0 x - 1 else gI l0 x
 done:∀ q,q<rest.length→f s (at_ rest q)=decide (q<k∧q<v)∧f (at_ rest q) s=decide (q<k∧v≤q)
 same:∀ a b,(a≠s∨b∉rest)→(b≠s∨a∉rest)→f a b=f0 a b
theorem w1u {n s v:Nat} {rest:List Nat} {f0:Nat→Nat→Bool} {l0:List Int} (hs:s<n) (hsr:s∉rest) (hn:rest.Nodup) (hr:∀ x∈rest,x<n) (hl:l0.length=n)
  (hsup:∀ a b,f0 a b=true→a<n∧b<n) (h0:∀ x∈rest,f0 s x=false∧f0 x s=false) (k:Nat) (hk:k≤rest.length):
  Step n s v rest f0 l0 (stG s v rest (f0,l0) k).1 (stG s v rest (f0,l0) k).2 k:=by
 induction k with
 |zero=>
  refine ⟨hl,hsup,fun x _ _=>rfl,by simp [stG],fun x _=>?_,fun q hq=>?_,fun a b _ _=>rfl⟩
  ·rw [if_neg (by rintro ⟨q,hq,_⟩; simp at hq)]; rfl
  ·obtain ⟨a1,a2⟩:=h0 _ (y1y hq)
   exact ⟨by simp [stG,a1],by simp [stG,a2]⟩
 |succ k ih=>
  have ih:=ih (by omega)
  rw [stG]
  generalize (stG s v rest (f0,l0) k).1=f at ih⊢
  generalize (stG s v rest (f0,l0) k).2=l at ih⊢
  have hxr:=y1y (l:=rest) (q:=k) (by omega)
  have hxn:=hr _ hxr
  have hxs:at_ rest k≠s:=fun e=>hsr (e▸hxr)
  obtain ⟨d1,d2⟩:=ih.done k (by omega)
  have d1:f s (at_ rest k)=false:=by rw [d1]; exact decide_eq_false (by omega)
  have d2:f (at_ rest k) s=false:=by rw [d2]; exact decide_eq_false (by omega)
  by_cases hkv:k<v
  ·rw [if_pos hkv]
   have hother:∀ a,a≠s→y7t f s (at_ rest k) a=f a:=fun a ha=>by
    funext b; simp [y7t,ha]
   have hself:y7t f s (at_ rest k) s=fun b=>f s b||decide (b=at_ rest k):=by
    funext b; simp [y7t]
   refine ⟨ih.len,fun a b hab=>?_,fun x hx hne=>?_,?_,fun x hx=>?_,fun q hq=>?_,fun a b h1 h2=>?_⟩
   ·simp only [y7t,Bool.or_eq_true,Bool.and_eq_true,decide_eq_true_eq] at hab
    rcases hab with hab|⟨rfl,rfl⟩
    ·exact ih.sup a b hab
    ·exact ⟨hs,hxn⟩
   ·simp only [hother x hne]; exact ih.oth x hx hne
   ·simp only [hself]
    rw [w2g hxn d1,ih.own]; omega
   ·simp only
    rw [ih.left x hx]
    by_cases c:∃ q∈List.range k,v≤q∧at_ rest q=x
    ·rw [if_pos c,if_pos]
     obtain ⟨q,hq,h1,h2⟩:=c
     exact ⟨q,by simp at hq⊢; omega,h1,h2⟩
    ·rw [if_neg c,if_neg]
     rintro ⟨q,hq,h1,h2⟩
     simp at hq
     exact c ⟨q,by simp; omega,h1,h2⟩
   ·obtain ⟨e1,e2⟩:=ih.done q hq
    have hqs:at_ rest q≠s:=fun e=>hsr (e▸y1y hq)
    refine ⟨?_,?_⟩
    ·simp only [hself]
     rw [e1]
     by_cases e:q=k
     ·subst e; simp [hkv]
     ·have:at_ rest q≠at_ rest k:=fun h=>e (y9u hn hq (by omega) h)
      simp only [this,decide_false,Bool.or_false]
      congr 1
      exact propext ⟨fun h=>⟨by omega,h.2⟩,fun h=>⟨by omega,h.2⟩⟩
    ·simp only [hother _ hqs]
     rw [e2]
     congr 1
     exact propext ⟨fun h=>⟨by omega,h.2⟩,fun h=>⟨by omega,h.2⟩⟩
   ·simp only [y7t]
    rw [ih.same a b h1 h2]
    have:¬ (a=s∧b=at_ rest k):=by
     rintro ⟨rfl,rfl⟩
     rcases h1 with h1|h1
     ·exact h1 rfl
     ·exact h1 hxr
    cases f0 a b with
    |true=>rfl
    |false=>
     simp only [Bool.false_or]
     cases hq:(decide (a=s)&&decide (b=at_ rest k)) with
     |false=>rfl
     |true=>simp at hq; exact absurd hq this
  ·rw [if_neg hkv]
   have hother:∀ a,a≠at_ rest k→y7t f (at_ rest k) s a=f a:=fun a ha=>by
    funext b; simp [y7t,ha]
   have hself:y7t f (at_ rest k) s (at_ rest k)=fun b=>f (at_ rest k) b||decide (b=s):=by
    funext b; simp [y7t]
   have hlx:gI l (at_ rest k)=gI l0 (at_ rest k):=by
    rw [ih.left _ hxn,if_neg]
    rintro ⟨q,hq,h1,h2⟩
    simp at hq
    have:=y9u hn (by omega) (by omega) h2
    omega
   refine ⟨by rw [List.length_set]; exact ih.len,fun a b hab=>?_,fun x hx hne=>?_,?_,fun x hx=>?_,fun q hq=>?_,fun a b h1 h2=>?_⟩
   ·simp only [y7t,Bool.or_eq_true,Bool.and_eq_true,decide_eq_true_eq] at hab
    rcases hab with hab|⟨rfl,rfl⟩
    ·exact ih.sup a b hab
    ·exact ⟨hxn,hs⟩
   ·have ho:=ih.oth x hx hne
    simp only
    by_cases e:x=at_ rest k
    ·subst e
     rw [hself,w2g hs d2,x6n (by rw [ih.len]; exact hxn),if_pos rfl]
     omega
    ·rw [hother x e,x6n (by rw [ih.len]; exact hxn),if_neg e]; exact ho
   ·simp only
    rw [hother s (Ne.symm hxs),ih.own]; omega
   ·simp only
    rw [x6n (by rw [ih.len]; exact hxn)]
    by_cases e:x=at_ rest k
    ·subst e
     rw [if_pos rfl,if_pos ⟨k,by simp,by omega,rfl⟩,hlx]
    ·rw [if_neg e,ih.left x hx]
     by_cases c:∃ q∈List.range k,v≤q∧at_ rest q=x
     ·rw [if_pos c,if_pos]
      obtain ⟨q,hq,h1,h2⟩:=c
      exact ⟨q,by simp at hq⊢; omega,h1,h2⟩
     ·rw [if_neg c,if_neg]
      rintro ⟨q,hq,h1,h2⟩
      simp at hq
      by_cases e2:q=k
      ·subst e2; exact e h2.symm
      ·exact c ⟨q,by simp; omega,h1,h2⟩
   ·obtain ⟨e1,e2⟩:=ih.done q hq
    refine ⟨?_,?_⟩
    ·simp only
     rw [hother s (Ne.symm hxs),e1]
     congr 1
     exact propext ⟨fun h=>⟨by omega,h.2⟩,fun h=>⟨by omega,h.2⟩⟩
    ·simp only
     by_cases e:q=k
     ·subst e
      rw [hself]
      simp; omega
     ·have:at_ rest q≠at_ rest k:=fun h=>e (y9u hn hq (by omega) h)
      rw [hother _ this,e2]
      congr 1
      exact propext ⟨fun h=>⟨by omega,h.2⟩,fun h=>⟨by omega,h.2⟩⟩
   ·simp only [y7t]
    rw [ih.same a b h1 h2]
    have:¬ (a=at_ rest k∧b=s):=by
     rintro ⟨rfl,rfl⟩
     rcases h2 with h2|h2
     ·exact h2 rfl
     ·exact h2 hxr
    cases f0 a b with
    |true=>rfl
    |false=>
     simp only [Bool.false_or]
     cases hq:(decide (a=at_ rest k)&&decide (b=s)) with
     |false=>rfl
     |true=>simp at hq; exact absurd hq this
end Go.Am
end
section
namespace Go.Am
open T11
structure x8c (w:List Int) (n:Nat) (f:Nat→Nat→Bool) (l:List Int) (cur:List Nat):Prop where
 len:l.length=n
 nd:cur.Nodup
 lt:∀ x∈cur,x<n
 sup:∀ a b,f a b=true→a<n∧b<n
 irr:∀ a,f a a=false
 cnt:∀ x,x<n→(cnt n (f x):Int)+(if x∈cur then gI l x else 0)=gI w x
 lan:Lan (cur.map fun x=>gI l x)
 both:∀ a b,a∈cur→b∈cur→f a b=false
 one:∀ a b,a<n→b<n→a≠b→¬ (a∈cur∧b∈cur)→f a b=!f b a
def z32 (l:List Int) (rest0:List Nat):List Nat:=(z3a (key l) (toI rest0)).map Int.toNat
theorem y8o (l:List Int) (rest0:List Nat):z3a (key l) (toI rest0)=toI (z32 l rest0):=by
 have hp:=z8n (key l) (toI rest0)
 rw [z32]
 have hge:∀ x∈z3a (key l) (toI rest0),∃ i:Nat,x=(i:Int):=fun x hx=>by
  have:=hp.mem_iff.1 hx
  rw [toI,List.mem_map] at this
  obtain ⟨i,_,rfl⟩:=this
  exact ⟨i,rfl⟩
 generalize z3a (key l) (toI rest0)=S at hge⊢
 rw [toI,List.map_map]
 refine (List.map_id _).symm.trans (List.map_congr_left fun x hx=>?_)
 obtain ⟨i,rfl⟩:=hge x hx
 simp
theorem y49 (l:List Int) (rest0:List Nat):(z32 l rest0).Perm rest0:=by
 have hp:=(z8n (key l) (toI rest0)).map Int.toNat
 have e:(toI rest0).map Int.toNat=rest0:=by
  rw [toI,List.map_map]
  exact (List.map_congr_left fun a _=>by simp).trans (List.map_id _)
 rw [e] at hp
 exact hp
theorem x89 (l:List Int) (rest0:List Nat):((z32 l rest0).map fun x=>gI l x).Pairwise (· ≤ ·):=by
 have hpw:=y6p (key l) (toI rest0)
 rw [y8o,toI,List.pairwise_map] at hpw
 rw [List.pairwise_map]
 exact hpw.imp fun {a b} hab=>by
  simp only [key,Int.toNat_natCast] at hab
  exact hab
theorem w3y {l:List Nat} {g h:Nat→Int} {v:Nat} (hh:∀ q,q<l.length→h (at_ l q)=if v≤q then g (at_ l q) - 1 else g (at_ l q)):
  l.map h=(l.map g).take v++((l.map g).drop v).map (· - 1):=by
 apply List.ext_getElem?
 intro q
 rw [List.getElem?_append,List.length_take,List.length_map]
 by_cases hq:q<l.length
 ·have hx:l[q]?=some (at_ l q):=by rw [at_,List.getD_eq_getElem?_getD,List.getElem?_eq_getElem hq]; rfl
  rw [List.getElem?_map,hx,Option.map_some,hh q hq]
  by_cases c:v≤q
  ·rw [if_pos c,if_neg (by omega),List.getElem?_map,List.getElem?_drop,show v+(q - min v l.length)=q by omega,List.getElem?_map,hx]; rfl
  ·rw [if_neg c,if_pos (by omega),List.getElem?_take_of_lt (by omega),List.getElem?_map,hx]; rfl
 ·rw [List.getElem?_eq_none (by simp; omega)]
  by_cases c:q<min v l.length
  ·omega
  ·rw [if_neg c,List.getElem?_eq_none (by simp; omega)]
theorem x8c.small {w:List Int} {n:Nat} {f:Nat→Nat→Bool} {l:List Int} {cur:List Nat} (h:x8c w n f l cur) (hw:∀ i,i<n→gI w i≤9) {x:Nat} (hx:x∈cur):0≤gI l x∧gI l x≤9:=by
 have h1:=h.cnt x (h.lt x hx)
 rw [if_pos hx] at h1
 have h2:=hw x (h.lt x hx)
 have h3:=h.lan.1 [gI l x] (List.singleton_sublist.2 (List.mem_map.2 ⟨x,hx,rfl⟩))
 simp [c2] at h3
 omega
theorem x8c.step {w:List Int} {n s:Nat} {f:Nat→Nat→Bool} {l:List Int} {rest0:List Nat} (h:x8c w n f l (s::rest0)):
  x8c w n (stG s (gI l s).toNat (z32 l rest0) (f,l) (z32 l rest0).length).1 (stG s (gI l s).toNat (z32 l rest0) (f,l) (z32 l rest0).length).2 (z32 l rest0)∧(gI l s).toNat≤(z32 l rest0).length∧0≤gI l s:=by
 have hp:=y49 l rest0
 have hpw:=x89 l rest0
 have hnd:=List.nodup_cons.1 h.nd
 have hsn:=h.lt s (List.mem_cons_self ..)
 have hsr:s∉z32 l rest0:=fun hm=>hnd.1 (hp.mem_iff.1 hm)
 have hrn:(z32 l rest0).Nodup:=hp.nodup_iff.2 hnd.2
 have hrl:∀ x∈z32 l rest0,x<n:=fun x hx=>h.lt x (List.mem_cons_of_mem _ (hp.mem_iff.1 hx))
 have hlan:Lan (gI l s::(z32 l rest0).map fun x=>gI l x):=by
  have:=h.lan
  rw [List.map_cons] at this
  exact this.perm ((hp.symm.map _).cons _)
 obtain ⟨v0,v1,v2⟩:=hlan.step hpw
 rw [List.length_map] at v1
 have hv:(gI l s).toNat≤(z32 l rest0).length:=by omega
 refine ⟨?_,hv,v0⟩
 have hst:=w1u (f0:=f) (l0:=l) (v:=(gI l s).toNat) hsn hsr hrn hrl h.len h.sup (fun x hx=>by
  have hx':=List.mem_cons_of_mem s (hp.mem_iff.1 hx)
  exact ⟨h.both s x (List.mem_cons_self ..) hx',h.both x s hx' (List.mem_cons_self ..)⟩) (z32 l rest0).length (Nat.le_refl _)
 generalize hrr:z32 l rest0=rest at*
 generalize (stG s (gI l s).toNat rest (f,l) rest.length).1=f' at hst⊢
 generalize (stG s (gI l s).toNat rest (f,l) rest.length).2=l' at hst⊢
 have hmem:∀ x,x∈s::rest0↔x=s∨x∈rest:=fun x=>by rw [List.mem_cons,hp.mem_iff]
 have hleft:∀ q,q<rest.length→gI l' (at_ rest q)=if (gI l s).toNat≤q then gI l (at_ rest q) - 1 else gI l (at_ rest q):=by
  intro q hq
  rw [hst.left _ (hrl _ (y1y hq))]
  by_cases c:(gI l s).toNat≤q
  ·rw [if_pos c,if_pos ⟨q,List.mem_range.2 hq,c,rfl⟩]
  ·rw [if_neg c,if_neg]
   rintro ⟨r,hr,h1,h2⟩
   have:=y9u hrn (List.mem_range.1 hr) hq h2
   omega
 have hstay:∀ x,x<n→x∉rest→gI l' x=gI l x:=by
  intro x hx hnx
  rw [hst.left x hx,if_neg]
  rintro ⟨r,hr,_,h2⟩
  exact hnx (h2▸y1y (List.mem_range.1 hr))
 refine ⟨hst.len,hrn,hrl,hst.sup,fun a=>?_,fun x hx=>?_,?_,fun a b ha hb=>?_,fun a b ha hb hne hno=>?_⟩
 ·rw [hst.same a a,h.irr a]
  ·by_cases e:a=s
   ·subst e; exact .inr hsr
   ·exact .inl e
  ·by_cases e:a=s
   ·subst e; exact .inr hsr
   ·exact .inl e
 ·by_cases e:x=s
  ·subst e
   have h1:=h.cnt x hx
   rw [if_pos (List.mem_cons_self ..)] at h1
   rw [if_neg hsr,hst.own]
   omega
  ·have h1:=h.cnt x hx
   have h2:=hst.oth x hx e
   by_cases c:x∈rest
   ·rw [if_pos ((hmem x).2 (.inr c))] at h1
    rw [if_pos c]; omega
   ·rw [if_neg (fun hm=>by rcases (hmem x).1 hm with hm|hm; exact e hm; exact c hm)] at h1
    have h3:=hstay x hx c
    rw [if_neg c]; omega
 ·rw [w3y hleft]; exact v2
 ·have ha':a≠s:=fun e=>hsr (e▸ha)
  have hb':b≠s:=fun e=>hsr (e▸hb)
  rw [hst.same a b (.inl ha') (.inl hb')]
  exact h.both a b ((hmem a).2 (.inr ha)) ((hmem b).2 (.inr hb))
 ·by_cases ea:a=s
  ·subst ea
   by_cases cb:b∈rest
   ·obtain ⟨q,hq,rfl⟩:=w84 cb
    obtain ⟨d1,d2⟩:=hst.done q hq
    rw [d1,d2]
    by_cases c:q<(gI l a).toNat
    ·rw [decide_eq_true ⟨hq,c⟩,decide_eq_false (by omega)]; rfl
    ·rw [decide_eq_false (by omega),decide_eq_true ⟨hq,by omega⟩]; rfl
   ·rw [hst.same a b (.inr cb) (.inl (Ne.symm hne)),hst.same b a (.inl (Ne.symm hne)) (.inr cb)]
    refine h.one a b ha hb hne fun hm=>?_
    rcases (hmem b).1 hm.2 with e|e
    ·exact hne e.symm
    ·exact cb e
  ·by_cases eb:b=s
   ·subst eb
    by_cases ca:a∈rest
    ·obtain ⟨q,hq,rfl⟩:=w84 ca
     obtain ⟨d1,d2⟩:=hst.done q hq
     rw [d1,d2]
     by_cases c:q<(gI l b).toNat
     ·rw [decide_eq_false (by omega),decide_eq_true ⟨hq,c⟩]; rfl
     ·rw [decide_eq_true ⟨hq,by omega⟩,decide_eq_false (by omega)]; rfl
    ·rw [hst.same a b (.inl ea) (.inr ca),hst.same b a (.inr ca) (.inl ea)]
     refine h.one a b ha hb hne fun hm=>?_
     rcases (hmem a).1 hm.1 with e|e
     ·exact ea e
     ·exact ca e
   ·rw [hst.same a b (.inl ea) (.inl eb),hst.same b a (.inl eb) (.inl ea)]
    refine h.one a b ha hb hne fun hm=>hno ⟨?_,?_⟩
    ·rcases (hmem a).1 hm.1 with e|e
     ·exact absurd e ea
     ·exact e
    ·rcases (hmem b).1 hm.2 with e|e
     ·exact absurd e eb
     ·exact e
theorem x9n {w:List Int} {n:Nat} {f:Nat→Nat→Bool} {l:List Int} (h:x8c w n f l []):w2p f n∧∀ x,x<n→(cnt n (f x):Int)=gI w x:=
 ⟨⟨fun i _=>h.irr i,fun i k hi hk hne=>h.one i k hi hk hne (by simp)⟩,fun x hx=>by
  have:=h.cnt x hx
  simpa using this⟩
theorem x8c.start {w:List Int} (hL:Lan w):x8c w w.length (fun _ _=>false) w (List.range w.length):=by
 refine ⟨rfl,List.nodup_range,fun x hx=>List.mem_range.1 hx,fun a b h=>by simp at h,fun a=>rfl,fun x hx=>?_,?_,fun a b _ _=>rfl,fun a b ha hb _ hno=>absurd ⟨List.mem_range.2 ha,List.mem_range.2 hb⟩ hno⟩
 ·rw [if_pos (List.mem_range.2 hx),y0r]; simp
 ·have e:(List.range w.length).map (fun x=>gI w x)=w:=by
   apply List.ext_getElem?
   intro i
   rw [List.getElem?_map]
   by_cases hi:i<w.length
   ·rw [List.getElem?_range hi,z2f hi]; rfl
   ·rw [List.getElem?_eq_none (by simp; omega),List.getElem?_eq_none (by omega)]; rfl
  rw [e]; exact hL
theorem x40 {l:List Nat} {q:Nat} (h:q<l.length):(toI l)[q]?=some ((at_ l q:Nat):Int):=by
 rw [toI,List.getElem?_map,at_,List.getD_eq_getElem?_getD,List.getElem?_eq_getElem h]; rfl
theorem w1h {n s v:Nat} (hn:n≤10) (hs:s<n) {f0:Nat→Nat→Bool} {l0:List Int} {pre:List Int} {rest:List Nat} (hsr:s∉rest) (hnd:rest.Nodup) (hr:∀ x∈rest,x<n) (hl:l0.length=n)
  (hsup:∀ a b,f0 a b=true→a<n∧b<n) (h0:∀ x∈rest,f0 s x=false∧f0 x s=false) (hv:gI l0 s=(v:Int)) (hsm:∀ x∈rest,0≤gI l0 x∧gI l0 x≤9) (off len:Nat) (hll:rest.length≤10):
  z4g (x1g std) (fld n f0,(z0d (pre++toI rest),(z0d l0,(0,(n,(off,(len,((s:Int),(pre.length,(rest.length,((rest.length:Int),((0:Int),()))))))))))))=
   some (fld n (stG s v rest (f0,l0) rest.length).1,(z0d (pre++toI rest),(z0d (stG s v rest (f0,l0) rest.length).2,(0,(n,(off,(len,()))))))):=by
 exact z47 (b:=x1g std) rest.length (fun k=>(fld n (stG s v rest (f0,l0) k).1,(z0d (pre++toI rest),(z0d (stG s v rest (f0,l0) k).2,(0,(n,(off,(len,((s:Int),(pre.length,(rest.length,((rest.length:Int),((k:Int),()))))))))))))) _ (fun k hk=>by
  have hst:=w1u (f0:=f0) (l0:=l0) (v:=v) hs hsr hnd hr hl hsup h0 k (by omega)
  have hw:=z02 (i:=k) (by omega)
  have hlt:(k:Int)<rest.length:=by omega
  have hk0:(0:Int)≤k:=by omega
  have hs0:(0:Int)≤s:=by omega
  have hs1:(s:Int)<n:=by omega
  have hs2:(s:Int)<((10:Nat):Int):=by omega
  have hxr:=y1y hk
  have hxn:=hr _ hxr
  have hx0:(0:Int)≤((at_ rest k:Nat):Int):=by omega
  have hx1:((at_ rest k:Nat):Int)<n:=by omega
  have hx2:((at_ rest k:Nat):Int)<((10:Nat):Int):=by omega
  have hxs:at_ rest k≠s:=fun e=>hsr (e▸hxr)
  have hA:(pre++toI rest)[pre.length+k]?=some ((at_ rest k:Nat):Int):=by
   rw [List.getElem?_append_right (by omega),Nat.add_sub_cancel_left,x40 hk]
  have hlen:=hst.len
  have hls:gI (stG s v rest (f0,l0) k).2 s=(v:Int):=by
   rw [hst.left s hs,if_neg,hv]
   rintro ⟨q,hq,_,h2⟩
   exact hsr (h2▸y1y (by have:=List.mem_range.1 hq; omega))
  have hlx:gI (stG s v rest (f0,l0) k).2 (at_ rest k)=gI l0 (at_ rest k):=by
   rw [hst.left _ hxn,if_neg]
   rintro ⟨q,hq,_,h2⟩
   have hq:=List.mem_range.1 hq
   have:=y9u hnd (by omega) hk h2
   omega
  have hsmx:=hsm _ hxr
  have hgs:=z2f (l:=(stG s v rest (f0,l0) k).2) (q:=s) (by omega)
  have hgx:=z2f (l:=(stG s v rest (f0,l0) k).2) (q:=at_ rest k) (by omega)
  rw [hls] at hgs
  rw [hlx] at hgx
  have hfe:=z2w n (stG s v rest (f0,l0) k).1 s (at_ rest k) (by omega) (by omega)
  have hfe':=z2w n (stG s v rest (f0,l0) k).1 (at_ rest k) s (by omega) (by omega)
  by_cases c:k<v
  ·have c':(k:Int)<(v:Int):=by omega
   have hstep:stG s v rest (f0,l0) (k+1)=(y7t (stG s v rest (f0,l0) k).1 s (at_ rest k),(stG s v rest (f0,l0) k).2):=by rw [stG,if_pos c]
   have hset:=x03 n (stG s v rest (f0,l0) k).1 s (at_ rest k) (by omega) (by omega)
   rw [hstep]
   rw [show fld n (y7t (stG s v rest (f0,l0) k).1 s (at_ rest k))=_ from hset.symm]
   generalize fld n (stG s v rest (f0,l0) k).1=F at hfe hfe'⊢
   generalize (stG s v rest (f0,l0) k).2=L at hgs hgx hlen⊢
   generalize pre++toI rest=A at hA⊢
   simp only [x1g,z0x,z0y,z0d,z0g,z06,z14,eq_self,not_true,not_false_eq_true,decide_true,decide_false,Bool.not_true,Bool.not_false,Int.reduceLT,Int.reduceNeg,Int.reduceGT,cond_true,cond_false,Int.reduceEq,Int.reduceLE,Int.reduceGE,hA,hgs,hgx,hfe,hlt,hk0,hs0,hs1,hs2,hx0,hx1,hx2,ge_iff_le,z0c,hw,c',z5b]
  ·have c':¬ (k:Int)<(v:Int):=by omega
   have hstep:stG s v rest (f0,l0) (k+1)=(y7t (stG s v rest (f0,l0) k).1 (at_ rest k) s,(stG s v rest (f0,l0) k).2.set (at_ rest k) (gI (stG s v rest (f0,l0) k).2 (at_ rest k) - 1)):=by rw [stG,if_neg c]
   have hset:=x03 n (stG s v rest (f0,l0) k).1 (at_ rest k) s (by omega) (by omega)
   rw [hstep,hlx]
   rw [show fld n (y7t (stG s v rest (f0,l0) k).1 (at_ rest k) s)=_ from hset.symm]
   have hws:IntKind.i64.wrap (gI l0 (at_ rest k) - 1)=gI l0 (at_ rest k) - 1:=by rw [z7s]<;>omega
   have hms:((stG s v rest (f0,l0) k).2.set (at_ rest k) (gI l0 (at_ rest k) - 1)).map eI=((stG s v rest (f0,l0) k).2.map eI).set (at_ rest k) (eI (gI l0 (at_ rest k) - 1)):=by rw [List.map_set]
   generalize fld n (stG s v rest (f0,l0) k).1=F at hfe hfe'⊢
   generalize (stG s v rest (f0,l0) k).2=L at hgs hgx hlen hms⊢
   generalize pre++toI rest=A at hA⊢
   simp only [x1g,z0x,z0y,z0d,z0g,z06,z14,eq_self,not_true,not_false_eq_true,decide_true,decide_false,Bool.not_true,Bool.not_false,Int.reduceLT,Int.reduceNeg,Int.reduceGT,cond_true,cond_false,Int.reduceEq,Int.reduceLE,Int.reduceGE,hA,hgs,hgx,hfe',hlt,hk0,hs0,hs1,hs2,hx0,hx1,hx2,ge_iff_le,z0c,z01,hw,hws,c',z5b,hms,List.length_set]) (by
  have hn:¬ (rest.length:Int)<rest.length:=by omega
  simp only [x1g,z0x,z0y,eq_self,not_true,not_false_eq_true,decide_true,decide_false,Bool.not_true,Bool.not_false,Int.reduceLT,Int.reduceNeg,Int.reduceGT,cond_true,cond_false,Int.reduceEq,Int.reduceLE,Int.reduceGE,hn])
theorem w00 (w:List Int) (n:Nat) (hn:n≤10) (hw:∀ i,i<n→gI w i≤9):∀ (m:Nat) (f:Nat→Nat→Bool) (l:List Int) (pre:List Int) (cur:List Nat),cur.length=m→m≤10→x8c w n f l cur→
  ∃ f' l',x8c w n f' l' []∧z4g (y9o it0 std) (fld n f,(z0d (pre++toI cur),(z0d l,(0,(n,(pre.length,(cur.length,())))))))=some (fld n f',()):=by
 intro m
 induction m with
 |zero=>
  intro f l pre cur hm _ h
  have e:cur=[]:=List.length_eq_zero_iff.1 hm
  subst e
  refine ⟨f,l,h,?_⟩
  have hz:¬ (((([]:List Nat).length:Nat):Int)>0):=by decide
  rw [z0p]
  simp only [y9o,z0x,z0y,eq_self,not_true,not_false_eq_true,decide_true,decide_false,Bool.not_true,Bool.not_false,Int.reduceLT,Int.reduceNeg,Int.reduceGT,cond_true,cond_false,Int.reduceEq,Int.reduceLE,Int.reduceGE,hz,List.length_nil,Int.natCast_zero,Int.lt_irrefl,gt_iff_lt]
 |succ m ih=>
  intro f l pre cur hm hm10 h
  match cur,hm,h with
  |s::rest0,hm,h=>
   rw [List.length_cons] at hm
   obtain ⟨h1,h2,h3⟩:=h.step
   have hp:=y49 l rest0
   have hnd:=List.nodup_cons.1 h.nd
   have hsn:=h.lt s (List.mem_cons_self ..)
   have hsr:s∉z32 l rest0:=fun hm=>hnd.1 (hp.mem_iff.1 hm)
   have hrn:(z32 l rest0).Nodup:=hp.nodup_iff.2 hnd.2
   have hrl:∀ x∈z32 l rest0,x<n:=fun x hx=>h.lt x (List.mem_cons_of_mem _ (hp.mem_iff.1 hx))
   have hlen:(z32 l rest0).length=m:=by rw [hp.length_eq]; omega
   obtain ⟨f',l',h4,h5⟩:=ih _ _ (pre++[(s:Int)]) (z32 l rest0) hlen (by omega) h1
   refine ⟨f',l',h4,?_⟩
   have hpl:z56 l (toI rest0):=fun q hq=>by
    rw [z7z] at hq
    have e:gI (toI rest0) q=((at_ rest0 q:Nat):Int):=by
     rw [gI,List.getD_eq_getElem?_getD,x40 hq]; rfl
    have:=h.lt _ (List.mem_cons_of_mem s (y1y hq))
    rw [e,h.len]; omega
   have h66:w51 it0 std (z0d ((pre++[(s:Int)])++toI rest0),(z0d l,(0,(l.length,((pre++[(s:Int)]).length,((toI rest0).length,()))))))=_:=w5q l (pre++[(s:Int)]) (toI rest0) hpl (by rw [z7z]; omega)
   rw [y8o,z7z,h.len] at h66
   have h30:it0 _ _ (x1g std) (fld n f,(z0d ((pre++[(s:Int)])++toI (z32 l rest0)),(z0d l,(0,(n,((pre++[(s:Int)]).length,(rest0.length,((s:Int),((pre++[(s:Int)]).length,((z32 l rest0).length,(((z32 l rest0).length:Int),((0:Int),()))))))))))))=_:=
    w1h (v:=(gI l s).toNat) (f0:=f) (l0:=l) (pre:=pre++[(s:Int)]) (rest:=z32 l rest0) hn hsn hsr hrn hrl h.len h.sup (fun x hx=>by
     have hx':=List.mem_cons_of_mem s (hp.mem_iff.1 hx)
     exact ⟨h.both s x (List.mem_cons_self ..) hx',h.both x s hx' (List.mem_cons_self ..)⟩) (by omega)
     (fun x hx=>h.small hw (List.mem_cons_of_mem s (hp.mem_iff.1 hx))) (pre++[(s:Int)]).length rest0.length (by omega)
   have hrr:(z32 l rest0).length=rest0.length:=hp.length_eq
   have hAe:pre++toI (s::rest0)=(pre++[(s:Int)])++toI rest0:=by simp [toI]
   have hpl1:(pre++[(s:Int)]).length=pre.length+1:=by simp
   have hA0:(z0d ((pre++[(s:Int)])++toI rest0))[pre.length]?=some (eI s):=by
    rw [z0d,List.getElem?_map,List.append_assoc,List.getElem?_append_right (by omega),Nat.sub_self]; rfl
   rw [hrr,hpl1] at h30
   rw [hpl1] at h66
   rw [hrr,hpl1] at h5
   have hg:((rest0.length+1:Nat):Int)>0:=by omega
   have hg1:(1:Int)≤((rest0.length+1:Nat):Int):=by omega
   have hg0:(0:Int)<((rest0.length+1:Nat):Int):=by omega
   have hz:(0:Int).toNat=0:=rfl
   have ho:(1:Int).toNat=1:=rfl
   have hln:=h.len
   have hil:(z0d l).length=n:=by rw [z0k,hln]
   rw [hAe,List.length_cons,z0p]
   generalize z0d ((pre++[(s:Int)])++toI rest0)=E at hA0 h66⊢
   generalize z0d ((pre++[(s:Int)])++toI (z32 l rest0))=E' at h66 h30 h5⊢
   generalize (stG s (gI l s).toNat (z32 l rest0) (f,l) rest0.length).1=f1 at h30 h5⊢
   generalize (stG s (gI l s).toNat (z32 l rest0) (f,l) rest0.length).2=l1 at h30 h5⊢
   have hb:y9o it0 std (fld n f,(E,(z0d l,(0,(n,(pre.length,(rest0.length+1,())))))))=some (.inl (fld n f1,(E',(z0d l1,(0,(n,(pre.length+1,(rest0.length,())))))))):=by
    simp only [y9o,z0x,z0y,z0g,z06,eq_self,not_true,not_false_eq_true,decide_true,decide_false,Bool.not_true,Bool.not_false,Int.reduceLT,Int.reduceNeg,Int.reduceGT,cond_true,cond_false,Int.reduceEq,Int.reduceLE,Int.reduceGE,hg,hg0,hg1,ge_iff_le,Int.le_refl,hz,ho,Nat.add_zero,Nat.add_sub_cancel,hA0,h66,h30,Bool.and_true]
   rw [hb]
   exact h5
theorem w9d (w:List Int) (h1:1≤w.length) (h10:w.length≤1000):G65 std (z0d w,())=some (z0d w,(0,(w.length,()))):=by
 have hne:¬ w.length≤0:=by omega
 have h6:w.length≤1000000:=by omega
 unfold G65
 simp only [z0x,z0y,eq_self,not_true,not_false_eq_true,decide_true,decide_false,Bool.not_true,Bool.not_false,Int.reduceLT,Int.reduceNeg,Int.reduceGT,cond_true,cond_false,Int.reduceEq,Int.reduceLE,Int.reduceGE,z0k,h1,hne,h6,List.drop_nil,List.take_nil,List.nil_append,List.length_nil,Nat.le_refl,Bool.and_true]
theorem w1i (F LE:List (List D)) (n:Nat) (hn:n≤1000):
  z4g (x4m std) (F,(LE,([],(0,(n,((n:Int),((0:Int),())))))))=some (F,(z0d (toI (List.range n)),(LE,(0,(n,()))))):=by
 have key:=z47 (b:=x4m std) n (fun i=>(F,(LE,(z0d (toI (List.range i)),(0,(n,((n:Int),((i:Int),())))))))) (F,(z0d (toI (List.range n)),(LE,(0,(n,()))))) (fun i hi=>by
  have hw:=z02 (i:=i) (by omega)
  have hlt:(i:Int)<n:=by omega
  have hll:(toI (List.range i)).length=i:=by rw [z7z,List.length_range]
  have hs:toI (List.range (i+1))=toI (List.range i)++[(i:Int)]:=by rw [List.range_succ,y94]; rfl
  rw [hs]
  generalize toI (List.range i)=B at hll⊢
  have hle:B.length+1≤1000000:=by omega
  have hbl:(B.map eI).length=B.length:=by rw [List.length_map]
  simp only [x4m,z0x,z0y,z0d,eq_self,not_true,not_false_eq_true,decide_true,decide_false,Bool.not_true,Bool.not_false,Int.reduceLT,Int.reduceNeg,Int.reduceGT,cond_true,cond_false,Int.reduceEq,Int.reduceLE,Int.reduceGE,hlt,z0c,hw,hbl,hle,z5b,List.map_append,List.map_cons,List.map_nil,List.drop_zero,List.take_of_length_le (Nat.le_of_eq hbl),Nat.le_refl,Bool.and_true,
   List.take_succ_cons,List.take_zero,List.length_append,List.length_cons,List.length_nil,Nat.zero_add]) (by
  have hn:¬ (n:Int)<n:=by omega
  simp only [x4m,z0x,z0y,eq_self,not_true,not_false_eq_true,decide_true,decide_false,Bool.not_true,Bool.not_false,Int.reduceLT,Int.reduceNeg,Int.reduceGT,cond_true,cond_false,Int.reduceEq,Int.reduceLE,Int.reduceGE,hn])
 exact key
theorem x8j (w:List Int) (h:z1a w=0) (hL:Lan w):∃ d,G30 std (z0d w,())=some (z0o fe d,(0,()))∧z1c d=0∧z1l d=w:=by
 have hl:=z7i h
 have h61:g61 it0 std (z0d w,())=_:=y39 w
 have h64:g64 it0 std (z0d w,())=_:=x8g w h hL
 have h65:=w9d w (by omega) (by omega)
 obtain ⟨f,l,h1,h2⟩:=w00 w w.length (by omega) (fun i hi=>(y64 h hi).2) (List.range w.length).length (fun _ _=>false) w [] (List.range w.length) rfl (by rw [List.length_range]; omega) (x8c.start hL)
 obtain ⟨h3,h4⟩:=x9n h1
 refine ⟨dOf f w.length,?_,x2l hl.1 hl.2 h3,?_⟩
 ·have h49:g49 it0 std (fld w.length f,())=_:=w9i f w.length hl.2 fun i k hk=>by
   cases hb:f i k with
   |false=>rfl
   |true=>have:=(h1.sup i k hb).2; omega
  have h5:it0 _ _ (x4m std) (fld w.length (fun _ _=>false),(z0d w,([],(0,(w.length,((w.length:Int),((0:Int),())))))))=_:=w1i (fld w.length (fun _ _=>false)) (z0d w) w.length (by omega)
  have h2:it0 _ _ (y9o it0 std) (fld w.length (fun _ _=>false),(z0d (toI (List.range w.length)),(z0d w,(0,(w.length,(0,((List.range w.length).length,())))))))=_:=h2
  rw [List.length_range] at h2
  have hrl:(z0d (toI (List.range w.length))).length=w.length:=by rw [z0k,z7z,List.length_range]
  generalize z0d (toI (List.range w.length))=E at h2 h5 hrl
  have hspl:std.splice (std.rep 101 [D.int IntKind.i64 0]) 0 (fld w.length fun _ _=>false)=fld w.length fun _ _=>false:=by
   show (List.replicate 101 (eI 0)).take 0++fld w.length (fun _ _=>false)++(List.replicate 101 (eI 0)).drop (0+(fld w.length fun _ _=>false).length)=_
   rw [x6q,List.take_zero,List.nil_append,List.drop_of_length_le (by simp),List.append_nil]
  have hr0:(List.replicate 101 (eI 0))[0]?=some (eI 0):=rfl
  have hr1:(0:Nat)+101≤101:=by decide
  unfold G30 g30
  simp only []
  generalize hX:std.splice (std.rep 101 [D.int IntKind.i64 0]) 0 _=X
  have hXe:X=fld w.length fun _ _=>false:=by
   have hlen:std.ofNat (std.len (z0d w))=(w.length:Int):=by
    show (((z0d w).length:Nat):Int)=_
    rw [z0k]
   rw [←hX,hlen]; exact hspl
  subst hXe
  generalize fld w.length (fun _ _=>false)=Z at h2 h5
  simp only [z0x,z0y,z0g,z06,eq_self,not_true,not_false_eq_true,decide_true,decide_false,Bool.not_true,Bool.not_false,Int.reduceLT,Int.reduceNeg,Int.reduceGT,cond_true,cond_false,Int.reduceEq,Int.reduceLE,Int.reduceGE,h61,h,h64,h65,z5b,hr0,hr1,List.length_replicate,z0k,h5,hrl,h2,h49,ne_eq]
 ·rw [w0o]
  apply List.ext_getElem?
  intro i
  rw [List.getElem?_map]
  by_cases hi:i<w.length
  ·rw [List.getElem?_range hi,z2f hi,Option.map_some,h4 i hi]
  ·rw [List.getElem?_eq_none (by simp; omega),List.getElem?_eq_none (by omega)]; rfl
end Go.Am
end
