/- Texts of this claim. -/
import Derived.Test.YtolfgnbldofcjaaT4
import Derived.Test.YtolfgnbldofcjaaProg
import Derived.KernelRfl
set_option linter.unusedVariables false
set_option linter.unusedSimpArgs false
set_option linter.unusedSectionVars false
set_option maxRecDepth 100000
set_option maxHeartbeats 0
noncomputable section
namespace Go.Am
def w42:Ctr:=
 ⟨57,[.list 2, .agg [.int .i64, .int .i64], .int .i64],[],[(.ret,⟨[(0, .bool)],[],1⟩)]⟩
def la57:List LA:=
 [⟨94,[false,true],7,⟨⟨[(0, .yld 6),(1, .bptr 5 0),(6, .list 2),(7, .int .i64),(8, .int .i64)],[.box [.list 2], .box [.int .i64, .int .i64], .box [.int .i64], .box [.bool], .box [.clo 84 [] [.bptr 2 0]], .box [.list 2], .loop Go.LoopState.ready Option.none 57 [Bool.false,Bool.true,Bool.false,Bool.true,Bool.true,Bool.true] 47 [(22, .clo 94 [] [.bptr 5 0]),(4, .bptr 1 0),(3, .bptr 0 0),(7, .bptr 4 0),(6, .bptr 3 0)]],33⟩,[(AX.ret,⟨[],[.box [.list 2], .box [.int .i64, .int .i64], .box [.int .i64], .box [.bool], .box [.clo 84 [] [.bptr 2 0]], .box [.list 2], .loop Go.LoopState.ready Option.none 57 [Bool.false,Bool.true,Bool.false,Bool.true,Bool.true,Bool.true] 47 [(22, .clo 94 [] [.bptr 5 0]),(4, .bptr 1 0),(3, .bptr 0 0),(7, .bptr 4 0),(6, .bptr 3 0)]],33⟩),(AX.ret,⟨[],[.box [.list 2], .box [.int .i64, .int .i64], .box [.int .i64], .box [.bool], .box [.clo 84 [] [.bptr 2 0]], .box [.list 2], .loop Go.LoopState.done (Option.some Go.Code.ret) 57 [Bool.false,Bool.true,Bool.false,Bool.true,Bool.true,Bool.true] 47 [(22, .clo 94 [] [.bptr 5 0]),(4, .bptr 1 0),(3, .bptr 0 0),(7, .bptr 4 0),(6, .bptr 3 0)]],33⟩),((AX.exit 0),⟨[],[.box [.list 2], .box [.int .i64, .int .i64], .box [.int .i64], .box [.bool], .box [.clo 84 [] [.bptr 2 0]], .box [.list 2], .loop Go.LoopState.ready Option.none 57 [Bool.false,Bool.true,Bool.false,Bool.true,Bool.true,Bool.true] 47 [(22, .clo 94 [] [.bptr 5 0]),(4, .bptr 1 0),(3, .bptr 0 0),(7, .bptr 4 0),(6, .bptr 3 0)]],33⟩)]⟩⟩]
def ja57:List JA:=
 [⟨57,[true,false,true,true,true],0,[(AX.normal,⟨[(6, .bptr 0 0)],[.box [.bool]],47⟩),(AX.ret,⟨[(6, .bptr 0 0)],[.box [.bool]],47⟩)]⟩,
 ⟨57,[false,true,false,true,false,true,false,true,true,true],19,[(AX.normal,⟨[(3, .bptr 0 0),(4, .bptr 1 0),(6, .bptr 3 0),(7, .bptr 4 0),(46, .bool)],[.box [.list 2], .box [.int .i64, .int .i64], .box [.int .i64], .box [.bool], .box [.clo 84 [] [.bptr 2 0]], .box [.list 2], .dead, .box [.int .i64, .int .i64], .dead, .dead, .dead, .dead, .dead, .dead, .dead, .dead, .dead, .dead, .box [.int .i64, .int .i64]],47⟩)]⟩]
def v88:List CF:=
 []
def an57:Anns:=
 ⟨v88,ja57,[]⟩
def x4v (p:Prim):(LD×T63)→Option ((LD×T63)⊕((LD×T12)⊕((LD×T12)⊕(LD×T12)))):=
 fun a=>opt.run _ (
 opt.ask _ (p.cmp .lss a.2.2.2.2.2.2.2.2.1 a.2.2.2.2.2.2.2.1) (
 opt.need _ (p.rowOk a.2.2.2.2.2.2.1 (p.nat a.2.2.2.2.2.2.2.2.1) [ci,ci])<|
 opt.need _ (p.cmp .geq a.2.2.2.2.2.2.2.2.1 (0:Int))<|
 opt.need _ (p.cmp .neq (p.ofNat (p.len a.2.2.2.2.2.1)) (0:Int))<|
 opt.need _ (p.rowOk a.2.2.2.2.2.1 (p.nat (p.ar .rem .i64 (p.ar .add .i64 a.2.2.2.2.2.2.2.2.1 (1:Int)) (p.ofNat (p.len a.2.2.2.2.2.1)))) [ci,ci])<|
 opt.need _ (p.cmp .geq (p.ar .rem .i64 (p.ar .add .i64 a.2.2.2.2.2.2.2.2.1 (1:Int)) (p.ofNat (p.len a.2.2.2.2.2.1))) (0:Int))<|
 opt.ask _ (bif (p.cmp .eql (p.ar .sub .i64 (p.rdI a.2.2.2.2.2.1 (p.nat (p.ar .rem .i64 (p.ar .add .i64 a.2.2.2.2.2.2.2.2.1 (1:Int)) (p.ofNat (p.len a.2.2.2.2.2.1)))) 0) (p.rdI a.2.2.2.2.2.2.1 (p.nat a.2.2.2.2.2.2.2.2.1) 0)) (0:Int)) then (bif (p.cmp .eql (p.ar .sub .i64 (p.rdI a.2.2.2.2.2.1 (p.nat (p.ar .rem .i64 (p.ar .add .i64 a.2.2.2.2.2.2.2.2.1 (1:Int)) (p.ofNat (p.len a.2.2.2.2.2.1)))) 1) (p.rdI a.2.2.2.2.2.2.1 (p.nat a.2.2.2.2.2.2.2.2.1) 1)) (0:Int)) then Bool.true else Bool.false) else Bool.false) (
 opt.ret _ (Sum.inr (Sum.inl (a.1,(a.2.1,(a.2.2.1,(a.2.2.2.1,(a.2.2.2.2.1,(a.2.2.2.2.2.1,()))))))))) (
 opt.need _ (p.and Bool.true (p.and Bool.true Bool.true))<|
 opt.bnd ((LD×T64)) _ (
 opt.run ((LD×T64)) (
 opt.ask _ (p.cmp .lss (p.ar .sub .i64 (p.ar .mul .i64 (p.ar .sub .i64 (p.rdI a.2.2.2.2.2.1 (p.nat (p.ar .rem .i64 (p.ar .add .i64 a.2.2.2.2.2.2.2.2.1 (1:Int)) (p.ofNat (p.len a.2.2.2.2.2.1)))) 0) (p.rdI a.2.2.2.2.2.2.1 (p.nat a.2.2.2.2.2.2.2.2.1) 0)) (p.ar .sub .i64 a.2.2.1 (p.ar .mul .i64 (p.rdI a.2.2.2.2.2.2.1 (p.nat a.2.2.2.2.2.2.2.2.1) 1) a.2.2.2.1))) (p.ar .mul .i64 (p.ar .sub .i64 (p.rdI a.2.2.2.2.2.1 (p.nat (p.ar .rem .i64 (p.ar .add .i64 a.2.2.2.2.2.2.2.2.1 (1:Int)) (p.ofNat (p.len a.2.2.2.2.2.1)))) 1) (p.rdI a.2.2.2.2.2.2.1 (p.nat a.2.2.2.2.2.2.2.2.1) 1)) (p.ar .sub .i64 a.2.1 (p.ar .mul .i64 (p.rdI a.2.2.2.2.2.2.1 (p.nat a.2.2.2.2.2.2.2.2.1) 0) a.2.2.2.1)))) (0:Int)) (
 opt.ret _ (a.1,(a.2.1,(a.2.2.1,(a.2.2.2.1,(a.2.2.2.2.1,(a.2.2.2.2.2.1,((p.rdI a.2.2.2.2.2.2.1 (p.nat a.2.2.2.2.2.2.2.2.1) 0),((p.rdI a.2.2.2.2.2.2.1 (p.nat a.2.2.2.2.2.2.2.2.1) 1),((p.ar .sub .i64 (p.rdI a.2.2.2.2.2.1 (p.nat (p.ar .rem .i64 (p.ar .add .i64 a.2.2.2.2.2.2.2.2.1 (1:Int)) (p.ofNat (p.len a.2.2.2.2.2.1)))) 0) (p.rdI a.2.2.2.2.2.2.1 (p.nat a.2.2.2.2.2.2.2.2.1) 0)),((p.ar .sub .i64 (p.rdI a.2.2.2.2.2.1 (p.nat (p.ar .rem .i64 (p.ar .add .i64 a.2.2.2.2.2.2.2.2.1 (1:Int)) (p.ofNat (p.len a.2.2.2.2.2.1)))) 1) (p.rdI a.2.2.2.2.2.2.1 (p.nat a.2.2.2.2.2.2.2.2.1) 1)),(Bool.true,())))))))))))) (
 opt.ask _ (p.cmp .eql (p.ofNat (p.len a.1)) (2:Int)) (
 opt.ret _ (a.1,(a.2.1,(a.2.2.1,(a.2.2.2.1,(a.2.2.2.2.1,(a.2.2.2.2.2.1,((p.rdI a.2.2.2.2.2.2.1 (p.nat a.2.2.2.2.2.2.2.2.1) 0),((p.rdI a.2.2.2.2.2.2.1 (p.nat a.2.2.2.2.2.2.2.2.1) 1),((p.ar .sub .i64 (p.rdI a.2.2.2.2.2.1 (p.nat (p.ar .rem .i64 (p.ar .add .i64 a.2.2.2.2.2.2.2.2.1 (1:Int)) (p.ofNat (p.len a.2.2.2.2.2.1)))) 0) (p.rdI a.2.2.2.2.2.2.1 (p.nat a.2.2.2.2.2.2.2.2.1) 0)),((p.ar .sub .i64 (p.rdI a.2.2.2.2.2.1 (p.nat (p.ar .rem .i64 (p.ar .add .i64 a.2.2.2.2.2.2.2.2.1 (1:Int)) (p.ofNat (p.len a.2.2.2.2.2.1)))) 1) (p.rdI a.2.2.2.2.2.2.1 (p.nat a.2.2.2.2.2.2.2.2.1) 1)),((p.cmp .lss (p.ar .add .i64 (p.ar .mul .i64 (p.ar .sub .i64 (p.rdI a.2.2.2.2.2.1 (p.nat (p.ar .rem .i64 (p.ar .add .i64 a.2.2.2.2.2.2.2.2.1 (1:Int)) (p.ofNat (p.len a.2.2.2.2.2.1)))) 0) (p.rdI a.2.2.2.2.2.2.1 (p.nat a.2.2.2.2.2.2.2.2.1) 0)) (p.ar .sub .i64 a.2.1 (p.ar .mul .i64 (p.rdI a.2.2.2.2.2.2.1 (p.nat a.2.2.2.2.2.2.2.2.1) 0) a.2.2.2.1))) (p.ar .mul .i64 (p.ar .sub .i64 (p.rdI a.2.2.2.2.2.1 (p.nat (p.ar .rem .i64 (p.ar .add .i64 a.2.2.2.2.2.2.2.2.1 (1:Int)) (p.ofNat (p.len a.2.2.2.2.2.1)))) 1) (p.rdI a.2.2.2.2.2.2.1 (p.nat a.2.2.2.2.2.2.2.2.1) 1)) (p.ar .sub .i64 a.2.2.1 (p.ar .mul .i64 (p.rdI a.2.2.2.2.2.2.1 (p.nat a.2.2.2.2.2.2.2.2.1) 1) a.2.2.2.1)))) (0:Int)),())))))))))))) (
 opt.ret _ (a.1,(a.2.1,(a.2.2.1,(a.2.2.2.1,(a.2.2.2.2.1,(a.2.2.2.2.2.1,((p.rdI a.2.2.2.2.2.2.1 (p.nat a.2.2.2.2.2.2.2.2.1) 0),((p.rdI a.2.2.2.2.2.2.1 (p.nat a.2.2.2.2.2.2.2.2.1) 1),((p.ar .sub .i64 (p.rdI a.2.2.2.2.2.1 (p.nat (p.ar .rem .i64 (p.ar .add .i64 a.2.2.2.2.2.2.2.2.1 (1:Int)) (p.ofNat (p.len a.2.2.2.2.2.1)))) 0) (p.rdI a.2.2.2.2.2.2.1 (p.nat a.2.2.2.2.2.2.2.2.1) 0)),((p.ar .sub .i64 (p.rdI a.2.2.2.2.2.1 (p.nat (p.ar .rem .i64 (p.ar .add .i64 a.2.2.2.2.2.2.2.2.1 (1:Int)) (p.ofNat (p.len a.2.2.2.2.2.1)))) 1) (p.rdI a.2.2.2.2.2.2.1 (p.nat a.2.2.2.2.2.2.2.2.1) 1)),(Bool.false,()))))))))))))))) fun b=>
 opt.ask _ b.2.2.2.2.2.2.2.2.2.2.1 (
 opt.ret _ (Sum.inr (Sum.inr (Sum.inl (b.1,(b.2.1,(b.2.2.1,(b.2.2.2.1,(Bool.false,(b.2.2.2.2.2.1,())))))))))) (
 opt.ret _ (Sum.inl (b.1,(b.2.1,(b.2.2.1,(b.2.2.2.1,(b.2.2.2.2.1,(b.2.2.2.2.2.1,(a.2.2.2.2.2.2.1,(a.2.2.2.2.2.2.2.1,((p.ar .add .i64 a.2.2.2.2.2.2.2.2.1 (1:Int)),()))))))))))))) (
 opt.ret _ (Sum.inr (Sum.inr (Sum.inr (a.1,(a.2.1,(a.2.2.1,(a.2.2.2.1,(a.2.2.2.2.1,(a.2.2.2.2.2.1,())))))))))))
def g57 (it:It):(p:Prim)→(LD×T7)→Option T2:=
 fun p x=>
 opt.ask _ (p.cmp .eql (p.ofNat (p.len x.1)) (1:Int)) (
 opt.need _ (p.rowOk x.1 (p.nat (0:Int)) [ci,ci])<|
 opt.need _ (p.and Bool.true (p.and Bool.true Bool.true))<|
 opt.ret _ ((bif (p.cmp .eql x.2.1 (p.ar .mul .i64 (p.rdI x.1 (p.nat (0:Int)) 0) x.2.2.2.1)) then (bif (p.cmp .eql x.2.2.1 (p.ar .mul .i64 (p.rdI x.1 (p.nat (0:Int)) 1) x.2.2.2.1)) then Bool.true else Bool.false) else Bool.false),())) (
 opt.alt T2 T2 _ (
 opt.run (((Bool×Unit)⊕(Bool×Unit))) (
 opt.alt ((LD×T12)) (((LD×T12)⊕(LD×T12))) _ (
 it _ _ (x4v p) (x.1,(x.2.1,(x.2.2.1,(x.2.2.2.1,(Bool.false,(x.1,(x.1,((p.ofNat (p.len x.1)),((0:Int),())))))))))) (fun a=>
 opt.ret _ (Sum.inl (a.2.2.2.2.1,()))) (fun b=>
 opt.alt ((LD×T12)) ((LD×T12)) _ (some b) (fun c=>
 opt.ret _ (Sum.inr (c.2.2.2.2.1,()))) (fun d=>
 opt.bnd ((LD×T12)) _ (some d) fun e=>
 opt.ret _ (Sum.inl (e.2.2.2.2.1,())))))) (fun f=>
 opt.ret _ (Bool.true,())) (fun g=>
 opt.bnd T2 _ (some g) fun h=>
 opt.ret _ (h.1,())))
def G57:=g57 it0
theorem v67:CtrOk PG w42 (G57 std):=okF (a:=an57) (l:=la57) (gN) (by kernel_rfl) fun _ _=>by kernel_rfl
def w9j:Ctr:=
 ⟨77,[.int .i64],[],[(.ret,⟨[(0, .int .i64)],[],1⟩)]⟩
def la77:List LA:=
 []
def ja77:List JA:=
 []
def v8w:List CF:=
 []
def an77:Anns:=
 ⟨v8w,ja77,[]⟩
def G77:(p:Prim)→T1→Option T0:=
 fun p x=>
 opt.ret _ ((p.mm .gtr x.1 (p.ar .sub .i64 (0:Int) x.1)),())
theorem u0m:CtrOk PG w9j (G77 std):=okF (a:=an77) (l:=la77) (gN) (by kernel_rfl) fun _ _=>by kernel_rfl
def w9i:Ctr:=
 ⟨93,[.list 1],[],[(.ret,⟨[(0, .int .i64)],[],1⟩)]⟩
def la93:List LA:=
 [⟨93,[false,true,false,true,true],0,⟨⟨[(3, .int .i64),(6, .list 1),(7, .int .i64),(8, .int .i64)],[],22⟩,[((AX.exit 0),⟨[(3, .int .i64)],[],22⟩)]⟩⟩,
 ⟨93,[false,true,true,false,false,true,true,false,false,true,false,true,true],0,⟨⟨[(3, .int .i64),(5, .int .i64),(6, .list 1),(7, .int .i64),(8, .int .i64)],[],22⟩,[((AX.exit 2),⟨[(3, .int .i64),(6, .list 1),(7, .int .i64),(8, .int .i64)],[],22⟩)]⟩⟩]
def ja93:List JA:=
 []
def v8m:List CF:=
 [⟨w9j,G77⟩]
def an93:Anns:=
 ⟨v8m,ja93,[]⟩
def x8u (p:Prim):T52→Option ((Int×(Int×(LD×(Int×(Int×Unit)))))⊕(Int×(LD×(Int×(Int×Unit))))):=
 fun a=>opt.run _ (
 opt.ask _ (p.cmp .neq a.2.1 (0:Int)) (
 opt.need _ (p.cmp .neq a.2.1 (0:Int))<|
 opt.ret _ (Sum.inl (a.2.1,((p.ar .rem .i64 a.1 a.2.1),(a.2.2.1,(a.2.2.2.1,(a.2.2.2.2.1,()))))))) (
 opt.ret _ (Sum.inr (a.1,(a.2.2.1,(a.2.2.2.1,(a.2.2.2.2.1,())))))))
def x8p (it:It) (p:Prim):T47→Option ((Int×(LD×(Int×(Int×Unit))))⊕(Int×Unit)):=
 fun a=>opt.run _ (
 opt.ask _ (p.cmp .lss a.2.2.2.1 a.2.2.1) (
 opt.need _ (p.rowOk a.2.1 (p.nat a.2.2.2.1) [ci])<|
 opt.need _ (p.cmp .geq a.2.2.2.1 (0:Int))<|
 opt.bnd T0 _ (G77 p ((p.rdI a.2.1 (p.nat a.2.2.2.1) 0),())) fun b=>
 opt.bnd ((Int×(LD×(Int×(Int×Unit))))) _ (
 it _ _ (x8u p) (a.1,(b.1,(a.2.1,(a.2.2.1,(a.2.2.2.1,())))))) fun c=>
 opt.ret _ (Sum.inl (c.1,(c.2.1,(c.2.2.1,((p.ar .add .i64 c.2.2.2.1 (1:Int)),())))))) (
 opt.ret _ (Sum.inr (a.1,()))))
def g93 (it:It):(p:Prim)→(LD×Unit)→Option T0:=
 fun p x=>
 opt.bnd T0 _ (
 it _ _ (x8p it p) ((0:Int),(x.1,((p.ofNat (p.len x.1)),((0:Int),()))))) fun a=>
 opt.ret _ (a.1,())
def G93:=g93 it0
theorem u0k:CtrOk PG w9i (G93 std):=okF (a:=an93) (l:=la93) (gC u0m (gN)) (by kernel_rfl) fun _ _=>by kernel_rfl
def w9l:Ctr:=
 ⟨65,[.int .i64, .int .i64],[],[(.ret,⟨[(0, .agg [.int .i64, .int .i64])],[],1⟩)]⟩
def la65:List LA:=
 []
def ja65:List JA:=
 []
def v82:List CF:=
 [⟨w9i,G93⟩]
def an65:Anns:=
 ⟨v82,ja65,[]⟩
def g65 (it:It):(p:Prim)→T3→Option T4:=
 fun p x=>
 opt.need _ (p.and (p.leN (p.add 0 2) (p.len [[(D.int .i64 x.1)],[(D.int .i64 x.2.1)]])) Bool.true)<|
 opt.bnd T0 _ (g93 it p ((p.cut [[(D.int .i64 x.1)],[(D.int .i64 x.2.1)]] 0 2),())) fun a=>
 opt.need _ (p.cmp .neq a.1 (0:Int))<|
 opt.need _ (p.cmp .neq a.1 (0:Int))<|
 opt.ret _ ((p.ar .quo .i64 x.1 a.1),((p.ar .quo .i64 x.2.1 a.1),()))
def G65:=g65 it0
theorem u0o:CtrOk PG w9l (G65 std):=okF (a:=an65) (l:=la65) (gC u0k (gN)) (by kernel_rfl) fun _ _=>by kernel_rfl
def z40:Ctr:=
 ⟨71,[.agg [.int .i64, .int .i64], .agg [.int .i64, .int .i64]],[],[(.ret,⟨[(0, .bool)],[],1⟩)]⟩
def la71:List LA:=
 []
def ja71:List JA:=
 [⟨71,[false,false,true,true,true,true],0,[(AX.normal,⟨[(2, .bptr 0 0),(3, .bptr 1 0),(7, .int .i64),(8, .int .i64),(40, .bool)],[.box [.int .i64, .int .i64], .box [.int .i64, .int .i64]],53⟩)]⟩]
def w8v:(Prim→Tup (z40).scs→Option (STup (scss (z40).outs)))→List CF:=
 fun R=>[⟨z40,R⟩]
def an71:(Prim→Tup (z40).scs→Option (STup (scss (z40).outs)))→Anns:=
 fun R=>⟨w8v R,ja71,[]⟩
def G71:(Prim→Tup (z40).scs→Option (STup (scss (z40).outs)))→(p:Prim)→T11→Option T2:=
 fun R=>fun p x=>
 opt.need _ (p.cmp .neq x.2.1 (0:Int))<|
 opt.need _ (p.cmp .neq x.2.2.2.1 (0:Int))<|
 opt.ask _ (p.cmp .neq (p.ar .quo .i64 x.1 x.2.1) (p.ar .quo .i64 x.2.2.1 x.2.2.2.1)) (
 opt.ret _ ((p.cmp .lss (p.ar .quo .i64 x.1 x.2.1) (p.ar .quo .i64 x.2.2.1 x.2.2.2.1)),())) (
 opt.need _ (p.cmp .neq x.2.1 (0:Int))<|
 opt.need _ (p.cmp .neq x.2.2.2.1 (0:Int))<|
 opt.bnd T45 _ (
 opt.run T45 (
 opt.ask _ (p.cmp .eql (p.ar .rem .i64 x.1 x.2.1) (0:Int)) (
 opt.ret _ (x.1,(x.2.1,(x.2.2.1,(x.2.2.2.1,((p.ar .rem .i64 x.1 x.2.1),((p.ar .rem .i64 x.2.2.1 x.2.2.2.1),(Bool.true,())))))))) (
 opt.ret _ (x.1,(x.2.1,(x.2.2.1,(x.2.2.2.1,((p.ar .rem .i64 x.1 x.2.1),((p.ar .rem .i64 x.2.2.1 x.2.2.2.1),((p.cmp .eql (p.ar .rem .i64 x.2.2.1 x.2.2.2.1) (0:Int)),())))))))))) fun a=>
 opt.ask _ a.2.2.2.2.2.2.1 (
 opt.ret _ ((p.cmp .lss a.2.2.2.2.1 a.2.2.2.2.2.1),())) (
 opt.bnd T2 _ (R p (a.2.2.2.1,(a.2.2.2.2.2.1,(a.2.1,(a.2.2.2.2.1,()))))) fun b=>
 opt.ret _ (b.1,())))
def u0f:Nat→Prim→Tup (z40).scs→Option (STup (scss (z40).outs)):=
 fun n=>Nat.rec (motive:=fun _=>(Prim→Tup (z40).scs→Option (STup (scss (z40).outs)))) (fun _ _=>none) (fun _ f p x=>G71 f p x) n
def F71:Prim→Tup (z40).scs→Option (STup (scss (z40).outs)):=
 u0f 100
theorem eq71 (R:(Prim→Tup (z40).scs→Option (STup (scss (z40).outs)))) (p:Prim) (x:Tup (z40).scs):bodyRun opt p (autoEnv Go.Proofs.Try.prog) (mkOrc opt p (autoEnv Go.Proofs.Try.prog) 400 (an71 R) la71) 400 z40 x=G71 R p x:=by kernel_rfl
theorem v8i (R:(Prim→Tup (z40).scs→Option (STup (scss (z40).outs)))) (hR:CtrOk Go.Proofs.Try.prog z40 (R std)):GamOk Go.Proofs.Try.prog (w8v R):=by
 intro cf h
 simp only [w8v,List.mem_cons,List.not_mem_nil,or_false] at h
 rcases h with rfl
 ·exact hR
theorem x6a:z3c Go.Proofs.Try.prog 71:=enters_auto (b:=_) rfl (by kernel_rfl)
theorem x97 (R:(Prim→Tup (z40).scs→Option (STup (scss (z40).outs)))) (hR:CtrOk Go.Proofs.Try.prog z40 (R std)):CtrOk Go.Proofs.Try.prog z40 (fun x=>G71 R std x):=ctr_of_body (autoEnv_ok follows_mixed) (mkOrc_ok (autoEnv_ok follows_mixed) (v8i R hR) _) x6a (fun x=>eq71 R std x)
theorem w6e:∀ n,CtrOk Go.Proofs.Try.prog z40 (u0f n std)
 |0=>⟨x6a,fun x y h=>nomatch h⟩
 |n+1=>x97 (u0f n) (w6e n)
theorem ok71:CtrOk Go.Proofs.Try.prog z40 (F71 std):=w6e 100
def v4c:Ctr:=
 ⟨76,[.agg [.int .i64, .int .i64, .int .i64, .int .i64], .agg [.int .i64, .int .i64, .int .i64, .int .i64]],[],[(.ret,⟨[(0, .tuple [.agg [.int .i64, .int .i64, .int .i64], .bool])],[],1⟩)]⟩
def la76:List LA:=
 []
def ja76:List JA:=
 [⟨76,[true,false,true,true,true,true],0,[(AX.normal,⟨[(2, .bptr 0 0),(4, .bptr 1 0),(6, .int .i64),(8, .int .i64),(9, .int .i64)],[.box [.int .i64, .int .i64, .int .i64, .int .i64], .box [.int .i64, .int .i64, .int .i64]],101⟩)]⟩,
 ⟨76,[false,false,true,true,true,true,true],0,[(AX.normal,⟨[(2, .bptr 0 0),(4, .bptr 1 0),(6, .int .i64),(8, .int .i64),(57, .bool)],[.box [.int .i64, .int .i64, .int .i64, .int .i64], .box [.int .i64, .int .i64, .int .i64]],101⟩)]⟩]
def v8x:List CF:=
 [⟨w9i,G93⟩]
def an76:Anns:=
 ⟨v8x,ja76,[]⟩
def g76 (it:It):(p:Prim)→(Int×(Int×(Int×(Int×(Int×(Int×(Int×(Int×Unit))))))))→Option T21:=
 fun p x=>
 opt.bnd T65 _ (
 opt.run T65 (
 opt.ask _ (p.cmp .lss (p.ar .sub .i64 (p.ar .mul .i64 x.2.2.1 x.2.2.2.2.2.2.2.1) (p.ar .mul .i64 x.2.2.2.1 x.2.2.2.2.2.2.1)) (0:Int)) (
 opt.ret _ (x.1,(x.2.1,(x.2.2.1,(x.2.2.2.1,((0:Int),((0:Int),((0:Int),((p.ar .sub .i64 (0:Int) (p.ar .sub .i64 (p.ar .mul .i64 x.2.2.1 x.2.2.2.2.2.2.2.1) (p.ar .mul .i64 x.2.2.2.1 x.2.2.2.2.2.2.1))),((p.ar .sub .i64 (0:Int) (p.ar .sub .i64 (p.ar .mul .i64 (p.ar .sub .i64 x.2.2.2.2.1 x.1) x.2.2.2.2.2.2.2.1) (p.ar .mul .i64 (p.ar .sub .i64 x.2.2.2.2.2.1 x.2.1) x.2.2.2.2.2.2.1))),((p.ar .sub .i64 (0:Int) (p.ar .sub .i64 (p.ar .mul .i64 (p.ar .sub .i64 x.2.2.2.2.1 x.1) x.2.2.2.1) (p.ar .mul .i64 (p.ar .sub .i64 x.2.2.2.2.2.1 x.2.1) x.2.2.1))),()))))))))))) (
 opt.ret _ (x.1,(x.2.1,(x.2.2.1,(x.2.2.2.1,((0:Int),((0:Int),((0:Int),((p.ar .sub .i64 (p.ar .mul .i64 x.2.2.1 x.2.2.2.2.2.2.2.1) (p.ar .mul .i64 x.2.2.2.1 x.2.2.2.2.2.2.1)),((p.ar .sub .i64 (p.ar .mul .i64 (p.ar .sub .i64 x.2.2.2.2.1 x.1) x.2.2.2.2.2.2.2.1) (p.ar .mul .i64 (p.ar .sub .i64 x.2.2.2.2.2.1 x.2.1) x.2.2.2.2.2.2.1)),((p.ar .sub .i64 (p.ar .mul .i64 (p.ar .sub .i64 x.2.2.2.2.1 x.1) x.2.2.2.1) (p.ar .mul .i64 (p.ar .sub .i64 x.2.2.2.2.2.1 x.2.1) x.2.2.1)),()))))))))))))) fun a=>
 opt.bnd T31 _ (
 opt.run T31 (
 opt.ask _ (p.cmp .eql a.2.2.2.2.2.2.2.1 (0:Int)) (
 opt.ret _ (a.1,(a.2.1,(a.2.2.1,(a.2.2.2.1,(a.2.2.2.2.1,(a.2.2.2.2.2.1,(a.2.2.2.2.2.2.1,(a.2.2.2.2.2.2.2.1,(a.2.2.2.2.2.2.2.2.1,(Bool.true,()))))))))))) (
 opt.ask _ (p.cmp .lss a.2.2.2.2.2.2.2.2.1 (0:Int)) (
 opt.ret _ (a.1,(a.2.1,(a.2.2.1,(a.2.2.2.1,(a.2.2.2.2.1,(a.2.2.2.2.2.1,(a.2.2.2.2.2.2.1,(a.2.2.2.2.2.2.2.1,(a.2.2.2.2.2.2.2.2.1,(Bool.true,()))))))))))) (
 opt.ask _ (p.cmp .gtr a.2.2.2.2.2.2.2.2.1 a.2.2.2.2.2.2.2.1) (
 opt.ret _ (a.1,(a.2.1,(a.2.2.1,(a.2.2.2.1,(a.2.2.2.2.1,(a.2.2.2.2.2.1,(a.2.2.2.2.2.2.1,(a.2.2.2.2.2.2.2.1,(a.2.2.2.2.2.2.2.2.1,(Bool.true,()))))))))))) (
 opt.ask _ (p.cmp .lss a.2.2.2.2.2.2.2.2.2.1 (0:Int)) (
 opt.ret _ (a.1,(a.2.1,(a.2.2.1,(a.2.2.2.1,(a.2.2.2.2.1,(a.2.2.2.2.2.1,(a.2.2.2.2.2.2.1,(a.2.2.2.2.2.2.2.1,(a.2.2.2.2.2.2.2.2.1,(Bool.true,()))))))))))) (
 opt.ret _ (a.1,(a.2.1,(a.2.2.1,(a.2.2.2.1,(a.2.2.2.2.1,(a.2.2.2.2.2.1,(a.2.2.2.2.2.2.1,(a.2.2.2.2.2.2.2.1,(a.2.2.2.2.2.2.2.2.1,((p.cmp .gtr a.2.2.2.2.2.2.2.2.2.1 a.2.2.2.2.2.2.2.1),())))))))))))))))) fun b=>
 opt.ask _ b.2.2.2.2.2.2.2.2.2.1 (
 opt.ret _ ((0:Int),((0:Int),((0:Int),(Bool.false,()))))) (
 opt.need _ (p.and (p.leN (p.add 0 3) (p.len [[(D.int .i64 (p.ar .add .i64 (p.ar .mul .i64 b.1 b.2.2.2.2.2.2.2.1) (p.ar .mul .i64 b.2.2.1 b.2.2.2.2.2.2.2.2.1)))],[(D.int .i64 (p.ar .add .i64 (p.ar .mul .i64 b.2.1 b.2.2.2.2.2.2.2.1) (p.ar .mul .i64 b.2.2.2.1 b.2.2.2.2.2.2.2.2.1)))],[(D.int .i64 b.2.2.2.2.2.2.2.1)]])) Bool.true)<|
 opt.bnd T0 _ (g93 it p ((p.cut [[(D.int .i64 (p.ar .add .i64 (p.ar .mul .i64 b.1 b.2.2.2.2.2.2.2.1) (p.ar .mul .i64 b.2.2.1 b.2.2.2.2.2.2.2.2.1)))],[(D.int .i64 (p.ar .add .i64 (p.ar .mul .i64 b.2.1 b.2.2.2.2.2.2.2.1) (p.ar .mul .i64 b.2.2.2.1 b.2.2.2.2.2.2.2.2.1)))],[(D.int .i64 b.2.2.2.2.2.2.2.1)]] 0 3),())) fun c=>
 opt.need _ (p.cmp .neq c.1 (0:Int))<|
 opt.need _ (p.cmp .neq c.1 (0:Int))<|
 opt.need _ (p.cmp .neq c.1 (0:Int))<|
 opt.ret _ ((p.ar .quo .i64 (p.ar .add .i64 (p.ar .mul .i64 b.1 b.2.2.2.2.2.2.2.1) (p.ar .mul .i64 b.2.2.1 b.2.2.2.2.2.2.2.2.1)) c.1),((p.ar .quo .i64 (p.ar .add .i64 (p.ar .mul .i64 b.2.1 b.2.2.2.2.2.2.2.1) (p.ar .mul .i64 b.2.2.2.1 b.2.2.2.2.2.2.2.2.1)) c.1),((p.ar .quo .i64 b.2.2.2.2.2.2.2.1 c.1),(Bool.true,())))))
def G76:=g76 it0
theorem ok76:CtrOk PG v4c (G76 std):=okF (a:=an76) (l:=la76) (gC u0k (gN)) (by kernel_rfl) fun _ _=>by kernel_rfl
def v4f:Ctr:=
 ⟨68,[.agg [.int .i64, .int .i64], .agg [.int .i64, .int .i64, .int .i64, .int .i64]],[],[(.ret,⟨[(0, .tuple [.agg [.int .i64, .int .i64], .bool])],[],1⟩)]⟩
def la68:List LA:=
 []
def ja68:List JA:=
 [⟨68,[false,false,true,true,true],0,[(AX.normal,⟨[(3, .bptr 0 0),(4, .bptr 1 0),(6, .bptr 2 0),(8, .int .i64),(29, .bool)],[.box [.int .i64, .int .i64, .int .i64, .int .i64], .box [.int .i64, .int .i64], .box [.int .i64, .int .i64]],40⟩)]⟩]
def v81:List CF:=
 [⟨w9l,G65⟩]
def an68:Anns:=
 ⟨v81,ja68,[]⟩
def g68 (it:It):(p:Prim)→T53→Option T19:=
 fun p x=>
 opt.bnd T31 _ (
 opt.run T31 (
 opt.ask _ (p.cmp .leq (p.ar .add .i64 (p.ar .mul .i64 x.2.2.2.2.1 (p.ar .sub .i64 x.1 x.2.2.1)) (p.ar .mul .i64 x.2.2.2.2.2.1 (p.ar .sub .i64 x.2.1 x.2.2.2.1))) (0:Int)) (
 opt.ret _ (x.2.2.1,(x.2.2.2.1,(x.2.2.2.2.1,(x.2.2.2.2.2.1,((0:Int),((0:Int),((p.ar .sub .i64 x.1 x.2.2.1),((p.ar .sub .i64 x.2.1 x.2.2.2.1),((p.ar .add .i64 (p.ar .mul .i64 x.2.2.2.2.1 x.2.2.2.2.1) (p.ar .mul .i64 x.2.2.2.2.2.1 x.2.2.2.2.2.1)),(Bool.true,()))))))))))) (
 opt.ret _ (x.2.2.1,(x.2.2.2.1,(x.2.2.2.2.1,(x.2.2.2.2.2.1,((0:Int),((0:Int),((p.ar .sub .i64 x.1 x.2.2.1),((p.ar .sub .i64 x.2.1 x.2.2.2.1),((p.ar .add .i64 (p.ar .mul .i64 x.2.2.2.2.1 x.2.2.2.2.1) (p.ar .mul .i64 x.2.2.2.2.2.1 x.2.2.2.2.2.1)),((p.cmp .geq (p.ar .add .i64 (p.ar .mul .i64 x.2.2.2.2.1 (p.ar .sub .i64 x.1 x.2.2.1)) (p.ar .mul .i64 x.2.2.2.2.2.1 (p.ar .sub .i64 x.2.1 x.2.2.2.1))) (p.ar .add .i64 (p.ar .mul .i64 x.2.2.2.2.1 x.2.2.2.2.1) (p.ar .mul .i64 x.2.2.2.2.2.1 x.2.2.2.2.2.1))),()))))))))))))) fun a=>
 opt.ask _ a.2.2.2.2.2.2.2.2.2.1 (
 opt.ret _ ((0:Int),((0:Int),(Bool.false,())))) (
 opt.bnd T4 _ (g65 it p ((p.ar .mul .i64 (p.ar .sub .i64 (p.ar .mul .i64 a.2.2.1 a.2.2.2.2.2.2.2.1) (p.ar .mul .i64 a.2.2.2.1 a.2.2.2.2.2.2.1)) (p.ar .sub .i64 (p.ar .mul .i64 a.2.2.1 a.2.2.2.2.2.2.2.1) (p.ar .mul .i64 a.2.2.2.1 a.2.2.2.2.2.2.1))),(a.2.2.2.2.2.2.2.2.1,()))) fun b=>
 opt.ret _ (b.1,(b.2.1,(Bool.true,()))))
def G68:=g68 it0
theorem ok68:CtrOk PG v4f (G68 std):=okF (a:=an68) (l:=la68) (gC u0o (gN)) (by kernel_rfl) fun _ _=>by kernel_rfl
end Go.Am
end
noncomputable section
namespace Go.Am
def v4o:Ctr:=
 ⟨21,[.agg [.list 2, .list 1], .agg [.int .i64, .int .i64]],[],[(.ret,⟨[(0, .tuple [.bool, .int .i64])],[],1⟩)]⟩
def la21:List LA:=
 []
def ja21:List JA:=
 []
def v9p:List CF:=
 [⟨w42,G57⟩,⟨w43,G53⟩,⟨x8e,G48⟩]
def an21:Anns:=
 ⟨v9p,ja21,[]⟩
def g21 (it:It):(p:Prim)→(LD×(LD×T3))→Option ((Bool×(Int×Unit))):=
 fun p x=>
 opt.alt T0 ((LD×(LD×(LD×T1)))) _ (g48 it p (x.1,(x.2.1,()))) (fun a=>
 opt.ask _ (p.cmp .neq a.1 (0:Int)) (
 opt.ret _ (Bool.false,(a.1,()))) (
 opt.need _ (p.and Bool.true (p.and Bool.true (p.and (p.leN (p.add 0 1) (p.len [[(D.int .i64 x.2.2.1),(D.int .i64 x.2.2.2.1)]])) Bool.true)))<|
 opt.bnd T2 _ (g53 it p ((-1099511627776:Int),((1099511627776:Int),((p.cut [[(D.int .i64 x.2.2.1),(D.int .i64 x.2.2.2.1)]] 0 1),())))) fun b=>
 opt.ask _ (bif b.1 then Bool.false else Bool.true) (
 opt.ret _ (Bool.false,((3:Int),()))) (
 opt.no _ 41))) (fun c=>
 opt.bnd ((LD×(LD×(LD×T1)))) _ (some c) fun d=>
 opt.ask _ (p.cmp .neq d.2.2.2.1 (0:Int)) (
 opt.ret _ (Bool.false,(d.2.2.2.1,()))) (
 opt.need _ (p.and Bool.true (p.and Bool.true (p.and (p.leN (p.add 0 1) (p.len [[(D.int .i64 x.2.2.1),(D.int .i64 x.2.2.2.1)]])) Bool.true)))<|
 opt.bnd T2 _ (g53 it p ((-1099511627776:Int),((1099511627776:Int),((p.cut [[(D.int .i64 x.2.2.1),(D.int .i64 x.2.2.2.1)]] 0 1),())))) fun e=>
 opt.ask _ (bif e.1 then Bool.false else Bool.true) (
 opt.ret _ (Bool.false,((3:Int),()))) (
 opt.bnd T2 _ (g57 it p (d.2.2.1,(x.2.2.1,(x.2.2.2.1,((1:Int),()))))) fun f=>
 opt.ret _ (f.1,((0:Int),())))))
def G21:=g21 it0
theorem ok21:CtrOk PG v4o (G21 std):=okF (a:=an21) (l:=la21) (gC v67 (gC v68 (gC v06 (gN)))) (by kernel_rfl) fun _ _=>by kernel_rfl
def v4n:Ctr:=
 ⟨23,[.agg [.list 2, .list 1], .list 2],[],[(.ret,⟨[(0, .tuple [.agg [.int .i64, .int .i64], .int .i64])],[],1⟩)]⟩
def la23:List LA:=
 [⟨23,[false,true,false,true,true,true,true],0,⟨⟨[(4, .bptr 0 0),(8, .list 2),(37, .list 2),(38, .int .i64),(39, .int .i64)],[.box [.int .i64, .int .i64]],54⟩,[(AX.ret,⟨[(4, .bptr 0 0),(5, .int .i64)],[.box [.int .i64, .int .i64]],54⟩),((AX.exit 1),⟨[(4, .bptr 0 0)],[.box [.int .i64, .int .i64]],54⟩)]⟩⟩]
def ja23:List JA:=
 [⟨23,[true,true,true,false,false,true,true],0,[(AX.ret,⟨[(4, .bptr 0 0),(5, .int .i64)],[.box [.int .i64, .int .i64]],54⟩),(AX.normal,⟨[(1, .list 2),(4, .bptr 0 0),(6, .nilp)],[.box [.int .i64, .int .i64]],54⟩),(AX.normal,⟨[(1, .list 2),(4, .bptr 0 0),(6, .bptr 1 0)],[.box [.int .i64, .int .i64], .box [.list 2, .list 1, .list 2]],54⟩)]⟩,
 ⟨23,[true,false,false,true,true],0,[(AX.ret,⟨[(4, .bptr 0 0),(5, .int .i64)],[.box [.int .i64, .int .i64]],54⟩),(AX.normal,⟨[(1, .list 2),(4, .bptr 0 0),(6, .nilp)],[.box [.int .i64, .int .i64]],54⟩),(AX.normal,⟨[(1, .list 2),(4, .bptr 0 0),(6, .bptr 1 0)],[.box [.int .i64, .int .i64], .box [.list 2, .list 1, .list 2]],54⟩)]⟩]
def v9o:List CF:=
 [⟨w42,G57⟩,⟨w9n,G59⟩,⟨w9m,G60⟩,⟨w43,G53⟩,⟨w9o,G50⟩,⟨x8e,G48⟩]
def an23:Anns:=
 ⟨v9o,ja23,[]⟩
def w94 (it:It) (p:Prim):T66→Option T67:=
 fun a=>opt.run _ (
 opt.ask _ (p.cmp .lss a.2.2.2.2.2.1 a.2.2.2.2.1) (
 opt.need _ (p.rowOk a.2.2.2.1 (p.nat a.2.2.2.2.2.1) [ci,ci])<|
 opt.need _ (p.cmp .geq a.2.2.2.2.2.1 (0:Int))<|
 opt.bnd T2 _ (g57 it p (a.2.2.1,((p.rdI a.2.2.2.1 (p.nat a.2.2.2.2.2.1) 0),((p.rdI a.2.2.2.1 (p.nat a.2.2.2.2.2.1) 1),((1:Int),()))))) fun b=>
 opt.ask _ (bif b.1 then Bool.false else Bool.true) (
 opt.ret _ (Sum.inr (Sum.inl ((p.rdI a.2.2.2.1 (p.nat a.2.2.2.2.2.1) 0),((p.rdI a.2.2.2.1 (p.nat a.2.2.2.2.2.1) 1),((0:Int),())))))) (
 opt.ret _ (Sum.inl (a.1,(a.2.1,(a.2.2.1,(a.2.2.2.1,(a.2.2.2.2.1,((p.ar .add .i64 a.2.2.2.2.2.1 (1:Int)),()))))))))) (
 opt.ret _ (Sum.inr (Sum.inr (a.1,(a.2.1,()))))))
def w95 (it:It) (p:Prim):T66→Option T67:=
 fun a=>opt.run _ (
 opt.ask _ (p.cmp .lss a.2.2.2.2.2.1 a.2.2.2.2.1) (
 opt.need _ (p.rowOk a.2.2.2.1 (p.nat a.2.2.2.2.2.1) [ci,ci])<|
 opt.need _ (p.cmp .geq a.2.2.2.2.2.1 (0:Int))<|
 opt.bnd T2 _ (g57 it p (a.2.2.1,((p.rdI a.2.2.2.1 (p.nat a.2.2.2.2.2.1) 0),((p.rdI a.2.2.2.1 (p.nat a.2.2.2.2.2.1) 1),((1:Int),()))))) fun b=>
 opt.ask _ (bif b.1 then Bool.false else Bool.true) (
 opt.ret _ (Sum.inr (Sum.inl ((p.rdI a.2.2.2.1 (p.nat a.2.2.2.2.2.1) 0),((p.rdI a.2.2.2.1 (p.nat a.2.2.2.2.2.1) 1),((0:Int),())))))) (
 opt.ret _ (Sum.inl (a.1,(a.2.1,(a.2.2.1,(a.2.2.2.1,(a.2.2.2.2.1,((p.ar .add .i64 a.2.2.2.2.2.1 (1:Int)),()))))))))) (
 opt.ret _ (Sum.inr (Sum.inr (a.1,(a.2.1,()))))))
def g23 (it:It):(p:Prim)→(LD×(LD×(LD×Unit)))→Option T6:=
 fun p x=>
 opt.alt T0 ((LD×(LD×(LD×T1)))) _ (g48 it p (x.1,(x.2.1,()))) (fun a=>
 opt.alt T6 T32 _ (
 opt.run T33 (
 opt.ask _ (p.cmp .neq a.1 (0:Int)) (
 opt.ret _ (Sum.inl ((0:Int),((0:Int),(a.1,()))))) (
 opt.bnd T2 _ (G50 p (x.2.2.1,())) fun b=>
 opt.alt T6 T32 _ (
 opt.run T33 (
 opt.ask _ (bif b.1 then Bool.false else Bool.true) (
 opt.ret _ (Sum.inl ((0:Int),((0:Int),((6:Int),()))))) (
 opt.bnd T2 _ (g53 it p ((-10000:Int),((10000:Int),(x.2.2.1,())))) fun c=>
 opt.ask _ (bif c.1 then Bool.false else Bool.true) (
 opt.ret _ (Sum.inl ((0:Int),((0:Int),((3:Int),()))))) (
 opt.ret _ (Sum.inr (Sum.inl ((0:Int),((0:Int),(x.2.2.1,()))))))))) (fun d=>
 opt.ret _ (Sum.inl (d.1,(d.2.1,(d.2.2.1,()))))) (fun e=>
 opt.alt T18 T15 _ (some e) (fun f=>
 opt.ret _ (Sum.inr (Sum.inl (f.1,(f.2.1,(f.2.2.1,())))))) (fun g=>
 opt.bnd T15 _ (some g) fun h=>
 opt.ret _ (Sum.inr (Sum.inr (h.1,(h.2.1,(h.2.2.1,(h.2.2.2.1,(h.2.2.2.2.1,(h.2.2.2.2.2.1,()))))))))))))) (fun i=>
 opt.ret _ (i.1,(i.2.1,(i.2.2.1,())))) (fun j=>
 opt.alt T18 T15 _ (some j) (fun k=>
 opt.bnd ((LD×Unit)) _ (g60 it p (k.2.2.1,())) fun l=>
 opt.bnd ((LD×Unit)) _ (g59 it p (l.1,())) fun m=>
 opt.no _ 41) (fun n=>
 opt.bnd T15 _ (some n) fun o=>
 opt.bnd ((LD×Unit)) _ (g60 it p (o.2.2.2.2.2.1,())) fun q=>
 opt.bnd ((LD×Unit)) _ (g59 it p (q.1,())) fun r=>
 opt.alt T6 T4 _ (
 it _ _ (w95 it p) (o.1,(o.2.1,(r.1,(o.2.2.2.2.1,((p.ofNat (p.len o.2.2.2.2.1)),((0:Int),()))))))) (fun t=>
 opt.ret _ (t.1,(t.2.1,(t.2.2.1,())))) (fun u=>
 opt.bnd T4 _ (some u) fun v=>
 opt.ret _ ((0:Int),((0:Int),((5:Int),()))))))) (fun w=>
 opt.bnd ((LD×(LD×(LD×T1)))) _ (some w) fun z=>
 opt.alt T6 T32 _ (
 opt.run T33 (
 opt.ask _ (p.cmp .neq z.2.2.2.1 (0:Int)) (
 opt.ret _ (Sum.inl ((0:Int),((0:Int),(z.2.2.2.1,()))))) (
 opt.bnd T2 _ (G50 p (x.2.2.1,())) fun a1=>
 opt.alt T6 T32 _ (
 opt.run T33 (
 opt.ask _ (bif a1.1 then Bool.false else Bool.true) (
 opt.ret _ (Sum.inl ((0:Int),((0:Int),((6:Int),()))))) (
 opt.bnd T2 _ (g53 it p ((-10000:Int),((10000:Int),(x.2.2.1,())))) fun b1=>
 opt.ask _ (bif b1.1 then Bool.false else Bool.true) (
 opt.ret _ (Sum.inl ((0:Int),((0:Int),((3:Int),()))))) (
 opt.ret _ (Sum.inr (Sum.inr ((0:Int),((0:Int),(z.1,(z.2.1,(z.2.2.1,(x.2.2.1,())))))))))))) (fun c1=>
 opt.ret _ (Sum.inl (c1.1,(c1.2.1,(c1.2.2.1,()))))) (fun d1=>
 opt.alt T18 T15 _ (some d1) (fun e1=>
 opt.ret _ (Sum.inr (Sum.inl (e1.1,(e1.2.1,(e1.2.2.1,())))))) (fun f1=>
 opt.bnd T15 _ (some f1) fun g1=>
 opt.ret _ (Sum.inr (Sum.inr (g1.1,(g1.2.1,(g1.2.2.1,(g1.2.2.2.1,(g1.2.2.2.2.1,(g1.2.2.2.2.2.1,()))))))))))))) (fun h1=>
 opt.ret _ (h1.1,(h1.2.1,(h1.2.2.1,())))) (fun i1=>
 opt.alt T18 T15 _ (some i1) (fun j1=>
 opt.bnd ((LD×Unit)) _ (g60 it p (j1.2.2.1,())) fun k1=>
 opt.bnd ((LD×Unit)) _ (g59 it p (k1.1,())) fun l1=>
 opt.no _ 41) (fun m1=>
 opt.bnd T15 _ (some m1) fun n1=>
 opt.bnd ((LD×Unit)) _ (g60 it p (n1.2.2.2.2.2.1,())) fun o1=>
 opt.bnd ((LD×Unit)) _ (g59 it p (o1.1,())) fun q1=>
 opt.alt T6 T4 _ (
 it _ _ (w94 it p) (n1.1,(n1.2.1,(q1.1,(n1.2.2.2.2.1,((p.ofNat (p.len n1.2.2.2.2.1)),((0:Int),()))))))) (fun r1=>
 opt.ret _ (r1.1,(r1.2.1,(r1.2.2.1,())))) (fun t1=>
 opt.bnd T4 _ (some t1) fun u1=>
 opt.ret _ ((0:Int),((0:Int),((5:Int),())))))))
def G23:=g23 it0
theorem ok23:CtrOk PG v4n (G23 std):=okF (a:=an23) (l:=la23) (gC v67 (gC u0q (gC u0p (gC v68 (gC u0r (gC v06 (gN))))))) (by kernel_rfl) fun _ _=>by kernel_rfl
end Go.Am
end
section
namespace M06
def ml (a:Pt) (den:Int):Pt:=(a.1*den,a.2*den)
def y24 (n:Nat) (a b p:Pt) (den:Int):Bool:=if crs (sb b a) (sb p (ml a den))<0 then false else if n=2 then !decide (dt (sb b a) (sb p (ml a den))<0) else true
def inC (c:List Pt) (p:Pt) (den:Int):Bool:=
 if c.length=1 then decide (p=ml (c.getD 0 (0,0)) den) else (List.range c.length).all fun i=>y24 c.length (c.getD i (0,0)) (c.getD ((i+1) % c.length) (0,0)) p den
def InH (S:List Pt) (p:Pt) (den:Int):Prop:=∀ d:Pt,∃ x∈S,0≤crs d (sb p (ml x den))
theorem w3g (p a b:Pt) (k:Int) (d:Pt):crs d (sb p (ml b k))=crs d (sb p (ml a k))+k*crs d (sb a b):=by simp only [crs,sb,ml]; grind
theorem InH.sub {S T:List Pt} {p:Pt} {k:Int} (h:InH S p k) (hs:∀ x∈S,x∈T):InH T p k:=fun d=>by
 obtain ⟨x,hx,h0⟩:=h d
 exact ⟨x,hs x hx,h0⟩
theorem w1m {S c:List Pt} (h:Cyc S c) (d:Pt):∃ a∈c,∀ x∈S,0≤crs d (sb x a):=by
 by_cases hd:d=(0,0)
 ·subst hd
  match c,h with
  |a::r,_=>exact ⟨a,by simp,fun x _=>by simp [crs]⟩
 ·have h1:=z9z h hd
  have h2:=z9z (z2q h) hd
  exact ⟨_,h2.ina,h1.left⟩
theorem y4b {S c:List Pt} (h:Cyc S c) {p:Pt} {k:Int} (hk:0≤k):InH S p k↔InH c p k:=by
 refine ⟨fun hp d=>?_,fun hp=>hp.sub (z7c h)⟩
 obtain ⟨x,hx,h0⟩:=hp d
 obtain ⟨a,ha,hall⟩:=w1m h d
 refine ⟨a,ha,?_⟩
 rw [w3g p x a k d]
 have:=Int.mul_nonneg hk (hall x hx)
 omega
theorem x4b {S:List Pt} {q a b:Pt} (hq:q∈S) (h1:Nx S q a) (h2:Nx S a b) (h0:crs (sb a q) (sb b a)=0):q=b:=by
 have z1:cr q a b=0:=by
  have e:cr q a b=crs (sb a q) (sb b a):=by simp only [cr,crs,sb]; grind
  omega
 have z2:cr a b q=0:=by
  have e:cr a b q=crs (sb a q) (sb b a):=by simp only [cr,crs,sb]; grind
  omega
 have d1:=((h1.2.2 b h2.1).2 z1).1
 refine x98 h2 hq z2 ?_
 have hu:=z04 (u:=sb a q) (fun e=>h1.2.1 (z1f.1 e).symm)
 have hl:=lag (sb a q) (sb b a)
 rw [h0] at hl
 have e1:far a q=dt (sb a q) (sb a q):=by simp only [far,dt,sb]
 have e2:far a b=dt (sb b a) (sb b a):=by simp only [far,dt,sb]; grind
 have e3:dt (sb a q) (sb b q)=dt (sb a q) (sb a q)+dt (sb a q) (sb b a):=by simp only [dt,sb]; grind
 have d2:=((h2.2.2 q hq).2 z2).1
 have e4:dt (sb b a) (sb q a)= - dt (sb a q) (sb b a):=by simp only [dt,sb]; grind
 rw [e1,e2]
 generalize dt (sb a q) (sb a q)=n at*
 generalize dt (sb b a) (sb b a)=m at*
 generalize dt (sb a q) (sb b a)=t at*
 have hm:(-t)*(-t)≤n*n:=Int.mul_le_mul (by omega) (by omega) (by omega) (by omega)
 rw [Int.neg_mul_neg] at hm
 have hnm:n*m≤n*n:=by omega
 refine Classical.byContradiction fun hc=>?_
 have:=Int.mul_lt_mul_of_pos_left (show n<m by omega) hu
 omega
theorem getD_some {α:Type} {l:List α} {i:Nat} {a d:α} (h:l[i]?=some a):l.getD i d=a:=by simp [List.getD_eq_getElem?_getD,h]
theorem z60 {c:List Pt} (h:Cyc c c) (h2:2≤c.length) {a b:Pt} (ha:a∈c) (hn:Nx c a b):∃ i,i<c.length∧c[i]?=some a∧c[(i+1) % c.length]?=some b:=by
 obtain ⟨i,hi⟩:=List.getElem?_of_mem ha
 have hil:=(List.getElem?_eq_some_iff.1 hi).1
 have hx:∃ y,c[(i+1) % c.length]?=some y:=⟨_,List.getElem?_eq_getElem (Nat.mod_lt _ (by omega))⟩
 obtain ⟨y,hy⟩:=hx
 have:=y1f hn (z8o h h2 hi hy)
 subst this
 exact ⟨i,hil,hi,hy⟩
theorem y1h {α:Type} {l:List α} (h:l.Nodup) {i j:Nat} {a:α} (hi:l[i]?=some a) (hj:l[j]?=some a):i=j:=by
 obtain ⟨i1,i2⟩:=List.getElem?_eq_some_iff.1 hi
 obtain ⟨j1,j2⟩:=List.getElem?_eq_some_iff.1 hj
 have hp:=List.pairwise_iff_getElem.1 h
 rcases Nat.lt_trichotomy i j with k|k|k
 ·exact absurd (i2.trans j2.symm) (hp i j i1 j1 k)
 ·exact k
 ·exact absurd (j2.trans i2.symm) (hp j i j1 i1 k)
theorem z7j {n:Nat} {a b p:Pt} {k:Int}:y24 n a b p k=true↔0≤crs (sb b a) (sb p (ml a k))∧(n=2→0≤dt (sb b a) (sb p (ml a k))):=by
 unfold y24
 split
 ·rename_i h
  exact ⟨fun h=>by simp at h,fun h'=>by omega⟩
 ·rename_i h
  split
  ·rename_i h2
   rw [Bool.not_eq_true',decide_eq_false_iff_not]
   exact ⟨fun h'=>⟨by omega,fun _=>by omega⟩,fun h'=>by have:=h'.2 h2; omega⟩
  ·rename_i h2
   exact ⟨fun _=>⟨by omega,fun e=>absurd e h2⟩,fun _=>rfl⟩
theorem z3r {S c:List Pt} (h:Cyc S c) {p:Pt} {k:Int} (hk:0<k):inC c p k=true↔InH c p k:=by
 have hc:=z2q h
 have hne:1≤c.length:=by
  match c,h with
  |a::r,_=>simp
 unfold inC
 by_cases h1:c.length=1
 ·rw [if_pos h1]
  obtain ⟨a,rfl⟩:∃ a,c=[a]:=by
   match c,h1 with
   |[a],_=>exact ⟨a,rfl⟩
  show decide (p=ml a k)=true↔_
  rw [decide_eq_true_eq]
  constructor
  ·rintro rfl d
   exact ⟨a,by simp,by simp [crs,sb]⟩
  ·intro hp
   have q:∀ d:Pt,0≤crs d (sb p (ml a k)):=fun d=>by
    obtain ⟨x,hx,h0⟩:=hp d
    simp at hx; subst hx; exact h0
   have q1:=q (1,0)
   have q2:=q (-1,0)
   have q3:=q (0,1)
   have q4:=q (0, -1)
   simp only [crs,sb] at q1 q2 q3 q4
   exact Prod.ext (by omega) (by omega)
 ·have h2:2≤c.length:=by omega
  rw [if_neg h1,List.all_eq_true]
  constructor
  ·intro hall
   have side:∀ {a b:Pt},a∈c→Nx c a b→0≤crs (sb b a) (sb p (ml a k))∧(c.length=2→0≤dt (sb b a) (sb p (ml a k))):=by
    intro a b ha hn
    obtain ⟨i,hi,i1,i2⟩:=z60 hc h2 ha hn
    have:=hall i (List.mem_range.2 hi)
    rw [getD_some i1,getD_some i2] at this
    exact z7j.1 this
   intro d
   by_cases hd:d=(0,0)
   ·subst hd
    obtain ⟨a,ha⟩:∃ a,a∈c:=by
     match c,hne with
     |a::r,_=>exact ⟨a,by simp⟩
    exact ⟨a,ha,by simp [crs]⟩
   ·obtain ⟨α,a1,_,a3⟩:∃ α,α∈c∧True∧((∃ β,Nx c α β∧z6n d (sb β α))∨∃ q β,q∈c∧Nx c q α∧Nx c α β∧0<crs (sb α q) d∧0<crs d (sb β α)):=by
     match c,hc,h2 with
     |a::b::r,hc,_=>
      obtain ⟨α,k1,k2,k3⟩:=w1n hc hd
      exact ⟨α,k1,trivial,k3.imp (fun ⟨β,x,y,_⟩=>⟨β,x,y⟩) (fun ⟨_,x⟩=>x)⟩
    refine ⟨α,a1,?_⟩
    rcases a3 with ⟨β,b1,b2⟩|⟨q,β,b1,b2,b3,b4,b5⟩
    ·have hs:=(side a1 b1).1
     have hm:=(b2.symm.mul (sb p (ml α k))).1
     exact (z8e (z04 b2.symm.ne) b2.symm.2 hm).1.2 hs
    ·have s1:=(side b1 b2).1
     have s2:=side a1 b3
     have e1:crs (sb α q) (sb p (ml q k))=crs (sb α q) (sb p (ml α k)):=by simp only [crs,sb,ml]; grind
     rw [e1] at s1
     have hD:0≤crs (sb α q) (sb β α):=by
      have:=(b2.2.2 β b3.1).1
      have e:cr q α β=crs (sb α q) (sb β α):=by simp only [cr,crs,sb]; grind
      omega
     have hflat:crs (sb α q) (sb β α)=0→c.length=2:=by
      intro h0
      have hqb:=x4b b1 b2 b3 h0
      subst hqb
      obtain ⟨i,i0,i1,i2⟩:=z60 hc h2 a1 b3
      obtain ⟨j,j0,j1,j2⟩:=z60 hc h2 b1 b2
      have hnd:=y1y hc
      have x1:=y1h hnd i1 j2
      have x2:=y1h hnd i2 j1
      by_cases w1:i+1<c.length
      ·rw [Nat.mod_eq_of_lt w1] at x2
       by_cases w2:j+1<c.length
       ·rw [Nat.mod_eq_of_lt w2] at x1; omega
       ·have:j+1=c.length:=by omega
        rw [this,Nat.mod_self] at x1; omega
      ·have:i+1=c.length:=by omega
       rw [this,Nat.mod_self] at x2
       by_cases w2:j+1<c.length
       ·rw [Nat.mod_eq_of_lt w2] at x1; omega
       ·omega
     have hn:sb β α≠(0,0):=fun e=>b3.2.1 (z1f.1 e).symm
     generalize sb α q=u at*
     generalize sb β α=n at*
     generalize sb p (ml α k)=v at*
     have id1:crs u n*crs d v=crs d n*crs u v+crs u d*crs n v:=by simp only [crs]; grind
     have m1:=Int.mul_nonneg (Int.le_of_lt b5) s1
     have m2:=Int.mul_nonneg (Int.le_of_lt b4) s2.1
     rcases Int.lt_or_eq_of_le hD with hD|hD
     ·refine Classical.byContradiction fun hc=>?_
      have:=Int.mul_neg_of_pos_of_neg hD (Int.not_le.1 hc)
      omega
     ·have hdt:=s2.2 (hflat hD.symm)
      rw [←hD,Int.zero_mul] at id1
      have z2:crs u d*crs n v=0:=by omega
      have z2:crs n v=0:=by rcases Int.mul_eq_zero.1 z2 with h|h<;>omega
      have id2:dt n n*crs d v=dt n v*crs d n+crs n v*dt n d:=by simp only [crs,dt]; grind
      rw [z2,Int.zero_mul,Int.add_zero] at id2
      have m3:=Int.mul_nonneg hdt (Int.le_of_lt b5)
      refine Classical.byContradiction fun hc=>?_
      have:=Int.mul_neg_of_pos_of_neg (z04 hn) (Int.not_le.1 hc)
      omega
  ·intro hp i hi
   have hi:=List.mem_range.1 hi
   obtain ⟨a,ha⟩:∃ a,c[i]?=some a:=⟨_,List.getElem?_eq_getElem hi⟩
   obtain ⟨b,hb⟩:∃ b,c[(i+1) % c.length]?=some b:=⟨_,List.getElem?_eq_getElem (Nat.mod_lt _ (by omega))⟩
   rw [getD_some ha,getD_some hb,z7j]
   have hn:=z8o hc h2 ha hb
   refine ⟨?_,fun hl=>?_⟩
   ·obtain ⟨x,hx,h0⟩:=hp (sb b a)
    have:=(hn.2.2 x hx).1
    have e:cr a b x=crs (sb b a) (sb x a):=rfl
    rw [w3g p x a k]
    have:=Int.mul_nonneg (Int.le_of_lt hk) (show 0≤crs (sb b a) (sb x a) by omega)
    omega
   ·
    obtain ⟨x,hx,h0⟩:=hp ((sb b a).2, -(sb b a).1)
    have hab:x=a∨x=b:=by
     match c,hl,ha,hb,hx with
     |[u,v],_,ha,hb,hx=>
      have hi2:i<2:=by simpa using hi
      have:i=0∨i=1:=by omega
      rcases this with rfl|rfl
      ·simp at ha hb hx; subst ha; subst hb; exact hx
      ·simp at ha hb hx; subst ha; subst hb; exact hx.symm
    have e:∀ v:Pt,crs ((sb b a).2, -(sb b a).1) v=dt (sb b a) v:=fun v=>by simp only [crs,dt]; grind
    rw [e] at h0
    rcases hab with rfl|rfl
    ·exact h0
    ·have e2:dt (sb x a) (sb p (ml a k))=dt (sb x a) (sb p (ml x k))+k*dt (sb x a) (sb x a):=by simp only [dt,sb,ml]; grind
     rw [e2]
     have:=Int.mul_nonneg (Int.le_of_lt hk) (z7a (sb x a))
     omega
end M06
end
section
namespace Go.Am
open M06
def Big (p:Pt):Prop:=z0y (-1099511627776) 1099511627776 p
theorem z4i {a b A B:Int} (hA:0≤A) (h1: -A≤a) (h2:a≤A) (h3: -B≤b) (h4:b≤B): -(A*B)≤a*b∧a*b≤A*B:=by
 have e1:=Int.mul_nonneg (show 0≤A - a by omega) (show 0≤B - b by omega)
 have e2:=Int.mul_nonneg (show 0≤A+a by omega) (show 0≤B+b by omega)
 have e3:=Int.mul_nonneg (show 0≤A - a by omega) (show 0≤B+b by omega)
 have e4:=Int.mul_nonneg (show 0≤A+a by omega) (show 0≤B - b by omega)
 simp only [Int.sub_mul,Int.add_mul,Int.mul_sub,Int.mul_add] at e1 e2 e3 e4
 omega
theorem z9p {a b p:Pt} {den:Int} (ha:z0y (-10000) 10000 a) (hb:z0y (-10000) 10000 b) (hp:Big p) (hd:1≤den) (hd2:den≤268435456):
  (IntKind.i64.wrap (b.1 - a.1)=(sb b a).1∧IntKind.i64.wrap (b.2 - a.2)=(sb b a).2)∧
  (IntKind.i64.wrap (a.1*den)=(ml a den).1∧IntKind.i64.wrap (a.2*den)=(ml a den).2)∧
  (IntKind.i64.wrap (p.1 - (ml a den).1)=(sb p (ml a den)).1∧IntKind.i64.wrap (p.2 - (ml a den).2)=(sb p (ml a den)).2)∧
  (IntKind.i64.wrap ((sb b a).1*(sb p (ml a den)).2)=(sb b a).1*(sb p (ml a den)).2∧IntKind.i64.wrap ((sb b a).2*(sb p (ml a den)).1)=(sb b a).2*(sb p (ml a den)).1)∧
  (IntKind.i64.wrap ((sb b a).1*(sb p (ml a den)).1)=(sb b a).1*(sb p (ml a den)).1∧IntKind.i64.wrap ((sb b a).2*(sb p (ml a den)).2)=(sb b a).2*(sb p (ml a den)).2)∧
  IntKind.i64.wrap ((sb b a).1*(sb p (ml a den)).2 - (sb b a).2*(sb p (ml a den)).1)=crs (sb b a) (sb p (ml a den))∧
  IntKind.i64.wrap ((sb b a).1*(sb p (ml a den)).1+(sb b a).2*(sb p (ml a den)).2)=dt (sb b a) (sb p (ml a den)):=by
 obtain ⟨a1,a2,a3,a4⟩:=ha
 obtain ⟨b1,b2,b3,b4⟩:=hb
 obtain ⟨p1,p2,p3,p4⟩:=hp
 have m1:=z4i (A:=10000) (B:=268435456) (a:=a.1) (b:=den) (by omega) (by omega) (by omega) (by omega) (by omega)
 have m2:=z4i (A:=10000) (B:=268435456) (a:=a.2) (b:=den) (by omega) (by omega) (by omega) (by omega) (by omega)
 have s1: -20000≤(sb b a).1∧(sb b a).1≤20000:=by simp only [sb]; omega
 have s2: -20000≤(sb b a).2∧(sb b a).2≤20000:=by simp only [sb]; omega
 have q1: -3783866187776≤(sb p (ml a den)).1∧(sb p (ml a den)).1≤3783866187776:=by simp only [sb,ml]; omega
 have q2: -3783866187776≤(sb p (ml a den)).2∧(sb p (ml a den)).2≤3783866187776:=by simp only [sb,ml]; omega
 have r1:=z4i (A:=20000) (B:=3783866187776) (by omega) s1.1 s1.2 q2.1 q2.2
 have r2:=z4i (A:=20000) (B:=3783866187776) (by omega) s2.1 s2.2 q1.1 q1.2
 have r3:=z4i (A:=20000) (B:=3783866187776) (by omega) s1.1 s1.2 q1.1 q1.2
 have r4:=z4i (A:=20000) (B:=3783866187776) (by omega) s2.1 s2.2 q2.1 q2.2
 have w:∀ x:Int, -9223372036854775808≤x→x≤9223372036854775807→IntKind.i64.wrap x=x:=fun x h1 h2=>z1h x h1 h2
 refine ⟨⟨w _ (by omega) (by omega),w _ (by omega) (by omega)⟩,⟨w _ (by omega) (by omega),w _ (by omega) (by omega)⟩,⟨w _ (by simp only [ml]; omega) (by simp only [ml]; omega),w _ (by simp only [ml]; omega) (by simp only [ml]; omega)⟩,⟨w _ (by omega) (by omega),w _ (by omega) (by omega)⟩,⟨w _ (by omega) (by omega),w _ (by omega) (by omega)⟩,w _ (by omega) (by omega),w _ (by omega) (by omega)⟩
theorem y0y {S c:List Pt} (h:Cyc S c) (h2:2≤c.length) {i:Nat} {a b:Pt} (ha:c[i]?=some a) (hb:c[(i+1) % c.length]?=some b):sb b a≠(0,0):=fun e=>(z8o h h2 ha hb).2.1 (z1f.1 e).symm
theorem x29 {n:Nat} {P:Nat→Bool} (h:∀ i,i<n→P i=true):(List.range n).all P=true:=by
 rw [List.all_eq_true]; intro i hi; exact h i (List.mem_range.1 hi)
theorem y1g {n:Nat} {P:Nat→Bool} {i:Nat} (hi:i<n) (h:P i=false):(List.range n).all P=false:=by
 rw [Bool.eq_false_iff]
 intro ha
 rw [List.all_eq_true] at ha
 have:=ha i (List.mem_range.2 hi)
 rw [h] at this; cases this
theorem v5u {S c:List Pt} (hc:Cyc S c) (hbx:∀ x∈c,z0y (-10000) 10000 x) (hl:c.length≤100000) {p:Pt} (hp:Big p) {den:Int} (hd:1≤den) (hd2:den≤268435456):
  G57 std (z0d c,p.1,p.2,den,())=some (inC c p den,()):=by
 unfold G57
 by_cases h1:c.length=1
 ·obtain ⟨a,ha⟩:∃ a,c=[a]:=by
   match c,h1 with
   |[a],_=>exact ⟨a,rfl⟩
  subst ha
  have ga:=z0w (l:=[a]) (i:=0) rfl
  obtain ⟨_,⟨w1,w2⟩,_⟩:=z9p (hbx a (by simp)) (hbx a (by simp)) hp hd hd2
  have z0:(0:Int).toNat=0:=rfl
  have c1:(([a]:List Pt).length:Int)=1:=rfl
  have c1':((1:Nat):Int)=1:=rfl
  have hin:inC [a] p den=decide (p=ml a den):=rfl
  rw [hin]
  by_cases q1:p.1=(ml a den).1
  ·by_cases q2:p.2=(ml a den).2
   ·have:p=ml a den:=Prod.ext q1 q2
    simp only [g57,z0m,z0n,z0g,z0s,z0r,z1c,z0i,z0c,z0,ga,z0t,w1,w2,c1',eq_true q1,eq_true q2,eq_true this]
   ·have:¬ p=ml a den:=fun e=>q2 (by rw [e])
    simp only [g57,z0m,z0n,z0g,z0s,z0r,z1c,z0i,z0c,z0,ga,z0t,w1,w2,c1',eq_true q1,q2,this]
  ·have:¬ p=ml a den:=fun e=>q1 (by rw [e])
   simp only [g57,z0m,z0n,z0g,z0s,z0r,z1c,z0i,z0c,z0,ga,z0t,w1,w2,c1',q1,this]
 ·have h2:2≤c.length:=by
   match c,hc,h1 with
   |_::_::_,_,_=>simp
   |[a],_,h1=>exact absurd rfl h1
  have c1:¬ (c.length:Int)=1:=by omega
  have key:=z11 (b:=x4v std) c.length (fun i=>(z0d c,p.1,p.2,den,false,z0d c,z0d c,(c.length:Int),(i:Int),())) (fun i=>!y24 c.length (c.getD i (0,0)) (c.getD ((i+1) % c.length) (0,0)) p den)
   (fun i=> .inr (.inl (z0d c,p.1,p.2,den,false,z0d c,()))) (.inr (.inr (z0d c,p.1,p.2,den,false,z0d c,()))) (fun i hi=>by
   obtain ⟨a,ha⟩:=z0l hi
   obtain ⟨b,hb⟩:=z0l (l:=c) (i:=(i+1) % c.length) (Nat.mod_lt _ (by omega))
   have ga:=z0w ha
   have gb:=z0w hb
   have hne:=y0y hc h2 ha hb
   rw [z4m ha,z4m hb]
   obtain ⟨⟨w1,w2⟩,⟨w3,w4⟩,⟨w5,w6⟩,⟨w7,w8⟩,⟨w9,w10⟩,w11,w12⟩:=z9p (hbx a (List.mem_of_getElem? ha)) (hbx b (List.mem_of_getElem? hb)) hp hd hd2
   obtain ⟨m1,m2⟩:=y2p (i:=i) (n:=c.length) (by omega) (by omega)
   have c2:(i:Int)<(c.length:Int):=by omega
   have c3:(i:Int)≥0:=by omega
   have c4:¬ (c.length:Int)=0:=by omega
   have c5:(((i+1) % c.length:Nat):Int)≥0:=by omega
   have c6:(((i+1) % c.length:Nat):Int)<(c.length:Int):=by have:=Nat.mod_lt (i+1) (show 0<c.length by omega); omega
   have hz:(if (sb b a).1=0 then if (sb b a).2=0 then true else false else false)=false:=by
    by_cases q1:(sb b a).1=0
    ·rw [if_pos q1,if_neg (fun e=>hne (Prod.ext q1 e))]
    ·rw [if_neg q1]
   unfold y24
   by_cases k1:crs (sb b a) (sb p (ml a den))<0
   ·simp only [x4v,z0m,z0n,z0g,z0s,z0r,z1c,z0i,z0c,z0a,z0h,z0t,z00,m1,m2,ga,gb,w1,w2,w3,w4,w5,w6,w7,w8,w9,w10,w11,w12,c2,c3,c4,c5,c6,hz,k1,not_false_eq_true]
   ·by_cases k2:c.length=2
    ·have k2':(c.length:Int)=2:=by omega
     by_cases k3:dt (sb b a) (sb p (ml a den))<0
     ·simp only [x4v,z0m,z0n,z0g,z0s,z0r,z1c,z0i,z0c,z0a,z0h,z0t,z00,m1,m2,ga,gb,w1,w2,w3,w4,w5,w6,w7,w8,w9,w10,w11,w12,c2,c3,c4,c5,c6,hz,k1,eq_true k2,eq_true k2',k3,not_false_eq_true]
     ·simp only [x4v,z0m,z0n,z0g,z0s,z0r,z1c,z0i,z0c,z0a,z0h,z0t,z00,m1,m2,ga,gb,w1,w2,w3,w4,w5,w6,w7,w8,w9,w10,w11,w12,c2,c3,c4,c5,c6,hz,k1,eq_true k2,eq_true k2',k3,not_false_eq_true]
    ·have k2':¬ (c.length:Int)=2:=by omega
     simp only [x4v,z0m,z0n,z0g,z0s,z0r,z1c,z0i,z0c,z0a,z0h,z0t,z00,m1,m2,ga,gb,w1,w2,w3,w4,w5,w6,w7,w8,w9,w10,w11,w12,c2,c3,c4,c5,c6,hz,k1,k2,k2',not_false_eq_true]) (by
   have hn:¬ ((c.length:Int)<(c.length:Int)):=by omega
   simp only [x4v,z0m,z0n,hn])
  have e0:(z0d c,p.1,p.2,den,false,z0d c,z0d c,(c.length:Int),((0:Nat):Int),())=(z0d c,p.1,p.2,den,false,z0d c,z0d c,(c.length:Int),(0:Int),()):=rfl
  rw [e0] at key
  unfold inC
  rw [if_neg h1]
  rcases key with ⟨i,i1,i2,_,i4⟩|⟨i1,i2⟩
  ·rw [y1g i1 (by simpa using i2)]
   simp only [g57,it0_eq,z0m,z0n,z0c,c1,i4]
  ·rw [x29 (fun i hi=>by simpa using i1 i hi)]
   simp only [g57,it0_eq,z0m,z0n,z0c,c1,i2]
theorem v5v {S c:List Pt} (hc:Cyc S c) (hbx:∀ x∈c,z0y (-10000) 10000 x) (hl:c.length≤100000) {p:Pt} (hp:Big p) {den:Int} (hd:1≤den) (hd2:den≤268435456):
  G43 std (z0d c,p.1,p.2,den,())=some (inC c p den,()):=by
 unfold G43
 have hl1:1≤c.length:=by
  match c,hc with
  |a::r,_=>simp
 by_cases h1:c.length=1
 ·obtain ⟨a,ha⟩:∃ a,c=[a]:=by
   match c,h1 with
   |[a],_=>exact ⟨a,rfl⟩
  subst ha
  have ga:=z0w (l:=[a]) (i:=0) rfl
  obtain ⟨_,⟨w1,w2⟩,⟨w5,w6⟩,_⟩:=z9p (hbx a (by simp)) (hbx a (by simp)) hp hd hd2
  have z0:(0:Int).toNat=0:=rfl
  have c1:(([a]:List Pt).length:Int)=1:=rfl
  have c1':((1:Nat):Int)=1:=rfl
  have hin:inC [a] p den=decide (p=ml a den):=rfl
  have v1:IntKind.i64.wrap ((0:Int)+1)=1:=by decide
  have t1:(1:Int).tmod 1=0:=by decide
  have q3:(0:Int)<1:=by omega
  have q4:¬ (1:Int)=0:=by omega
  have q5:(0:Int)≥0:=by omega
  rw [hin]
  have hstep:y30 std (p.1,p.2,den,z0d [a],(1:Int),(0:Int),())=some (.inr (.inl (decide (p=ml a den),()))):=by
   have e1:(sb p (ml a den)).1=0↔p.1=(ml a den).1:=by simp only [sb]; omega
   have e2:(sb p (ml a den)).2=0↔p.2=(ml a den).2:=by simp only [sb]; omega
   by_cases k1:(sb p (ml a den)).1=0
   ·by_cases k2:(sb p (ml a den)).2=0
    ·have:p=ml a den:=Prod.ext (e1.1 k1) (e2.1 k2)
     simp only [y30,z0m,z0n,z0g,z0s,z0r,z1c,z0i,z0c,z0,ga,z0t,z0h,z0a,z00,v1,t1,w1,w2,w5,w6,q3,q4,q5,eq_true k1,eq_true k2,eq_true this,not_false_eq_true]
    ·have:¬ p=ml a den:=fun e=>k2 (e2.2 (by rw [e]))
     simp only [y30,z0m,z0n,z0g,z0s,z0r,z1c,z0i,z0c,z0,ga,z0t,z0h,z0a,z00,v1,t1,w1,w2,w5,w6,q3,q4,q5,eq_true k1,k2,this,not_false_eq_true]
   ·have:¬ p=ml a den:=fun e=>k1 (e1.2 (by rw [e]))
    simp only [y30,z0m,z0n,z0g,z0s,z0r,z1c,z0i,z0c,z0,ga,z0t,z0h,z0a,z00,v1,t1,w1,w2,w5,w6,q3,q4,q5,k1,this,not_false_eq_true]
  have hit:z37 (y30 std) (p.1,p.2,den,z0d [a],(1:Int),(0:Int),())=some (.inl (decide (p=ml a den),())):=by rw [z0j,hstep]
  simp only [g43,it0_eq,z6k,z2w,z2p,z1k,z2m,z0c,c1,hit,Option.bind_some,Sum.elim_inl]
 ·have h2:2≤c.length:=by omega
  have c1:¬ (c.length:Int)=1:=by omega
  have key:=z11 (b:=y30 std) c.length (fun i=>(p.1,p.2,den,z0d c,(c.length:Int),(i:Int),())) (fun i=>!y24 c.length (c.getD i (0,0)) (c.getD ((i+1) % c.length) (0,0)) p den)
   (fun i=> .inl (false,())) (.inr ()) (fun i hi=>by
   obtain ⟨a,ha⟩:=z0l hi
   obtain ⟨b,hb⟩:=z0l (l:=c) (i:=(i+1) % c.length) (Nat.mod_lt _ (by omega))
   have ga:=z0w ha
   have gb:=z0w hb
   rw [z4m ha,z4m hb]
   obtain ⟨⟨w1,w2⟩,⟨w3,w4⟩,⟨w5,w6⟩,⟨w7,w8⟩,⟨w9,w10⟩,w11,w12⟩:=z9p (hbx a (List.mem_of_getElem? ha)) (hbx b (List.mem_of_getElem? hb)) hp hd hd2
   obtain ⟨m1,m2⟩:=y2p (i:=i) (n:=c.length) (by omega) (by omega)
   have c2:(i:Int)<(c.length:Int):=by omega
   have c3:(i:Int)≥0:=by omega
   have c4:¬ (c.length:Int)=0:=by omega
   have c5:(((i+1) % c.length:Nat):Int)≥0:=by omega
   have c6:(((i+1) % c.length:Nat):Int)<(c.length:Int):=by have:=Nat.mod_lt (i+1) (show 0<c.length by omega); omega
   unfold y24
   by_cases k1:crs (sb b a) (sb p (ml a den))<0
   ·simp only [y30,z0m,z0n,z0g,z0s,z0r,z1c,z0i,z0c,z0a,z0h,z0t,z00,m1,m2,ga,gb,w1,w2,w3,w4,w5,w6,w7,w8,w9,w10,w11,w12,c1,c2,c3,c4,c5,c6,k1,not_false_eq_true]
   ·by_cases k2:c.length=2
    ·have k2':(c.length:Int)=2:=by omega
     by_cases k3:dt (sb b a) (sb p (ml a den))<0
     ·simp only [y30,z0m,z0n,z0g,z0s,z0r,z1c,z0i,z0c,z0a,z0h,z0t,z00,m1,m2,ga,gb,w1,w2,w3,w4,w5,w6,w7,w8,w9,w10,w11,w12,c1,c2,c3,c4,c5,c6,k1,eq_true k2,eq_true k2',k3,not_false_eq_true]
     ·simp only [y30,z0m,z0n,z0g,z0s,z0r,z1c,z0i,z0c,z0a,z0h,z0t,z00,m1,m2,ga,gb,w1,w2,w3,w4,w5,w6,w7,w8,w9,w10,w11,w12,c1,c2,c3,c4,c5,c6,k1,eq_true k2,eq_true k2',k3,not_false_eq_true]
    ·have k2':¬ (c.length:Int)=2:=by omega
     simp only [y30,z0m,z0n,z0g,z0s,z0r,z1c,z0i,z0c,z0a,z0h,z0t,z00,m1,m2,ga,gb,w1,w2,w3,w4,w5,w6,w7,w8,w9,w10,w11,w12,c1,c2,c3,c4,c5,c6,k1,k2,k2',not_false_eq_true]) (by
   have hn:¬ ((c.length:Int)<(c.length:Int)):=by omega
   simp only [y30,z0m,z0n,hn])
  have e0:(p.1,p.2,den,z0d c,(c.length:Int),((0:Nat):Int),())=(p.1,p.2,den,z0d c,(c.length:Int),(0:Int),()):=rfl
  rw [e0] at key
  unfold inC
  rw [if_neg h1]
  rcases key with ⟨i,i1,i2,_,i4⟩|⟨i1,i2⟩
  ·rw [y1g i1 (by simpa using i2)]
   simp only [g43,it0_eq,z0m,z0n,z0c,i4]
  ·rw [x29 (fun i hi=>by simpa using i1 i hi)]
   simp only [g43,it0_eq,z0m,z0n,z0c,i2]
end Go.Am
end
noncomputable section
namespace Go.Am
def v4b:Ctr:=
 ⟨78,[.list 2, .clo 66 [.agg [.int .i64, .int .i64]] []],[],[(.ret,⟨[(0, .int .i64)],[],1⟩)]⟩
def la78:List LA:=
 [⟨78,[false,true,false,true,true],0,⟨⟨[(1, .clo 66 [.agg [.int .i64, .int .i64]] []),(5, .int .i64),(13, .list 2),(14, .int .i64),(15, .int .i64)],[],26⟩,[((AX.exit 0),⟨[(5, .int .i64)],[],26⟩)]⟩⟩]
def ja78:List JA:=
 []
def v8v:List CF:=
 []
def an78:Anns:=
 ⟨v8v,ja78,[]⟩
def w5k (p:Prim):T44→Option T68:=
 fun a=>opt.run _ (
 opt.ask _ (p.cmp .lss a.2.2.2.2.2.1 a.2.2.2.2.1) (
 opt.need _ (p.rowOk a.2.2.2.1 (p.nat a.2.2.2.2.2.1) [ci,ci])<|
 opt.need _ (p.cmp .geq a.2.2.2.2.2.1 (0:Int))<|
 opt.ret _ (Sum.inl (a.1,(a.2.1,((p.mm .gtr a.2.2.1 (p.ar .add .i64 (p.ar .mul .i64 a.1 (p.rdI a.2.2.2.1 (p.nat a.2.2.2.2.2.1) 0)) (p.ar .mul .i64 a.2.1 (p.rdI a.2.2.2.1 (p.nat a.2.2.2.2.2.1) 1)))),(a.2.2.2.1,(a.2.2.2.2.1,((p.ar .add .i64 a.2.2.2.2.2.1 (1:Int)),())))))))) (
 opt.ret _ (Sum.inr (a.2.2.1,()))))
def g78 (it:It):(p:Prim)→(LD×T3)→Option T0:=
 fun p x=>
 opt.need _ (p.rowOk x.1 (p.nat (0:Int)) [ci,ci])<|
 opt.bnd T0 _ (
 it _ _ (w5k p) (x.2.1,(x.2.2.1,((p.ar .add .i64 (p.ar .mul .i64 x.2.1 (p.rdI x.1 (p.nat (0:Int)) 0)) (p.ar .mul .i64 x.2.2.1 (p.rdI x.1 (p.nat (0:Int)) 1))),(x.1,((p.ofNat (p.len x.1)),((0:Int),()))))))) fun a=>
 opt.ret _ (a.1,())
def G78:=g78 it0
theorem ok78:CtrOk PG v4b (G78 std):=okF (a:=an78) (l:=la78) (gN) (by kernel_rfl) fun _ _=>by kernel_rfl
def v32:Ctr:=
 ⟨92,[.list 2, .list 2, .agg [.int .i64, .int .i64]],[],[(.ret,⟨[(0, .tuple [.int .i64, .bool])],[],1⟩)]⟩
def la92:List LA:=
 []
def ja92:List JA:=
 []
def v8n:List CF:=
 [⟨v4b,G78⟩]
def an92:Anns:=
 ⟨v8n,ja92,[]⟩
def g92 (it:It):(p:Prim)→(LD×(LD×T3))→Option ((Int×(Bool×Unit))):=
 fun p x=>
 opt.bnd T0 _ (g78 it p (x.1,(x.2.2.1,(x.2.2.2.1,())))) fun a=>
 opt.bnd T0 _ (g78 it p (x.2.1,((p.ar .sub .i64 (0:Int) x.2.2.1),((p.ar .sub .i64 (0:Int) x.2.2.2.1),())))) fun b=>
 opt.ret _ (a.1,((p.cmp .lss a.1 (p.ar .sub .i64 (0:Int) b.1)),()))
def G92:=g92 it0
theorem ok92:CtrOk PG v32 (G92 std):=okF (a:=an92) (l:=la92) (gC ok78 (gN)) (by kernel_rfl) fun _ _=>by kernel_rfl
def w41:Ctr:=
 ⟨63,[.list 2, .list 2],[],[(.ret,⟨[(0, .tuple [.agg [.int .i64, .int .i64, .int .i64], .bool])],[],1⟩)]⟩
def la63:List LA:=
 [⟨63,[false,true,false,true,false,true],0,⟨⟨[(0, .list 2),(1, .list 2),(4, .bptr 0 0),(6, .bptr 1 0),(20, .list 2),(21, .int .i64),(22, .int .i64)],[.box [.int .i64, .int .i64, .int .i64], .box [.vec 2 2], .row [ci,ci]],94⟩,[((AX.exit 0),⟨[(0, .list 2),(1, .list 2),(4, .bptr 0 0),(6, .bptr 1 0)],[.box [.int .i64, .int .i64, .int .i64], .box [.vec 2 2], .row [ci,ci]],94⟩)]⟩⟩,
 ⟨63,[false,true,true,false,false,true,true,false,false,true,false,true,false,true],0,⟨⟨[(0, .list 2),(1, .list 2),(4, .bptr 0 0),(6, .bptr 1 0),(8, .bptr 2 0),(20, .list 2),(21, .int .i64),(22, .int .i64),(26, .list 2),(27, .int .i64),(28, .int .i64)],[.box [.int .i64, .int .i64, .int .i64], .box [.vec 3 2], .box [.int .i64, .int .i64], .row [ci,ci]],94⟩,[((AX.exit 2),⟨[(0, .list 2),(1, .list 2),(4, .bptr 0 0),(6, .bptr 1 0),(20, .list 2),(21, .int .i64),(22, .int .i64)],[.box [.int .i64, .int .i64, .int .i64], .box [.vec 2 2], .row [ci,ci]],94⟩)]⟩⟩,
 ⟨63,[false,true,false,true,true,false,true],0,⟨⟨[(0, .list 2),(1, .list 2),(4, .bptr 0 0),(6, .bptr 1 0),(42, .full 2 1),(43, .int .i64),(44, .int .i64)],[.box [.int .i64, .int .i64, .int .i64], .box [.vec 3 2], .row [(CK.list 2)], .row [ci,ci]],94⟩,[((AX.exit 4),⟨[(0, .list 2),(1, .list 2),(4, .bptr 0 0),(6, .bptr 1 0)],[.box [.int .i64, .int .i64, .int .i64], .box [.vec 2 2], .row [ci,ci]],94⟩)]⟩⟩,
 ⟨94,[false,true],6,⟨⟨[(0, .yld 5),(1, .bptr 4 0),(6, .list 2),(7, .int .i64),(8, .int .i64)],[.box [.int .i64, .int .i64, .int .i64], .box [.vec 6 2], .row [(CK.list 2)], .dead, .box [.list 2], .loop Go.LoopState.ready Option.none 63 [Bool.false,Bool.true,Bool.true,Bool.false,Bool.false,Bool.true,Bool.true,Bool.false,Bool.false,Bool.true,Bool.false,Bool.true,Bool.true,Bool.false,Bool.true] 94 [(49, .clo 94 [] [.bptr 4 0]),(43, .int .i64),(42, .full 2 1),(6, .bptr 1 0),(1, .list 2),(4, .bptr 0 0),(0, .list 2),(44, .int .i64)], .row [ci,ci]],33⟩,[(AX.ret,⟨[],[.box [.int .i64, .int .i64, .int .i64], .box [.vec 6 2], .row [(CK.list 2)], .dead, .box [.list 2], .loop Go.LoopState.ready Option.none 63 [Bool.false,Bool.true,Bool.true,Bool.false,Bool.false,Bool.true,Bool.true,Bool.false,Bool.false,Bool.true,Bool.false,Bool.true,Bool.true,Bool.false,Bool.true] 94 [(49, .clo 94 [] [.bptr 4 0]),(43, .int .i64),(42, .full 2 1),(6, .bptr 1 0),(1, .list 2),(4, .bptr 0 0),(0, .list 2),(44, .int .i64)], .row [ci,ci]],33⟩),((AX.exit 0),⟨[],[.box [.int .i64, .int .i64, .int .i64], .box [.vec 6 2], .row [(CK.list 2)], .dead, .box [.list 2], .loop Go.LoopState.ready Option.none 63 [Bool.false,Bool.true,Bool.true,Bool.false,Bool.false,Bool.true,Bool.true,Bool.false,Bool.false,Bool.true,Bool.false,Bool.true,Bool.true,Bool.false,Bool.true] 94 [(49, .clo 94 [] [.bptr 4 0]),(43, .int .i64),(42, .full 2 1),(6, .bptr 1 0),(1, .list 2),(4, .bptr 0 0),(0, .list 2),(44, .int .i64)], .row [ci,ci]],33⟩)]⟩⟩,
 ⟨63,[false,true,false,true,true,true,true,true,true,false,true],0,⟨⟨[(0, .list 2),(1, .list 2),(4, .bptr 0 0),(14, .bool),(15, .bptr 1 0),(71, .vec 2 2),(72, .int .i64),(73, .int .i64)],[.box [.int .i64, .int .i64, .int .i64], .box [.int .i64, .int .i64, .int .i64], .row [ci,ci]],94⟩,[((AX.exit 8),⟨[(4, .bptr 0 0),(14, .bool),(15, .bptr 1 0)],[.box [.int .i64, .int .i64, .int .i64], .box [.int .i64, .int .i64, .int .i64]],94⟩)]⟩⟩]
def ja63:List JA:=
 [⟨63,[true,true,false,false,true,true,false,false,true,false,true,true,false,true],0,[(AX.normal,⟨[(0, .list 2),(1, .list 2),(4, .bptr 0 0),(6, .bptr 1 0),(42, .full 2 1),(43, .int .i64),(44, .int .i64)],[.box [.int .i64, .int .i64, .int .i64], .box [.vec 3 2], .row [(CK.list 2)], .row [ci,ci]],94⟩)]⟩]
def v83:List CF:=
 [⟨v32,G92⟩]
def an63:Anns:=
 ⟨v83,ja63,[]⟩
def x4o (it:It) (p:Prim):(LD×T69)→Option ((LD×T69)⊕(Int×(Int×(Int×(Int×(Int×(Int×(Bool×Unit)))))))):=
 fun a=>opt.run _ (
 opt.ask _ (p.cmp .lss a.2.2.2.2.2.2.2.2.2.2.2.1 a.2.2.2.2.2.2.2.2.2.2.1) (
 opt.need _ (bif (p.cmp .geq a.2.2.2.2.2.2.2.2.2.2.2.1 (0:Int)) then (p.cmp .lss a.2.2.2.2.2.2.2.2.2.2.2.1 (p.ofNat (p.len a.1))) else Bool.false)<|
 opt.need _ (p.rowOk a.1 (p.add 0 (p.nat a.2.2.2.2.2.2.2.2.2.2.2.1)) [ci,ci])<|
 opt.bnd ((Int×(Bool×Unit))) _ (g92 it p (a.2.2.2.2.2.2.2.1,(a.2.2.2.2.2.2.2.2.1,((p.rdI a.1 (p.add 0 (p.nat a.2.2.2.2.2.2.2.2.2.2.2.1)) 0),((p.rdI a.1 (p.add 0 (p.nat a.2.2.2.2.2.2.2.2.2.2.2.1)) 1),()))))) fun b=>
 opt.ask _ b.2.1 (
 opt.ret _ (Sum.inr (a.2.1,(a.2.2.1,(a.2.2.2.1,((p.rdI a.1 (p.add 0 (p.nat a.2.2.2.2.2.2.2.2.2.2.2.1)) 0),((p.rdI a.1 (p.add 0 (p.nat a.2.2.2.2.2.2.2.2.2.2.2.1)) 1),(b.1,(Bool.true,()))))))))) (
 opt.need _ (p.eqN 0 0)<|
 opt.need _ (p.eqN (p.len a.1) (p.len a.1))<|
 opt.ret _ (Sum.inl (a.1,(a.2.1,(a.2.2.1,(a.2.2.2.1,(a.2.2.2.2.1,(a.2.2.2.2.2.1,(a.2.2.2.2.2.2.1,(a.2.2.2.2.2.2.2.1,(a.2.2.2.2.2.2.2.2.1,(a.2.2.2.2.2.2.2.2.2.1,(a.2.2.2.2.2.2.2.2.2.2.1,((p.ar .add .i64 a.2.2.2.2.2.2.2.2.2.2.2.1 (1:Int)),()))))))))))))))) (
 opt.ret _ (Sum.inr (a.2.1,(a.2.2.1,(a.2.2.2.1,(a.2.2.2.2.1,(a.2.2.2.2.2.1,(a.2.2.2.2.2.2.1,(a.2.2.2.2.2.2.2.2.2.1,()))))))))))
def x24 (p:Prim):(LD×(LD×T70))→Option ((LD×(LD×T70))⊕((LD×(LD×T23))⊕(LD×(LD×T23)))):=
 fun a=>opt.run _ (
 opt.ask _ (p.cmp .lss a.2.2.2.2.2.2.2.2.2.2.2.2.1 a.2.2.2.2.2.2.2.2.2.2.2.1) (
 opt.need _ (p.rowOk a.2.2.2.2.2.2.2.2.2.2.1 (p.nat a.2.2.2.2.2.2.2.2.2.2.2.2.1) [ci,ci])<|
 opt.need _ (p.cmp .geq a.2.2.2.2.2.2.2.2.2.2.2.2.1 (0:Int))<|
 opt.need _ (p.cmp .neq (p.ofNat (p.len a.2.2.2.2.2.1)) (0:Int))<|
 opt.need _ (p.rowOk a.2.2.2.2.2.1 (p.nat (p.ar .rem .i64 (p.ar .add .i64 a.2.2.2.2.2.2.2.2.2.2.2.2.1 (1:Int)) (p.ofNat (p.len a.2.2.2.2.2.1)))) [ci,ci])<|
 opt.need _ (p.cmp .geq (p.ar .rem .i64 (p.ar .add .i64 a.2.2.2.2.2.2.2.2.2.2.2.2.1 (1:Int)) (p.ofNat (p.len a.2.2.2.2.2.1))) (0:Int))<|
 opt.ask _ (bif (p.cmp .eql (p.ar .sub .i64 (p.rdI a.2.2.2.2.2.1 (p.nat (p.ar .rem .i64 (p.ar .add .i64 a.2.2.2.2.2.2.2.2.2.2.2.2.1 (1:Int)) (p.ofNat (p.len a.2.2.2.2.2.1)))) 0) (p.rdI a.2.2.2.2.2.2.2.2.2.2.1 (p.nat a.2.2.2.2.2.2.2.2.2.2.2.2.1) 0)) (0:Int)) then (bif (p.cmp .eql (p.ar .sub .i64 (p.rdI a.2.2.2.2.2.1 (p.nat (p.ar .rem .i64 (p.ar .add .i64 a.2.2.2.2.2.2.2.2.2.2.2.2.1 (1:Int)) (p.ofNat (p.len a.2.2.2.2.2.1)))) 1) (p.rdI a.2.2.2.2.2.2.2.2.2.2.1 (p.nat a.2.2.2.2.2.2.2.2.2.2.2.2.1) 1)) (0:Int)) then Bool.true else Bool.false) else Bool.false) (
 opt.need _ (p.eqN 0 0)<|
 opt.need _ (p.eqN (p.len a.2.1) (p.len a.2.1))<|
 opt.need _ (p.eqN 0 0)<|
 opt.need _ (p.eqN (p.len a.1) (p.len a.1))<|
 opt.need _ (p.eqN (p.len a.1) (p.len a.1))<|
 opt.ret _ (Sum.inr (Sum.inl (a.1,(a.2.1,(a.2.2.1,(a.2.2.2.1,(a.2.2.2.2.1,(a.2.2.2.2.2.1,(a.2.2.2.2.2.2.1,(a.2.2.2.2.2.2.2.1,(a.2.2.2.2.2.2.2.2.1,(a.2.2.2.2.2.2.2.2.2.1,()))))))))))))) (
 opt.need _ (p.and (p.leN (p.add 0 2) (p.len [[(D.int .i64 (p.ar .sub .i64 (p.rdI a.2.2.2.2.2.1 (p.nat (p.ar .rem .i64 (p.ar .add .i64 a.2.2.2.2.2.2.2.2.2.2.2.2.1 (1:Int)) (p.ofNat (p.len a.2.2.2.2.2.1)))) 1) (p.rdI a.2.2.2.2.2.2.2.2.2.2.1 (p.nat a.2.2.2.2.2.2.2.2.2.2.2.2.1) 1))),(D.int .i64 (p.ar .sub .i64 (0:Int) (p.ar .sub .i64 (p.rdI a.2.2.2.2.2.1 (p.nat (p.ar .rem .i64 (p.ar .add .i64 a.2.2.2.2.2.2.2.2.2.2.2.2.1 (1:Int)) (p.ofNat (p.len a.2.2.2.2.2.1)))) 0) (p.rdI a.2.2.2.2.2.2.2.2.2.2.1 (p.nat a.2.2.2.2.2.2.2.2.2.2.2.2.1) 0))))],[(D.int .i64 (p.ar .sub .i64 (0:Int) (p.ar .sub .i64 (p.rdI a.2.2.2.2.2.1 (p.nat (p.ar .rem .i64 (p.ar .add .i64 a.2.2.2.2.2.2.2.2.2.2.2.2.1 (1:Int)) (p.ofNat (p.len a.2.2.2.2.2.1)))) 1) (p.rdI a.2.2.2.2.2.2.2.2.2.2.1 (p.nat a.2.2.2.2.2.2.2.2.2.2.2.2.1) 1)))),(D.int .i64 (p.ar .sub .i64 (p.rdI a.2.2.2.2.2.1 (p.nat (p.ar .rem .i64 (p.ar .add .i64 a.2.2.2.2.2.2.2.2.2.2.2.2.1 (1:Int)) (p.ofNat (p.len a.2.2.2.2.2.1)))) 0) (p.rdI a.2.2.2.2.2.2.2.2.2.2.1 (p.nat a.2.2.2.2.2.2.2.2.2.2.2.2.1) 0)))]])) (p.and (p.leN (p.add 0 (p.len a.2.1)) (p.len a.2.1)) (p.and (p.leN 1 2) (p.leN (p.add (p.len a.2.1) 2) 1000000))))<|
 opt.need _ (p.eqN 0 0)<|
 opt.need _ (p.eqN (p.add (p.len a.2.1) 2) (p.len (p.app (p.cut a.2.1 0 (p.len a.2.1)) (p.cut [[(D.int .i64 (p.ar .sub .i64 (p.rdI a.2.2.2.2.2.1 (p.nat (p.ar .rem .i64 (p.ar .add .i64 a.2.2.2.2.2.2.2.2.2.2.2.2.1 (1:Int)) (p.ofNat (p.len a.2.2.2.2.2.1)))) 1) (p.rdI a.2.2.2.2.2.2.2.2.2.2.1 (p.nat a.2.2.2.2.2.2.2.2.2.2.2.2.1) 1))),(D.int .i64 (p.ar .sub .i64 (0:Int) (p.ar .sub .i64 (p.rdI a.2.2.2.2.2.1 (p.nat (p.ar .rem .i64 (p.ar .add .i64 a.2.2.2.2.2.2.2.2.2.2.2.2.1 (1:Int)) (p.ofNat (p.len a.2.2.2.2.2.1)))) 0) (p.rdI a.2.2.2.2.2.2.2.2.2.2.1 (p.nat a.2.2.2.2.2.2.2.2.2.2.2.2.1) 0))))],[(D.int .i64 (p.ar .sub .i64 (0:Int) (p.ar .sub .i64 (p.rdI a.2.2.2.2.2.1 (p.nat (p.ar .rem .i64 (p.ar .add .i64 a.2.2.2.2.2.2.2.2.2.2.2.2.1 (1:Int)) (p.ofNat (p.len a.2.2.2.2.2.1)))) 1) (p.rdI a.2.2.2.2.2.2.2.2.2.2.1 (p.nat a.2.2.2.2.2.2.2.2.2.2.2.2.1) 1)))),(D.int .i64 (p.ar .sub .i64 (p.rdI a.2.2.2.2.2.1 (p.nat (p.ar .rem .i64 (p.ar .add .i64 a.2.2.2.2.2.2.2.2.2.2.2.2.1 (1:Int)) (p.ofNat (p.len a.2.2.2.2.2.1)))) 0) (p.rdI a.2.2.2.2.2.2.2.2.2.2.1 (p.nat a.2.2.2.2.2.2.2.2.2.2.2.2.1) 0)))]] 0 2))))<|
 opt.need _ (p.eqN 0 0)<|
 opt.need _ (p.eqN (p.len a.1) (p.len a.1))<|
 opt.need _ (p.eqN (p.len a.1) (p.len a.1))<|
 opt.ret _ (Sum.inl (a.1,((p.app (p.cut a.2.1 0 (p.len a.2.1)) (p.cut [[(D.int .i64 (p.ar .sub .i64 (p.rdI a.2.2.2.2.2.1 (p.nat (p.ar .rem .i64 (p.ar .add .i64 a.2.2.2.2.2.2.2.2.2.2.2.2.1 (1:Int)) (p.ofNat (p.len a.2.2.2.2.2.1)))) 1) (p.rdI a.2.2.2.2.2.2.2.2.2.2.1 (p.nat a.2.2.2.2.2.2.2.2.2.2.2.2.1) 1))),(D.int .i64 (p.ar .sub .i64 (0:Int) (p.ar .sub .i64 (p.rdI a.2.2.2.2.2.1 (p.nat (p.ar .rem .i64 (p.ar .add .i64 a.2.2.2.2.2.2.2.2.2.2.2.2.1 (1:Int)) (p.ofNat (p.len a.2.2.2.2.2.1)))) 0) (p.rdI a.2.2.2.2.2.2.2.2.2.2.1 (p.nat a.2.2.2.2.2.2.2.2.2.2.2.2.1) 0))))],[(D.int .i64 (p.ar .sub .i64 (0:Int) (p.ar .sub .i64 (p.rdI a.2.2.2.2.2.1 (p.nat (p.ar .rem .i64 (p.ar .add .i64 a.2.2.2.2.2.2.2.2.2.2.2.2.1 (1:Int)) (p.ofNat (p.len a.2.2.2.2.2.1)))) 1) (p.rdI a.2.2.2.2.2.2.2.2.2.2.1 (p.nat a.2.2.2.2.2.2.2.2.2.2.2.2.1) 1)))),(D.int .i64 (p.ar .sub .i64 (p.rdI a.2.2.2.2.2.1 (p.nat (p.ar .rem .i64 (p.ar .add .i64 a.2.2.2.2.2.2.2.2.2.2.2.2.1 (1:Int)) (p.ofNat (p.len a.2.2.2.2.2.1)))) 0) (p.rdI a.2.2.2.2.2.2.2.2.2.2.1 (p.nat a.2.2.2.2.2.2.2.2.2.2.2.2.1) 0)))]] 0 2)),(a.2.2.1,(a.2.2.2.1,(a.2.2.2.2.1,(a.2.2.2.2.2.1,(a.2.2.2.2.2.2.1,(a.2.2.2.2.2.2.2.1,(a.2.2.2.2.2.2.2.2.1,(a.2.2.2.2.2.2.2.2.2.1,(a.2.2.2.2.2.2.2.2.2.2.1,(a.2.2.2.2.2.2.2.2.2.2.2.1,((p.ar .add .i64 a.2.2.2.2.2.2.2.2.2.2.2.2.1 (1:Int)),())))))))))))))))) (
 opt.need _ (p.eqN 0 0)<|
 opt.need _ (p.eqN (p.len a.2.1) (p.len a.2.1))<|
 opt.need _ (p.eqN 0 0)<|
 opt.need _ (p.eqN (p.len a.1) (p.len a.1))<|
 opt.need _ (p.eqN (p.len a.1) (p.len a.1))<|
 opt.ret _ (Sum.inr (Sum.inr (a.1,(a.2.1,(a.2.2.1,(a.2.2.2.1,(a.2.2.2.2.1,(a.2.2.2.2.2.1,(a.2.2.2.2.2.2.1,(a.2.2.2.2.2.2.2.1,(a.2.2.2.2.2.2.2.2.1,(a.2.2.2.2.2.2.2.2.2.1,()))))))))))))))
def y3z (it:It) (p:Prim):(LD×(LD×T34))→Option ((LD×(LD×T34))⊕(LD×T35)):=
 fun a=>opt.run _ (
 opt.ask _ (p.cmp .lss a.2.2.2.2.2.2.2.2.1 a.2.2.2.2.2.2.2.1) (
 opt.need _ (bif (p.cmp .geq a.2.2.2.2.2.2.2.2.1 (0:Int)) then (p.cmp .lss a.2.2.2.2.2.2.2.2.1 (p.ofNat (p.len a.1))) else Bool.false)<|
 opt.need _ (p.rowOk a.1 (p.add 0 (p.nat a.2.2.2.2.2.2.2.2.1)) [(CK.list 2)])<|
 opt.bnd ((LD×(LD×T34))) _ (
 opt.run ((LD×(LD×T34))) (
 opt.need _ (p.eqN 0 0)<|
 opt.need _ (p.eqN (p.len a.2.1) (p.len a.2.1))<|
 opt.need _ (p.eqN 0 0)<|
 opt.need _ (p.eqN (p.len a.1) (p.len a.1))<|
 opt.need _ (p.eqN (p.len a.1) (p.len a.1))<|
 opt.alt ((LD×(LD×T23))) ((LD×(LD×T23))) _ (
 it _ _ (x24 p) (a.1,(a.2.1,(a.2.2.1,(a.2.2.2.1,(a.2.2.2.2.1,((p.rdL a.1 (p.add 0 (p.nat a.2.2.2.2.2.2.2.2.1)) 0),(a.2.2.2.2.2.2.2.1,(a.2.2.2.2.2.2.1,(a.2.2.2.2.2.1,(a.2.2.2.2.2.2.2.2.1,((p.rdL a.1 (p.add 0 (p.nat a.2.2.2.2.2.2.2.2.1)) 0),((p.ofNat (p.len (p.rdL a.1 (p.add 0 (p.nat a.2.2.2.2.2.2.2.2.1)) 0))),((0:Int),())))))))))))))) (fun b=>
 opt.need _ (p.eqN 0 0)<|
 opt.need _ (p.eqN (p.len b.2.1) (p.len b.2.1))<|
 opt.need _ (p.eqN 0 0)<|
 opt.need _ (p.eqN (p.len a.1) (p.len b.1))<|
 opt.need _ (p.eqN (p.len a.1) (p.len b.1))<|
 opt.ret _ (b.1,(b.2.1,(b.2.2.1,(b.2.2.2.1,(b.2.2.2.2.1,(a.2.2.2.2.2.1,(a.2.2.2.2.2.2.1,(a.2.2.2.2.2.2.2.1,(a.2.2.2.2.2.2.2.2.1,())))))))))) (fun c=>
 opt.bnd ((LD×(LD×T23))) _ (some c) fun d=>
 opt.need _ (p.eqN 0 0)<|
 opt.need _ (p.eqN (p.len d.2.1) (p.len d.2.1))<|
 opt.need _ (p.eqN 0 0)<|
 opt.need _ (p.eqN (p.len a.1) (p.len d.1))<|
 opt.need _ (p.eqN (p.len a.1) (p.len d.1))<|
 opt.ret _ (d.1,(d.2.1,(d.2.2.1,(d.2.2.2.1,(d.2.2.2.2.1,(a.2.2.2.2.2.1,(a.2.2.2.2.2.2.1,(a.2.2.2.2.2.2.2.1,(a.2.2.2.2.2.2.2.2.1,())))))))))))) fun e=>
 opt.need _ (p.eqN 0 0)<|
 opt.need _ (p.eqN (p.len e.2.1) (p.len e.2.1))<|
 opt.need _ (p.eqN 0 0)<|
 opt.need _ (p.eqN (p.len e.1) (p.len e.1))<|
 opt.need _ (p.eqN (p.len e.1) (p.len e.1))<|
 opt.ret _ (Sum.inl (e.1,(e.2.1,(e.2.2.1,(e.2.2.2.1,(e.2.2.2.2.1,(e.2.2.2.2.2.1,(e.2.2.2.2.2.2.1,(e.2.2.2.2.2.2.2.1,((p.ar .add .i64 e.2.2.2.2.2.2.2.2.1 (1:Int)),()))))))))))) (
 opt.need _ (p.eqN 0 0)<|
 opt.need _ (p.eqN (p.len a.2.1) (p.len a.2.1))<|
 opt.ret _ (Sum.inr (a.2.1,(a.2.2.1,(a.2.2.2.1,(a.2.2.2.2.1,(a.2.2.2.2.2.1,(a.2.2.2.2.2.2.1,())))))))))
def w2k (p:Prim):(LD×T71)→Option ((LD×T71)⊕(LD×T36)):=
 fun a=>opt.run _ (
 opt.ask _ (p.cmp .lss a.2.2.2.2.2.2.2.2.2.2.2.2.2.1 a.2.2.2.2.2.2.2.2.2.2.2.2.1) (
 opt.need _ (p.rowOk a.2.2.2.2.2.2.2.2.2.2.2.1 (p.nat a.2.2.2.2.2.2.2.2.2.2.2.2.2.1) [ci,ci])<|
 opt.need _ (p.cmp .geq a.2.2.2.2.2.2.2.2.2.2.2.2.2.1 (0:Int))<|
 opt.need _ (p.and (p.leN (p.add 0 1) (p.len [[(D.int .i64 (p.ar .sub .i64 (p.rdI a.2.2.2.2.2.2.2.2.2.2.2.1 (p.nat a.2.2.2.2.2.2.2.2.2.2.2.2.2.1) 0) a.2.2.2.2.1)),(D.int .i64 (p.ar .sub .i64 (p.rdI a.2.2.2.2.2.2.2.2.2.2.2.1 (p.nat a.2.2.2.2.2.2.2.2.2.2.2.2.2.1) 1) a.2.2.2.2.2.1))]])) (p.and (p.leN (p.add 0 (p.len a.1)) (p.len a.1)) (p.and (p.leN 1 1) (p.leN (p.add (p.len a.1) 1) 1000000))))<|
 opt.need _ (p.eqN 0 0)<|
 opt.need _ (p.eqN (p.add (p.len a.1) 1) (p.len (p.app (p.cut a.1 0 (p.len a.1)) (p.cut [[(D.int .i64 (p.ar .sub .i64 (p.rdI a.2.2.2.2.2.2.2.2.2.2.2.1 (p.nat a.2.2.2.2.2.2.2.2.2.2.2.2.2.1) 0) a.2.2.2.2.1)),(D.int .i64 (p.ar .sub .i64 (p.rdI a.2.2.2.2.2.2.2.2.2.2.2.1 (p.nat a.2.2.2.2.2.2.2.2.2.2.2.2.2.1) 1) a.2.2.2.2.2.1))]] 0 1))))<|
 opt.ret _ (Sum.inl ((p.app (p.cut a.1 0 (p.len a.1)) (p.cut [[(D.int .i64 (p.ar .sub .i64 (p.rdI a.2.2.2.2.2.2.2.2.2.2.2.1 (p.nat a.2.2.2.2.2.2.2.2.2.2.2.2.2.1) 0) a.2.2.2.2.1)),(D.int .i64 (p.ar .sub .i64 (p.rdI a.2.2.2.2.2.2.2.2.2.2.2.1 (p.nat a.2.2.2.2.2.2.2.2.2.2.2.2.2.1) 1) a.2.2.2.2.2.1))]] 0 1)),(a.2.1,(a.2.2.1,(a.2.2.2.1,(a.2.2.2.2.1,(a.2.2.2.2.2.1,(a.2.2.2.2.2.2.1,(a.2.2.2.2.2.2.2.1,(a.2.2.2.2.2.2.2.2.1,(a.2.2.2.2.2.2.2.2.2.1,(a.2.2.2.2.2.2.2.2.2.2.1,(a.2.2.2.2.2.2.2.2.2.2.2.1,(a.2.2.2.2.2.2.2.2.2.2.2.2.1,((p.ar .add .i64 a.2.2.2.2.2.2.2.2.2.2.2.2.2.1 (1:Int)),())))))))))))))))) (
 opt.need _ (p.eqN 0 0)<|
 opt.need _ (p.eqN (p.len a.1) (p.len a.1))<|
 opt.ret _ (Sum.inr (a.1,(a.2.1,(a.2.2.1,(a.2.2.2.1,(a.2.2.2.2.2.2.1,(a.2.2.2.2.2.2.2.1,(a.2.2.2.2.2.2.2.2.1,(a.2.2.2.2.2.2.2.2.2.1,(a.2.2.2.2.2.2.2.2.2.2.1,()))))))))))))
def x4p (it:It) (p:Prim):(LD×T36)→Option ((LD×T36)⊕(LD×T35)):=
 fun a=>opt.run _ (
 opt.ask _ (p.cmp .lss a.2.2.2.2.2.2.2.2.1 a.2.2.2.2.2.2.2.1) (
 opt.need _ (p.rowOk a.2.2.2.2.2.2.1 (p.nat a.2.2.2.2.2.2.2.2.1) [ci,ci])<|
 opt.need _ (p.cmp .geq a.2.2.2.2.2.2.2.2.1 (0:Int))<|
 opt.need _ (p.eqN 0 0)<|
 opt.need _ (p.eqN (p.len a.1) (p.len a.1))<|
 opt.bnd ((LD×T36)) _ (
 it _ _ (w2k p) (a.1,(a.2.1,(a.2.2.1,(a.2.2.2.1,((p.rdI a.2.2.2.2.2.2.1 (p.nat a.2.2.2.2.2.2.2.2.1) 0),((p.rdI a.2.2.2.2.2.2.1 (p.nat a.2.2.2.2.2.2.2.2.1) 1),(a.2.2.2.2.1,(a.2.2.2.2.2.1,(a.2.2.2.2.2.2.1,(a.2.2.2.2.2.2.2.1,(a.2.2.2.2.2.2.2.2.1,(a.2.2.2.2.2.1,((p.ofNat (p.len a.2.2.2.2.2.1)),((0:Int),()))))))))))))))) fun b=>
 opt.need _ (p.eqN 0 0)<|
 opt.need _ (p.eqN (p.len b.1) (p.len b.1))<|
 opt.ret _ (Sum.inl (b.1,(b.2.1,(b.2.2.1,(b.2.2.2.1,(b.2.2.2.2.1,(b.2.2.2.2.2.1,(b.2.2.2.2.2.2.1,(b.2.2.2.2.2.2.2.1,((p.ar .add .i64 b.2.2.2.2.2.2.2.2.1 (1:Int)),()))))))))))) (
 opt.need _ (p.eqN 0 0)<|
 opt.need _ (p.eqN (p.len a.1) (p.len a.1))<|
 opt.ret _ (Sum.inr (a.1,(a.2.1,(a.2.2.1,(a.2.2.2.1,(a.2.2.2.2.1,(a.2.2.2.2.2.1,())))))))))
def g63 (it:It):(p:Prim)→(LD×(LD×Unit))→Option T21:=
 fun p x=>
 opt.bnd ((LD×T35)) _ (
 it _ _ (x4p it p) ([],((0:Int),((0:Int),((0:Int),(x.1,(x.2.1,(x.1,((p.ofNat (p.len x.1)),((0:Int),())))))))))) fun a=>
 opt.need _ (p.eqN 0 0)<|
 opt.need _ (p.eqN (p.len a.1) (p.len a.1))<|
 opt.need _ (p.eqN 0 0)<|
 opt.need _ (p.eqN 2 (p.len [[(D.list Bool.false 2 a.2.2.2.2.1)],[(D.list Bool.false 2 a.2.2.2.2.2.1)]]))<|
 opt.need _ (p.eqN 2 (p.len [[(D.list Bool.false 2 a.2.2.2.2.1)],[(D.list Bool.false 2 a.2.2.2.2.2.1)]]))<|
 opt.bnd ((LD×T35)) _ (
 it _ _ (y3z it p) ([[(D.list Bool.false 2 a.2.2.2.2.1)],[(D.list Bool.false 2 a.2.2.2.2.2.1)]],(a.1,(a.2.1,(a.2.2.1,(a.2.2.2.1,(a.2.2.2.2.1,(a.2.2.2.2.2.1,((p.ofNat 2),((0:Int),())))))))))) fun b=>
 opt.need _ (p.eqN 0 0)<|
 opt.need _ (p.eqN (p.len b.1) (p.len b.1))<|
 opt.bnd T45 _ (
 it _ _ (x4o it p) (b.1,(b.2.1,(b.2.2.1,(b.2.2.2.1,((0:Int),((0:Int),((0:Int),(b.2.2.2.2.1,(b.2.2.2.2.2.1,(Bool.false,((p.ofNat (p.len b.1)),((0:Int),()))))))))))))) fun c=>
 opt.ret _ (c.2.2.2.1,(c.2.2.2.2.1,(c.2.2.2.2.2.1,(c.2.2.2.2.2.2.1,()))))
def G63:=g63 it0
theorem v65:CtrOk PG w41 (G63 std):=okF (a:=an63) (l:=la63) (gC ok92 (gN)) (by kernel_rfl) fun _ _=>by kernel_rfl
end Go.Am
end
noncomputable section
namespace Go.Am
def w9t:Ctr:=
 ⟨32,[.agg [.list 2, .list 1], .agg [.list 2, .list 1]],[],[(.ret,⟨[(0, .tuple [.agg [.int .i64, .int .i64, .int .i64], .int .i64])],[],1⟩)]⟩
def la32:List LA:=
 []
def ja32:List JA:=
 []
def v9k:List CF:=
 [⟨w41,G63⟩,⟨w1q,G62⟩]
def an32:Anns:=
 ⟨v9k,ja32,[]⟩
def g32 (it:It):(p:Prim)→(LD×(LD×(LD×(LD×Unit))))→Option T8:=
 fun p x=>
 opt.alt T0 (((LD×(LD×(LD×T1)))⊕((LD×(LD×(LD×T1)))⊕(LD×(LD×(LD×(LD×(LD×(LD×T1))))))))) _ (g62 it p (x.1,(x.2.1,(x.2.2.1,(x.2.2.2.1,()))))) (fun a=>
 opt.ask _ (p.cmp .neq a.1 (0:Int)) (
 opt.ret _ ((0:Int),((0:Int),((0:Int),(a.1,()))))) (
 opt.no _ 41)) (fun b=>
 opt.alt ((LD×(LD×(LD×T1)))) (((LD×(LD×(LD×T1)))⊕(LD×(LD×(LD×(LD×(LD×(LD×T1)))))))) _ (some b) (fun c=>
 opt.ask _ (p.cmp .neq c.2.2.2.1 (0:Int)) (
 opt.ret _ ((0:Int),((0:Int),((0:Int),(c.2.2.2.1,()))))) (
 opt.no _ 41)) (fun d=>
 opt.alt ((LD×(LD×(LD×T1)))) ((LD×(LD×(LD×(LD×(LD×(LD×T1))))))) _ (some d) (fun e=>
 opt.ask _ (p.cmp .neq e.2.2.2.1 (0:Int)) (
 opt.ret _ ((0:Int),((0:Int),((0:Int),(e.2.2.2.1,()))))) (
 opt.no _ 41)) (fun f=>
 opt.bnd ((LD×(LD×(LD×(LD×(LD×(LD×T1))))))) _ (some f) fun g=>
 opt.ask _ (p.cmp .neq g.2.2.2.2.2.2.1 (0:Int)) (
 opt.ret _ ((0:Int),((0:Int),((0:Int),(g.2.2.2.2.2.2.1,()))))) (
 opt.bnd T21 _ (g63 it p (g.2.2.1,(g.2.2.2.2.2.1,()))) fun h=>
 opt.ask _ (bif h.2.2.2.1 then Bool.false else Bool.true) (
 opt.ret _ ((0:Int),((0:Int),((0:Int),((21:Int),()))))) (
 opt.ret _ (h.1,(h.2.1,(h.2.2.1,((0:Int),())))))))))
def G32:=g32 it0
theorem u0w:CtrOk PG w9t (G32 std):=okF (a:=an32) (l:=la32) (gC v65 (gC v6m (gN))) (by kernel_rfl) fun _ _=>by kernel_rfl
end Go.Am
end
noncomputable section
namespace Go.Am
def w6p:Ctr:=
 ⟨78,[.list 2, .clo 66 [.agg [.int .i64, .int .i64]] []],[],[(.ret,⟨[(0, .int .i64)],[],1⟩)]⟩
def v7u:List LA:=
 [⟨78,[false,true,false,true,true],0,⟨⟨[(1, .clo 66 [.agg [.int .i64, .int .i64]] []),(5, .int .i64),(13, .list 2),(14, .int .i64),(15, .int .i64)],[],26⟩,[((AX.exit 0),⟨[(5, .int .i64)],[],26⟩)]⟩⟩]
def v72:List JA:=
 []
def v3c:List CF:=
 []
def v97:Anns:=
 ⟨v3c,v72,[]⟩
def v42 (p:Prim):T44→Option T68:=
 fun a=>opt.run _ (
 opt.ask _ (p.cmp .lss a.2.2.2.2.2.1 a.2.2.2.2.1) (
 opt.need _ (p.rowOk a.2.2.2.1 (p.nat a.2.2.2.2.2.1) [ci,ci])<|
 opt.need _ (p.cmp .geq a.2.2.2.2.2.1 (0:Int))<|
 opt.ret _ (Sum.inl (a.1,(a.2.1,((p.mm .gtr a.2.2.1 (p.ar .add .i64 (p.ar .mul .i64 a.1 (p.rdI a.2.2.2.1 (p.nat a.2.2.2.2.2.1) 0)) (p.ar .mul .i64 a.2.1 (p.rdI a.2.2.2.1 (p.nat a.2.2.2.2.2.1) 1)))),(a.2.2.2.1,(a.2.2.2.2.1,((p.ar .add .i64 a.2.2.2.2.2.1 (1:Int)),())))))))) (
 opt.ret _ (Sum.inr (a.2.2.1,()))))
def v0p (it:It):(p:Prim)→(LD×T3)→Option T0:=
 fun p x=>
 opt.need _ (p.rowOk x.1 (p.nat (0:Int)) [ci,ci])<|
 opt.bnd T0 _ (
 it _ _ (v42 p) (x.2.1,(x.2.2.1,((p.ar .add .i64 (p.ar .mul .i64 x.2.1 (p.rdI x.1 (p.nat (0:Int)) 0)) (p.ar .mul .i64 x.2.2.1 (p.rdI x.1 (p.nat (0:Int)) 1))),(x.1,((p.ofNat (p.len x.1)),((0:Int),()))))))) fun a=>
 opt.ret _ (a.1,())
def u1q:=v0p it0
theorem v64:CtrOk PG w6p (u1q std):=okF (a:=v97) (l:=v7u) (gN) (by kernel_rfl) fun _ _=>by kernel_rfl
def v4k:Ctr:=
 ⟨39,[.agg [.list 2, .list 1], .agg [.list 2, .list 1], .agg [.int .i64, .int .i64, .int .i64]],[],[(.ret,⟨[(0, .int .i64)],[],1⟩)]⟩
def la39:List LA:=
 []
def ja39:List JA:=
 [⟨39,[true,true,true,false,false,true,true,true],0,[(AX.ret,⟨[(6, .int .i64)],[],90⟩),(AX.normal,⟨[],[],90⟩)]⟩,
 ⟨39,[true,false,false,true,true,true],0,[(AX.ret,⟨[(6, .int .i64)],[],90⟩),(AX.normal,⟨[],[],90⟩)]⟩]
def v9g:List CF:=
 [⟨w6p,u1q⟩,⟨w9j,G77⟩,⟨w1q,G62⟩]
def an39:Anns:=
 ⟨v9g,ja39,[]⟩
def g39 (it:It):(p:Prim)→(LD×(LD×(LD×(LD×T7))))→Option T0:=
 fun p x=>
 opt.alt T0 (((LD×(LD×(LD×T1)))⊕((LD×(LD×(LD×T1)))⊕(LD×(LD×(LD×(LD×(LD×(LD×T1))))))))) _ (g62 it p (x.1,(x.2.1,(x.2.2.1,(x.2.2.2.1,()))))) (fun a=>
 opt.alt T0 (Unit) _ (
 opt.run T5 (
 opt.ask _ (p.cmp .neq a.1 (0:Int)) (
 opt.ret _ (Sum.inl (a.1,()))) (
 opt.ask _ (bif (p.cmp .eql x.2.2.2.2.1 (0:Int)) then (bif (p.cmp .eql x.2.2.2.2.2.1 (0:Int)) then Bool.true else Bool.false) else Bool.false) (
 opt.alt T0 (Unit) _ (
 opt.run T5 (
 opt.ret _ (Sum.inl ((2:Int),())))) (fun b=>
 opt.ret _ (Sum.inl (b.1,()))) (fun c=>
 opt.bnd (Unit) _ (some c) fun d=>
 opt.ret _ (Sum.inr ()))) (
 opt.bnd T0 _ (G77 p (x.2.2.2.2.1,())) fun e=>
 opt.bnd T0 _ (G77 p (x.2.2.2.2.2.1,())) fun f=>
 opt.ask _ (p.cmp .gtr (p.mm .gtr e.1 f.1) (1048576:Int)) (
 opt.alt T0 (Unit) _ (
 opt.run T5 (
 opt.ret _ (Sum.inl ((2:Int),())))) (fun g=>
 opt.ret _ (Sum.inl (g.1,()))) (fun h=>
 opt.bnd (Unit) _ (some h) fun i=>
 opt.ret _ (Sum.inr ()))) (
 opt.bnd T0 _ (G77 p (x.2.2.2.2.2.2.1,())) fun j=>
 opt.ask _ (p.cmp .gtr j.1 (1099511627776:Int)) (
 opt.alt T0 (Unit) _ (
 opt.run T5 (
 opt.ret _ (Sum.inl ((2:Int),())))) (fun k=>
 opt.ret _ (Sum.inl (k.1,()))) (fun l=>
 opt.bnd (Unit) _ (some l) fun m=>
 opt.ret _ (Sum.inr ()))) (
 opt.ask _ (p.cmp .lss (p.mm .lss x.2.2.2.2.1 x.2.2.2.2.2.1) (-1048576:Int)) (
 opt.alt T0 (Unit) _ (
 opt.run T5 (
 opt.ret _ (Sum.inl ((2:Int),())))) (fun n=>
 opt.ret _ (Sum.inl (n.1,()))) (fun o=>
 opt.bnd (Unit) _ (some o) fun q=>
 opt.ret _ (Sum.inr ()))) (
 opt.alt T0 (Unit) _ (
 opt.run T5 (
 opt.ask _ (p.cmp .lss x.2.2.2.2.2.2.1 (-1099511627776:Int)) (
 opt.ret _ (Sum.inl ((2:Int),()))) (
 opt.no _ 41))) (fun r=>
 opt.ret _ (Sum.inl (r.1,()))) (fun t=>
 opt.bnd (Unit) _ (some t) fun u=>
 opt.ret _ (Sum.inr ()))))))))) (fun v=>
 opt.ret _ (v.1,())) (fun w=>
 opt.bnd (Unit) _ (some w) fun z=>
 opt.ret _ ((0:Int),()))) (fun a1=>
 opt.alt ((LD×(LD×(LD×T1)))) (((LD×(LD×(LD×T1)))⊕(LD×(LD×(LD×(LD×(LD×(LD×T1)))))))) _ (some a1) (fun b1=>
 opt.alt T0 (Unit) _ (
 opt.run T5 (
 opt.ask _ (p.cmp .neq b1.2.2.2.1 (0:Int)) (
 opt.ret _ (Sum.inl (b1.2.2.2.1,()))) (
 opt.ask _ (bif (p.cmp .eql x.2.2.2.2.1 (0:Int)) then (bif (p.cmp .eql x.2.2.2.2.2.1 (0:Int)) then Bool.true else Bool.false) else Bool.false) (
 opt.alt T0 (Unit) _ (
 opt.run T5 (
 opt.ret _ (Sum.inl ((2:Int),())))) (fun c1=>
 opt.ret _ (Sum.inl (c1.1,()))) (fun d1=>
 opt.bnd (Unit) _ (some d1) fun e1=>
 opt.ret _ (Sum.inr ()))) (
 opt.bnd T0 _ (G77 p (x.2.2.2.2.1,())) fun f1=>
 opt.bnd T0 _ (G77 p (x.2.2.2.2.2.1,())) fun g1=>
 opt.ask _ (p.cmp .gtr (p.mm .gtr f1.1 g1.1) (1048576:Int)) (
 opt.alt T0 (Unit) _ (
 opt.run T5 (
 opt.ret _ (Sum.inl ((2:Int),())))) (fun h1=>
 opt.ret _ (Sum.inl (h1.1,()))) (fun i1=>
 opt.bnd (Unit) _ (some i1) fun j1=>
 opt.ret _ (Sum.inr ()))) (
 opt.bnd T0 _ (G77 p (x.2.2.2.2.2.2.1,())) fun k1=>
 opt.ask _ (p.cmp .gtr k1.1 (1099511627776:Int)) (
 opt.alt T0 (Unit) _ (
 opt.run T5 (
 opt.ret _ (Sum.inl ((2:Int),())))) (fun l1=>
 opt.ret _ (Sum.inl (l1.1,()))) (fun m1=>
 opt.bnd (Unit) _ (some m1) fun n1=>
 opt.ret _ (Sum.inr ()))) (
 opt.ask _ (p.cmp .lss (p.mm .lss x.2.2.2.2.1 x.2.2.2.2.2.1) (-1048576:Int)) (
 opt.alt T0 (Unit) _ (
 opt.run T5 (
 opt.ret _ (Sum.inl ((2:Int),())))) (fun o1=>
 opt.ret _ (Sum.inl (o1.1,()))) (fun q1=>
 opt.bnd (Unit) _ (some q1) fun r1=>
 opt.ret _ (Sum.inr ()))) (
 opt.alt T0 (Unit) _ (
 opt.run T5 (
 opt.ask _ (p.cmp .lss x.2.2.2.2.2.2.1 (-1099511627776:Int)) (
 opt.ret _ (Sum.inl ((2:Int),()))) (
 opt.no _ 41))) (fun t1=>
 opt.ret _ (Sum.inl (t1.1,()))) (fun u1=>
 opt.bnd (Unit) _ (some u1) fun v1=>
 opt.ret _ (Sum.inr ()))))))))) (fun w1=>
 opt.ret _ (w1.1,())) (fun z1=>
 opt.bnd (Unit) _ (some z1) fun a2=>
 opt.ret _ ((0:Int),()))) (fun b2=>
 opt.alt ((LD×(LD×(LD×T1)))) ((LD×(LD×(LD×(LD×(LD×(LD×T1))))))) _ (some b2) (fun c2=>
 opt.alt T0 (Unit) _ (
 opt.run T5 (
 opt.ask _ (p.cmp .neq c2.2.2.2.1 (0:Int)) (
 opt.ret _ (Sum.inl (c2.2.2.2.1,()))) (
 opt.ask _ (bif (p.cmp .eql x.2.2.2.2.1 (0:Int)) then (bif (p.cmp .eql x.2.2.2.2.2.1 (0:Int)) then Bool.true else Bool.false) else Bool.false) (
 opt.alt T0 (Unit) _ (
 opt.run T5 (
 opt.ret _ (Sum.inl ((2:Int),())))) (fun d2=>
 opt.ret _ (Sum.inl (d2.1,()))) (fun e2=>
 opt.bnd (Unit) _ (some e2) fun f2=>
 opt.ret _ (Sum.inr ()))) (
 opt.bnd T0 _ (G77 p (x.2.2.2.2.1,())) fun g2=>
 opt.bnd T0 _ (G77 p (x.2.2.2.2.2.1,())) fun h2=>
 opt.ask _ (p.cmp .gtr (p.mm .gtr g2.1 h2.1) (1048576:Int)) (
 opt.alt T0 (Unit) _ (
 opt.run T5 (
 opt.ret _ (Sum.inl ((2:Int),())))) (fun i2=>
 opt.ret _ (Sum.inl (i2.1,()))) (fun j2=>
 opt.bnd (Unit) _ (some j2) fun k2=>
 opt.ret _ (Sum.inr ()))) (
 opt.bnd T0 _ (G77 p (x.2.2.2.2.2.2.1,())) fun l2=>
 opt.ask _ (p.cmp .gtr l2.1 (1099511627776:Int)) (
 opt.alt T0 (Unit) _ (
 opt.run T5 (
 opt.ret _ (Sum.inl ((2:Int),())))) (fun m2=>
 opt.ret _ (Sum.inl (m2.1,()))) (fun n2=>
 opt.bnd (Unit) _ (some n2) fun o2=>
 opt.ret _ (Sum.inr ()))) (
 opt.ask _ (p.cmp .lss (p.mm .lss x.2.2.2.2.1 x.2.2.2.2.2.1) (-1048576:Int)) (
 opt.alt T0 (Unit) _ (
 opt.run T5 (
 opt.ret _ (Sum.inl ((2:Int),())))) (fun q2=>
 opt.ret _ (Sum.inl (q2.1,()))) (fun r2=>
 opt.bnd (Unit) _ (some r2) fun t2=>
 opt.ret _ (Sum.inr ()))) (
 opt.alt T0 (Unit) _ (
 opt.run T5 (
 opt.ask _ (p.cmp .lss x.2.2.2.2.2.2.1 (-1099511627776:Int)) (
 opt.ret _ (Sum.inl ((2:Int),()))) (
 opt.bnd T0 _ (v0p it p (c2.2.2.1,(x.2.2.2.2.1,(x.2.2.2.2.2.1,())))) fun u2=>
 opt.ask _ (p.cmp .gtr u2.1 x.2.2.2.2.2.2.1) (
 opt.ret _ (Sum.inl ((14:Int),()))) (
 opt.no _ 41)))) (fun v2=>
 opt.ret _ (Sum.inl (v2.1,()))) (fun w2=>
 opt.bnd (Unit) _ (some w2) fun z2=>
 opt.ret _ (Sum.inr ()))))))))) (fun a3=>
 opt.ret _ (a3.1,())) (fun b3=>
 opt.bnd (Unit) _ (some b3) fun c3=>
 opt.ret _ ((0:Int),()))) (fun d3=>
 opt.bnd ((LD×(LD×(LD×(LD×(LD×(LD×T1))))))) _ (some d3) fun e3=>
 opt.alt T0 (Unit) _ (
 opt.run T5 (
 opt.ask _ (p.cmp .neq e3.2.2.2.2.2.2.1 (0:Int)) (
 opt.ret _ (Sum.inl (e3.2.2.2.2.2.2.1,()))) (
 opt.ask _ (bif (p.cmp .eql x.2.2.2.2.1 (0:Int)) then (bif (p.cmp .eql x.2.2.2.2.2.1 (0:Int)) then Bool.true else Bool.false) else Bool.false) (
 opt.alt T0 (Unit) _ (
 opt.run T5 (
 opt.ret _ (Sum.inl ((2:Int),())))) (fun f3=>
 opt.ret _ (Sum.inl (f3.1,()))) (fun g3=>
 opt.bnd (Unit) _ (some g3) fun h3=>
 opt.ret _ (Sum.inr ()))) (
 opt.bnd T0 _ (G77 p (x.2.2.2.2.1,())) fun i3=>
 opt.bnd T0 _ (G77 p (x.2.2.2.2.2.1,())) fun j3=>
 opt.ask _ (p.cmp .gtr (p.mm .gtr i3.1 j3.1) (1048576:Int)) (
 opt.alt T0 (Unit) _ (
 opt.run T5 (
 opt.ret _ (Sum.inl ((2:Int),())))) (fun k3=>
 opt.ret _ (Sum.inl (k3.1,()))) (fun l3=>
 opt.bnd (Unit) _ (some l3) fun m3=>
 opt.ret _ (Sum.inr ()))) (
 opt.bnd T0 _ (G77 p (x.2.2.2.2.2.2.1,())) fun n3=>
 opt.ask _ (p.cmp .gtr n3.1 (1099511627776:Int)) (
 opt.alt T0 (Unit) _ (
 opt.run T5 (
 opt.ret _ (Sum.inl ((2:Int),())))) (fun o3=>
 opt.ret _ (Sum.inl (o3.1,()))) (fun q3=>
 opt.bnd (Unit) _ (some q3) fun r3=>
 opt.ret _ (Sum.inr ()))) (
 opt.ask _ (p.cmp .lss (p.mm .lss x.2.2.2.2.1 x.2.2.2.2.2.1) (-1048576:Int)) (
 opt.alt T0 (Unit) _ (
 opt.run T5 (
 opt.ret _ (Sum.inl ((2:Int),())))) (fun t3=>
 opt.ret _ (Sum.inl (t3.1,()))) (fun u3=>
 opt.bnd (Unit) _ (some u3) fun v3=>
 opt.ret _ (Sum.inr ()))) (
 opt.alt T0 (Unit) _ (
 opt.run T5 (
 opt.ask _ (p.cmp .lss x.2.2.2.2.2.2.1 (-1099511627776:Int)) (
 opt.ret _ (Sum.inl ((2:Int),()))) (
 opt.bnd T0 _ (v0p it p (e3.2.2.1,(x.2.2.2.2.1,(x.2.2.2.2.2.1,())))) fun w3=>
 opt.ask _ (p.cmp .gtr w3.1 x.2.2.2.2.2.2.1) (
 opt.ret _ (Sum.inl ((14:Int),()))) (
 opt.bnd T0 _ (v0p it p (e3.2.2.2.2.2.1,((p.ar .sub .i64 (0:Int) x.2.2.2.2.1),((p.ar .sub .i64 (0:Int) x.2.2.2.2.2.1),())))) fun z3=>
 opt.ask _ (p.cmp .leq (p.ar .sub .i64 (0:Int) z3.1) x.2.2.2.2.2.2.1) (
 opt.ret _ (Sum.inl ((14:Int),()))) (
 opt.ret _ (Sum.inr ())))))) (fun a4=>
 opt.ret _ (Sum.inl (a4.1,()))) (fun b4=>
 opt.bnd (Unit) _ (some b4) fun c4=>
 opt.ret _ (Sum.inr ()))))))))) (fun d4=>
 opt.ret _ (d4.1,())) (fun e4=>
 opt.bnd (Unit) _ (some e4) fun f4=>
 opt.ret _ ((0:Int),())))))
def G39:=g39 it0
theorem ok39:CtrOk PG v4k (G39 std):=okF (a:=an39) (l:=la39) (gC v64 (gC u0m (gC v6m (gN)))) (by kernel_rfl) fun _ _=>by kernel_rfl
end Go.Am
end
noncomputable section
namespace Go.Am
def w9r:Ctr:=
 ⟨37,[.agg [.list 2, .list 1], .agg [.list 2, .list 1]],[],[(.ret,⟨[(0, .tuple [.agg [.int .i64, .int .i64, .int .i64], .int .i64])],[],1⟩)]⟩
def la37:List LA:=
 [⟨37,[false,true,false,true,true,true],0,⟨⟨[(4, .bptr 0 0),(5, .bptr 1 0),(6, .bptr 2 0),(7, .bptr 3 0),(46, .agg [.list 2, .list 2, .list 2, .list 2]),(47, .int .i64)],[.box [.int .i64, .int .i64, .int .i64], .box [.int .i64], .box [.list 2, .list 1, .list 2], .box [.bptr 4 0], .box [.list 2, .list 1, .list 2]],89⟩,[(AX.ret,⟨[(4, .bptr 0 0),(5, .bptr 1 0)],[.box [.int .i64, .int .i64, .int .i64], .box [.int .i64]],89⟩),((AX.exit 0),⟨[(4, .bptr 0 0),(5, .bptr 1 0),(6, .bptr 2 0),(7, .bptr 3 0)],[.box [.int .i64, .int .i64, .int .i64], .box [.int .i64], .box [.list 2, .list 1, .list 2], .box [.bptr 4 0], .box [.list 2, .list 1, .list 2]],89⟩)]⟩⟩,
 ⟨37,[false,true,true,false,false,true,true,false,false,true,false,true,true,true],0,⟨⟨[(4, .bptr 0 0),(5, .bptr 1 0),(6, .bptr 2 0),(7, .bptr 3 0),(10, .bptr 4 0),(46, .agg [.list 2, .list 2, .list 2, .list 2]),(47, .int .i64),(51, .list 2),(52, .int .i64),(53, .int .i64)],[.box [.int .i64, .int .i64, .int .i64], .box [.int .i64], .box [.list 2, .list 1, .list 2], .box [.bptr 5 0], .box [.list 2, .list 2], .box [.list 2, .list 1, .list 2]],89⟩,[(AX.ret,⟨[(4, .bptr 0 0),(5, .bptr 1 0)],[.box [.int .i64, .int .i64, .int .i64], .box [.int .i64]],89⟩),((AX.exit 2),⟨[(4, .bptr 0 0),(5, .bptr 1 0),(6, .bptr 2 0),(7, .bptr 3 0),(46, .agg [.list 2, .list 2, .list 2, .list 2]),(47, .int .i64)],[.box [.int .i64, .int .i64, .int .i64], .box [.int .i64], .box [.list 2, .list 1, .list 2], .box [.bptr 4 0], .box [.list 2, .list 1, .list 2]],89⟩)]⟩⟩,
 ⟨94,[false,true],7,⟨⟨[(0, .yld 6),(1, .bptr 5 0),(6, .list 2),(7, .int .i64),(8, .int .i64)],[.box [.int .i64, .int .i64, .int .i64], .box [.int .i64], .box [.list 2, .list 1, .list 2], .box [.bptr 4 0], .box [.list 2, .list 1, .list 2], .box [.list 2], .loop Go.LoopState.ready Option.none 37 [Bool.false,Bool.true,Bool.false,Bool.true,Bool.true,Bool.true,Bool.true] 89 [(72, .clo 94 [] [.bptr 5 0]),(7, .bptr 3 0),(4, .bptr 0 0),(5, .bptr 1 0)]],33⟩,[(AX.ret,⟨[],[.box [.int .i64, .int .i64, .int .i64], .box [.int .i64], .box [.list 2, .list 1, .list 2], .box [.bptr 4 0], .box [.list 2, .list 1, .list 2], .box [.list 2], .loop Go.LoopState.ready Option.none 37 [Bool.false,Bool.true,Bool.false,Bool.true,Bool.true,Bool.true,Bool.true] 89 [(72, .clo 94 [] [.bptr 5 0]),(7, .bptr 3 0),(4, .bptr 0 0),(5, .bptr 1 0)]],33⟩),(AX.ret,⟨[],[.box [.int .i64, .int .i64, .int .i64], .box [.int .i64], .box [.list 2, .list 1, .list 2], .box [.bptr 4 0], .box [.list 2, .list 1, .list 2], .box [.list 2], .loop Go.LoopState.done (Option.some Go.Code.ret) 37 [Bool.false,Bool.true,Bool.false,Bool.true,Bool.true,Bool.true,Bool.true] 89 [(72, .clo 94 [] [.bptr 5 0]),(7, .bptr 3 0),(4, .bptr 0 0),(5, .bptr 1 0)]],33⟩),((AX.exit 0),⟨[],[.box [.int .i64, .int .i64, .int .i64], .box [.int .i64], .box [.list 2, .list 1, .list 2], .box [.bptr 4 0], .box [.list 2, .list 1, .list 2], .box [.list 2], .loop Go.LoopState.ready Option.none 37 [Bool.false,Bool.true,Bool.false,Bool.true,Bool.true,Bool.true,Bool.true] 89 [(72, .clo 94 [] [.bptr 5 0]),(7, .bptr 3 0),(4, .bptr 0 0),(5, .bptr 1 0)]],33⟩)]⟩⟩,
 ⟨94,[false,true],22,⟨⟨[(0, .yld 21),(1, .bptr 20 0),(6, .list 2),(7, .int .i64),(8, .int .i64)],[.box [.int .i64, .int .i64, .int .i64], .box [.int .i64], .box [.list 2, .list 1, .list 2], .box [.bptr 4 0], .box [.list 2, .list 1, .list 2], .box [.list 2], .dead, .box [.int .i64, .int .i64], .dead, .dead, .dead, .dead, .dead, .dead, .dead, .dead, .dead, .dead, .box [.int .i64, .int .i64], .box [.int .i64, .int .i64, .int .i64, .int .i64], .box [.list 2], .loop Go.LoopState.ready Option.none 37 [Bool.false,Bool.true,Bool.false,Bool.true,Bool.false,Bool.true,Bool.false,Bool.true,Bool.true,Bool.true,Bool.true] 89 [(78, .clo 94 [] [.bptr 20 0]),(13, .bptr 19 0),(7, .bptr 3 0),(4, .bptr 0 0),(5, .bptr 1 0)]],33⟩,[(AX.ret,⟨[],[.box [.int .i64, .int .i64, .int .i64], .box [.int .i64], .box [.list 2, .list 1, .list 2], .box [.bptr 4 0], .box [.list 2, .list 1, .list 2], .box [.list 2], .dead, .box [.int .i64, .int .i64], .dead, .dead, .dead, .dead, .dead, .dead, .dead, .dead, .dead, .dead, .box [.int .i64, .int .i64], .box [.int .i64, .int .i64, .int .i64, .int .i64], .box [.list 2], .loop Go.LoopState.ready Option.none 37 [Bool.false,Bool.true,Bool.false,Bool.true,Bool.false,Bool.true,Bool.false,Bool.true,Bool.true,Bool.true,Bool.true] 89 [(78, .clo 94 [] [.bptr 20 0]),(13, .bptr 19 0),(7, .bptr 3 0),(4, .bptr 0 0),(5, .bptr 1 0)]],33⟩),(AX.ret,⟨[],[.box [.int .i64, .int .i64, .int .i64], .box [.int .i64], .box [.list 2, .list 1, .list 2], .box [.bptr 4 0], .box [.list 2, .list 1, .list 2], .box [.list 2], .dead, .box [.int .i64, .int .i64], .dead, .dead, .dead, .dead, .dead, .dead, .dead, .dead, .dead, .dead, .box [.int .i64, .int .i64], .box [.int .i64, .int .i64, .int .i64, .int .i64], .box [.list 2], .loop Go.LoopState.done (Option.some Go.Code.ret) 37 [Bool.false,Bool.true,Bool.false,Bool.true,Bool.false,Bool.true,Bool.false,Bool.true,Bool.true,Bool.true,Bool.true] 89 [(78, .clo 94 [] [.bptr 20 0]),(13, .bptr 19 0),(7, .bptr 3 0),(4, .bptr 0 0),(5, .bptr 1 0)]],33⟩),((AX.exit 0),⟨[],[.box [.int .i64, .int .i64, .int .i64], .box [.int .i64], .box [.list 2, .list 1, .list 2], .box [.bptr 4 0], .box [.list 2, .list 1, .list 2], .box [.list 2], .dead, .box [.int .i64, .int .i64], .dead, .dead, .dead, .dead, .dead, .dead, .dead, .dead, .dead, .dead, .box [.int .i64, .int .i64], .box [.int .i64, .int .i64, .int .i64, .int .i64], .box [.list 2], .loop Go.LoopState.ready Option.none 37 [Bool.false,Bool.true,Bool.false,Bool.true,Bool.false,Bool.true,Bool.false,Bool.true,Bool.true,Bool.true,Bool.true] 89 [(78, .clo 94 [] [.bptr 20 0]),(13, .bptr 19 0),(7, .bptr 3 0),(4, .bptr 0 0),(5, .bptr 1 0)]],33⟩)]⟩⟩]
def ja37:List JA:=
 [⟨37,[true,false,true,false,true,false,true,true,true,true],19,[(AX.normal,⟨[(4, .bptr 0 0),(5, .bptr 1 0),(7, .bptr 3 0)],[.box [.int .i64, .int .i64, .int .i64], .box [.int .i64], .box [.list 2, .list 1, .list 2], .box [.bptr 4 0], .box [.list 2, .list 1, .list 2], .box [.list 2], .dead, .box [.int .i64, .int .i64], .dead, .dead, .dead, .dead, .dead, .dead, .dead, .dead, .dead, .dead, .box [.int .i64, .int .i64]],89⟩),(AX.ret,⟨[(4, .bptr 0 0),(5, .bptr 1 0)],[.box [.int .i64, .int .i64, .int .i64], .box [.int .i64], .box [.list 2, .list 1, .list 2], .box [.bptr 4 0], .box [.list 2, .list 1, .list 2], .box [.list 2], .dead, .box [.int .i64, .int .i64], .dead, .dead, .dead, .dead, .dead, .dead, .dead, .dead, .dead, .dead, .box [.int .i64, .int .i64]],89⟩)]⟩,
 ⟨37,[false,false,false,true,true,false,false,true,false,true,true,true],0,[(AX.normal,⟨[(4, .bptr 0 0),(5, .bptr 1 0),(6, .bptr 2 0),(7, .bptr 3 0),(10, .bptr 4 0),(46, .agg [.list 2, .list 2, .list 2, .list 2]),(47, .int .i64)],[.box [.int .i64, .int .i64, .int .i64], .box [.int .i64], .box [.list 2, .list 1, .list 2], .box [.bptr 5 0], .box [.list 2, .list 2], .box [.list 2, .list 1, .list 2]],89⟩)]⟩,
 ⟨37,[true,false,true,true,true,true],0,[(AX.normal,⟨[(4, .bptr 0 0),(5, .bptr 1 0)],[.box [.int .i64, .int .i64, .int .i64], .box [.int .i64]],89⟩),(AX.ret,⟨[(4, .bptr 0 0),(5, .bptr 1 0)],[.box [.int .i64, .int .i64, .int .i64], .box [.int .i64]],89⟩)]⟩]
def v9i:List CF:=
 [⟨v4c,G76⟩,⟨w42,G57⟩,⟨w1q,G62⟩]
def an37:Anns:=
 ⟨v9i,ja37,[]⟩
def y6q (it:It) (p:Prim):(Int×(Int×(Int×(Int×(LD×(LD×(LD×(LD×(LD×(LD×(LD×(Int×(Int×(Int×(Int×(Int×(Int×(Int×(Int×(LD×(LD×(Int×(Int×Unit)))))))))))))))))))))))→Option ((Int×(Int×(Int×(Int×(LD×(LD×(LD×(LD×(LD×(LD×(LD×(Int×(Int×(Int×(Int×(Int×(Int×(Int×(Int×(LD×(LD×(Int×(Int×Unit)))))))))))))))))))))))⊕((Int×(Int×(Int×(Int×(LD×(LD×(LD×(LD×(LD×(LD×(LD×(Int×(Int×(Int×(Int×(Int×(Int×(Int×(Int×(LD×Unit))))))))))))))))))))⊕((Int×(Int×(Int×(Int×(LD×(LD×(LD×(LD×(LD×(LD×(LD×(Int×(Int×(Int×(Int×(Int×(Int×(Int×(Int×(LD×Unit))))))))))))))))))))⊕(Int×(Int×(Int×(Int×(LD×(LD×(LD×(LD×(LD×(LD×(LD×(Int×(Int×(Int×(Int×(Int×(Int×(Int×(Int×(LD×Unit))))))))))))))))))))))):=
 fun a=>opt.run _ (
 opt.ask _ (p.cmp .lss a.2.2.2.2.2.2.2.2.2.2.2.2.2.2.2.2.2.2.2.2.2.2.1 a.2.2.2.2.2.2.2.2.2.2.2.2.2.2.2.2.2.2.2.2.2.1) (
 opt.need _ (p.rowOk a.2.2.2.2.2.2.2.2.2.2.2.2.2.2.2.2.2.2.2.2.1 (p.nat a.2.2.2.2.2.2.2.2.2.2.2.2.2.2.2.2.2.2.2.2.2.2.1) [ci,ci])<|
 opt.need _ (p.cmp .geq a.2.2.2.2.2.2.2.2.2.2.2.2.2.2.2.2.2.2.2.2.2.2.1 (0:Int))<|
 opt.need _ (p.cmp .neq (p.ofNat (p.len a.2.2.2.2.2.2.2.2.2.2.2.2.2.2.2.2.2.2.2.1)) (0:Int))<|
 opt.need _ (p.rowOk a.2.2.2.2.2.2.2.2.2.2.2.2.2.2.2.2.2.2.2.1 (p.nat (p.ar .rem .i64 (p.ar .add .i64 a.2.2.2.2.2.2.2.2.2.2.2.2.2.2.2.2.2.2.2.2.2.2.1 (1:Int)) (p.ofNat (p.len a.2.2.2.2.2.2.2.2.2.2.2.2.2.2.2.2.2.2.2.1)))) [ci,ci])<|
 opt.need _ (p.cmp .geq (p.ar .rem .i64 (p.ar .add .i64 a.2.2.2.2.2.2.2.2.2.2.2.2.2.2.2.2.2.2.2.2.2.2.1 (1:Int)) (p.ofNat (p.len a.2.2.2.2.2.2.2.2.2.2.2.2.2.2.2.2.2.2.2.1))) (0:Int))<|
 opt.ask _ (bif (p.cmp .eql (p.ar .sub .i64 (p.rdI a.2.2.2.2.2.2.2.2.2.2.2.2.2.2.2.2.2.2.2.1 (p.nat (p.ar .rem .i64 (p.ar .add .i64 a.2.2.2.2.2.2.2.2.2.2.2.2.2.2.2.2.2.2.2.2.2.2.1 (1:Int)) (p.ofNat (p.len a.2.2.2.2.2.2.2.2.2.2.2.2.2.2.2.2.2.2.2.1)))) 0) (p.rdI a.2.2.2.2.2.2.2.2.2.2.2.2.2.2.2.2.2.2.2.2.1 (p.nat a.2.2.2.2.2.2.2.2.2.2.2.2.2.2.2.2.2.2.2.2.2.2.1) 0)) (0:Int)) then (bif (p.cmp .eql (p.ar .sub .i64 (p.rdI a.2.2.2.2.2.2.2.2.2.2.2.2.2.2.2.2.2.2.2.1 (p.nat (p.ar .rem .i64 (p.ar .add .i64 a.2.2.2.2.2.2.2.2.2.2.2.2.2.2.2.2.2.2.2.2.2.2.1 (1:Int)) (p.ofNat (p.len a.2.2.2.2.2.2.2.2.2.2.2.2.2.2.2.2.2.2.2.1)))) 1) (p.rdI a.2.2.2.2.2.2.2.2.2.2.2.2.2.2.2.2.2.2.2.2.1 (p.nat a.2.2.2.2.2.2.2.2.2.2.2.2.2.2.2.2.2.2.2.2.2.2.1) 1)) (0:Int)) then Bool.true else Bool.false) else Bool.false) (
 opt.ret _ (Sum.inr (Sum.inl (a.1,(a.2.1,(a.2.2.1,(a.2.2.2.1,(a.2.2.2.2.1,(a.2.2.2.2.2.1,(a.2.2.2.2.2.2.1,(a.2.2.2.2.2.2.2.1,(a.2.2.2.2.2.2.2.2.1,(a.2.2.2.2.2.2.2.2.2.1,(a.2.2.2.2.2.2.2.2.2.2.1,(a.2.2.2.2.2.2.2.2.2.2.2.1,(a.2.2.2.2.2.2.2.2.2.2.2.2.1,(a.2.2.2.2.2.2.2.2.2.2.2.2.2.1,(a.2.2.2.2.2.2.2.2.2.2.2.2.2.2.1,(a.2.2.2.2.2.2.2.2.2.2.2.2.2.2.2.1,(a.2.2.2.2.2.2.2.2.2.2.2.2.2.2.2.2.1,(a.2.2.2.2.2.2.2.2.2.2.2.2.2.2.2.2.2.1,(a.2.2.2.2.2.2.2.2.2.2.2.2.2.2.2.2.2.2.1,(a.2.2.2.2.2.2.2.2.2.2.2.2.2.2.2.2.2.2.2.1,()))))))))))))))))))))))) (
 opt.bnd T21 _ (g76 it p (a.2.2.2.2.2.2.2.2.2.2.2.2.2.2.2.1,(a.2.2.2.2.2.2.2.2.2.2.2.2.2.2.2.2.1,(a.2.2.2.2.2.2.2.2.2.2.2.2.2.2.2.2.2.1,(a.2.2.2.2.2.2.2.2.2.2.2.2.2.2.2.2.2.2.1,((p.rdI a.2.2.2.2.2.2.2.2.2.2.2.2.2.2.2.2.2.2.2.2.1 (p.nat a.2.2.2.2.2.2.2.2.2.2.2.2.2.2.2.2.2.2.2.2.2.2.1) 0),((p.rdI a.2.2.2.2.2.2.2.2.2.2.2.2.2.2.2.2.2.2.2.2.1 (p.nat a.2.2.2.2.2.2.2.2.2.2.2.2.2.2.2.2.2.2.2.2.2.2.1) 1),((p.ar .sub .i64 (p.rdI a.2.2.2.2.2.2.2.2.2.2.2.2.2.2.2.2.2.2.2.1 (p.nat (p.ar .rem .i64 (p.ar .add .i64 a.2.2.2.2.2.2.2.2.2.2.2.2.2.2.2.2.2.2.2.2.2.2.1 (1:Int)) (p.ofNat (p.len a.2.2.2.2.2.2.2.2.2.2.2.2.2.2.2.2.2.2.2.1)))) 0) (p.rdI a.2.2.2.2.2.2.2.2.2.2.2.2.2.2.2.2.2.2.2.2.1 (p.nat a.2.2.2.2.2.2.2.2.2.2.2.2.2.2.2.2.2.2.2.2.2.2.1) 0)),((p.ar .sub .i64 (p.rdI a.2.2.2.2.2.2.2.2.2.2.2.2.2.2.2.2.2.2.2.1 (p.nat (p.ar .rem .i64 (p.ar .add .i64 a.2.2.2.2.2.2.2.2.2.2.2.2.2.2.2.2.2.2.2.2.2.2.1 (1:Int)) (p.ofNat (p.len a.2.2.2.2.2.2.2.2.2.2.2.2.2.2.2.2.2.2.2.1)))) 1) (p.rdI a.2.2.2.2.2.2.2.2.2.2.2.2.2.2.2.2.2.2.2.2.1 (p.nat a.2.2.2.2.2.2.2.2.2.2.2.2.2.2.2.2.2.2.2.2.2.2.1) 1)),()))))))))) fun b=>
 opt.ask _ b.2.2.2.1 (
 opt.ret _ (Sum.inr (Sum.inr (Sum.inl (b.1,(b.2.1,(b.2.2.1,((0:Int),(a.2.2.2.2.1,(a.2.2.2.2.2.1,(a.2.2.2.2.2.2.1,(a.2.2.2.2.2.2.2.1,(a.2.2.2.2.2.2.2.2.1,(a.2.2.2.2.2.2.2.2.2.1,(a.2.2.2.2.2.2.2.2.2.2.1,(a.2.2.2.2.2.2.2.2.2.2.2.1,(a.2.2.2.2.2.2.2.2.2.2.2.2.1,(a.2.2.2.2.2.2.2.2.2.2.2.2.2.1,(a.2.2.2.2.2.2.2.2.2.2.2.2.2.2.1,(a.2.2.2.2.2.2.2.2.2.2.2.2.2.2.2.1,(a.2.2.2.2.2.2.2.2.2.2.2.2.2.2.2.2.1,(a.2.2.2.2.2.2.2.2.2.2.2.2.2.2.2.2.2.1,(a.2.2.2.2.2.2.2.2.2.2.2.2.2.2.2.2.2.2.1,(a.2.2.2.2.2.2.2.2.2.2.2.2.2.2.2.2.2.2.2.1,())))))))))))))))))))))))) (
 opt.ret _ (Sum.inl (a.1,(a.2.1,(a.2.2.1,(a.2.2.2.1,(a.2.2.2.2.1,(a.2.2.2.2.2.1,(a.2.2.2.2.2.2.1,(a.2.2.2.2.2.2.2.1,(a.2.2.2.2.2.2.2.2.1,(a.2.2.2.2.2.2.2.2.2.1,(a.2.2.2.2.2.2.2.2.2.2.1,(a.2.2.2.2.2.2.2.2.2.2.2.1,(a.2.2.2.2.2.2.2.2.2.2.2.2.1,(a.2.2.2.2.2.2.2.2.2.2.2.2.2.1,(a.2.2.2.2.2.2.2.2.2.2.2.2.2.2.1,(a.2.2.2.2.2.2.2.2.2.2.2.2.2.2.2.1,(a.2.2.2.2.2.2.2.2.2.2.2.2.2.2.2.2.1,(a.2.2.2.2.2.2.2.2.2.2.2.2.2.2.2.2.2.1,(a.2.2.2.2.2.2.2.2.2.2.2.2.2.2.2.2.2.2.1,(a.2.2.2.2.2.2.2.2.2.2.2.2.2.2.2.2.2.2.2.1,(a.2.2.2.2.2.2.2.2.2.2.2.2.2.2.2.2.2.2.2.2.1,(a.2.2.2.2.2.2.2.2.2.2.2.2.2.2.2.2.2.2.2.2.2.1,((p.ar .add .i64 a.2.2.2.2.2.2.2.2.2.2.2.2.2.2.2.2.2.2.2.2.2.2.1 (1:Int)),()))))))))))))))))))))))))))) (
 opt.ret _ (Sum.inr (Sum.inr (Sum.inr (a.1,(a.2.1,(a.2.2.1,(a.2.2.2.1,(a.2.2.2.2.1,(a.2.2.2.2.2.1,(a.2.2.2.2.2.2.1,(a.2.2.2.2.2.2.2.1,(a.2.2.2.2.2.2.2.2.1,(a.2.2.2.2.2.2.2.2.2.1,(a.2.2.2.2.2.2.2.2.2.2.1,(a.2.2.2.2.2.2.2.2.2.2.2.1,(a.2.2.2.2.2.2.2.2.2.2.2.2.1,(a.2.2.2.2.2.2.2.2.2.2.2.2.2.1,(a.2.2.2.2.2.2.2.2.2.2.2.2.2.2.1,(a.2.2.2.2.2.2.2.2.2.2.2.2.2.2.2.1,(a.2.2.2.2.2.2.2.2.2.2.2.2.2.2.2.2.1,(a.2.2.2.2.2.2.2.2.2.2.2.2.2.2.2.2.2.1,(a.2.2.2.2.2.2.2.2.2.2.2.2.2.2.2.2.2.2.1,(a.2.2.2.2.2.2.2.2.2.2.2.2.2.2.2.2.2.2.2.1,())))))))))))))))))))))))))
def y5z (it:It) (p:Prim):(Int×(Int×(Int×(Int×(LD×(LD×(LD×(LD×(LD×(LD×(LD×(LD×(Int×(Int×Unit))))))))))))))→Option ((Int×(Int×(Int×(Int×(LD×(LD×(LD×(LD×(LD×(LD×(LD×(LD×(Int×(Int×Unit))))))))))))))⊕((Int×(Int×(Int×(Int×(LD×(LD×(LD×(LD×(LD×(LD×(LD×Unit)))))))))))⊕((Int×(Int×(Int×(Int×(LD×(LD×(LD×(LD×(LD×(LD×(LD×Unit)))))))))))⊕(Int×(Int×(Int×(Int×(LD×(LD×(LD×(LD×(LD×(LD×(LD×Unit)))))))))))))):=
 fun a=>opt.run _ (
 opt.ask _ (p.cmp .lss a.2.2.2.2.2.2.2.2.2.2.2.2.2.1 a.2.2.2.2.2.2.2.2.2.2.2.2.1) (
 opt.need _ (p.rowOk a.2.2.2.2.2.2.2.2.2.2.2.1 (p.nat a.2.2.2.2.2.2.2.2.2.2.2.2.2.1) [ci,ci])<|
 opt.need _ (p.cmp .geq a.2.2.2.2.2.2.2.2.2.2.2.2.2.1 (0:Int))<|
 opt.need _ (p.cmp .neq (p.ofNat (p.len a.2.2.2.2.2.2.2.2.2.2.1)) (0:Int))<|
 opt.need _ (p.rowOk a.2.2.2.2.2.2.2.2.2.2.1 (p.nat (p.ar .rem .i64 (p.ar .add .i64 a.2.2.2.2.2.2.2.2.2.2.2.2.2.1 (1:Int)) (p.ofNat (p.len a.2.2.2.2.2.2.2.2.2.2.1)))) [ci,ci])<|
 opt.need _ (p.cmp .geq (p.ar .rem .i64 (p.ar .add .i64 a.2.2.2.2.2.2.2.2.2.2.2.2.2.1 (1:Int)) (p.ofNat (p.len a.2.2.2.2.2.2.2.2.2.2.1))) (0:Int))<|
 opt.ask _ (bif (p.cmp .eql (p.ar .sub .i64 (p.rdI a.2.2.2.2.2.2.2.2.2.2.1 (p.nat (p.ar .rem .i64 (p.ar .add .i64 a.2.2.2.2.2.2.2.2.2.2.2.2.2.1 (1:Int)) (p.ofNat (p.len a.2.2.2.2.2.2.2.2.2.2.1)))) 0) (p.rdI a.2.2.2.2.2.2.2.2.2.2.2.1 (p.nat a.2.2.2.2.2.2.2.2.2.2.2.2.2.1) 0)) (0:Int)) then (bif (p.cmp .eql (p.ar .sub .i64 (p.rdI a.2.2.2.2.2.2.2.2.2.2.1 (p.nat (p.ar .rem .i64 (p.ar .add .i64 a.2.2.2.2.2.2.2.2.2.2.2.2.2.1 (1:Int)) (p.ofNat (p.len a.2.2.2.2.2.2.2.2.2.2.1)))) 1) (p.rdI a.2.2.2.2.2.2.2.2.2.2.2.1 (p.nat a.2.2.2.2.2.2.2.2.2.2.2.2.2.1) 1)) (0:Int)) then Bool.true else Bool.false) else Bool.false) (
 opt.ret _ (Sum.inr (Sum.inl (a.1,(a.2.1,(a.2.2.1,(a.2.2.2.1,(a.2.2.2.2.1,(a.2.2.2.2.2.1,(a.2.2.2.2.2.2.1,(a.2.2.2.2.2.2.2.1,(a.2.2.2.2.2.2.2.2.1,(a.2.2.2.2.2.2.2.2.2.1,(a.2.2.2.2.2.2.2.2.2.2.1,())))))))))))))) (
 opt.alt T46 T46 _ (
 opt.run (((Int×(Int×(Int×(Int×(LD×(LD×(LD×(LD×(LD×(LD×(LD×(Int×(Int×(Int×(Int×Unit)))))))))))))))⊕(Int×(Int×(Int×(Int×(LD×(LD×(LD×(LD×(LD×(LD×(LD×(Int×(Int×(Int×(Int×Unit))))))))))))))))) (
 opt.alt T37 (((Int×(Int×(Int×(Int×(LD×(LD×(LD×(LD×(LD×(LD×(LD×(Int×(Int×(Int×(Int×(Int×(Int×(Int×(Int×(LD×Unit))))))))))))))))))))⊕(Int×(Int×(Int×(Int×(LD×(LD×(LD×(LD×(LD×(LD×(LD×(Int×(Int×(Int×(Int×(Int×(Int×(Int×(Int×(LD×Unit)))))))))))))))))))))) _ (
 it _ _ (y6q it p) (a.1,(a.2.1,(a.2.2.1,(a.2.2.2.1,(a.2.2.2.2.1,(a.2.2.2.2.2.1,(a.2.2.2.2.2.2.1,(a.2.2.2.2.2.2.2.1,(a.2.2.2.2.2.2.2.2.1,(a.2.2.2.2.2.2.2.2.2.1,(a.2.2.2.2.2.2.2.2.2.2.1,((p.rdI a.2.2.2.2.2.2.2.2.2.2.2.1 (p.nat a.2.2.2.2.2.2.2.2.2.2.2.2.2.1) 0),((p.rdI a.2.2.2.2.2.2.2.2.2.2.2.1 (p.nat a.2.2.2.2.2.2.2.2.2.2.2.2.2.1) 1),((p.ar .sub .i64 (p.rdI a.2.2.2.2.2.2.2.2.2.2.1 (p.nat (p.ar .rem .i64 (p.ar .add .i64 a.2.2.2.2.2.2.2.2.2.2.2.2.2.1 (1:Int)) (p.ofNat (p.len a.2.2.2.2.2.2.2.2.2.2.1)))) 0) (p.rdI a.2.2.2.2.2.2.2.2.2.2.2.1 (p.nat a.2.2.2.2.2.2.2.2.2.2.2.2.2.1) 0)),((p.ar .sub .i64 (p.rdI a.2.2.2.2.2.2.2.2.2.2.1 (p.nat (p.ar .rem .i64 (p.ar .add .i64 a.2.2.2.2.2.2.2.2.2.2.2.2.2.1 (1:Int)) (p.ofNat (p.len a.2.2.2.2.2.2.2.2.2.2.1)))) 1) (p.rdI a.2.2.2.2.2.2.2.2.2.2.2.1 (p.nat a.2.2.2.2.2.2.2.2.2.2.2.2.2.1) 1)),((p.rdI a.2.2.2.2.2.2.2.2.2.2.2.1 (p.nat a.2.2.2.2.2.2.2.2.2.2.2.2.2.1) 0),((p.rdI a.2.2.2.2.2.2.2.2.2.2.2.1 (p.nat a.2.2.2.2.2.2.2.2.2.2.2.2.2.1) 1),((p.ar .sub .i64 (p.rdI a.2.2.2.2.2.2.2.2.2.2.1 (p.nat (p.ar .rem .i64 (p.ar .add .i64 a.2.2.2.2.2.2.2.2.2.2.2.2.2.1 (1:Int)) (p.ofNat (p.len a.2.2.2.2.2.2.2.2.2.2.1)))) 0) (p.rdI a.2.2.2.2.2.2.2.2.2.2.2.1 (p.nat a.2.2.2.2.2.2.2.2.2.2.2.2.2.1) 0)),((p.ar .sub .i64 (p.rdI a.2.2.2.2.2.2.2.2.2.2.1 (p.nat (p.ar .rem .i64 (p.ar .add .i64 a.2.2.2.2.2.2.2.2.2.2.2.2.2.1 (1:Int)) (p.ofNat (p.len a.2.2.2.2.2.2.2.2.2.2.1)))) 1) (p.rdI a.2.2.2.2.2.2.2.2.2.2.2.1 (p.nat a.2.2.2.2.2.2.2.2.2.2.2.2.2.1) 1)),(a.2.2.2.2.2.2.2.2.2.1,(a.2.2.2.2.2.2.2.2.2.1,((p.ofNat (p.len a.2.2.2.2.2.2.2.2.2.1)),((0:Int),())))))))))))))))))))))))) (fun b=>
 opt.ret _ (Sum.inl (b.1,(b.2.1,(b.2.2.1,(b.2.2.2.1,(b.2.2.2.2.1,(b.2.2.2.2.2.1,(b.2.2.2.2.2.2.1,(b.2.2.2.2.2.2.2.1,(b.2.2.2.2.2.2.2.2.1,(b.2.2.2.2.2.2.2.2.2.1,(b.2.2.2.2.2.2.2.2.2.2.1,(b.2.2.2.2.2.2.2.2.2.2.2.1,(b.2.2.2.2.2.2.2.2.2.2.2.2.1,(b.2.2.2.2.2.2.2.2.2.2.2.2.2.1,(b.2.2.2.2.2.2.2.2.2.2.2.2.2.2.1,()))))))))))))))))) (fun c=>
 opt.alt T37 T37 _ (some c) (fun d=>
 opt.ret _ (Sum.inr (d.1,(d.2.1,(d.2.2.1,(d.2.2.2.1,(d.2.2.2.2.1,(d.2.2.2.2.2.1,(d.2.2.2.2.2.2.1,(d.2.2.2.2.2.2.2.1,(d.2.2.2.2.2.2.2.2.1,(d.2.2.2.2.2.2.2.2.2.1,(d.2.2.2.2.2.2.2.2.2.2.1,(d.2.2.2.2.2.2.2.2.2.2.2.1,(d.2.2.2.2.2.2.2.2.2.2.2.2.1,(d.2.2.2.2.2.2.2.2.2.2.2.2.2.1,(d.2.2.2.2.2.2.2.2.2.2.2.2.2.2.1,()))))))))))))))))) (fun e=>
 opt.bnd T37 _ (some e) fun f=>
 opt.ret _ (Sum.inl (f.1,(f.2.1,(f.2.2.1,(f.2.2.2.1,(f.2.2.2.2.1,(f.2.2.2.2.2.1,(f.2.2.2.2.2.2.1,(f.2.2.2.2.2.2.2.1,(f.2.2.2.2.2.2.2.2.1,(f.2.2.2.2.2.2.2.2.2.1,(f.2.2.2.2.2.2.2.2.2.2.1,(f.2.2.2.2.2.2.2.2.2.2.2.1,(f.2.2.2.2.2.2.2.2.2.2.2.2.1,(f.2.2.2.2.2.2.2.2.2.2.2.2.2.1,(f.2.2.2.2.2.2.2.2.2.2.2.2.2.2.1,())))))))))))))))))))) (fun g=>
 opt.ret _ (Sum.inl (g.1,(g.2.1,(g.2.2.1,(g.2.2.2.1,(g.2.2.2.2.1,(g.2.2.2.2.2.1,(g.2.2.2.2.2.2.1,(g.2.2.2.2.2.2.2.1,(g.2.2.2.2.2.2.2.2.1,(g.2.2.2.2.2.2.2.2.2.1,(g.2.2.2.2.2.2.2.2.2.2.1,(a.2.2.2.2.2.2.2.2.2.2.2.1,(a.2.2.2.2.2.2.2.2.2.2.2.2.1,((p.ar .add .i64 a.2.2.2.2.2.2.2.2.2.2.2.2.2.1 (1:Int)),())))))))))))))))) (fun h=>
 opt.bnd T46 _ (some h) fun i=>
 opt.ret _ (Sum.inr (Sum.inr (Sum.inl (i.1,(i.2.1,(i.2.2.1,(i.2.2.2.1,(i.2.2.2.2.1,(i.2.2.2.2.2.1,(i.2.2.2.2.2.2.1,(i.2.2.2.2.2.2.2.1,(i.2.2.2.2.2.2.2.2.1,(i.2.2.2.2.2.2.2.2.2.1,(i.2.2.2.2.2.2.2.2.2.2.1,()))))))))))))))))) (
 opt.ret _ (Sum.inr (Sum.inr (Sum.inr (a.1,(a.2.1,(a.2.2.1,(a.2.2.2.1,(a.2.2.2.2.1,(a.2.2.2.2.2.1,(a.2.2.2.2.2.2.1,(a.2.2.2.2.2.2.2.1,(a.2.2.2.2.2.2.2.2.1,(a.2.2.2.2.2.2.2.2.2.1,(a.2.2.2.2.2.2.2.2.2.2.1,()))))))))))))))))
def x2w (it:It) (p:Prim):(Int×(Int×(Int×(Int×(LD×(LD×(LD×(LD×(LD×(LD×(LD×(LD×(LD×(LD×(LD×(LD×(Int×(LD×(Int×(Int×Unit))))))))))))))))))))→Option ((Int×(Int×(Int×(Int×(LD×(LD×(LD×(LD×(LD×(LD×(LD×(LD×(LD×(LD×(LD×(LD×(Int×(LD×(Int×(Int×Unit))))))))))))))))))))⊕((Int×(Int×(Int×(Int×Unit))))⊕(Int×(Int×(Int×(Int×(LD×(LD×(LD×(LD×(LD×(LD×(LD×(LD×(LD×(LD×(Int×Unit))))))))))))))))):=
 fun a=>opt.run _ (
 opt.ask _ (p.cmp .lss a.2.2.2.2.2.2.2.2.2.2.2.2.2.2.2.2.2.2.2.1 a.2.2.2.2.2.2.2.2.2.2.2.2.2.2.2.2.2.2.1) (
 opt.need _ (p.rowOk a.2.2.2.2.2.2.2.2.2.2.2.2.2.2.2.2.2.1 (p.nat a.2.2.2.2.2.2.2.2.2.2.2.2.2.2.2.2.2.2.2.1) [ci,ci])<|
 opt.need _ (p.cmp .geq a.2.2.2.2.2.2.2.2.2.2.2.2.2.2.2.2.2.2.2.1 (0:Int))<|
 opt.bnd T2 _ (g57 it p (a.2.2.2.2.2.2.2.2.1,((p.rdI a.2.2.2.2.2.2.2.2.2.2.2.2.2.2.2.2.2.1 (p.nat a.2.2.2.2.2.2.2.2.2.2.2.2.2.2.2.2.2.2.2.1) 0),((p.rdI a.2.2.2.2.2.2.2.2.2.2.2.2.2.2.2.2.2.1 (p.nat a.2.2.2.2.2.2.2.2.2.2.2.2.2.2.2.2.2.2.2.1) 1),((1:Int),()))))) fun b=>
 opt.ask _ b.1 (
 opt.ret _ (Sum.inr (Sum.inl ((p.rdI a.2.2.2.2.2.2.2.2.2.2.2.2.2.2.2.2.2.1 (p.nat a.2.2.2.2.2.2.2.2.2.2.2.2.2.2.2.2.2.2.2.1) 0),((p.rdI a.2.2.2.2.2.2.2.2.2.2.2.2.2.2.2.2.2.1 (p.nat a.2.2.2.2.2.2.2.2.2.2.2.2.2.2.2.2.2.2.2.1) 1),((1:Int),((0:Int),()))))))) (
 opt.ret _ (Sum.inl (a.1,(a.2.1,(a.2.2.1,(a.2.2.2.1,(a.2.2.2.2.1,(a.2.2.2.2.2.1,(a.2.2.2.2.2.2.1,(a.2.2.2.2.2.2.2.1,(a.2.2.2.2.2.2.2.2.1,(a.2.2.2.2.2.2.2.2.2.1,(a.2.2.2.2.2.2.2.2.2.2.1,(a.2.2.2.2.2.2.2.2.2.2.2.1,(a.2.2.2.2.2.2.2.2.2.2.2.2.1,(a.2.2.2.2.2.2.2.2.2.2.2.2.2.1,(a.2.2.2.2.2.2.2.2.2.2.2.2.2.2.1,(a.2.2.2.2.2.2.2.2.2.2.2.2.2.2.2.1,(a.2.2.2.2.2.2.2.2.2.2.2.2.2.2.2.2.1,(a.2.2.2.2.2.2.2.2.2.2.2.2.2.2.2.2.2.1,(a.2.2.2.2.2.2.2.2.2.2.2.2.2.2.2.2.2.2.1,((p.ar .add .i64 a.2.2.2.2.2.2.2.2.2.2.2.2.2.2.2.2.2.2.2.1 (1:Int)),()))))))))))))))))))))))) (
 opt.ret _ (Sum.inr (Sum.inr (a.1,(a.2.1,(a.2.2.1,(a.2.2.2.1,(a.2.2.2.2.1,(a.2.2.2.2.2.1,(a.2.2.2.2.2.2.1,(a.2.2.2.2.2.2.2.2.2.1,(a.2.2.2.2.2.2.2.2.2.2.1,(a.2.2.2.2.2.2.2.2.2.2.2.1,(a.2.2.2.2.2.2.2.2.2.2.2.2.1,(a.2.2.2.2.2.2.2.2.2.2.2.2.2.1,(a.2.2.2.2.2.2.2.2.2.2.2.2.2.2.1,(a.2.2.2.2.2.2.2.2.2.2.2.2.2.2.2.1,(a.2.2.2.2.2.2.2.2.2.2.2.2.2.2.2.2.1,())))))))))))))))))))
def y15 (it:It) (p:Prim):(Int×(Int×(Int×(Int×(LD×(LD×(LD×(LD×(LD×(LD×(LD×(LD×(LD×(LD×(Int×Unit)))))))))))))))→Option ((Int×(Int×(Int×(Int×(LD×(LD×(LD×(LD×(LD×(LD×(LD×(LD×(LD×(LD×(Int×Unit)))))))))))))))⊕((Int×(Int×(Int×(Int×Unit))))⊕(Int×(Int×(Int×(Int×(LD×(LD×(LD×(LD×(LD×(LD×Unit)))))))))))):=
 fun a=>opt.run _ (
 opt.ask _ (p.cmp .lss a.2.2.2.2.2.2.2.2.2.2.2.2.2.2.1 (2:Int)) (
 opt.bnd T72 _ (
 opt.run T72 (
 opt.ask _ (p.cmp .eql a.2.2.2.2.2.2.2.2.2.2.2.2.2.2.1 (0:Int)) (
 opt.need _ (bif (p.cmp .geq (0:Int) (0:Int)) then (p.cmp .lss (0:Int) (p.ofNat 2)) else Bool.false)<|
 opt.ret _ (a.1,(a.2.1,(a.2.2.1,(a.2.2.2.1,(a.2.2.2.2.1,(a.2.2.2.2.2.1,(a.2.2.2.2.2.2.1,(a.2.2.2.2.2.2.2.2.2.2.1,(a.2.2.2.2.2.2.2.2.2.2.2.1,(a.2.2.2.2.2.2.2.1,(a.2.2.2.2.2.2.2.2.1,(a.2.2.2.2.2.2.2.2.2.1,(a.2.2.2.2.2.2.2.2.2.2.1,(a.2.2.2.2.2.2.2.2.2.2.2.1,(a.2.2.2.2.2.2.2.2.2.2.2.2.1,(a.2.2.2.2.2.2.2.2.2.2.2.2.2.1,((0:Int),())))))))))))))))))) (
 opt.need _ (p.cmp .eql a.2.2.2.2.2.2.2.2.2.2.2.2.2.2.1 (1:Int))<|
 opt.need _ (bif (p.cmp .geq (1:Int) (0:Int)) then (p.cmp .lss (1:Int) (p.ofNat 2)) else Bool.false)<|
 opt.ret _ (a.1,(a.2.1,(a.2.2.1,(a.2.2.2.1,(a.2.2.2.2.1,(a.2.2.2.2.2.1,(a.2.2.2.2.2.2.1,(a.2.2.2.2.2.2.2.2.2.2.2.2.1,(a.2.2.2.2.2.2.2.2.2.2.2.2.2.1,(a.2.2.2.2.2.2.2.1,(a.2.2.2.2.2.2.2.2.1,(a.2.2.2.2.2.2.2.2.2.1,(a.2.2.2.2.2.2.2.2.2.2.1,(a.2.2.2.2.2.2.2.2.2.2.2.1,(a.2.2.2.2.2.2.2.2.2.2.2.2.1,(a.2.2.2.2.2.2.2.2.2.2.2.2.2.1,((1:Int),())))))))))))))))))))) fun b=>
 opt.alt T8 T73 _ (
 it _ _ (x2w it p) (b.1,(b.2.1,(b.2.2.1,(b.2.2.2.1,(b.2.2.2.2.1,(b.2.2.2.2.2.1,(b.2.2.2.2.2.2.1,(b.2.2.2.2.2.2.2.1,(b.2.2.2.2.2.2.2.2.1,(b.2.2.2.2.2.2.2.2.2.1,(b.2.2.2.2.2.2.2.2.2.2.1,(b.2.2.2.2.2.2.2.2.2.2.2.1,(b.2.2.2.2.2.2.2.2.2.2.2.2.1,(b.2.2.2.2.2.2.2.2.2.2.2.2.2.1,(b.2.2.2.2.2.2.2.2.2.2.2.2.2.2.1,(b.2.2.2.2.2.2.2.2.2.2.2.2.2.2.2.1,(b.2.2.2.2.2.2.2.2.2.2.2.2.2.2.2.2.1,(b.2.2.2.2.2.2.2.1,((p.ofNat (p.len b.2.2.2.2.2.2.2.1)),((0:Int),()))))))))))))))))))))) (fun c=>
 opt.ret _ (Sum.inr (Sum.inl (c.1,(c.2.1,(c.2.2.1,(c.2.2.2.1,()))))))) (fun d=>
 opt.bnd T73 _ (some d) fun e=>
 opt.ret _ (Sum.inl (e.1,(e.2.1,(e.2.2.1,(e.2.2.2.1,(e.2.2.2.2.1,(e.2.2.2.2.2.1,(e.2.2.2.2.2.2.1,(e.2.2.2.2.2.2.2.1,(e.2.2.2.2.2.2.2.2.1,(e.2.2.2.2.2.2.2.2.2.1,(e.2.2.2.2.2.2.2.2.2.2.1,(e.2.2.2.2.2.2.2.2.2.2.2.1,(e.2.2.2.2.2.2.2.2.2.2.2.2.1,(e.2.2.2.2.2.2.2.2.2.2.2.2.2.1,((p.ar .add .i64 e.2.2.2.2.2.2.2.2.2.2.2.2.2.2.1 (1:Int)),())))))))))))))))))) (
 opt.ret _ (Sum.inr (Sum.inr (a.1,(a.2.1,(a.2.2.1,(a.2.2.2.1,(a.2.2.2.2.1,(a.2.2.2.2.2.1,(a.2.2.2.2.2.2.1,(a.2.2.2.2.2.2.2.1,(a.2.2.2.2.2.2.2.2.1,(a.2.2.2.2.2.2.2.2.2.1,()))))))))))))))
def g37 (it:It):(p:Prim)→(LD×(LD×(LD×(LD×Unit))))→Option T8:=
 fun p x=>
 opt.alt T0 (((LD×(LD×(LD×T1)))⊕((LD×(LD×(LD×T1)))⊕(LD×(LD×(LD×(LD×(LD×(LD×T1))))))))) _ (g62 it p (x.1,(x.2.1,(x.2.2.1,(x.2.2.2.1,()))))) (fun a=>
 opt.ask _ (p.cmp .neq a.1 (0:Int)) (
 opt.ret _ ((0:Int),((0:Int),((0:Int),(a.1,()))))) (
 opt.no _ 41)) (fun b=>
 opt.alt ((LD×(LD×(LD×T1)))) (((LD×(LD×(LD×T1)))⊕(LD×(LD×(LD×(LD×(LD×(LD×T1)))))))) _ (some b) (fun c=>
 opt.ask _ (p.cmp .neq c.2.2.2.1 (0:Int)) (
 opt.ret _ ((0:Int),((0:Int),((0:Int),(c.2.2.2.1,()))))) (
 opt.no _ 41)) (fun d=>
 opt.alt ((LD×(LD×(LD×T1)))) ((LD×(LD×(LD×(LD×(LD×(LD×T1))))))) _ (some d) (fun e=>
 opt.ask _ (p.cmp .neq e.2.2.2.1 (0:Int)) (
 opt.ret _ ((0:Int),((0:Int),((0:Int),(e.2.2.2.1,()))))) (
 opt.no _ 41)) (fun f=>
 opt.bnd ((LD×(LD×(LD×(LD×(LD×(LD×T1))))))) _ (some f) fun g=>
 opt.ask _ (p.cmp .neq g.2.2.2.2.2.2.1 (0:Int)) (
 opt.ret _ ((0:Int),((0:Int),((0:Int),(g.2.2.2.2.2.2.1,()))))) (
 opt.alt T8 T74 _ (
 it _ _ (y15 it p) ((0:Int),((0:Int),((0:Int),((0:Int),(g.1,(g.2.1,(g.2.2.1,(g.2.2.2.1,(g.2.2.2.2.1,(g.2.2.2.2.2.1,(g.2.2.1,(g.2.2.2.2.2.1,(g.2.2.2.2.2.1,(g.2.2.1,((0:Int),())))))))))))))))) (fun h=>
 opt.ret _ (h.1,(h.2.1,(h.2.2.1,(h.2.2.2.1,()))))) (fun i=>
 opt.bnd T74 _ (some i) fun j=>
 opt.alt T8 T8 _ (
 opt.run (((Int×(Int×(Int×(Int×Unit))))⊕(Int×(Int×(Int×(Int×Unit)))))) (
 opt.alt T38 (((Int×(Int×(Int×(Int×(LD×(LD×(LD×(LD×(LD×(LD×(LD×Unit)))))))))))⊕(Int×(Int×(Int×(Int×(LD×(LD×(LD×(LD×(LD×(LD×(LD×Unit))))))))))))) _ (
 it _ _ (y5z it p) (j.1,(j.2.1,(j.2.2.1,(j.2.2.2.1,(j.2.2.2.2.1,(j.2.2.2.2.2.1,(j.2.2.2.2.2.2.1,(j.2.2.2.2.2.2.2.1,(j.2.2.2.2.2.2.2.2.1,(j.2.2.2.2.2.2.2.2.2.1,(j.2.2.2.2.2.2.1,(j.2.2.2.2.2.2.1,((p.ofNat (p.len j.2.2.2.2.2.2.1)),((0:Int),()))))))))))))))) (fun k=>
 opt.ret _ (Sum.inl (k.1,(k.2.1,(k.2.2.1,(k.2.2.2.1,())))))) (fun l=>
 opt.alt T38 T38 _ (some l) (fun m=>
 opt.ret _ (Sum.inr (m.1,(m.2.1,(m.2.2.1,(m.2.2.2.1,())))))) (fun n=>
 opt.bnd T38 _ (some n) fun o=>
 opt.ret _ (Sum.inl (o.1,(o.2.1,(o.2.2.1,(o.2.2.2.1,()))))))))) (fun q=>
 opt.ret _ ((0:Int),((0:Int),((0:Int),((5:Int),()))))) (fun r=>
 opt.bnd T8 _ (some r) fun t=>
 opt.ret _ (t.1,(t.2.1,(t.2.2.1,(t.2.2.2.1,()))))))))))
def G37:=g37 it0
theorem u0u:CtrOk PG w9r (G37 std):=okF (a:=an37) (l:=la37) (gC ok76 (gC v67 (gC v6m (gN)))) (by kernel_rfl) fun _ _=>by kernel_rfl
end Go.Am
end
noncomputable section
namespace Go.Am
def v4d:Ctr:=
 ⟨70,[.agg [.int .i64, .int .i64], .agg [.int .i64, .int .i64]],[],[(.ret,⟨[(0, .int .i64)],[],1⟩)]⟩
def la70:List LA:=
 []
def ja70:List JA:=
 []
def v8z:List CF:=
 [⟨z40,F71⟩]
def an70:Anns:=
 ⟨v8z,ja70,[]⟩
def G70:(p:Prim)→T11→Option T0:=
 fun p x=>
 opt.bnd T2 _ (F71 p (x.1,(x.2.1,(x.2.2.1,(x.2.2.2.1,()))))) fun a=>
 opt.ask _ a.1 (
 opt.ret _ ((-1:Int),())) (
 opt.ret _ ((1:Int),()))
theorem ok70:CtrOk PG v4d (G70 std):=okF (a:=an70) (l:=la70) (gC ok71 (gN)) (by kernel_rfl) fun _ _=>by kernel_rfl
def v4e:Ctr:=
 ⟨69,[.sl 0 2, .clo 70 [] []],[.row [ci,ci]],[(.ret,⟨[(0, .agg [.int .i64, .int .i64])],[.row [ci,ci]],1⟩)]⟩
def la69:List LA:=
 [⟨69,[false,true,false,true,true,true],1,⟨⟨[(0, .sl 0 2),(1, .clo 70 [] []),(4, .bptr 1 0),(5, .bptr 2 0),(6, .int .i64)],[.row [ci,ci], .box [.int .i64, .int .i64], .box [.int .i64, .int .i64]],33⟩,[((AX.exit 0),⟨[(4, .bptr 1 0),(5, .bptr 2 0)],[.row [ci,ci], .box [.int .i64, .int .i64], .box [.int .i64, .int .i64]],33⟩)]⟩⟩]
def ja69:List JA:=
 [⟨69,[true,false,false,true,false,false,true,false,true,true,true],1,[(AX.normal,⟨[(0, .sl 0 2),(1, .clo 70 [] []),(4, .bptr 1 0),(5, .bptr 2 0),(6, .int .i64)],[.row [ci,ci], .box [.int .i64, .int .i64], .box [.int .i64, .int .i64]],33⟩)]⟩]
def v80:List CF:=
 [⟨v4d,G70⟩]
def an69:Anns:=
 ⟨v80,ja69,[]⟩
def v94 (p:Prim):(LD×T39)→Option ((LD×T39)⊕(LD×T11)):=
 fun a=>opt.run _ (
 opt.ask _ (p.cmp .lss a.2.2.2.2.2.2.2.1 (p.ofNat a.2.2.2.2.2.2.1)) (
 opt.need _ (bif (p.cmp .geq a.2.2.2.2.2.2.2.1 (0:Int)) then (p.cmp .lss a.2.2.2.2.2.2.2.1 (p.ofNat a.2.2.2.2.2.2.1)) else Bool.false)<|
 opt.need _ (p.rowOk a.1 (p.add a.2.2.2.2.2.1 (p.nat a.2.2.2.2.2.2.2.1)) [ci,ci])<|
 opt.bnd T0 _ (G70 p ((p.rdI a.1 (p.add a.2.2.2.2.2.1 (p.nat a.2.2.2.2.2.2.2.1)) 0),((p.rdI a.1 (p.add a.2.2.2.2.2.1 (p.nat a.2.2.2.2.2.2.2.1)) 1),(a.2.2.2.1,(a.2.2.2.2.1,()))))) fun b=>
 opt.bnd ((LD×T39)) _ (
 opt.run ((LD×T39)) (
 opt.ask _ (p.cmp .lss b.1 (0:Int)) (
 opt.need _ (bif (p.cmp .geq a.2.2.2.2.2.2.2.1 (0:Int)) then (p.cmp .lss a.2.2.2.2.2.2.2.1 (p.ofNat a.2.2.2.2.2.2.1)) else Bool.false)<|
 opt.need _ (p.rowOk a.1 (p.add a.2.2.2.2.2.1 (p.nat a.2.2.2.2.2.2.2.1)) [ci,ci])<|
 opt.ret _ (a.1,(a.2.1,(a.2.2.1,((p.rdI a.1 (p.add a.2.2.2.2.2.1 (p.nat a.2.2.2.2.2.2.2.1)) 0),((p.rdI a.1 (p.add a.2.2.2.2.2.1 (p.nat a.2.2.2.2.2.2.2.1)) 1),(a.2.2.2.2.2.1,(a.2.2.2.2.2.2.1,(a.2.2.2.2.2.2.2.1,()))))))))) (
 opt.ret _ (a.1,(a.2.1,(a.2.2.1,(a.2.2.2.1,(a.2.2.2.2.1,(a.2.2.2.2.2.1,(a.2.2.2.2.2.2.1,(a.2.2.2.2.2.2.2.1,()))))))))))) fun c=>
 opt.ret _ (Sum.inl (c.1,(c.2.1,(c.2.2.1,(c.2.2.2.1,(c.2.2.2.2.1,(c.2.2.2.2.2.1,(c.2.2.2.2.2.2.1,((p.ar .add .i64 c.2.2.2.2.2.2.2.1 (1:Int)),())))))))))) (
 opt.ret _ (Sum.inr (a.1,(a.2.1,(a.2.2.1,(a.2.2.2.1,(a.2.2.2.2.1,()))))))))
def g69 (it:It):(p:Prim)→(LD×T17)→Option ((LD×T3)):=
 fun p x=>
 opt.ask _ (p.cmp .lss (p.ofNat x.2.2.1) (1:Int)) (
 opt.no _ 41) (
 opt.need _ (bif (p.cmp .geq (0:Int) (0:Int)) then (p.cmp .lss (0:Int) (p.ofNat x.2.2.1)) else Bool.false)<|
 opt.need _ (p.rowOk x.1 (p.add x.2.1 (p.nat (0:Int))) [ci,ci])<|
 opt.bnd ((LD×T11)) _ (
 it _ _ (v94 p) (x.1,((0:Int),((0:Int),((p.rdI x.1 (p.add x.2.1 (p.nat (0:Int))) 0),((p.rdI x.1 (p.add x.2.1 (p.nat (0:Int))) 1),(x.2.1,(x.2.2.1,((1:Int),()))))))))) fun a=>
 opt.ret _ (a.1,(a.2.2.2.1,(a.2.2.2.2.1,()))))
def G69:=g69 it0
theorem ok69:CtrOk PG v4e (G69 std):=okF (a:=an69) (l:=la69) (gC ok70 (gN)) (by kernel_rfl) fun _ _=>by kernel_rfl
def v4m:Ctr:=
 ⟨25,[.agg [.list 2, .list 1], .agg [.list 2, .list 1]],[],[(.ret,⟨[(0, .tuple [.agg [.int .i64, .int .i64], .int .i64])],[],1⟩)]⟩
def la25:List LA:=
 [⟨25,[false,true,false,true,true,true,true,true],0,⟨⟨[(4, .bptr 0 0),(11, .bptr 1 0),(67, .agg [.list 2, .list 2, .list 2, .list 2]),(68, .int .i64)],[.box [.int .i64, .int .i64], .box [.sl 2 2], .row [ci,ci]],115⟩,[((AX.exit 0),⟨[(4, .bptr 0 0),(11, .bptr 1 0)],[.box [.int .i64, .int .i64], .box [.sl 2 2], .row [ci,ci]],115⟩)]⟩⟩,
 ⟨25,[false,true,true,false,false,true,true,false,false,true,false,true,true,true,true,true],0,⟨⟨[(4, .bptr 0 0),(11, .bptr 1 0),(13, .bptr 2 0),(67, .agg [.list 2, .list 2, .list 2, .list 2]),(68, .int .i64),(72, .list 2),(73, .int .i64),(74, .int .i64)],[.box [.int .i64, .int .i64], .box [.sl 3 2], .box [.list 2, .list 2], .row [ci,ci]],115⟩,[((AX.exit 2),⟨[(4, .bptr 0 0),(11, .bptr 1 0),(67, .agg [.list 2, .list 2, .list 2, .list 2]),(68, .int .i64)],[.box [.int .i64, .int .i64], .box [.sl 2 2], .row [ci,ci]],115⟩)]⟩⟩,
 ⟨25,[false,true,false,true,false,false,true,true,false,false,true,true,false,false,true,true,false,false,true,false,true,true,true,true,true],0,⟨⟨[(4, .bptr 0 0),(11, .bptr 1 0),(13, .bptr 2 0),(15, .bptr 3 0),(67, .agg [.list 2, .list 2, .list 2, .list 2]),(68, .int .i64),(72, .list 2),(73, .int .i64),(74, .int .i64),(79, .list 2),(80, .int .i64),(81, .int .i64)],[.box [.int .i64, .int .i64], .box [.sl 4 2], .box [.list 2, .list 2], .box [.int .i64, .int .i64], .row [ci,ci]],115⟩,[((AX.exit 4),⟨[(4, .bptr 0 0),(11, .bptr 1 0),(13, .bptr 2 0),(15, .bptr 3 0),(67, .agg [.list 2, .list 2, .list 2, .list 2]),(68, .int .i64),(72, .list 2),(73, .int .i64),(74, .int .i64)],[.box [.int .i64, .int .i64], .box [.sl 4 2], .box [.list 2, .list 2], .box [.int .i64, .int .i64], .row [ci,ci]],115⟩)]⟩⟩,
 ⟨94,[false,true],7,⟨⟨[(0, .yld 6),(1, .bptr 5 0),(6, .list 2),(7, .int .i64),(8, .int .i64)],[.box [.int .i64, .int .i64], .box [.sl 7 2], .box [.list 2, .list 2], .box [.int .i64, .int .i64], .dead, .box [.list 2], .loop Go.LoopState.ready Option.none 25 [Bool.false,Bool.true,Bool.true,Bool.true,Bool.false,Bool.false,Bool.true,Bool.true,Bool.false,Bool.false,Bool.true,Bool.true,Bool.false,Bool.false,Bool.true,Bool.true,Bool.false,Bool.false,Bool.true,Bool.false,Bool.true,Bool.true,Bool.true,Bool.true,Bool.true] 115 [(98, .clo 94 [] [.bptr 5 0]),(15, .bptr 3 0),(73, .int .i64),(72, .list 2),(13, .bptr 2 0),(11, .bptr 1 0),(67, .agg [.list 2, .list 2, .list 2, .list 2]),(4, .bptr 0 0),(68, .int .i64),(74, .int .i64)], .row [ci,ci]],33⟩,[(AX.ret,⟨[],[.box [.int .i64, .int .i64], .box [.sl 7 2], .box [.list 2, .list 2], .box [.int .i64, .int .i64], .dead, .box [.list 2], .loop Go.LoopState.ready Option.none 25 [Bool.false,Bool.true,Bool.true,Bool.true,Bool.false,Bool.false,Bool.true,Bool.true,Bool.false,Bool.false,Bool.true,Bool.true,Bool.false,Bool.false,Bool.true,Bool.true,Bool.false,Bool.false,Bool.true,Bool.false,Bool.true,Bool.true,Bool.true,Bool.true,Bool.true] 115 [(98, .clo 94 [] [.bptr 5 0]),(15, .bptr 3 0),(73, .int .i64),(72, .list 2),(13, .bptr 2 0),(11, .bptr 1 0),(67, .agg [.list 2, .list 2, .list 2, .list 2]),(4, .bptr 0 0),(68, .int .i64),(74, .int .i64)], .row [ci,ci]],33⟩),((AX.exit 0),⟨[],[.box [.int .i64, .int .i64], .box [.sl 7 2], .box [.list 2, .list 2], .box [.int .i64, .int .i64], .dead, .box [.list 2], .loop Go.LoopState.ready Option.none 25 [Bool.false,Bool.true,Bool.true,Bool.true,Bool.false,Bool.false,Bool.true,Bool.true,Bool.false,Bool.false,Bool.true,Bool.true,Bool.false,Bool.false,Bool.true,Bool.true,Bool.false,Bool.false,Bool.true,Bool.false,Bool.true,Bool.true,Bool.true,Bool.true,Bool.true] 115 [(98, .clo 94 [] [.bptr 5 0]),(15, .bptr 3 0),(73, .int .i64),(72, .list 2),(13, .bptr 2 0),(11, .bptr 1 0),(67, .agg [.list 2, .list 2, .list 2, .list 2]),(4, .bptr 0 0),(68, .int .i64),(74, .int .i64)], .row [ci,ci]],33⟩)]⟩⟩]
def ja25:List JA:=
 [⟨25,[true,true,false,true,false,true,true,true,false,false,true,true,false,false,true,true,false,false,true,true,false,false,true,false,true,true,true,true,true],20,[(AX.normal,⟨[(4, .bptr 0 0),(11, .bptr 1 0),(13, .bptr 2 0),(15, .bptr 3 0),(67, .agg [.list 2, .list 2, .list 2, .list 2]),(68, .int .i64),(72, .list 2),(73, .int .i64),(74, .int .i64)],[.box [.int .i64, .int .i64], .box [.sl 20 2], .box [.list 2, .list 2], .box [.int .i64, .int .i64], .dead, .box [.list 2], .dead, .dead, .box [.int .i64, .int .i64], .dead, .dead, .dead, .dead, .dead, .dead, .dead, .dead, .dead, .dead, .box [.int .i64, .int .i64], .row [ci,ci]],115⟩)]⟩,
 ⟨25,[true,true,true,false,false,true,true,false,false,true,true,false,false,true,true,false,false,true,false,true,true,true,true,true],0,[(AX.normal,⟨[(4, .bptr 0 0),(11, .bptr 1 0),(13, .bptr 2 0),(67, .agg [.list 2, .list 2, .list 2, .list 2]),(68, .int .i64),(72, .list 2),(73, .int .i64),(74, .int .i64)],[.box [.int .i64, .int .i64], .box [.sl 3 2], .box [.list 2, .list 2], .row [ci,ci]],115⟩)]⟩,
 ⟨25,[false,false,false,true,true,false,false,true,false,true,true,true,true,true],0,[(AX.normal,⟨[(4, .bptr 0 0),(11, .bptr 1 0),(13, .bptr 2 0),(67, .agg [.list 2, .list 2, .list 2, .list 2]),(68, .int .i64)],[.box [.int .i64, .int .i64], .box [.sl 3 2], .box [.list 2, .list 2], .row [ci,ci]],115⟩)]⟩]
def v9n:List CF:=
 [⟨v4e,G69⟩,⟨v4f,G68⟩,⟨w9l,G65⟩,⟨w41,G63⟩,⟨w1q,G62⟩]
def an25:Anns:=
 ⟨v9n,ja25,[]⟩
def w90 (it:It) (p:Prim):(LD×T75)→Option ((LD×T75)⊕((LD×T24)⊕(LD×T24))):=
 fun a=>opt.run _ (
 opt.ask _ (p.cmp .lss a.2.2.2.2.2.2.2.2.2.2.2.2.2.2.2.2.2.2.2.2.1 a.2.2.2.2.2.2.2.2.2.2.2.2.2.2.2.2.2.2.2.1) (
 opt.need _ (p.rowOk a.2.2.2.2.2.2.2.2.2.2.2.2.2.2.2.2.2.2.1 (p.nat a.2.2.2.2.2.2.2.2.2.2.2.2.2.2.2.2.2.2.2.2.1) [ci,ci])<|
 opt.need _ (p.cmp .geq a.2.2.2.2.2.2.2.2.2.2.2.2.2.2.2.2.2.2.2.2.1 (0:Int))<|
 opt.need _ (p.cmp .neq (p.ofNat (p.len a.2.2.2.2.2.2.2.2.2.1)) (0:Int))<|
 opt.need _ (p.rowOk a.2.2.2.2.2.2.2.2.2.1 (p.nat (p.ar .rem .i64 (p.ar .add .i64 a.2.2.2.2.2.2.2.2.2.2.2.2.2.2.2.2.2.2.2.2.1 (1:Int)) (p.ofNat (p.len a.2.2.2.2.2.2.2.2.2.1)))) [ci,ci])<|
 opt.need _ (p.cmp .geq (p.ar .rem .i64 (p.ar .add .i64 a.2.2.2.2.2.2.2.2.2.2.2.2.2.2.2.2.2.2.2.2.1 (1:Int)) (p.ofNat (p.len a.2.2.2.2.2.2.2.2.2.1))) (0:Int))<|
 opt.ask _ (bif (p.cmp .eql (p.ar .sub .i64 (p.rdI a.2.2.2.2.2.2.2.2.2.1 (p.nat (p.ar .rem .i64 (p.ar .add .i64 a.2.2.2.2.2.2.2.2.2.2.2.2.2.2.2.2.2.2.2.2.1 (1:Int)) (p.ofNat (p.len a.2.2.2.2.2.2.2.2.2.1)))) 0) (p.rdI a.2.2.2.2.2.2.2.2.2.2.2.2.2.2.2.2.2.2.1 (p.nat a.2.2.2.2.2.2.2.2.2.2.2.2.2.2.2.2.2.2.2.2.1) 0)) (0:Int)) then (bif (p.cmp .eql (p.ar .sub .i64 (p.rdI a.2.2.2.2.2.2.2.2.2.1 (p.nat (p.ar .rem .i64 (p.ar .add .i64 a.2.2.2.2.2.2.2.2.2.2.2.2.2.2.2.2.2.2.2.2.1 (1:Int)) (p.ofNat (p.len a.2.2.2.2.2.2.2.2.2.1)))) 1) (p.rdI a.2.2.2.2.2.2.2.2.2.2.2.2.2.2.2.2.2.2.1 (p.nat a.2.2.2.2.2.2.2.2.2.2.2.2.2.2.2.2.2.2.2.2.1) 1)) (0:Int)) then Bool.true else Bool.false) else Bool.false) (
 opt.ret _ (Sum.inr (Sum.inl (a.1,(a.2.1,(a.2.2.1,(a.2.2.2.1,(a.2.2.2.2.1,(a.2.2.2.2.2.1,(a.2.2.2.2.2.2.1,(a.2.2.2.2.2.2.2.1,(a.2.2.2.2.2.2.2.2.1,(a.2.2.2.2.2.2.2.2.2.1,(a.2.2.2.2.2.2.2.2.2.2.1,(a.2.2.2.2.2.2.2.2.2.2.2.1,(a.2.2.2.2.2.2.2.2.2.2.2.2.1,(a.2.2.2.2.2.2.2.2.2.2.2.2.2.1,(a.2.2.2.2.2.2.2.2.2.2.2.2.2.2.1,(a.2.2.2.2.2.2.2.2.2.2.2.2.2.2.2.1,(a.2.2.2.2.2.2.2.2.2.2.2.2.2.2.2.2.1,(a.2.2.2.2.2.2.2.2.2.2.2.2.2.2.2.2.2.1,()))))))))))))))))))))) (
 opt.bnd T19 _ (g68 it p (a.2.2.2.2.2.2.2.1,(a.2.2.2.2.2.2.2.2.1,((p.rdI a.2.2.2.2.2.2.2.2.2.2.2.2.2.2.2.2.2.2.1 (p.nat a.2.2.2.2.2.2.2.2.2.2.2.2.2.2.2.2.2.2.2.2.1) 0),((p.rdI a.2.2.2.2.2.2.2.2.2.2.2.2.2.2.2.2.2.2.1 (p.nat a.2.2.2.2.2.2.2.2.2.2.2.2.2.2.2.2.2.2.2.2.1) 1),((p.ar .sub .i64 (p.rdI a.2.2.2.2.2.2.2.2.2.1 (p.nat (p.ar .rem .i64 (p.ar .add .i64 a.2.2.2.2.2.2.2.2.2.2.2.2.2.2.2.2.2.2.2.2.1 (1:Int)) (p.ofNat (p.len a.2.2.2.2.2.2.2.2.2.1)))) 0) (p.rdI a.2.2.2.2.2.2.2.2.2.2.2.2.2.2.2.2.2.2.1 (p.nat a.2.2.2.2.2.2.2.2.2.2.2.2.2.2.2.2.2.2.2.2.1) 0)),((p.ar .sub .i64 (p.rdI a.2.2.2.2.2.2.2.2.2.1 (p.nat (p.ar .rem .i64 (p.ar .add .i64 a.2.2.2.2.2.2.2.2.2.2.2.2.2.2.2.2.2.2.2.2.1 (1:Int)) (p.ofNat (p.len a.2.2.2.2.2.2.2.2.2.1)))) 1) (p.rdI a.2.2.2.2.2.2.2.2.2.2.2.2.2.2.2.2.2.2.1 (p.nat a.2.2.2.2.2.2.2.2.2.2.2.2.2.2.2.2.2.2.2.2.1) 1)),()))))))) fun b=>
 opt.bnd ((LD×T76)) _ (
 opt.run ((LD×T76)) (
 opt.ask _ b.2.2.1 (
 opt.need _ (p.and (p.leN (p.add 0 1) (p.len [[(D.int .i64 b.1),(D.int .i64 b.2.1)]])) (p.and (p.leN (p.add a.2.2.2.1 a.2.2.2.2.1) (p.len a.1)) (p.and (p.leN 1 1) (p.leN (p.add a.2.2.2.2.1 1) 1000000))))<|
 opt.ret _ ((p.app (p.cut a.1 a.2.2.2.1 a.2.2.2.2.1) (p.cut [[(D.int .i64 b.1),(D.int .i64 b.2.1)]] 0 1)),(a.2.1,(a.2.2.1,(0,((p.add a.2.2.2.2.1 1),(a.2.2.2.2.2.1,(a.2.2.2.2.2.2.1,(a.2.2.2.2.2.2.2.1,(a.2.2.2.2.2.2.2.2.1,(a.2.2.2.2.2.2.2.2.2.1,((p.rdI a.2.2.2.2.2.2.2.2.2.2.2.2.2.2.2.2.2.2.1 (p.nat a.2.2.2.2.2.2.2.2.2.2.2.2.2.2.2.2.2.2.2.2.1) 0),((p.rdI a.2.2.2.2.2.2.2.2.2.2.2.2.2.2.2.2.2.2.1 (p.nat a.2.2.2.2.2.2.2.2.2.2.2.2.2.2.2.2.2.2.2.2.1) 1),((p.ar .sub .i64 (p.rdI a.2.2.2.2.2.2.2.2.2.1 (p.nat (p.ar .rem .i64 (p.ar .add .i64 a.2.2.2.2.2.2.2.2.2.2.2.2.2.2.2.2.2.2.2.2.1 (1:Int)) (p.ofNat (p.len a.2.2.2.2.2.2.2.2.2.1)))) 0) (p.rdI a.2.2.2.2.2.2.2.2.2.2.2.2.2.2.2.2.2.2.1 (p.nat a.2.2.2.2.2.2.2.2.2.2.2.2.2.2.2.2.2.2.2.2.1) 0)),((p.ar .sub .i64 (p.rdI a.2.2.2.2.2.2.2.2.2.1 (p.nat (p.ar .rem .i64 (p.ar .add .i64 a.2.2.2.2.2.2.2.2.2.2.2.2.2.2.2.2.2.2.2.2.1 (1:Int)) (p.ofNat (p.len a.2.2.2.2.2.2.2.2.2.1)))) 1) (p.rdI a.2.2.2.2.2.2.2.2.2.2.2.2.2.2.2.2.2.2.1 (p.nat a.2.2.2.2.2.2.2.2.2.2.2.2.2.2.2.2.2.2.2.2.1) 1)),(a.2.2.2.2.2.2.2.2.2.2.2.2.1,(a.2.2.2.2.2.2.2.2.2.2.2.2.2.1,(a.2.2.2.2.2.2.2.2.2.2.2.2.2.2.1,(a.2.2.2.2.2.2.2.2.2.2.2.2.2.2.2.1,(a.2.2.2.2.2.2.2.2.2.2.2.2.2.2.2.2.1,(a.2.2.2.2.2.2.2.2.2.2.2.1,(a.2.2.2.2.2.2.2.2.2.2.1,(a.2.2.2.2.2.2.2.2.2.2.2.2.2.2.2.2.2.1,()))))))))))))))))))))))) (
 opt.ret _ (a.1,(a.2.1,(a.2.2.1,(a.2.2.2.1,(a.2.2.2.2.1,(a.2.2.2.2.2.1,(a.2.2.2.2.2.2.1,(a.2.2.2.2.2.2.2.1,(a.2.2.2.2.2.2.2.2.1,(a.2.2.2.2.2.2.2.2.2.1,((p.rdI a.2.2.2.2.2.2.2.2.2.2.2.2.2.2.2.2.2.2.1 (p.nat a.2.2.2.2.2.2.2.2.2.2.2.2.2.2.2.2.2.2.2.2.1) 0),((p.rdI a.2.2.2.2.2.2.2.2.2.2.2.2.2.2.2.2.2.2.1 (p.nat a.2.2.2.2.2.2.2.2.2.2.2.2.2.2.2.2.2.2.2.2.1) 1),((p.ar .sub .i64 (p.rdI a.2.2.2.2.2.2.2.2.2.1 (p.nat (p.ar .rem .i64 (p.ar .add .i64 a.2.2.2.2.2.2.2.2.2.2.2.2.2.2.2.2.2.2.2.2.1 (1:Int)) (p.ofNat (p.len a.2.2.2.2.2.2.2.2.2.1)))) 0) (p.rdI a.2.2.2.2.2.2.2.2.2.2.2.2.2.2.2.2.2.2.1 (p.nat a.2.2.2.2.2.2.2.2.2.2.2.2.2.2.2.2.2.2.2.2.1) 0)),((p.ar .sub .i64 (p.rdI a.2.2.2.2.2.2.2.2.2.1 (p.nat (p.ar .rem .i64 (p.ar .add .i64 a.2.2.2.2.2.2.2.2.2.2.2.2.2.2.2.2.2.2.2.2.1 (1:Int)) (p.ofNat (p.len a.2.2.2.2.2.2.2.2.2.1)))) 1) (p.rdI a.2.2.2.2.2.2.2.2.2.2.2.2.2.2.2.2.2.2.1 (p.nat a.2.2.2.2.2.2.2.2.2.2.2.2.2.2.2.2.2.2.2.2.1) 1)),(a.2.2.2.2.2.2.2.2.2.2.2.2.1,(a.2.2.2.2.2.2.2.2.2.2.2.2.2.1,(a.2.2.2.2.2.2.2.2.2.2.2.2.2.2.1,(a.2.2.2.2.2.2.2.2.2.2.2.2.2.2.2.1,(a.2.2.2.2.2.2.2.2.2.2.2.2.2.2.2.2.1,(a.2.2.2.2.2.2.2.2.2.2.2.1,(a.2.2.2.2.2.2.2.2.2.2.1,(a.2.2.2.2.2.2.2.2.2.2.2.2.2.2.2.2.2.1,()))))))))))))))))))))))))) fun c=>
 opt.ret _ (Sum.inl (c.1,(c.2.1,(c.2.2.1,(c.2.2.2.1,(c.2.2.2.2.1,(c.2.2.2.2.2.1,(c.2.2.2.2.2.2.1,(c.2.2.2.2.2.2.2.1,(c.2.2.2.2.2.2.2.2.1,(c.2.2.2.2.2.2.2.2.2.1,(a.2.2.2.2.2.2.2.2.2.2.1,(a.2.2.2.2.2.2.2.2.2.2.2.1,(a.2.2.2.2.2.2.2.2.2.2.2.2.1,(a.2.2.2.2.2.2.2.2.2.2.2.2.2.1,(a.2.2.2.2.2.2.2.2.2.2.2.2.2.2.1,(a.2.2.2.2.2.2.2.2.2.2.2.2.2.2.2.1,(a.2.2.2.2.2.2.2.2.2.2.2.2.2.2.2.2.1,(a.2.2.2.2.2.2.2.2.2.2.2.2.2.2.2.2.2.1,(a.2.2.2.2.2.2.2.2.2.2.2.2.2.2.2.2.2.2.1,(a.2.2.2.2.2.2.2.2.2.2.2.2.2.2.2.2.2.2.2.1,((p.ar .add .i64 a.2.2.2.2.2.2.2.2.2.2.2.2.2.2.2.2.2.2.2.2.1 (1:Int)),())))))))))))))))))))))))) (
 opt.ret _ (Sum.inr (Sum.inr (a.1,(a.2.1,(a.2.2.1,(a.2.2.2.1,(a.2.2.2.2.1,(a.2.2.2.2.2.1,(a.2.2.2.2.2.2.1,(a.2.2.2.2.2.2.2.1,(a.2.2.2.2.2.2.2.2.1,(a.2.2.2.2.2.2.2.2.2.1,(a.2.2.2.2.2.2.2.2.2.2.1,(a.2.2.2.2.2.2.2.2.2.2.2.1,(a.2.2.2.2.2.2.2.2.2.2.2.2.1,(a.2.2.2.2.2.2.2.2.2.2.2.2.2.1,(a.2.2.2.2.2.2.2.2.2.2.2.2.2.2.1,(a.2.2.2.2.2.2.2.2.2.2.2.2.2.2.2.1,(a.2.2.2.2.2.2.2.2.2.2.2.2.2.2.2.2.1,(a.2.2.2.2.2.2.2.2.2.2.2.2.2.2.2.2.2.1,()))))))))))))))))))))))
def w91 (it:It) (p:Prim):(LD×T77)→Option ((LD×T77)⊕(LD×T78)):=
 fun a=>opt.run _ (
 opt.ask _ (p.cmp .lss a.2.2.2.2.2.2.2.2.2.2.2.2.2.2.2.2.2.2.2.1 a.2.2.2.2.2.2.2.2.2.2.2.2.2.2.2.2.2.2.1) (
 opt.need _ (p.rowOk a.2.2.2.2.2.2.2.2.2.2.2.2.2.2.2.2.2.1 (p.nat a.2.2.2.2.2.2.2.2.2.2.2.2.2.2.2.2.2.2.2.1) [ci,ci])<|
 opt.need _ (p.cmp .geq a.2.2.2.2.2.2.2.2.2.2.2.2.2.2.2.2.2.2.2.1 (0:Int))<|
 opt.bnd T4 _ (g65 it p ((p.ar .add .i64 (p.ar .mul .i64 (p.ar .sub .i64 (p.rdI a.2.2.2.2.2.2.2.2.2.2.2.2.2.2.2.2.2.1 (p.nat a.2.2.2.2.2.2.2.2.2.2.2.2.2.2.2.2.2.2.2.1) 0) a.2.2.2.2.2.2.2.1) (p.ar .sub .i64 (p.rdI a.2.2.2.2.2.2.2.2.2.2.2.2.2.2.2.2.2.1 (p.nat a.2.2.2.2.2.2.2.2.2.2.2.2.2.2.2.2.2.2.2.1) 0) a.2.2.2.2.2.2.2.1)) (p.ar .mul .i64 (p.ar .sub .i64 (p.rdI a.2.2.2.2.2.2.2.2.2.2.2.2.2.2.2.2.2.1 (p.nat a.2.2.2.2.2.2.2.2.2.2.2.2.2.2.2.2.2.2.2.1) 1) a.2.2.2.2.2.2.2.2.1) (p.ar .sub .i64 (p.rdI a.2.2.2.2.2.2.2.2.2.2.2.2.2.2.2.2.2.1 (p.nat a.2.2.2.2.2.2.2.2.2.2.2.2.2.2.2.2.2.2.2.1) 1) a.2.2.2.2.2.2.2.2.1))),((1:Int),()))) fun b=>
 opt.need _ (p.and (p.leN (p.add 0 1) (p.len [[(D.int .i64 b.1),(D.int .i64 b.2.1)]])) (p.and (p.leN (p.add a.2.2.2.1 a.2.2.2.2.1) (p.len a.1)) (p.and (p.leN 1 1) (p.leN (p.add a.2.2.2.2.1 1) 1000000))))<|
 opt.ret _ (Sum.inl ((p.app (p.cut a.1 a.2.2.2.1 a.2.2.2.2.1) (p.cut [[(D.int .i64 b.1),(D.int .i64 b.2.1)]] 0 1)),(a.2.1,(a.2.2.1,(0,((p.add a.2.2.2.2.1 1),(a.2.2.2.2.2.1,(a.2.2.2.2.2.2.1,(a.2.2.2.2.2.2.2.1,(a.2.2.2.2.2.2.2.2.1,(a.2.2.2.2.2.2.2.2.2.1,(a.2.2.2.2.2.2.2.2.2.2.1,(a.2.2.2.2.2.2.2.2.2.2.2.1,(a.2.2.2.2.2.2.2.2.2.2.2.2.1,(a.2.2.2.2.2.2.2.2.2.2.2.2.2.1,(a.2.2.2.2.2.2.2.2.2.2.2.2.2.2.1,(a.2.2.2.2.2.2.2.2.2.2.2.2.2.2.2.1,(a.2.2.2.2.2.2.2.2.2.2.2.2.2.2.2.2.1,(a.2.2.2.2.2.2.2.2.2.2.2.2.2.2.2.2.2.1,(a.2.2.2.2.2.2.2.2.2.2.2.2.2.2.2.2.2.2.1,((p.ar .add .i64 a.2.2.2.2.2.2.2.2.2.2.2.2.2.2.2.2.2.2.2.1 (1:Int)),())))))))))))))))))))))) (
 opt.ret _ (Sum.inr (a.1,(a.2.1,(a.2.2.1,(a.2.2.2.1,(a.2.2.2.2.1,(a.2.2.2.2.2.1,(a.2.2.2.2.2.2.1,(a.2.2.2.2.2.2.2.1,(a.2.2.2.2.2.2.2.2.1,(a.2.2.2.2.2.2.2.2.2.1,(a.2.2.2.2.2.2.2.2.2.2.1,(a.2.2.2.2.2.2.2.2.2.2.2.1,(a.2.2.2.2.2.2.2.2.2.2.2.2.1,(a.2.2.2.2.2.2.2.2.2.2.2.2.2.1,(a.2.2.2.2.2.2.2.2.2.2.2.2.2.2.1,(a.2.2.2.2.2.2.2.2.2.2.2.2.2.2.2.1,(a.2.2.2.2.2.2.2.2.2.2.2.2.2.2.2.2.1,()))))))))))))))))))))
def w92 (it:It) (p:Prim):(LD×T40)→Option ((LD×T40)⊕(LD×T41)):=
 fun a=>opt.run _ (
 opt.ask _ (p.cmp .lss a.2.2.2.2.2.2.2.2.2.2.2.2.2.2.1 a.2.2.2.2.2.2.2.2.2.2.2.2.2.1) (
 opt.need _ (p.rowOk a.2.2.2.2.2.2.2.2.2.2.2.2.1 (p.nat a.2.2.2.2.2.2.2.2.2.2.2.2.2.2.1) [ci,ci])<|
 opt.need _ (p.cmp .geq a.2.2.2.2.2.2.2.2.2.2.2.2.2.2.1 (0:Int))<|
 opt.bnd ((LD×T78)) _ (
 it _ _ (w91 it p) (a.1,(a.2.1,(a.2.2.1,(a.2.2.2.1,(a.2.2.2.2.1,(a.2.2.2.2.2.1,(a.2.2.2.2.2.2.1,((p.rdI a.2.2.2.2.2.2.2.2.2.2.2.2.1 (p.nat a.2.2.2.2.2.2.2.2.2.2.2.2.2.2.1) 0),((p.rdI a.2.2.2.2.2.2.2.2.2.2.2.2.1 (p.nat a.2.2.2.2.2.2.2.2.2.2.2.2.2.2.1) 1),(a.2.2.2.2.2.2.2.1,(a.2.2.2.2.2.2.2.2.1,(a.2.2.2.2.2.2.2.2.2.1,(a.2.2.2.2.2.2.2.2.2.2.1,(a.2.2.2.2.2.2.2.2.2.2.2.1,(a.2.2.2.2.2.2.2.2.2.2.2.2.1,(a.2.2.2.2.2.2.2.2.2.2.2.2.2.1,(a.2.2.2.2.2.2.2.2.2.2.2.2.2.2.1,(a.2.2.2.2.2.2.1,((p.ofNat (p.len a.2.2.2.2.2.2.1)),((0:Int),()))))))))))))))))))))) fun b=>
 opt.bnd ((LD×T40)) _ (
 opt.run ((LD×T40)) (
 opt.alt ((LD×T24)) ((LD×T24)) _ (
 it _ _ (w90 it p) (b.1,(b.2.1,(b.2.2.1,(b.2.2.2.1,(b.2.2.2.2.1,(b.2.2.2.2.2.1,(b.2.2.2.2.2.2.1,(b.2.2.2.2.2.2.2.1,(b.2.2.2.2.2.2.2.2.1,(b.2.2.2.2.2.2.1,(b.2.2.2.2.2.2.2.2.2.2.2.2.2.2.2.1,(b.2.2.2.2.2.2.2.2.2.2.2.2.2.2.1,(b.2.2.2.2.2.2.2.2.2.1,(b.2.2.2.2.2.2.2.2.2.2.1,(b.2.2.2.2.2.2.2.2.2.2.2.1,(b.2.2.2.2.2.2.2.2.2.2.2.2.1,(b.2.2.2.2.2.2.2.2.2.2.2.2.2.1,(b.2.2.2.2.2.2.2.2.2.2.2.2.2.2.2.2.1,(b.2.2.2.2.2.2.1,((p.ofNat (p.len b.2.2.2.2.2.2.1)),((0:Int),())))))))))))))))))))))) (fun c=>
 opt.ret _ (c.1,(c.2.1,(c.2.2.1,(c.2.2.2.1,(c.2.2.2.2.1,(c.2.2.2.2.2.1,(c.2.2.2.2.2.2.1,(b.2.2.2.2.2.2.2.2.2.1,(b.2.2.2.2.2.2.2.2.2.2.1,(b.2.2.2.2.2.2.2.2.2.2.2.1,(b.2.2.2.2.2.2.2.2.2.2.2.2.1,(b.2.2.2.2.2.2.2.2.2.2.2.2.2.1,(b.2.2.2.2.2.2.2.2.2.2.2.2.2.2.1,(b.2.2.2.2.2.2.2.2.2.2.2.2.2.2.2.1,(b.2.2.2.2.2.2.2.2.2.2.2.2.2.2.2.2.1,())))))))))))))))) (fun d=>
 opt.bnd ((LD×T24)) _ (some d) fun e=>
 opt.ret _ (e.1,(e.2.1,(e.2.2.1,(e.2.2.2.1,(e.2.2.2.2.1,(e.2.2.2.2.2.1,(e.2.2.2.2.2.2.1,(b.2.2.2.2.2.2.2.2.2.1,(b.2.2.2.2.2.2.2.2.2.2.1,(b.2.2.2.2.2.2.2.2.2.2.2.1,(b.2.2.2.2.2.2.2.2.2.2.2.2.1,(b.2.2.2.2.2.2.2.2.2.2.2.2.2.1,(b.2.2.2.2.2.2.2.2.2.2.2.2.2.2.1,(b.2.2.2.2.2.2.2.2.2.2.2.2.2.2.2.1,(b.2.2.2.2.2.2.2.2.2.2.2.2.2.2.2.2.1,())))))))))))))))))) fun f=>
 opt.ret _ (Sum.inl (f.1,(f.2.1,(f.2.2.1,(f.2.2.2.1,(f.2.2.2.2.1,(f.2.2.2.2.2.1,(f.2.2.2.2.2.2.1,(f.2.2.2.2.2.2.2.1,(f.2.2.2.2.2.2.2.2.1,(f.2.2.2.2.2.2.2.2.2.1,(f.2.2.2.2.2.2.2.2.2.2.1,(f.2.2.2.2.2.2.2.2.2.2.2.1,(f.2.2.2.2.2.2.2.2.2.2.2.2.1,(f.2.2.2.2.2.2.2.2.2.2.2.2.2.1,((p.ar .add .i64 f.2.2.2.2.2.2.2.2.2.2.2.2.2.2.1 (1:Int)),()))))))))))))))))) (
 opt.ret _ (Sum.inr (a.1,(a.2.1,(a.2.2.1,(a.2.2.2.1,(a.2.2.2.2.1,(a.2.2.2.2.2.2.2.1,(a.2.2.2.2.2.2.2.2.1,(a.2.2.2.2.2.2.2.2.2.1,(a.2.2.2.2.2.2.2.2.2.2.1,(a.2.2.2.2.2.2.2.2.2.2.2.1,())))))))))))))
def w93 (it:It) (p:Prim):(LD×T41)→Option ((LD×T41)⊕(LD×T79)):=
 fun a=>opt.run _ (
 opt.ask _ (p.cmp .lss a.2.2.2.2.2.2.2.2.2.1 (2:Int)) (
 opt.bnd ((LD×T80)) _ (
 opt.run ((LD×T80)) (
 opt.ask _ (p.cmp .eql a.2.2.2.2.2.2.2.2.2.1 (0:Int)) (
 opt.need _ (bif (p.cmp .geq (0:Int) (0:Int)) then (p.cmp .lss (0:Int) (p.ofNat 2)) else Bool.false)<|
 opt.ret _ (a.1,(a.2.1,(a.2.2.1,(a.2.2.2.1,(a.2.2.2.2.1,(a.2.2.2.2.2.1,(a.2.2.2.2.2.2.1,(a.2.2.2.2.2.1,(a.2.2.2.2.2.2.1,(a.2.2.2.2.2.2.2.1,(a.2.2.2.2.2.2.2.2.1,((0:Int),()))))))))))))) (
 opt.need _ (p.cmp .eql a.2.2.2.2.2.2.2.2.2.1 (1:Int))<|
 opt.need _ (bif (p.cmp .geq (1:Int) (0:Int)) then (p.cmp .lss (1:Int) (p.ofNat 2)) else Bool.false)<|
 opt.ret _ (a.1,(a.2.1,(a.2.2.1,(a.2.2.2.1,(a.2.2.2.2.1,(a.2.2.2.2.2.2.2.1,(a.2.2.2.2.2.2.2.2.1,(a.2.2.2.2.2.1,(a.2.2.2.2.2.2.1,(a.2.2.2.2.2.2.2.1,(a.2.2.2.2.2.2.2.2.1,((1:Int),()))))))))))))))) fun b=>
 opt.bnd ((LD×T41)) _ (
 it _ _ (w92 it p) (b.1,(b.2.1,(b.2.2.1,(b.2.2.2.1,(b.2.2.2.2.1,(b.2.2.2.2.2.1,(b.2.2.2.2.2.2.1,(b.2.2.2.2.2.2.2.1,(b.2.2.2.2.2.2.2.2.1,(b.2.2.2.2.2.2.2.2.2.1,(b.2.2.2.2.2.2.2.2.2.2.1,(b.2.2.2.2.2.2.2.2.2.2.2.1,(b.2.2.2.2.2.1,((p.ofNat (p.len b.2.2.2.2.2.1)),((0:Int),())))))))))))))))) fun c=>
 opt.ret _ (Sum.inl (c.1,(c.2.1,(c.2.2.1,(c.2.2.2.1,(c.2.2.2.2.1,(c.2.2.2.2.2.1,(c.2.2.2.2.2.2.1,(c.2.2.2.2.2.2.2.1,(c.2.2.2.2.2.2.2.2.1,((p.ar .add .i64 c.2.2.2.2.2.2.2.2.2.1 (1:Int)),())))))))))))) (
 opt.ret _ (Sum.inr (a.1,(a.2.1,(a.2.2.1,(a.2.2.2.1,(a.2.2.2.2.1,()))))))))
def g25 (it:It):(p:Prim)→(LD×(LD×(LD×(LD×Unit))))→Option T6:=
 fun p x=>
 opt.alt T0 (((LD×(LD×(LD×T1)))⊕((LD×(LD×(LD×T1)))⊕(LD×(LD×(LD×(LD×(LD×(LD×T1))))))))) _ (g62 it p (x.1,(x.2.1,(x.2.2.1,(x.2.2.2.1,()))))) (fun a=>
 opt.ask _ (p.cmp .neq a.1 (0:Int)) (
 opt.ret _ ((0:Int),((0:Int),(a.1,())))) (
 opt.no _ 41)) (fun b=>
 opt.alt ((LD×(LD×(LD×T1)))) (((LD×(LD×(LD×T1)))⊕(LD×(LD×(LD×(LD×(LD×(LD×T1)))))))) _ (some b) (fun c=>
 opt.ask _ (p.cmp .neq c.2.2.2.1 (0:Int)) (
 opt.ret _ ((0:Int),((0:Int),(c.2.2.2.1,())))) (
 opt.no _ 41)) (fun d=>
 opt.alt ((LD×(LD×(LD×T1)))) ((LD×(LD×(LD×(LD×(LD×(LD×T1))))))) _ (some d) (fun e=>
 opt.ask _ (p.cmp .neq e.2.2.2.1 (0:Int)) (
 opt.ret _ ((0:Int),((0:Int),(e.2.2.2.1,())))) (
 opt.no _ 41)) (fun f=>
 opt.bnd ((LD×(LD×(LD×(LD×(LD×(LD×T1))))))) _ (some f) fun g=>
 opt.ask _ (p.cmp .neq g.2.2.2.2.2.2.1 (0:Int)) (
 opt.ret _ ((0:Int),((0:Int),(g.2.2.2.2.2.2.1,())))) (
 opt.bnd T21 _ (g63 it p (g.2.2.1,(g.2.2.2.2.2.1,()))) fun h=>
 opt.ask _ (bif h.2.2.2.1 then Bool.false else Bool.true) (
 opt.ret _ ((0:Int),((1:Int),((0:Int),())))) (
 opt.need _ (p.leN (p.add 0 0) (p.len []))<|
 opt.bnd ((LD×T79)) _ (
 it _ _ (w93 it p) ([],((0:Int),((0:Int),(0,(0,(g.2.2.1,(g.2.2.2.2.2.1,(g.2.2.2.2.2.1,(g.2.2.1,((0:Int),()))))))))))) fun i=>
 opt.bnd ((LD×T3)) _ (g69 it p (i.1,(i.2.2.2.1,(i.2.2.2.2.1,())))) fun j=>
 opt.ret _ (j.2.1,(j.2.2.1,((0:Int),()))))))))
def G25:=g25 it0
theorem ok25:CtrOk PG v4m (G25 std):=okF (a:=an25) (l:=la25) (gC ok69 (gC ok68 (gC u0o (gC v65 (gC v6m (gN)))))) (by kernel_rfl) fun _ _=>by kernel_rfl
end Go.Am
end
noncomputable section
namespace Go.Am
def w9u:Ctr:=
 ⟨27,[.list 2],[],[(.ret,⟨[(0, .tuple [.int .i64, .int .i64, .int .i64])],[],1⟩)]⟩
def la27:List LA:=
 [⟨27,[false,true,false,true,true,true],0,⟨⟨[(5, .vec 0 1),(22, .list 2),(23, .int .i64),(24, .int .i64)],[.row [(CK.ref [(CR.list 2),(CR.list 1),(CR.list 2)])]],103⟩,[(AX.ret,⟨[(2, .int .i64),(3, .int .i64),(4, .int .i64)],[],103⟩),((AX.exit 0),⟨[(5, .vec 0 1)],[.row [(CK.ref [(CR.list 2),(CR.list 1),(CR.list 2)])]],103⟩)]⟩⟩,
 ⟨27,[false,true,false,true,true,true,true,true],0,⟨⟨[(5, .vec 0 1),(10, .map 1),(42, .vec 0 1),(43, .int .i64),(44, .int .i64)],[.row [(CK.ref [(CR.list 2),(CR.list 1),(CR.list 2)])], .map],103⟩,[((AX.exit 2),⟨[(5, .vec 0 1),(10, .map 1)],[.row [(CK.ref [(CR.list 2),(CR.list 1),(CR.list 2)])], .map],103⟩)]⟩⟩,
 ⟨27,[false,true,true,false,false,true,true,false,false,true,false,true,true,true,true,true],0,⟨⟨[(5, .vec 0 1),(10, .map 1),(11, .int .i64),(12, .ref [.list 2, .list 1, .list 2]),(42, .vec 0 1),(43, .int .i64),(44, .int .i64),(52, .slc 0 1),(53, .int .i64),(54, .int .i64)],[.row [(CK.ref [(CR.list 2),(CR.list 1),(CR.list 2)])], .map],103⟩,[((AX.exit 4),⟨[(5, .vec 0 1),(10, .map 1),(42, .vec 0 1),(43, .int .i64),(44, .int .i64)],[.row [(CK.ref [(CR.list 2),(CR.list 1),(CR.list 2)])], .map],103⟩)]⟩⟩,
 ⟨27,[false,true,false,true,true,true,true,true,true],0,⟨⟨[(5, .vec 0 1),(10, .map 1),(84, .int .i64),(85, .int .i64)],[.row [(CK.ref [(CR.list 2),(CR.list 1),(CR.list 2)])], .map],103⟩,[(AX.ret,⟨[(2, .int .i64),(3, .int .i64),(4, .int .i64)],[],103⟩),((AX.exit 6),⟨[],[],103⟩)]⟩⟩,
 ⟨27,[false,true,true,false,false,true,true,false,false,true,false,true,true,true,true,true,true],0,⟨⟨[(5, .vec 0 1),(10, .map 1),(17, .int .i64),(84, .int .i64),(85, .int .i64),(89, .int .i64),(90, .int .i64)],[.row [(CK.ref [(CR.list 2),(CR.list 1),(CR.list 2)])], .map],103⟩,[(AX.ret,⟨[(2, .int .i64),(3, .int .i64),(4, .int .i64)],[],103⟩),((AX.exit 8),⟨[(5, .vec 0 1),(10, .map 1),(84, .int .i64),(85, .int .i64)],[.row [(CK.ref [(CR.list 2),(CR.list 1),(CR.list 2)])], .map],103⟩)]⟩⟩]
def ja27:List JA:=
 [⟨27,[true,true,true,false,false,true,true,false,false,true,true,false,false,true,true,false,false,true,false,true,true,true,true,true],0,[(AX.normal,⟨[(5, .vec 0 1),(10, .map 1),(11, .int .i64),(12, .ref [.list 2, .list 1, .list 2]),(42, .vec 0 1),(43, .int .i64),(44, .int .i64),(52, .slc 0 1),(53, .int .i64),(54, .int .i64)],[.row [(CK.ref [(CR.list 2),(CR.list 1),(CR.list 2)])], .map],103⟩)]⟩,
 ⟨27,[false,true,true,false,false,true,true,false,false,true,true,false,false,true,false,true,true,true,true,true,true],0,[(AX.ret,⟨[(2, .int .i64),(3, .int .i64),(4, .int .i64)],[],103⟩),(AX.normal,⟨[(5, .vec 0 1),(10, .map 1),(17, .int .i64),(84, .int .i64),(85, .int .i64),(89, .int .i64),(90, .int .i64)],[.row [(CK.ref [(CR.list 2),(CR.list 1),(CR.list 2)])], .map],103⟩)]⟩,
 ⟨27,[false,true,true,false,false,true,false,true,true,true],0,[(AX.ret,⟨[(2, .int .i64),(3, .int .i64),(4, .int .i64)],[],103⟩),(AX.normal,⟨[(5, .vec 0 1),(22, .list 2),(23, .int .i64),(24, .int .i64)],[.row [(CK.ref [(CR.list 2),(CR.list 1),(CR.list 2)])]],103⟩)]⟩]
def v9m:List CF:=
 [⟨w41,G63⟩,⟨x8e,G48⟩]
def an27:Anns:=
 ⟨v9m,ja27,[⟨27,[true,true,true,false,false,true,true,false,false,true,false,true,true,true],⟨[(5, .vec 0 1),(8, .ref [.list 2, .list 1, .list 2]),(22, .list 2),(23, .int .i64),(24, .int .i64)],[.row [(CK.ref [(CR.list 2),(CR.list 1),(CR.list 2)])]],103⟩⟩]⟩
def x8v (p:Prim):(LD×T42)→Option ((LD×T42)⊕((Int×(Int×(Int×Unit)))⊕(LD×(List ((D×D))×(Int×(Int×Unit)))))):=
 fun a=>opt.run _ (
 opt.ask _ (p.cmp .lss a.2.2.2.2.2.2.1 a.2.2.2.2.2.1) (
 opt.alt T6 ((LD×T42)) _ (
 opt.run (((Int×(Int×(Int×Unit)))⊕(LD×(List ((D×D))×(Int×(Int×(Int×(Int×(Int×Unit))))))))) (
 opt.need _ (p.mOk a.2.1 [SK.i,SK.i] Bool.true (D.agg [(D.int .i64 a.2.2.1),(D.int .i64 a.2.2.2.2.2.2.1)]) Bool.false [ci])<|
 opt.ask _ (p.mhas a.2.1 [SK.i,SK.i] Bool.true (D.agg [(D.int .i64 a.2.2.1),(D.int .i64 a.2.2.2.2.2.2.1)])) (
 opt.ask _ (p.cmp .gtr (p.mI a.2.1 [SK.i,SK.i] Bool.true (D.agg [(D.int .i64 a.2.2.1),(D.int .i64 a.2.2.2.2.2.2.1)]) 0) (0:Int)) (
 opt.ret _ (Sum.inl (a.2.2.1,(a.2.2.2.2.2.2.1,((0:Int),()))))) (
 opt.need _ (p.eqN 0 0)<|
 opt.need _ (p.eqN (p.len a.1) (p.len a.1))<|
 opt.ret _ (Sum.inr (a.1,(a.2.1,(a.2.2.1,(a.2.2.2.1,(a.2.2.2.2.1,(a.2.2.2.2.2.1,(a.2.2.2.2.2.2.1,())))))))))) (
 opt.ask _ (p.cmp .gtr (0:Int) (0:Int)) (
 opt.ret _ (Sum.inl (a.2.2.1,(a.2.2.2.2.2.2.1,((0:Int),()))))) (
 opt.need _ (p.eqN 0 0)<|
 opt.need _ (p.eqN (p.len a.1) (p.len a.1))<|
 opt.ret _ (Sum.inr (a.1,(a.2.1,(a.2.2.1,(a.2.2.2.1,(a.2.2.2.2.1,(a.2.2.2.2.2.1,(a.2.2.2.2.2.2.1,())))))))))))) (fun b=>
 opt.ret _ (Sum.inr (Sum.inl (b.1,(b.2.1,(b.2.2.1,())))))) (fun c=>
 opt.bnd ((LD×T42)) _ (some c) fun d=>
 opt.need _ (p.eqN 0 0)<|
 opt.need _ (p.eqN (p.len d.1) (p.len d.1))<|
 opt.ret _ (Sum.inl (d.1,(d.2.1,(d.2.2.1,(d.2.2.2.1,(d.2.2.2.2.1,(d.2.2.2.2.2.1,((p.ar .add .i64 d.2.2.2.2.2.2.1 (1:Int)),())))))))))) (
 opt.need _ (p.eqN 0 0)<|
 opt.need _ (p.eqN (p.len a.1) (p.len a.1))<|
 opt.ret _ (Sum.inr (Sum.inr (a.1,(a.2.1,(a.2.2.2.1,(a.2.2.2.2.1,()))))))))
def x2x (it:It) (p:Prim):(LD×T16)→Option ((LD×T16)⊕((Int×(Int×(Int×Unit)))⊕Unit)):=
 fun a=>opt.run _ (
 opt.ask _ (p.cmp .lss a.2.2.2.1 a.2.2.1) (
 opt.need _ (p.eqN 0 0)<|
 opt.need _ (p.eqN (p.len a.1) (p.len a.1))<|
 opt.alt T6 ((LD×T16)) _ (
 it _ _ (x8v p) (a.1,(a.2.1,(a.2.2.2.1,(a.2.2.1,(a.2.2.2.1,((p.ofNat (p.len a.1)),((0:Int),())))))))) (fun b=>
 opt.ret _ (Sum.inr (Sum.inl (b.1,(b.2.1,(b.2.2.1,())))))) (fun c=>
 opt.bnd ((LD×T16)) _ (some c) fun d=>
 opt.need _ (p.eqN 0 0)<|
 opt.need _ (p.eqN (p.len d.1) (p.len d.1))<|
 opt.ret _ (Sum.inl (d.1,(d.2.1,(d.2.2.1,((p.ar .add .i64 d.2.2.2.1 (1:Int)),()))))))) (
 opt.ret _ (Sum.inr (Sum.inr ()))))
def x2y (it:It) (p:Prim):(LD×T43)→Option ((LD×T43)⊕(LD×T16)):=
 fun a=>opt.run _ (
 opt.ask _ (p.cmp .lss a.2.2.2.2.2.2.2.2.2.2.2.2.1 a.2.2.2.2.2.2.2.2.2.2.2.1) (
 opt.need _ (bif (p.cmp .geq a.2.2.2.2.2.2.2.2.2.2.2.2.1 (0:Int)) then (p.cmp .lss a.2.2.2.2.2.2.2.2.2.2.2.2.1 (p.ofNat a.2.2.2.2.2.2.2.2.2.1)) else Bool.false)<|
 opt.need _ (p.rowOk a.1 (p.add a.2.2.2.2.2.2.2.2.1 (p.nat a.2.2.2.2.2.2.2.2.2.2.2.2.1)) [(CK.ref [(CR.list 2),(CR.list 1),(CR.list 2)])])<|
 opt.bnd T21 _ (g63 it p ((p.rdL (p.rdR a.1 (p.add a.2.2.2.2.2.2.2.2.1 (p.nat a.2.2.2.2.2.2.2.2.2.2.2.2.1)) 0) 0 2),(a.2.2.2.2.2.1,()))) fun b=>
 opt.bnd ((LD×T43)) _ (
 opt.run ((LD×T43)) (
 opt.ask _ (bif b.2.2.2.1 then Bool.false else Bool.true) (
 opt.need _ (p.mOk a.2.1 [SK.i,SK.i] Bool.true (D.agg [(D.int .i64 a.2.2.2.2.2.2.2.2.2.2.2.2.1),(D.int .i64 a.2.2.1)]) Bool.false [ci])<|
 opt.ask _ (p.mhas a.2.1 [SK.i,SK.i] Bool.true (D.agg [(D.int .i64 a.2.2.2.2.2.2.2.2.2.2.2.2.1),(D.int .i64 a.2.2.1)])) (
 opt.need _ (p.eqN 0 0)<|
 opt.need _ (p.eqN (p.len a.1) (p.len a.1))<|
 opt.need _ (p.eqN 0 0)<|
 opt.need _ (p.eqN (p.len a.1) (p.len a.1))<|
 opt.ret _ (a.1,((p.mset a.2.1 (p.nat (p.ofNat (p.mpos a.2.1 [SK.i,SK.i] Bool.true (D.agg [(D.int .i64 a.2.2.2.2.2.2.2.2.2.2.2.2.1),(D.int .i64 a.2.2.1)])))) (D.agg [(D.int .i64 a.2.2.2.2.2.2.2.2.2.2.2.2.1),(D.int .i64 a.2.2.1)]) (D.int .i64 (p.ar .add .i64 (p.mI a.2.1 [SK.i,SK.i] Bool.true (D.agg [(D.int .i64 a.2.2.2.2.2.2.2.2.2.2.2.2.1),(D.int .i64 a.2.2.1)]) 0) (1:Int)))),(a.2.2.1,(a.2.2.2.1,(a.2.2.2.2.1,(a.2.2.2.2.2.1,(a.2.2.2.2.2.2.1,(a.2.2.2.2.2.2.2.1,(a.2.2.2.2.2.2.2.2.1,(a.2.2.2.2.2.2.2.2.2.1,(a.2.2.2.2.2.2.2.2.2.2.1,(a.2.2.2.2.2.2.2.2.2.2.2.1,(a.2.2.2.2.2.2.2.2.2.2.2.2.1,())))))))))))))) (
 opt.need _ (p.eqN 0 0)<|
 opt.need _ (p.eqN (p.len a.1) (p.len a.1))<|
 opt.need _ (p.eqN 0 0)<|
 opt.need _ (p.eqN (p.len a.1) (p.len a.1))<|
 opt.ret _ (a.1,((p.madd a.2.1 (D.agg [(D.int .i64 a.2.2.2.2.2.2.2.2.2.2.2.2.1),(D.int .i64 a.2.2.1)]) (D.int .i64 (p.ar .add .i64 (0:Int) (1:Int)))),(a.2.2.1,(a.2.2.2.1,(a.2.2.2.2.1,(a.2.2.2.2.2.1,(a.2.2.2.2.2.2.1,(a.2.2.2.2.2.2.2.1,(a.2.2.2.2.2.2.2.2.1,(a.2.2.2.2.2.2.2.2.2.1,(a.2.2.2.2.2.2.2.2.2.2.1,(a.2.2.2.2.2.2.2.2.2.2.2.1,(a.2.2.2.2.2.2.2.2.2.2.2.2.1,()))))))))))))))) (
 opt.need _ (p.eqN 0 0)<|
 opt.need _ (p.eqN (p.len a.1) (p.len a.1))<|
 opt.need _ (p.eqN 0 0)<|
 opt.need _ (p.eqN (p.len a.1) (p.len a.1))<|
 opt.ret _ (a.1,(a.2.1,(a.2.2.1,(a.2.2.2.1,(a.2.2.2.2.1,(a.2.2.2.2.2.1,(a.2.2.2.2.2.2.1,(a.2.2.2.2.2.2.2.1,(a.2.2.2.2.2.2.2.2.1,(a.2.2.2.2.2.2.2.2.2.1,(a.2.2.2.2.2.2.2.2.2.2.1,(a.2.2.2.2.2.2.2.2.2.2.2.1,(a.2.2.2.2.2.2.2.2.2.2.2.2.1,())))))))))))))))) fun c=>
 opt.need _ (p.eqN 0 0)<|
 opt.need _ (p.eqN (p.len c.1) (p.len c.1))<|
 opt.need _ (p.eqN 0 0)<|
 opt.need _ (p.eqN (p.len c.1) (p.len c.1))<|
 opt.ret _ (Sum.inl (c.1,(c.2.1,(c.2.2.1,(c.2.2.2.1,(c.2.2.2.2.1,(c.2.2.2.2.2.1,(c.2.2.2.2.2.2.1,(c.2.2.2.2.2.2.2.1,(c.2.2.2.2.2.2.2.2.1,(c.2.2.2.2.2.2.2.2.2.1,(c.2.2.2.2.2.2.2.2.2.2.1,(c.2.2.2.2.2.2.2.2.2.2.2.1,((p.ar .add .i64 c.2.2.2.2.2.2.2.2.2.2.2.2.1 (1:Int)),()))))))))))))))) (
 opt.need _ (p.eqN 0 0)<|
 opt.need _ (p.eqN (p.len a.1) (p.len a.1))<|
 opt.need _ (p.eqN 0 0)<|
 opt.need _ (p.eqN (p.len a.1) (p.len a.1))<|
 opt.ret _ (Sum.inr (a.1,(a.2.1,(a.2.2.2.2.2.2.1,(a.2.2.2.2.2.2.2.1,())))))))
def x4t (it:It) (p:Prim):(LD×T16)→Option ((LD×T16)⊕(LD×(List ((D×D))×Unit))):=
 fun a=>opt.run _ (
 opt.ask _ (p.cmp .lss a.2.2.2.1 a.2.2.1) (
 opt.need _ (bif (p.cmp .geq a.2.2.2.1 (0:Int)) then (p.cmp .lss a.2.2.2.1 (p.ofNat (p.len a.1))) else Bool.false)<|
 opt.need _ (p.rowOk a.1 (p.add 0 (p.nat a.2.2.2.1)) [(CK.ref [(CR.list 2),(CR.list 1),(CR.list 2)])])<|
 opt.need _ (p.and (p.cmp .geq (0:Int) (0:Int)) (p.and (p.cmp .leq (0:Int) a.2.2.2.1) (p.and (p.cmp .leq a.2.2.2.1 a.2.2.2.1) (p.cmp .leq a.2.2.2.1 (p.ofNat (p.len a.1))))))<|
 opt.need _ (p.eqN 0 0)<|
 opt.need _ (p.eqN (p.len a.1) (p.len a.1))<|
 opt.need _ (p.eqN 0 0)<|
 opt.need _ (p.eqN (p.len a.1) (p.len a.1))<|
 opt.bnd ((LD×T16)) _ (
 it _ _ (x2y it p) (a.1,(a.2.1,(a.2.2.2.1,((p.rdL (p.rdR a.1 (p.add 0 (p.nat a.2.2.2.1)) 0) 0 0),((p.rdL (p.rdR a.1 (p.add 0 (p.nat a.2.2.2.1)) 0) 0 1),((p.rdL (p.rdR a.1 (p.add 0 (p.nat a.2.2.2.1)) 0) 0 2),(a.2.2.1,(a.2.2.2.1,((p.add 0 (p.nat (0:Int))),((p.sub (p.nat a.2.2.2.1) (p.nat (0:Int))),((p.sub (p.nat a.2.2.2.1) (p.nat (0:Int))),((p.ofNat (p.sub (p.nat a.2.2.2.1) (p.nat (0:Int)))),((0:Int),())))))))))))))) fun b=>
 opt.need _ (p.eqN 0 0)<|
 opt.need _ (p.eqN (p.len b.1) (p.len b.1))<|
 opt.need _ (p.eqN 0 0)<|
 opt.need _ (p.eqN (p.len b.1) (p.len b.1))<|
 opt.ret _ (Sum.inl (b.1,(b.2.1,(b.2.2.1,((p.ar .add .i64 b.2.2.2.1 (1:Int)),())))))) (
 opt.need _ (p.eqN 0 0)<|
 opt.need _ (p.eqN (p.len a.1) (p.len a.1))<|
 opt.ret _ (Sum.inr (a.1,(a.2.1,())))))
def x2z (it:It) (p:Prim):(LD×(LD×T3))→Option ((LD×(LD×T3))⊕((Int×(Int×(Int×Unit)))⊕(LD×Unit))):=
 fun a=>opt.run _ (
 opt.ask _ (p.cmp .lss a.2.2.2.1 a.2.2.1) (
 opt.alt T6 ((LD×(LD×T3))) _ (
 opt.run (((Int×(Int×(Int×Unit)))⊕(LD×(LD×(Int×(Int×Unit)))))) (
 opt.need _ (p.rowOk a.2.1 (p.nat a.2.2.2.1) [(CK.list 2),(CK.list 1)])<|
 opt.need _ (p.cmp .geq a.2.2.2.1 (0:Int))<|
 opt.alt T0 ((LD×(LD×(LD×T1)))) _ (g48 it p ((p.rdL a.2.1 (p.nat a.2.2.2.1) 0),((p.rdL a.2.1 (p.nat a.2.2.2.1) 1),()))) (fun b=>
 opt.ask _ (p.cmp .neq b.1 (0:Int)) (
 opt.ret _ (Sum.inl ((0:Int),((0:Int),(b.1,()))))) (
 opt.no _ 96)) (fun c=>
 opt.bnd ((LD×(LD×(LD×T1)))) _ (some c) fun d=>
 opt.ask _ (p.cmp .neq d.2.2.2.1 (0:Int)) (
 opt.ret _ (Sum.inl ((0:Int),((0:Int),(d.2.2.2.1,()))))) (
 opt.need _ (p.eqN 0 0)<|
 opt.need _ (p.eqN (p.len a.1) (p.len a.1))<|
 opt.need _ (p.and (p.leN (p.add 0 1) (p.len [[(D.ref [(D.list Bool.false 2 d.1),(D.list Bool.false 1 d.2.1),(D.list Bool.false 2 d.2.2.1)])]])) (p.and (p.leN (p.add 0 (p.len a.1)) (p.len a.1)) (p.and (p.leN 1 1) (p.leN (p.add (p.len a.1) 1) 1000000))))<|
 opt.need _ (p.eqN 0 0)<|
 opt.need _ (p.eqN (p.add (p.len a.1) 1) (p.len (p.app (p.cut a.1 0 (p.len a.1)) (p.cut [[(D.ref [(D.list Bool.false 2 d.1),(D.list Bool.false 1 d.2.1),(D.list Bool.false 2 d.2.2.1)])]] 0 1))))<|
 opt.ret _ (Sum.inr ((p.app (p.cut a.1 0 (p.len a.1)) (p.cut [[(D.ref [(D.list Bool.false 2 d.1),(D.list Bool.false 1 d.2.1),(D.list Bool.false 2 d.2.2.1)])]] 0 1)),(a.2.1,(a.2.2.1,(a.2.2.2.1,()))))))))) (fun e=>
 opt.ret _ (Sum.inr (Sum.inl (e.1,(e.2.1,(e.2.2.1,())))))) (fun f=>
 opt.bnd ((LD×(LD×T3))) _ (some f) fun g=>
 opt.need _ (p.eqN 0 0)<|
 opt.need _ (p.eqN (p.len g.1) (p.len g.1))<|
 opt.ret _ (Sum.inl (g.1,(g.2.1,(g.2.2.1,((p.ar .add .i64 g.2.2.2.1 (1:Int)),()))))))) (
 opt.need _ (p.eqN 0 0)<|
 opt.need _ (p.eqN (p.len a.1) (p.len a.1))<|
 opt.ret _ (Sum.inr (Sum.inr (a.1,())))))
def g27 (it:It):(p:Prim)→(LD×Unit)→Option T6:=
 fun p x=>
 opt.ask _ (p.cmp .gtr (p.ofNat (p.len x.1)) (8:Int)) (
 opt.ret _ ((0:Int),((0:Int),((6:Int),())))) (
 opt.alt T6 ((LD×Unit)) _ (
 it _ _ (x2z it p) ([],(x.1,((p.ofNat (p.len x.1)),((0:Int),()))))) (fun a=>
 opt.ret _ (a.1,(a.2.1,(a.2.2.1,())))) (fun b=>
 opt.bnd ((LD×Unit)) _ (some b) fun c=>
 opt.need _ (p.eqN 0 0)<|
 opt.need _ (p.eqN (p.len c.1) (p.len c.1))<|
 opt.need _ (p.eqN 0 0)<|
 opt.need _ (p.eqN (p.len c.1) (p.len c.1))<|
 opt.bnd ((LD×(List ((D×D))×Unit))) _ (
 it _ _ (x4t it p) (c.1,([],((p.ofNat (p.len c.1)),((0:Int),()))))) fun d=>
 opt.need _ (p.eqN 0 0)<|
 opt.need _ (p.eqN (p.len d.1) (p.len d.1))<|
 opt.alt T6 (Unit) _ (
 it _ _ (x2x it p) (d.1,(d.2.1,((p.ofNat (p.len d.1)),((0:Int),()))))) (fun e=>
 opt.ret _ (e.1,(e.2.1,(e.2.2.1,())))) (fun f=>
 opt.bnd (Unit) _ (some f) fun g=>
 opt.ret _ ((0:Int),((0:Int),((5:Int),()))))))
def G27:=g27 it0
theorem u0x:CtrOk PG w9u (G27 std):=okF (a:=an27) (l:=la27) (gC v65 (gC v06 (gN))) (by kernel_rfl) fun _ _=>by kernel_rfl
end Go.Am
end
noncomputable section
namespace Go.Am
def v4s:Ctr:=
 ⟨15,[],[],[(.ret,⟨[(0, .bool)],[],1⟩)]⟩
def la15:List LA:=
 []
def ja15:List JA:=
 [⟨15,[false,false,true,true,true,true,true,true,true,true,true,true,true,true],0,[(AX.normal,⟨[(1, .bptr 0 0),(3, .bptr 1 0),(4, .bptr 2 0),(5, .vec 3 2),(7, .bool),(9, .bptr 4 0),(15, .bptr 5 0),(17, .bptr 6 0),(19, .bptr 7 0),(21, .int .i64),(22, .int .i64),(127, .bool)],[.box [.full 8 2, .full 9 1], .box [.full 10 2, .nils], .box [.full 11 2, .nils], .row [ci,ci], .box [.int .i64, .int .i64], .box [.int .i64, .int .i64, .int .i64], .box [.int .i64, .int .i64, .int .i64], .box [.int .i64, .int .i64], .row [ci,ci], .row [(CK.list 2)], .row [ci,ci], .row [ci,ci]],170⟩)]⟩]
def v9u:List CF:=
 [⟨w9q,G38⟩,⟨w9s,G36⟩,⟨v4p,G20⟩,⟨w9u,G27⟩,⟨v4m,G25⟩,⟨w9r,G37⟩,⟨w9t,G32⟩,⟨v4k,G39⟩,⟨v4n,G23⟩,⟨v4o,G21⟩,⟨v4r,G16⟩]
def an15:Anns:=
 ⟨v9u,ja15,[⟨15,[false,true,true],⟨[(1, .bptr 0 0),(2, .bptr 1 0),(3, .bptr 2 0),(4, .bptr 3 0)],[.box [.full 4 2, .full 5 1], .box [.full 6 2, .nils], .box [.full 7 2, .nils], .box [.full 8 2, .nils], .row [ci,ci], .row [(CK.list 2)], .row [ci,ci], .row [ci,ci], .row [ci,ci]],170⟩⟩]⟩
def g15 (it:It):(p:Prim)→Unit→Option T2:=
 fun p x=>
 opt.need _ (p.eqN 0 0)<|
 opt.need _ (p.eqN 3 (p.len k0k))<|
 opt.need _ (p.eqN 3 (p.len k0k))<|
 opt.need _ (p.eqN 0 0)<|
 opt.need _ (p.eqN 1 (p.len k1k))<|
 opt.need _ (p.eqN 1 (p.len k1k))<|
 opt.need _ (p.eqN 0 0)<|
 opt.need _ (p.eqN 1 (p.len [[k6k,k4k]]))<|
 opt.need _ (p.eqN 1 (p.len [[k6k,k4k]]))<|
 opt.need _ (p.eqN 0 0)<|
 opt.need _ (p.eqN 1 (p.len k2k))<|
 opt.need _ (p.eqN 1 (p.len k2k))<|
 opt.need _ (p.eqN 0 0)<|
 opt.need _ (p.eqN 1 (p.len k3k))<|
 opt.need _ (p.eqN 1 (p.len k3k))<|
 opt.need _ (p.and (p.and (p.leN (p.add 0 (p.len k0k)) (p.len k0k)) (p.and (p.leN (p.add 0 (p.len k1k)) (p.len k1k)) Bool.true)) Bool.true)<|
 opt.bnd ((LD×T1)) _ (g16 it p ((p.cut k0k 0 (p.len k0k)),((p.cut k1k 0 (p.len k1k)),()))) fun a=>
 opt.need _ (p.plain a.1)<|
 opt.need _ (p.and (p.and (p.leN (p.add 0 (p.len k0k)) (p.len k0k)) (p.and (p.leN (p.add 0 (p.len k1k)) (p.len k1k)) Bool.true)) (p.and Bool.true Bool.true))<|
 opt.bnd ((Bool×(Int×Unit))) _ (g21 it p ((p.cut k0k 0 (p.len k0k)),((p.cut k1k 0 (p.len k1k)),((3:Int),((2:Int),()))))) fun b=>
 opt.need _ (p.and (p.and (p.leN (p.add 0 (p.len k0k)) (p.len k0k)) (p.and (p.leN (p.add 0 (p.len k1k)) (p.len k1k)) Bool.true)) (p.and (p.leN (p.add 0 4) (p.len [[k4k,k4k],[k5k,k4k],[k5k,k5k],[k4k,k5k]])) Bool.true))<|
 opt.bnd T6 _ (g23 it p ((p.cut k0k 0 (p.len k0k)),((p.cut k1k 0 (p.len k1k)),((p.cut [[k4k,k4k],[k5k,k4k],[k5k,k5k],[k4k,k5k]] 0 4),())))) fun c=>
 opt.need _ (p.and (p.and (p.leN (p.add 0 (p.len k0k)) (p.len k0k)) (p.and (p.leN (p.add 0 (p.len k1k)) (p.len k1k)) Bool.true)) (p.and (p.and (p.leN (p.add 0 (p.len [[k6k,k4k]])) (p.len [[k6k,k4k]])) (p.and Bool.true Bool.true)) (p.and Bool.true Bool.true)))<|
 opt.bnd T0 _ (g39 it p ((p.cut k0k 0 (p.len k0k)),((p.cut k1k 0 (p.len k1k)),((p.cut [[k6k,k4k]] 0 (p.len [[k6k,k4k]])),([],((1:Int),((0:Int),((5:Int),())))))))) fun d=>
 opt.need _ (p.and (p.and (p.leN (p.add 0 (p.len k0k)) (p.len k0k)) (p.and (p.leN (p.add 0 (p.len k1k)) (p.len k1k)) Bool.true)) (p.and (p.and (p.leN (p.add 0 (p.len [[k6k,k4k]])) (p.len [[k6k,k4k]])) (p.and Bool.true Bool.true)) (p.and Bool.true Bool.true)))<|
 opt.bnd T0 _ (g39 it p ((p.cut k0k 0 (p.len k0k)),((p.cut k1k 0 (p.len k1k)),((p.cut [[k6k,k4k]] 0 (p.len [[k6k,k4k]])),([],((1:Int),((0:Int),((6:Int),())))))))) fun e=>
 opt.need _ (p.and (p.and (p.leN (p.add 0 (p.len k0k)) (p.len k0k)) (p.and (p.leN (p.add 0 (p.len k1k)) (p.len k1k)) Bool.true)) (p.and (p.and (p.leN (p.add 0 (p.len k3k)) (p.len k3k)) (p.and Bool.true Bool.true)) Bool.true))<|
 opt.bnd T8 _ (g32 it p ((p.cut k0k 0 (p.len k0k)),((p.cut k1k 0 (p.len k1k)),((p.cut k3k 0 (p.len k3k)),([],()))))) fun f=>
 opt.need _ (p.and (p.and (p.leN (p.add 0 (p.len k0k)) (p.len k0k)) (p.and (p.leN (p.add 0 (p.len k1k)) (p.len k1k)) Bool.true)) (p.and (p.and (p.leN (p.add 0 (p.len k2k)) (p.len k2k)) (p.and Bool.true Bool.true)) Bool.true))<|
 opt.bnd T8 _ (g32 it p ((p.cut k0k 0 (p.len k0k)),((p.cut k1k 0 (p.len k1k)),((p.cut k2k 0 (p.len k2k)),([],()))))) fun g=>
 opt.need _ (p.and (p.and (p.leN (p.add 0 (p.len k0k)) (p.len k0k)) (p.and (p.leN (p.add 0 (p.len k1k)) (p.len k1k)) Bool.true)) (p.and (p.and (p.leN (p.add 0 (p.len k3k)) (p.len k3k)) (p.and Bool.true Bool.true)) Bool.true))<|
 opt.bnd T8 _ (g37 it p ((p.cut k0k 0 (p.len k0k)),((p.cut k1k 0 (p.len k1k)),((p.cut k3k 0 (p.len k3k)),([],()))))) fun h=>
 opt.need _ (p.and (p.and (p.leN (p.add 0 (p.len k0k)) (p.len k0k)) (p.and (p.leN (p.add 0 (p.len k1k)) (p.len k1k)) Bool.true)) (p.and (p.and (p.leN (p.add 0 (p.len k2k)) (p.len k2k)) (p.and Bool.true Bool.true)) Bool.true))<|
 opt.bnd T6 _ (g25 it p ((p.cut k0k 0 (p.len k0k)),((p.cut k1k 0 (p.len k1k)),((p.cut k2k 0 (p.len k2k)),([],()))))) fun i=>
 opt.need _ (p.and (bif (bif (p.leN (p.add 0 (p.len k0k)) (p.len k0k)) then (bif (p.leN (p.add 0 (p.len k1k)) (p.len k1k)) then Bool.true else Bool.false) else Bool.false) then (bif (bif (p.leN (p.add 0 (p.len k2k)) (p.len k2k)) then Bool.true else Bool.false) then (bif (bif (p.leN (p.add 0 (p.len k3k)) (p.len k3k)) then Bool.true else Bool.false) then Bool.true else Bool.false) else Bool.false) else Bool.false) Bool.true)<|
 opt.bnd T6 _ (g27 it p ([[(D.list Bool.false 2 (p.cut k0k 0 (p.len k0k))),(D.list Bool.false 1 (p.cut k1k 0 (p.len k1k)))],[(D.list Bool.false 2 (p.cut k2k 0 (p.len k2k))),(D.list Bool.true 0 [])],[(D.list Bool.false 2 (p.cut k3k 0 (p.len k3k))),(D.list Bool.true 0 [])]],())) fun j=>
 opt.bnd ((LD×(LD×(LD×(LD×(LD×T81)))))) _ (
 opt.run ((LD×(LD×(LD×(LD×(LD×T81)))))) (
 opt.ask _ (p.cmp .neq a.2.1 (0:Int)) (
 opt.need _ (p.eqN 0 0)<|
 opt.need _ (p.eqN (p.len k0k) (p.len k0k))<|
 opt.need _ (p.eqN (p.len k0k) (p.len k0k))<|
 opt.need _ (p.eqN 0 0)<|
 opt.need _ (p.eqN (p.len k1k) (p.len k1k))<|
 opt.need _ (p.eqN (p.len k1k) (p.len k1k))<|
 opt.need _ (p.eqN 0 0)<|
 opt.need _ (p.eqN (p.len k2k) (p.len k2k))<|
 opt.need _ (p.eqN (p.len k2k) (p.len k2k))<|
 opt.need _ (p.eqN 0 0)<|
 opt.need _ (p.eqN (p.len k3k) (p.len k3k))<|
 opt.need _ (p.eqN (p.len k3k) (p.len k3k))<|
 opt.need _ (p.eqN 0 0)<|
 opt.need _ (p.eqN (p.len a.1) (p.len a.1))<|
 opt.ret _ (a.1,(k0k,(k1k,(k2k,(k3k,(c.1,(c.2.1,(g.1,(g.2.1,(g.2.2.1,(h.1,(h.2.1,(h.2.2.1,(i.1,(i.2.1,(b.1,(j.1,(j.2.1,(Bool.true,())))))))))))))))))))) (
 opt.ask _ (p.cmp .neq b.2.1 (0:Int)) (
 opt.need _ (p.eqN 0 0)<|
 opt.need _ (p.eqN (p.len k0k) (p.len k0k))<|
 opt.need _ (p.eqN (p.len k0k) (p.len k0k))<|
 opt.need _ (p.eqN 0 0)<|
 opt.need _ (p.eqN (p.len k1k) (p.len k1k))<|
 opt.need _ (p.eqN (p.len k1k) (p.len k1k))<|
 opt.need _ (p.eqN 0 0)<|
 opt.need _ (p.eqN (p.len k2k) (p.len k2k))<|
 opt.need _ (p.eqN (p.len k2k) (p.len k2k))<|
 opt.need _ (p.eqN 0 0)<|
 opt.need _ (p.eqN (p.len k3k) (p.len k3k))<|
 opt.need _ (p.eqN (p.len k3k) (p.len k3k))<|
 opt.need _ (p.eqN 0 0)<|
 opt.need _ (p.eqN (p.len a.1) (p.len a.1))<|
 opt.ret _ (a.1,(k0k,(k1k,(k2k,(k3k,(c.1,(c.2.1,(g.1,(g.2.1,(g.2.2.1,(h.1,(h.2.1,(h.2.2.1,(i.1,(i.2.1,(b.1,(j.1,(j.2.1,(Bool.true,())))))))))))))))))))) (
 opt.ask _ (p.cmp .neq c.2.2.1 (0:Int)) (
 opt.need _ (p.eqN 0 0)<|
 opt.need _ (p.eqN (p.len k0k) (p.len k0k))<|
 opt.need _ (p.eqN (p.len k0k) (p.len k0k))<|
 opt.need _ (p.eqN 0 0)<|
 opt.need _ (p.eqN (p.len k1k) (p.len k1k))<|
 opt.need _ (p.eqN (p.len k1k) (p.len k1k))<|
 opt.need _ (p.eqN 0 0)<|
 opt.need _ (p.eqN (p.len k2k) (p.len k2k))<|
 opt.need _ (p.eqN (p.len k2k) (p.len k2k))<|
 opt.need _ (p.eqN 0 0)<|
 opt.need _ (p.eqN (p.len k3k) (p.len k3k))<|
 opt.need _ (p.eqN (p.len k3k) (p.len k3k))<|
 opt.need _ (p.eqN 0 0)<|
 opt.need _ (p.eqN (p.len a.1) (p.len a.1))<|
 opt.ret _ (a.1,(k0k,(k1k,(k2k,(k3k,(c.1,(c.2.1,(g.1,(g.2.1,(g.2.2.1,(h.1,(h.2.1,(h.2.2.1,(i.1,(i.2.1,(b.1,(j.1,(j.2.1,(Bool.true,())))))))))))))))))))) (
 opt.ask _ (p.cmp .neq d.1 (0:Int)) (
 opt.need _ (p.eqN 0 0)<|
 opt.need _ (p.eqN (p.len k0k) (p.len k0k))<|
 opt.need _ (p.eqN (p.len k0k) (p.len k0k))<|
 opt.need _ (p.eqN 0 0)<|
 opt.need _ (p.eqN (p.len k1k) (p.len k1k))<|
 opt.need _ (p.eqN (p.len k1k) (p.len k1k))<|
 opt.need _ (p.eqN 0 0)<|
 opt.need _ (p.eqN (p.len k2k) (p.len k2k))<|
 opt.need _ (p.eqN (p.len k2k) (p.len k2k))<|
 opt.need _ (p.eqN 0 0)<|
 opt.need _ (p.eqN (p.len k3k) (p.len k3k))<|
 opt.need _ (p.eqN (p.len k3k) (p.len k3k))<|
 opt.need _ (p.eqN 0 0)<|
 opt.need _ (p.eqN (p.len a.1) (p.len a.1))<|
 opt.ret _ (a.1,(k0k,(k1k,(k2k,(k3k,(c.1,(c.2.1,(g.1,(g.2.1,(g.2.2.1,(h.1,(h.2.1,(h.2.2.1,(i.1,(i.2.1,(b.1,(j.1,(j.2.1,(Bool.true,())))))))))))))))))))) (
 opt.ask _ (p.cmp .neq e.1 (14:Int)) (
 opt.need _ (p.eqN 0 0)<|
 opt.need _ (p.eqN (p.len k0k) (p.len k0k))<|
 opt.need _ (p.eqN (p.len k0k) (p.len k0k))<|
 opt.need _ (p.eqN 0 0)<|
 opt.need _ (p.eqN (p.len k1k) (p.len k1k))<|
 opt.need _ (p.eqN (p.len k1k) (p.len k1k))<|
 opt.need _ (p.eqN 0 0)<|
 opt.need _ (p.eqN (p.len k2k) (p.len k2k))<|
 opt.need _ (p.eqN (p.len k2k) (p.len k2k))<|
 opt.need _ (p.eqN 0 0)<|
 opt.need _ (p.eqN (p.len k3k) (p.len k3k))<|
 opt.need _ (p.eqN (p.len k3k) (p.len k3k))<|
 opt.need _ (p.eqN 0 0)<|
 opt.need _ (p.eqN (p.len a.1) (p.len a.1))<|
 opt.ret _ (a.1,(k0k,(k1k,(k2k,(k3k,(c.1,(c.2.1,(g.1,(g.2.1,(g.2.2.1,(h.1,(h.2.1,(h.2.2.1,(i.1,(i.2.1,(b.1,(j.1,(j.2.1,(Bool.true,())))))))))))))))))))) (
 opt.ask _ (p.cmp .neq f.2.2.2.1 (21:Int)) (
 opt.need _ (p.eqN 0 0)<|
 opt.need _ (p.eqN (p.len k0k) (p.len k0k))<|
 opt.need _ (p.eqN (p.len k0k) (p.len k0k))<|
 opt.need _ (p.eqN 0 0)<|
 opt.need _ (p.eqN (p.len k1k) (p.len k1k))<|
 opt.need _ (p.eqN (p.len k1k) (p.len k1k))<|
 opt.need _ (p.eqN 0 0)<|
 opt.need _ (p.eqN (p.len k2k) (p.len k2k))<|
 opt.need _ (p.eqN (p.len k2k) (p.len k2k))<|
 opt.need _ (p.eqN 0 0)<|
 opt.need _ (p.eqN (p.len k3k) (p.len k3k))<|
 opt.need _ (p.eqN (p.len k3k) (p.len k3k))<|
 opt.need _ (p.eqN 0 0)<|
 opt.need _ (p.eqN (p.len a.1) (p.len a.1))<|
 opt.ret _ (a.1,(k0k,(k1k,(k2k,(k3k,(c.1,(c.2.1,(g.1,(g.2.1,(g.2.2.1,(h.1,(h.2.1,(h.2.2.1,(i.1,(i.2.1,(b.1,(j.1,(j.2.1,(Bool.true,())))))))))))))))))))) (
 opt.ask _ (p.cmp .neq g.2.2.2.1 (0:Int)) (
 opt.need _ (p.eqN 0 0)<|
 opt.need _ (p.eqN (p.len k0k) (p.len k0k))<|
 opt.need _ (p.eqN (p.len k0k) (p.len k0k))<|
 opt.need _ (p.eqN 0 0)<|
 opt.need _ (p.eqN (p.len k1k) (p.len k1k))<|
 opt.need _ (p.eqN (p.len k1k) (p.len k1k))<|
 opt.need _ (p.eqN 0 0)<|
 opt.need _ (p.eqN (p.len k2k) (p.len k2k))<|
 opt.need _ (p.eqN (p.len k2k) (p.len k2k))<|
 opt.need _ (p.eqN 0 0)<|
 opt.need _ (p.eqN (p.len k3k) (p.len k3k))<|
 opt.need _ (p.eqN (p.len k3k) (p.len k3k))<|
 opt.need _ (p.eqN 0 0)<|
 opt.need _ (p.eqN (p.len a.1) (p.len a.1))<|
 opt.ret _ (a.1,(k0k,(k1k,(k2k,(k3k,(c.1,(c.2.1,(g.1,(g.2.1,(g.2.2.1,(h.1,(h.2.1,(h.2.2.1,(i.1,(i.2.1,(b.1,(j.1,(j.2.1,(Bool.true,())))))))))))))))))))) (
 opt.ask _ (p.cmp .neq h.2.2.2.1 (0:Int)) (
 opt.need _ (p.eqN 0 0)<|
 opt.need _ (p.eqN (p.len k0k) (p.len k0k))<|
 opt.need _ (p.eqN (p.len k0k) (p.len k0k))<|
 opt.need _ (p.eqN 0 0)<|
 opt.need _ (p.eqN (p.len k1k) (p.len k1k))<|
 opt.need _ (p.eqN (p.len k1k) (p.len k1k))<|
 opt.need _ (p.eqN 0 0)<|
 opt.need _ (p.eqN (p.len k2k) (p.len k2k))<|
 opt.need _ (p.eqN (p.len k2k) (p.len k2k))<|
 opt.need _ (p.eqN 0 0)<|
 opt.need _ (p.eqN (p.len k3k) (p.len k3k))<|
 opt.need _ (p.eqN (p.len k3k) (p.len k3k))<|
 opt.need _ (p.eqN 0 0)<|
 opt.need _ (p.eqN (p.len a.1) (p.len a.1))<|
 opt.ret _ (a.1,(k0k,(k1k,(k2k,(k3k,(c.1,(c.2.1,(g.1,(g.2.1,(g.2.2.1,(h.1,(h.2.1,(h.2.2.1,(i.1,(i.2.1,(b.1,(j.1,(j.2.1,(Bool.true,())))))))))))))))))))) (
 opt.ask _ (p.cmp .neq i.2.2.1 (0:Int)) (
 opt.need _ (p.eqN 0 0)<|
 opt.need _ (p.eqN (p.len k0k) (p.len k0k))<|
 opt.need _ (p.eqN (p.len k0k) (p.len k0k))<|
 opt.need _ (p.eqN 0 0)<|
 opt.need _ (p.eqN (p.len k1k) (p.len k1k))<|
 opt.need _ (p.eqN (p.len k1k) (p.len k1k))<|
 opt.need _ (p.eqN 0 0)<|
 opt.need _ (p.eqN (p.len k2k) (p.len k2k))<|
 opt.need _ (p.eqN (p.len k2k) (p.len k2k))<|
 opt.need _ (p.eqN 0 0)<|
 opt.need _ (p.eqN (p.len k3k) (p.len k3k))<|
 opt.need _ (p.eqN (p.len k3k) (p.len k3k))<|
 opt.need _ (p.eqN 0 0)<|
 opt.need _ (p.eqN (p.len a.1) (p.len a.1))<|
 opt.ret _ (a.1,(k0k,(k1k,(k2k,(k3k,(c.1,(c.2.1,(g.1,(g.2.1,(g.2.2.1,(h.1,(h.2.1,(h.2.2.1,(i.1,(i.2.1,(b.1,(j.1,(j.2.1,(Bool.true,())))))))))))))))))))) (
 opt.need _ (p.eqN 0 0)<|
 opt.need _ (p.eqN (p.len k0k) (p.len k0k))<|
 opt.need _ (p.eqN (p.len k0k) (p.len k0k))<|
 opt.need _ (p.eqN 0 0)<|
 opt.need _ (p.eqN (p.len k1k) (p.len k1k))<|
 opt.need _ (p.eqN (p.len k1k) (p.len k1k))<|
 opt.need _ (p.eqN 0 0)<|
 opt.need _ (p.eqN (p.len k2k) (p.len k2k))<|
 opt.need _ (p.eqN (p.len k2k) (p.len k2k))<|
 opt.need _ (p.eqN 0 0)<|
 opt.need _ (p.eqN (p.len k3k) (p.len k3k))<|
 opt.need _ (p.eqN (p.len k3k) (p.len k3k))<|
 opt.need _ (p.eqN 0 0)<|
 opt.need _ (p.eqN (p.len a.1) (p.len a.1))<|
 opt.ret _ (a.1,(k0k,(k1k,(k2k,(k3k,(c.1,(c.2.1,(g.1,(g.2.1,(g.2.2.1,(h.1,(h.2.1,(h.2.2.1,(i.1,(i.2.1,(b.1,(j.1,(j.2.1,((p.cmp .neq j.2.2.1 (0:Int)),())))))))))))))))))))))))))))))) fun k=>
 opt.ask _ k.2.2.2.2.2.2.2.2.2.2.2.2.2.2.2.2.2.2.1 (
 opt.ret _ (Bool.false,())) (
 opt.need _ (p.and (p.leN (p.add 0 (p.len k.1)) (p.len k.1)) (p.and (p.leN (p.add 0 4) (p.len [[k4k,k4k],[(D.int .i64 (5:Int)),k4k],[(D.int .i64 (1:Int)),k5k],[k4k,k5k]])) Bool.true))<|
 opt.bnd T2 _ (g20 it p ((p.cut k.1 0 (p.len k.1)),((p.cut [[k4k,k4k],[(D.int .i64 (5:Int)),k4k],[(D.int .i64 (1:Int)),k5k],[k4k,k5k]] 0 4),()))) fun l=>
 opt.ask _ l.1 (
 opt.ask _ k.2.2.2.2.2.2.2.2.2.2.2.2.2.2.2.1 (
 opt.ask _ (bif (p.cmp .eql k.2.2.2.2.2.1 (5:Int)) then (bif (p.cmp .eql k.2.2.2.2.2.2.1 (0:Int)) then Bool.true else Bool.false) else Bool.false) (
 opt.need _ (p.and (p.and (p.leN (p.add 0 (p.len k.2.1)) (p.len k.2.1)) (p.and (p.leN (p.add 0 (p.len k.2.2.1)) (p.len k.2.2.1)) Bool.true)) (p.and (p.and (p.leN (p.add 0 (p.len k.2.2.2.1)) (p.len k.2.2.2.1)) (p.and Bool.true Bool.true)) (p.and Bool.true Bool.true)))<|
 opt.bnd T0 _ (g36 it p ((p.cut k.2.1 0 (p.len k.2.1)),((p.cut k.2.2.1 0 (p.len k.2.2.1)),((p.cut k.2.2.2.1 0 (p.len k.2.2.2.1)),([],(k.2.2.2.2.2.2.2.1,(k.2.2.2.2.2.2.2.2.1,(k.2.2.2.2.2.2.2.2.2.1,())))))))) fun m=>
 opt.ask _ (p.cmp .eql m.1 (0:Int)) (
 opt.need _ (p.and (p.and (p.leN (p.add 0 (p.len k.2.1)) (p.len k.2.1)) (p.and (p.leN (p.add 0 (p.len k.2.2.1)) (p.len k.2.2.1)) Bool.true)) (p.and (p.and (p.leN (p.add 0 (p.len k.2.2.2.2.1)) (p.len k.2.2.2.2.1)) (p.and Bool.true Bool.true)) (p.and Bool.true Bool.true)))<|
 opt.bnd T0 _ (g38 it p ((p.cut k.2.1 0 (p.len k.2.1)),((p.cut k.2.2.1 0 (p.len k.2.2.1)),((p.cut k.2.2.2.2.1 0 (p.len k.2.2.2.2.1)),([],(k.2.2.2.2.2.2.2.2.2.2.1,(k.2.2.2.2.2.2.2.2.2.2.2.1,(k.2.2.2.2.2.2.2.2.2.2.2.2.1,())))))))) fun n=>
 opt.ask _ (p.cmp .eql n.1 (0:Int)) (
 opt.ask _ (bif (p.cmp .eql k.2.2.2.2.2.2.2.2.2.2.2.2.2.1 (1:Int)) then (bif (p.cmp .eql k.2.2.2.2.2.2.2.2.2.2.2.2.2.2.1 (2:Int)) then Bool.true else Bool.false) else Bool.false) (
 opt.ask _ (p.cmp .eql k.2.2.2.2.2.2.2.2.2.2.2.2.2.2.2.2.1 (0:Int)) (
 opt.ret _ ((p.cmp .eql k.2.2.2.2.2.2.2.2.2.2.2.2.2.2.2.2.2.1 (2:Int)),())) (
 opt.ret _ (Bool.false,()))) (
 opt.ret _ (Bool.false,()))) (
 opt.ret _ (Bool.false,()))) (
 opt.ret _ (Bool.false,()))) (
 opt.ret _ (Bool.false,()))) (
 opt.ret _ (Bool.false,()))) (
 opt.ret _ (Bool.false,())))
def G15:=g15 it0
theorem ok15:CtrOk PG v4s (G15 std):=okF (a:=an15) (l:=la15) (gC u0t (gC u0v (gC ok20 (gC u0x (gC ok25 (gC u0u (gC u0w (gC ok39 (gC ok23 (gC ok21 (gC ok16 (gN)))))))))))) (by kernel_rfl) fun _ _=>by kernel_rfl
end Go.Am
end
section
namespace Go.Am
theorem v7p {i j:It} (h:i.Le j):∀ s,le (v3l i std s) (v3l j std s):=fun _=>z07 (h _ _ _ _ _ (fun _=>le_refl _)) (fun _=>le_refl _) (fun _=>le_refl _)
theorem mg87 {i j:It} (h:i.Le j):∀ s,le (g87 i std s) (g87 j std s):=fun _=>z0f (le_refl _) (fun _=>z0f (le_refl _) (fun _=>z0b (z0f (v7p h _) (fun _=>le_refl _))))
theorem v1t {i j:It} (h:i.Le j):∀ s,le (y91 i std s) (y91 j std s):=fun _=>z1e (z0p (z0b (z0b (z0f (h _ _ _ _ _ (fun _=>le_refl _)) (fun _=>le_refl _)))) (le_refl _))
theorem u0z {i j:It} (h:i.Le j):∀ s,le (g99 i std s) (g99 j std s):=fun _=>z0f (h _ _ _ _ _ (v1t h)) (fun _=>le_refl _)
theorem v0n {i j:It} (h:i.Le j):∀ s,le (g53 i std s) (g53 j std s):=fun _=>z07 (h _ _ _ _ _ (fun _=>le_refl _)) (fun _=>le_refl _) (fun _=>le_refl _)
theorem v0l {i j:It} (h:i.Le j):∀ s,le (g60 i std s) (g60 j std s):=fun _=>z0b (z0b (z0b (z0b (z0f (h _ _ _ _ _ (fun _=>le_refl _)) (fun _=>le_refl _)))))
theorem mg20 {i j:It} (h:i.Le j):∀ s,le (g20 i std s) (g20 j std s):=fun _=>z0p (le_refl _) (z07 (h _ _ _ _ _ (fun _=>le_refl _)) (fun _=>le_refl _) (fun _=>le_refl _))
theorem v2l {i j:It} (h:i.Le j):∀ s,le (x8t i std s) (x8t j std s):=fun _=>z1e (z0p (z0b (z0b (z0f (v0n h _) (fun _=>le_refl _)))) (le_refl _))
theorem mg18 {i j:It} (h:i.Le j):∀ s,le (g18 i std s) (g18 j std s):=fun _=>z0f (z1e (z0f (le_refl _) (fun _=>z0p (le_refl _) (z0p (le_refl _) (z07 (h _ _ _ _ _ (fun _=>le_refl _)) (fun _=>le_refl _) (fun _=>le_refl _)))))) (fun _=>z0p (le_refl _) (z0f (z1e (z0f (v0n h _) (fun _=>z0p (le_refl _) (z07 (h _ _ _ _ _ (v2l h)) (fun _=>le_refl _) (fun _=>le_refl _))))) (fun _=>le_refl _)))
theorem v6q {i j:It} (h:i.Le j):∀ s,le (g57 i std s) (g57 j std s):=fun _=>z0p (le_refl _) (z07 (z1e (z07 (h _ _ _ _ _ (fun _=>le_refl _)) (fun _=>le_refl _) (fun _=>le_refl _))) (fun _=>le_refl _) (fun _=>le_refl _))
theorem v1u {i j:It} (h:i.Le j):∀ s,le (x8p i std s) (x8p j std s):=fun _=>z1e (z0p (z0b (z0b (z0f (le_refl _) (fun _=>z0f (h _ _ _ _ _ (fun _=>le_refl _)) (fun _=>le_refl _))))) (le_refl _))
theorem u1a {i j:It} (h:i.Le j):∀ s,le (g93 i std s) (g93 j std s):=fun _=>z0f (h _ _ _ _ _ (v1u h)) (fun _=>le_refl _)
theorem u1d {i j:It} (h:i.Le j):∀ s,le (g65 i std s) (g65 j std s):=fun _=>z0b (z0f (u1a h _) (fun _=>le_refl _))
theorem mg76 {i j:It} (h:i.Le j):∀ s,le (g76 i std s) (g76 j std s):=fun _=>z0f (le_refl _) (fun _=>z0f (le_refl _) (fun _=>z0p (le_refl _) (z0b (z0f (u1a h _) (fun _=>le_refl _)))))
theorem mg68 {i j:It} (h:i.Le j):∀ s,le (g68 i std s) (g68 j std s):=fun _=>z0f (le_refl _) (fun _=>z0p (le_refl _) (z0f (u1d h _) (fun _=>le_refl _)))
theorem u1c {i j:It} (h:i.Le j):∀ s,le (g78 i std s) (g78 j std s):=fun _=>z0b (z0f (h _ _ _ _ _ (fun _=>le_refl _)) (fun _=>le_refl _))
theorem mg92 {i j:It} (h:i.Le j):∀ s,le (g92 i std s) (g92 j std s):=fun _=>z0f (u1c h _) (fun _=>z0f (u1c h _) (fun _=>le_refl _))
theorem v1y {i j:It} (h:i.Le j):∀ s,le (x4o i std s) (x4o j std s):=fun _=>z1e (z0p (z0b (z0b (z0f (mg92 h _) (fun _=>le_refl _)))) (le_refl _))
theorem v1z {i j:It} (h:i.Le j):∀ s,le (y3z i std s) (y3z j std s):=fun _=>z1e (z0p (z0b (z0b (z0f (z1e (z0b (z0b (z0b (z0b (z0b (z07 (h _ _ _ _ _ (fun _=>le_refl _)) (fun _=>le_refl _) (fun _=>le_refl _)))))))) (fun _=>le_refl _)))) (le_refl _))
theorem v10 {i j:It} (h:i.Le j):∀ s,le (x4p i std s) (x4p j std s):=fun _=>z1e (z0p (z0b (z0b (z0b (z0b (z0f (h _ _ _ _ _ (fun _=>le_refl _)) (fun _=>le_refl _)))))) (le_refl _))
theorem v7m {i j:It} (h:i.Le j):∀ s,le (g63 i std s) (g63 j std s):=fun _=>z0f (h _ _ _ _ _ (v10 h)) (fun _=>z0b (z0b (z0b (z0b (z0b (z0f (h _ _ _ _ _ (v1z h)) (fun _=>z0b (z0b (z0f (h _ _ _ _ _ (v1y h)) (fun _=>le_refl _))))))))))
theorem w30 {i j:It} (h:i.Le j):∀ s,le (z7d i std s) (z7d j std s):=fun _=>z1e (z0p (z0b (z0b (z0b (z0b (z0f (mg87 h _) (fun _=>le_refl _)))))) (le_refl _))
theorem w31 {i j:It} (h:i.Le j):∀ s,le (z9i i std s) (z9i j std s):=fun _=>z1e (z0p (z0b (z0b (z0b (z0f (h _ _ _ _ _ (w30 h)) (fun _=>le_refl _))))) (le_refl _))
theorem v1q {i j:It} (h:i.Le j):∀ s,le (w0x i std s) (w0x j std s):=fun _=>z0b (z0b (z0b (z0f (h _ _ _ _ _ (w31 h)) (fun _=>le_refl _))))
theorem w33 {i j:It} (h:i.Le j):∀ s,le (y51 i std s) (y51 j std s):=fun _=>z1e (z0p (z0b (z0b (z0b (z0f (v1q h _) (fun _=>le_refl _))))) (le_refl _))
theorem v1s {i j:It} (h:i.Le j):∀ s,le (w0z i std s) (w0z j std s):=fun _=>z0b (z0b (z0b (z0f (h _ _ _ _ _ (w33 h)) (fun _=>le_refl _))))
theorem v1o {i j:It} (h:i.Le j):∀ s,le (w0v i std s) (w0v j std s):=fun _=>z0f (le_refl _) (fun _=>z0b (z0b (z0b (z0f (v1s h _) (fun _=>le_refl _)))))
theorem w3z {i j:It} (h:i.Le j):∀ s,le (z9h i std s) (z9h j std s):=fun _=>z1e (z0p (z0b (z0b (z0f (h _ _ _ _ _ (fun _=>le_refl _)) (fun _=>le_refl _)))) (le_refl _))
theorem v1p {i j:It} (h:i.Le j):∀ s,le (w0w i std s) (w0w j std s):=fun _=>z0b (z0b (z0f (h _ _ _ _ _ (w3z h)) (fun _=>le_refl _)))
theorem w32 {i j:It} (h:i.Le j):∀ s,le (y50 i std s) (y50 j std s):=fun _=>z1e (z0p (z0b (z0b (z0f (v1p h _) (fun _=>le_refl _)))) (le_refl _))
theorem v1r {i j:It} (h:i.Le j):∀ s,le (w0y i std s) (w0y j std s):=fun _=>z0b (z0b (z0f (h _ _ _ _ _ (w32 h)) (fun _=>le_refl _)))
theorem v1n {i j:It} (h:i.Le j):∀ s,le (x72 i std s) (x72 j std s):=fun _=>z0f (le_refl _) (fun _=>z0b (z0b (z0f (v1r h _) (fun _=>le_refl _))))
theorem v7l {i j:It} (h:i.Le j):∀ s,le (v3j i std s) (v3j j std s):=fun _=>w0n (v1o h _) (le_refl _)
theorem v7k {i j:It} (h:i.Le j):∀ s,le (v3i i std s) (v3i j std s):=fun _=>w0n (v1n h _) (le_refl _)
theorem v1v {i j:It} (h:i.Le j):∀ s,le (x8q i std s) (x8q j std s):=fun _=>z1e (z0p (z0b (z0b (z0f (h _ _ _ _ _ (fun _=>le_refl _)) (fun _=>le_refl _)))) (le_refl _))
theorem u1b {i j:It} (h:i.Le j):∀ s,le (g88 i std s) (g88 j std s):=fun _=>z0f (h _ _ _ _ _ (v1v h)) (fun _=>le_refl _)
theorem w8e {i j:It} (h:i.Le j):∀ s,le (y3h i std s) (y3h j std s):=fun _=>z1e (z0p (z0b (z0b (z0b (z0b (z0p (z0b (z0f (h _ _ _ _ _ (fun _=>le_refl _)) (fun _=>le_refl _))) (le_refl _)))))) (le_refl _))
theorem v7q {i j:It} (h:i.Le j):∀ s,le (w84 i std s) (w84 j std s):=fun _=>z0p (le_refl _) (z07 (h _ _ _ _ _ (w8e h)) (fun _=>le_refl _) (fun _=>le_refl _))
theorem mg86 {i j:It} (h:i.Le j):∀ s,le (g86 i std s) (g86 j std s):=fun _=>z0b (z0b (z0b (z0b (z0b (z0f (v7l h _) (fun _=>z0f (v7q h _) (fun _=>le_refl _)))))))
theorem mg89 {i j:It} (h:i.Le j):∀ s,le (g89 i std s) (g89 j std s):=fun _=>z0f (h _ _ _ _ _ (fun _=>le_refl _)) (fun _=>le_refl _)
theorem v0m {i j:It} (h:i.Le j):∀ s,le (g59 i std s) (g59 j std s):=fun _=>z0f (mg86 h _) (fun _=>z0p (le_refl _) (z0b (z0f (u1b h _) (fun _=>z0b (z0f (mg89 h _) (fun _=>z0b (z0f (u1b h _) (fun _=>le_refl _))))))))
theorem v1w {i j:It} (h:i.Le j):∀ s,le (x2u i std s) (x2u j std s):=fun _=>z1e (z0p (z0f (z1e (z0b (z0b (z0b (z0f (u0z h _) (fun _=>le_refl _)))))) (fun _=>le_refl _)) (le_refl _))
theorem v1x {i j:It} (h:i.Le j):∀ s,le (y3y i std s) (y3y j std s):=fun _=>z1e (z0p (z0b (z0b (z0f (z1e (z0b (z0b (z0b (z0b (z0b (z07 (h _ _ _ _ _ (fun _=>le_refl _)) (fun _=>le_refl _) (fun _=>le_refl _)))))))) (fun _=>le_refl _)))) (le_refl _))
theorem mg80 {i j:It} (h:i.Le j):∀ s,le (g80 i std s) (g80 j std s):=fun _=>z0b (z0b (z0b (z0f (h _ _ _ _ _ (v1x h)) (fun _=>z0b (z0b (z0f (v7k h _) (fun _=>z0b (z0b (z0b (z0f (u0z h _) (fun _=>z0b (z0b (z0b (z0b (z0b (z0f (h _ _ _ _ _ (v1w h)) (fun _=>le_refl _)))))))))))))))))
theorem v15 {i j:It} (h:i.Le j):∀ s,le (x4s i std s) (x4s j std s):=fun _=>z1e (z0p (z0b (z0b (z0f (v0l h _) (fun _=>z0f (v0m h _) (fun _=>z0f (mg80 h _) (fun _=>le_refl _)))))) (le_refl _))
theorem w8c {i j:It} (h:i.Le j):∀ s,le (g48 i std s) (g48 j std s):=fun _=>z0f (mg18 h _) (fun _=>z0p (le_refl _) (z0f (v0l h _) (fun _=>z0f (v0m h _) (fun _=>z0f (h _ _ _ _ _ (v15 h)) (fun _=>le_refl _)))))
theorem mg16 {i j:It} (h:i.Le j):∀ s,le (g16 i std s) (g16 j std s):=fun _=>z07 (w8c h _) (fun _=>le_refl _) (fun _=>z0f (le_refl _) (fun _=>z0p (le_refl _) (z0f (h _ _ _ _ _ (fun _=>le_refl _)) (fun _=>le_refl _))))
theorem v6p {i j:It} (h:i.Le j):∀ s,le (g62 i std s) (g62 j std s):=fun _=>z07 (w8c h _) (fun _=>z0p (le_refl _) (z07 (w8c h _) (fun _=>le_refl _) (fun _=>le_refl _))) (fun _=>z0f (le_refl _) (fun _=>z0p (le_refl _) (z07 (w8c h _) (fun _=>le_refl _) (fun _=>le_refl _))))
theorem mg21 {i j:It} (h:i.Le j):∀ s,le (g21 i std s) (g21 j std s):=fun _=>z07 (w8c h _) (fun _=>z0p (le_refl _) (z0b (z0f (v0n h _) (fun _=>le_refl _)))) (fun _=>z0f (le_refl _) (fun _=>z0p (le_refl _) (z0b (z0f (v0n h _) (fun _=>z0p (le_refl _) (z0f (v6q h _) (fun _=>le_refl _)))))))
theorem v2i {i j:It} (h:i.Le j):∀ s,le (w94 i std s) (w94 j std s):=fun _=>z1e (z0p (z0b (z0b (z0f (v6q h _) (fun _=>le_refl _)))) (le_refl _))
theorem v2j {i j:It} (h:i.Le j):∀ s,le (w95 i std s) (w95 j std s):=fun _=>z1e (z0p (z0b (z0b (z0f (v6q h _) (fun _=>le_refl _)))) (le_refl _))
theorem mg23 {i j:It} (h:i.Le j):∀ s,le (g23 i std s) (g23 j std s):=fun _=>z07 (w8c h _) (fun _=>z07 (z1e (z0p (le_refl _) (z0f (le_refl _) (fun _=>z07 (z1e (z0p (le_refl _) (z0f (v0n h _) (fun _=>le_refl _)))) (fun _=>le_refl _) (fun _=>le_refl _))))) (fun _=>le_refl _) (fun _=>z07 (le_refl _) (fun _=>z0f (v0l h _) (fun _=>z0f (v0m h _) (fun _=>le_refl _))) (fun _=>z0f (le_refl _) (fun _=>z0f (v0l h _) (fun _=>z0f (v0m h _) (fun _=>z07 (h _ _ _ _ _ (v2j h)) (fun _=>le_refl _) (fun _=>le_refl _))))))) (fun _=>z0f (le_refl _) (fun _=>z07 (z1e (z0p (le_refl _) (z0f (le_refl _) (fun _=>z07 (z1e (z0p (le_refl _) (z0f (v0n h _) (fun _=>le_refl _)))) (fun _=>le_refl _) (fun _=>le_refl _))))) (fun _=>le_refl _) (fun _=>z07 (le_refl _) (fun _=>z0f (v0l h _) (fun _=>z0f (v0m h _) (fun _=>le_refl _))) (fun _=>z0f (le_refl _) (fun _=>z0f (v0l h _) (fun _=>z0f (v0m h _) (fun _=>z07 (h _ _ _ _ _ (v2i h)) (fun _=>le_refl _) (fun _=>le_refl _))))))))
theorem u1h {i j:It} (h:i.Le j):∀ s,le (g32 i std s) (g32 j std s):=fun _=>z07 (v6p h _) (fun _=>le_refl _) (fun _=>z07 (le_refl _) (fun _=>le_refl _) (fun _=>z07 (le_refl _) (fun _=>le_refl _) (fun _=>z0f (le_refl _) (fun _=>z0p (le_refl _) (z0f (v7m h _) (fun _=>le_refl _))))))
theorem v2a {i j:It} (h:i.Le j):∀ s,le (x2x i std s) (x2x j std s):=fun _=>z1e (z0p (z0b (z0b (z07 (h _ _ _ _ _ (fun _=>le_refl _)) (fun _=>le_refl _) (fun _=>le_refl _)))) (le_refl _))
theorem v2b {i j:It} (h:i.Le j):∀ s,le (x2y i std s) (x2y j std s):=fun _=>z1e (z0p (z0b (z0b (z0f (v7m h _) (fun _=>le_refl _)))) (le_refl _))
theorem v2c {i j:It} (h:i.Le j):∀ s,le (x4t i std s) (x4t j std s):=fun _=>z1e (z0p (z0b (z0b (z0b (z0b (z0b (z0b (z0b (z0f (h _ _ _ _ _ (v2b h)) (fun _=>le_refl _))))))))) (le_refl _))
theorem v2d {i j:It} (h:i.Le j):∀ s,le (x2z i std s) (x2z j std s):=fun _=>z1e (z0p (z07 (z1e (z0b (z0b (z07 (w8c h _) (fun _=>le_refl _) (fun _=>le_refl _))))) (fun _=>le_refl _) (fun _=>le_refl _)) (le_refl _))
theorem mg27 {i j:It} (h:i.Le j):∀ s,le (g27 i std s) (g27 j std s):=fun _=>z0p (le_refl _) (z07 (h _ _ _ _ _ (v2d h)) (fun _=>le_refl _) (fun _=>z0f (le_refl _) (fun _=>z0b (z0b (z0b (z0b (z0f (h _ _ _ _ _ (v2c h)) (fun _=>z0b (z0b (z07 (h _ _ _ _ _ (v2a h)) (fun _=>le_refl _) (fun _=>le_refl _)))))))))))
theorem w8b {i j:It} (h:i.Le j):∀ s,le (v0p i std s) (v0p j std s):=fun _=>z0b (z0f (h _ _ _ _ _ (fun _=>le_refl _)) (fun _=>le_refl _))
theorem u1g {i j:It} (h:i.Le j):∀ s,le (g39 i std s) (g39 j std s):=fun _=>z07 (v6p h _) (fun _=>le_refl _) (fun _=>z07 (le_refl _) (fun _=>le_refl _) (fun _=>z07 (le_refl _) (fun _=>z07 (z1e (z0p (le_refl _) (z0p (le_refl _) (z0f (le_refl _) (fun _=>z0f (le_refl _) (fun _=>z0p (le_refl _) (z0f (le_refl _) (fun _=>z0p (le_refl _) (z0p (le_refl _) (z07 (z1e (z0p (le_refl _) (z0f (w8b h _) (fun _=>le_refl _)))) (fun _=>le_refl _) (fun _=>le_refl _))))))))))) (fun _=>le_refl _) (fun _=>le_refl _)) (fun _=>z0f (le_refl _) (fun _=>z07 (z1e (z0p (le_refl _) (z0p (le_refl _) (z0f (le_refl _) (fun _=>z0f (le_refl _) (fun _=>z0p (le_refl _) (z0f (le_refl _) (fun _=>z0p (le_refl _) (z0p (le_refl _) (z07 (z1e (z0p (le_refl _) (z0f (w8b h _) (fun _=>z0p (le_refl _) (z0f (w8b h _) (fun _=>le_refl _)))))) (fun _=>le_refl _) (fun _=>le_refl _))))))))))) (fun _=>le_refl _) (fun _=>le_refl _)))))
theorem v16 {i j:It} (h:i.Le j):∀ s,le (y6q i std s) (y6q j std s):=fun _=>z1e (z0p (z0b (z0b (z0b (z0b (z0b (z0p (le_refl _) (z0f (mg76 h _) (fun _=>le_refl _)))))))) (le_refl _))
theorem v17 {i j:It} (h:i.Le j):∀ s,le (y5z i std s) (y5z j std s):=fun _=>z1e (z0p (z0b (z0b (z0b (z0b (z0b (z0p (le_refl _) (z07 (z1e (z07 (h _ _ _ _ _ (v16 h)) (fun _=>le_refl _) (fun _=>le_refl _))) (fun _=>le_refl _) (fun _=>le_refl _)))))))) (le_refl _))
theorem v18 {i j:It} (h:i.Le j):∀ s,le (x2w i std s) (x2w j std s):=fun _=>z1e (z0p (z0b (z0b (z0f (v6q h _) (fun _=>le_refl _)))) (le_refl _))
theorem v19 {i j:It} (h:i.Le j):∀ s,le (y15 i std s) (y15 j std s):=fun _=>z1e (z0p (z0f (le_refl _) (fun _=>z07 (h _ _ _ _ _ (v18 h)) (fun _=>le_refl _) (fun _=>le_refl _))) (le_refl _))
theorem mg37 {i j:It} (h:i.Le j):∀ s,le (g37 i std s) (g37 j std s):=fun _=>z07 (v6p h _) (fun _=>le_refl _) (fun _=>z07 (le_refl _) (fun _=>le_refl _) (fun _=>z07 (le_refl _) (fun _=>le_refl _) (fun _=>z0f (le_refl _) (fun _=>z0p (le_refl _) (z07 (h _ _ _ _ _ (v19 h)) (fun _=>le_refl _) (fun _=>z0f (le_refl _) (fun _=>z07 (z1e (z07 (h _ _ _ _ _ (v17 h)) (fun _=>le_refl _) (fun _=>le_refl _))) (fun _=>le_refl _) (fun _=>le_refl _))))))))
theorem mg69 {i j:It} (h:i.Le j):∀ s,le (g69 i std s) (g69 j std s):=fun _=>z0p (le_refl _) (z0b (z0b (z0f (h _ _ _ _ _ (fun _=>le_refl _)) (fun _=>le_refl _))))
theorem v2e {i j:It} (h:i.Le j):∀ s,le (w90 i std s) (w90 j std s):=fun _=>z1e (z0p (z0b (z0b (z0b (z0b (z0b (z0p (le_refl _) (z0f (mg68 h _) (fun _=>le_refl _)))))))) (le_refl _))
theorem v2f {i j:It} (h:i.Le j):∀ s,le (w91 i std s) (w91 j std s):=fun _=>z1e (z0p (z0b (z0b (z0f (u1d h _) (fun _=>le_refl _)))) (le_refl _))
theorem v2g {i j:It} (h:i.Le j):∀ s,le (w92 i std s) (w92 j std s):=fun _=>z1e (z0p (z0b (z0b (z0f (h _ _ _ _ _ (v2f h)) (fun _=>z0f (z1e (z07 (h _ _ _ _ _ (v2e h)) (fun _=>le_refl _) (fun _=>le_refl _))) (fun _=>le_refl _))))) (le_refl _))
theorem v2h {i j:It} (h:i.Le j):∀ s,le (w93 i std s) (w93 j std s):=fun _=>z1e (z0p (z0f (le_refl _) (fun _=>z0f (h _ _ _ _ _ (v2g h)) (fun _=>le_refl _))) (le_refl _))
theorem mg25 {i j:It} (h:i.Le j):∀ s,le (g25 i std s) (g25 j std s):=fun _=>z07 (v6p h _) (fun _=>le_refl _) (fun _=>z07 (le_refl _) (fun _=>le_refl _) (fun _=>z07 (le_refl _) (fun _=>le_refl _) (fun _=>z0f (le_refl _) (fun _=>z0p (le_refl _) (z0f (v7m h _) (fun _=>z0p (le_refl _) (z0b (z0f (h _ _ _ _ _ (v2h h)) (fun _=>z0f (mg69 h _) (fun _=>le_refl _))))))))))
theorem u1e {i j:It} (h:i.Le j):∀ s,le (g56 i std s) (g56 j std s):=fun _=>z07 (h _ _ _ _ _ (fun _=>le_refl _)) (fun _=>le_refl _) (fun _=>le_refl _)
theorem v11 {i j:It} (h:i.Le j):∀ s,le (x4q i std s) (x4q j std s):=fun _=>z1e (z0b (z0b (z0f (h _ _ _ _ _ (fun _=>le_refl _)) (fun _=>le_refl _))))
theorem v7n {i j:It} (h:i.Le j):∀ s,le (g61 i std s) (g61 j std s):=fun _=>z0b (z0f (h _ _ _ _ _ (fun _=>le_refl _)) (fun _=>z0b (z0f (h _ _ _ _ _ (v11 h)) (fun _=>le_refl _))))
theorem v2k {i j:It} (h:i.Le j):∀ s,le (x8s i std s) (x8s j std s):=fun _=>z1e (z0p (z0b (z0b (z0f (u1e h _) (fun _=>le_refl _)))) (le_refl _))
theorem v7o {i j:It} (h:i.Le j):∀ s,le (g19 i std s) (g19 j std s):=fun _=>z0f (le_refl _) (fun _=>z0p (le_refl _) (z07 (h _ _ _ _ _ (fun _=>le_refl _)) (fun _=>le_refl _) (fun _=>z0f (le_refl _) (fun _=>z0f (u1e h _) (fun _=>z0p (le_refl _) (z07 (h _ _ _ _ _ (v2k h)) (fun _=>le_refl _) (fun _=>le_refl _)))))))
theorem u1f {i j:It} (h:i.Le j):∀ s,le (g43 i std s) (g43 j std s):=fun _=>z07 (h _ _ _ _ _ (fun _=>le_refl _)) (fun _=>le_refl _) (fun _=>le_refl _)
theorem v12 {i j:It} (h:i.Le j):∀ s,le (x4r i std s) (x4r j std s):=fun _=>z1e (z0p (z0b (z0b (z0b (z0b (z0b (z0f (h _ _ _ _ _ (fun _=>le_refl _)) (fun _=>le_refl _))))))) (le_refl _))
theorem v13 {i j:It} (h:i.Le j):∀ s,le (x2v i std s) (x2v j std s):=fun _=>z1e (z0p (z0b (z0b (z0b (z0f (h _ _ _ _ _ (v12 h)) (fun _=>le_refl _))))) (le_refl _))
theorem v14 {i j:It} (h:i.Le j):∀ s,le (x8r i std s) (x8r j std s):=fun _=>z1e (z0p (z0b (z0b (z0f (v7n h _) (fun _=>z0b (z0b (z0b (z0f (h _ _ _ _ _ (v13 h)) (fun _=>z0f (v7n h _) (fun _=>le_refl _))))))))) (le_refl _))
theorem v6r {i j:It} (h:i.Le j):∀ s,le (g49 i std s) (g49 j std s):=fun _=>z0f (v7n h _) (fun _=>z0f (h _ _ _ _ _ (v14 h)) (fun _=>le_refl _))
theorem v6o {i j:It} (h:i.Le j):∀ s,le (g72 i std s) (g72 j std s):=fun _=>z0f (v7o h _) (fun _=>z0p (z0f (v7o h _) (fun _=>le_refl _)) (z0f (v7o h _) (fun _=>le_refl _)))
theorem mg36 {i j:It} (h:i.Le j):∀ s,le (g36 i std s) (g36 j std s):=fun _=>z0f (v6o h _) (fun _=>z0p (z0f (v6o h _) (fun _=>le_refl _)) (z0f (le_refl _) (fun _=>z0p (le_refl _) (z0f (v6r h _) (fun _=>z0f (v6r h _) (fun _=>z07 (h _ _ _ _ _ (fun _=>le_refl _)) (fun _=>le_refl _) (fun _=>z0f (le_refl _) (fun _=>z07 (h _ _ _ _ _ (fun _=>le_refl _)) (fun _=>le_refl _) (fun _=>le_refl _)))))))))
theorem mg38 {i j:It} (h:i.Le j):∀ s,le (g38 i std s) (g38 j std s):=fun _=>z0f (v6o h _) (fun _=>z0p (z0f (v6o h _) (fun _=>le_refl _)) (z0f (le_refl _) (fun _=>z0p (le_refl _) (z0f (v6r h _) (fun _=>z0f (u1f h _) (fun _=>z0p (le_refl _) (z0f (v6r h _) (fun _=>z0f (u1f h _) (fun _=>le_refl _)))))))))
theorem mg15 {i j:It} (h:i.Le j):∀ s,le (g15 i std s) (g15 j std s):=fun _=>z0b (z0b (z0b (z0b (z0b (z0b (z0b (z0b (z0b (z0b (z0b (z0b (z0b (z0b (z0b (z0b (z0f (mg16 h _) (fun _=>z0b (z0b (z0f (mg21 h _) (fun _=>z0b (z0f (mg23 h _) (fun _=>z0b (z0f (u1g h _) (fun _=>z0b (z0f (u1g h _) (fun _=>z0b (z0f (u1h h _) (fun _=>z0b (z0f (u1h h _) (fun _=>z0b (z0f (mg37 h _) (fun _=>z0b (z0f (mg25 h _) (fun _=>z0b (z0f (mg27 h _) (fun _=>z0f (le_refl _) (fun _=>z0p (le_refl _) (z0b (z0f (mg20 h _) (fun _=>z0p (z0p (z0p (z0b (z0f (mg36 h _) (fun _=>z0p (z0b (z0f (mg38 h _) (fun _=>le_refl _))) (le_refl _)))) (le_refl _)) (le_refl _)) (le_refl _)))))))))))))))))))))))))))))))))))))))))
end Go.Am
end
section
namespace Go.Am
theorem v3k:g15 (itN 200) std ()=some (true,()):=by kernel_rfl
theorem y0e:G15 std ()=some (true,()):=mg15 (v3a 200) () _ v3k
end Go.Am
end
section
namespace Go.Am
open M06
def x18 (l:List Pt) (hs:List (List Pt)):Prop:=¬ y1q l hs∧z49 l hs=0
instance (l:List Pt) (hs:List (List Pt)):Decidable (x18 l hs):=by unfold x18; infer_instance
theorem x17 {l:List Pt} {hs:List (List Pt)}:x18 l hs↔z4o l hs:=by
 unfold x18
 rw [z12]
 refine ⟨fun h=>h.2,fun h=>⟨?_,h⟩⟩
 rintro (k|k|⟨x,hx,k⟩)
 ·have:=h.many.2; omega
 ·have:=h.few; omega
 ·have:=(h.manyH x hx).2; omega
instance (l:List Pt) (hs:List (List Pt)):Decidable (z4o l hs):=decidable_of_iff _ x17
theorem v5z (l:List Pt) (hs:List (List Pt)):G29 std (z0d l,z1m hs,())=some (decide (z4o l hs),()):=by
 unfold G29
 have h14:v9v it0 std (z0d l,z1m hs,())=some (decide (y1q l hs),()):=v52 l hs
 have h19:g19 it0 std (z0d l,z1m hs,())=some (z49 l hs,()):=w2w l hs
 have e:decide (z4o l hs)=decide (x18 l hs):=by rw [decide_eq_decide]; exact x17.symm
 rw [e]
 by_cases hg:y1q l hs
 ·have:¬ x18 l hs:=fun h=>h.1 hg
  simp only [g29,z0m,z0n,h14,hg,this]
 ·by_cases hc:z49 l hs=0
  ·have:x18 l hs:=⟨hg,hc⟩
   simp only [g29,z0m,z0n,h14,h19,hg,hc,this]
  ·have:¬ x18 l hs:=fun h=>hc h.2
   simp only [g29,z0m,z0n,h14,h19,hg,hc,this]
theorem z9a {α:Type} {l:List α} {P:α→Bool} {d:α}:∀ {i:Nat},i<l.length→P (l.getD i d)=true→(∀ j,j<i→P (l.getD j d)=false)→l.find? P=some (l.getD i d):=by
 induction l with
 |nil=>intro i hi; simp at hi
 |cons a l ih=>
  intro i hi h hm
  cases i with
  |zero=>
   have h:P a=true:=by simpa using h
   rw [List.find?_cons_of_pos h]; simp
  |succ i=>
   have h0:P a=false:=by simpa using hm 0 (by omega)
   rw [List.find?_cons_of_neg (by rw [h0]; simp)]
   have:=ih (i:=i) (by simpa using hi) (by simpa using h) (fun j hj=>by simpa using hm (j+1) (by omega))
   simpa using this
theorem z9b {α:Type} {l:List α} {P:α→Bool} {d:α} (h:∀ i,i<l.length→P (l.getD i d)=false):l.find? P=none:=by
 rw [List.find?_eq_none]
 intro x hx
 obtain ⟨i,hi⟩:=List.getElem?_of_mem hx
 have:=h i (List.getElem?_eq_some_iff.1 hi).1
 rw [z4m hi] at this
 rw [this]; simp
theorem x6x {l:List Pt} {hs:List (List Pt)} (h:z49 l hs≠0) (m:List Pt) (ks:List (List Pt)):G62 std (z0d l,z1m hs,z0d m,z1m ks,())=some (.inl (z49 l hs,())):=by
 unfold G62
 have h48:g48 it0 std (z0d l,z1m hs,())=_:=x4w h
 simp only [g62,z0m,z0n,h48,h,not_false_eq_true]
theorem x6w {l:List Pt} {hs:List (List Pt)} (hf:z4o l hs) {m:List Pt} {ks:List (List Pt)} (h:z49 m ks≠0):
  G62 std (z0d l,z1m hs,z0d m,z1m ks,())=some (.inr (.inr (.inl (z0d l,z1m hs,z0d (z08 (z1a l hs)),z49 m ks,())))):=by
 unfold G62
 have h48:g48 it0 std (z0d l,z1m hs,())=_:=x61 hf
 have h48':g48 it0 std (z0d m,z1m ks,())=_:=x4w h
 simp only [g62,z0m,z0n,h48,h48',not_true]
theorem w66 {l:List Pt} {hs:List (List Pt)} (hf:z4o l hs) {m:List Pt} {ks:List (List Pt)} (hk:z4o m ks):
  G62 std (z0d l,z1m hs,z0d m,z1m ks,())=some (.inr (.inr (.inr (z0d l,z1m hs,z0d (z08 (z1a l hs)),z0d m,z1m ks,z0d (z08 (z1a m ks)),0,())))):=by
 unfold G62
 have h48:g48 it0 std (z0d l,z1m hs,())=_:=x61 hf
 have h48':g48 it0 std (z0d m,z1m ks,())=_:=x61 hk
 simp only [g62,z0m,z0n,h48,h48',not_true]
instance (p:Pt):Decidable (Big p):=by unfold Big; infer_instance
noncomputable def w5e (l:List Pt) (hs:List (List Pt)) (m:List Pt) (ks:List (List Pt)) (p:Pt) (den:Int):Int:=
 if z49 l hs≠0 then z49 l hs else if z49 m ks≠0 then z49 m ks else if ¬ (1≤den∧den≤268435456∧Big p) then 2 else
  if inC (z08 (z1a l hs)) p den=true∧inC (z08 (z1a m ks)) p den=true then 0 else 14
theorem z4o.cbox' {l:List Pt} {hs:List (List Pt)} (h:z4o l hs):∀ p∈z08 (z1a l hs),z0y (-10000) 10000 p:=fun p hp=>by
 obtain ⟨h1,h2,h3,h4⟩:=h.cbox p hp
 exact ⟨by omega,by omega,by omega,by omega⟩
theorem x62 {l:List Pt} {hs:List (List Pt)} (hf:z4o l hs) {p:Pt} (hb:Big p) {den:Int} (h1:1≤den) (h2:den≤268435456):
  g43 it0 std (z0d (z08 (z1a l hs)),p.1,p.2,den,())=some (inC (z08 (z1a l hs)) p den,()):=v5v hf.cyc hf.cbox' (by have:=z48 hf; omega) hb h1 h2
end Go.Am
end
section
namespace M06
def dif (a b:List Pt):List Pt:=a.flatMap fun p=>b.map fun q=>sb p q
theorem z32 {a b:List Pt} {z:Pt}:z∈dif a b↔∃ p∈a,∃ q∈b,z=sb p q:=by
 simp only [dif,List.mem_flatMap,List.mem_map]
 exact ⟨fun ⟨x,hx,y,hy,e⟩=>⟨x,hx,y,hy,e.symm⟩,fun ⟨x,hx,y,hy,e⟩=>⟨x,hx,y,hy,e.symm⟩⟩
theorem w4z (a b:List Pt):∀ z,z∈dif a b↔∃ x∈a,∃ y∈b.map ng,z=ad x y:=by
 intro z
 rw [z32]
 constructor
 ·rintro ⟨p,hp,q,hq,rfl⟩
  exact ⟨p,hp,ng q,List.mem_map.2 ⟨q,hq,rfl⟩,by simp only [sb,ad,ng]; exact Prod.ext (by simp; omega) (by simp; omega)⟩
 ·rintro ⟨p,hp,y,hy,rfl⟩
  obtain ⟨q,hq,rfl⟩:=List.mem_map.1 hy
  exact ⟨p,hp,q,hq,by simp only [sb,ad,ng]; exact Prod.ext (by simp; omega) (by simp; omega)⟩
def y03 (a b:List Pt) (w:Pt):Prop:=∀ p∈a,∀ q∈b,dt w p<dt w q
def z5b (a b:List Pt):List Pt:=(a.flatMap fun p=>b.map fun q=>sb q p)++(wy a++wy b).flatMap fun w=>[(w.2, -w.1),(-w.2,w.1)]
theorem x1k {a b:List Pt} {w:Pt} (h:y03 a b w):¬ InH (dif a b) (0,0) 1:=by
 intro hi
 obtain ⟨x,hx,h0⟩:=hi (-w.2,w.1)
 obtain ⟨p,hp,q,hq,rfl⟩:=z32.1 hx
 have:=h p hp q hq
 have e:crs (-w.2,w.1) (sb (0,0) (ml (sb p q) 1))=dt w q - dt w p→True:=fun _=>trivial
 have e2:crs (w.2, -w.1) (sb (0,0) (ml (sb p q) 1))=dt w q - dt w p:=by simp only [crs,dt,sb,ml]; grind
 have e3:crs (-w.2,w.1) (sb (0,0) (ml (sb p q) 1))= - (dt w q - dt w p):=by simp only [crs,dt,sb,ml]; grind
 rw [e3] at h0
 omega
theorem w9c {S:List Pt} {d a b:Pt} (h:y4j S (ng d) a b):y4j (S.map ng) d (ng a) (ng b):=by
 have e1:∀ u v:Pt,crs d (sb (ng u) (ng v))=crs (ng d) (sb u v):=by intros; simp only [crs,sb,ng]; grind
 have e2:∀ u v:Pt,dt d (sb (ng u) (ng v))=dt (ng d) (sb u v):=by intros; simp only [dt,sb,ng]; grind
 refine ⟨List.mem_map.2 ⟨a,h.ina,rfl⟩,List.mem_map.2 ⟨b,h.inb,rfl⟩,by rw [e1]; exact h.par,fun x hx=>?_,fun x hx h0=>?_⟩
 ·obtain ⟨y,hy,rfl⟩:=List.mem_map.1 hx
  rw [e1]; exact h.left y hy
 ·obtain ⟨y,hy,rfl⟩:=List.mem_map.1 hx
  rw [e1] at h0
  rw [e2,e2]; exact h.on y hy h0
theorem x44 {d:Pt} {l:List Pt} (h:z8x d l≠(0,0)):∃ w∈l,z6n d w:=by
 refine Classical.byContradiction fun hn=>h ?_
 exact x0u fun x hx hs=>hn ⟨x,hx,hs⟩
theorem y26 {u v x:Pt} (h:z6n u v):0<crs u x↔0<crs v x:=by
 have hm:=(h.mul x).1
 have a:=z04 h.ne
 have b:=h.2
 constructor
 ·intro k
  have:=Int.mul_pos b k
  refine Classical.byContradiction fun hc=>?_
  have:=Int.mul_nonneg (Int.le_of_lt a) (show 0≤ - crs v x by omega)
  rw [Int.mul_neg] at this; omega
 ·intro k
  have:=Int.mul_pos a k
  refine Classical.byContradiction fun hc=>?_
  have:=Int.mul_nonneg (Int.le_of_lt b) (show 0≤ - crs u x by omega)
  rw [Int.mul_neg] at this; omega
theorem v7f {d:Pt} (h:d≠(0,0)):ng d≠(0,0):=by
 intro e
 apply h
 rw [←x1s d,e]; rfl
theorem x1p {a b:List Pt} (ha:Cyc a a) (hb:Cyc b b) (h:¬ InH (dif a b) (0,0) 1):∃ w∈z5b a b,y03 a b w:=by
 obtain ⟨p0,hp0⟩:∃ p,p∈a:=by
  match a,ha with
  |p::r,_=>exact ⟨p,by simp⟩
 obtain ⟨q0,hq0⟩:∃ q,q∈b:=by
  match b,hb with
  |q::r,_=>exact ⟨q,by simp⟩
 have hne:dif a b≠[]:=by
  intro e
  have:=z32.2 ⟨p0,hp0,q0,hq0,rfl⟩
  rw [e] at this; simp at this
 have hD:=z3k hne
 have hin:¬ inC (z08 (dif a b)) (0,0) 1=true:=fun hi=>h ((y4b hD (by omega)).2 ((z3r hD (by omega)).1 hi))
 have hDm:=z7c hD
 generalize z08 (dif a b)=D at hD hin hDm
 have first:∀ p∈a,∀ q∈b,sb q p∈z5b a b:=fun p hp q hq=>List.mem_append_left _ (List.mem_flatMap.2 ⟨p,hp,List.mem_map.2 ⟨q,hq,rfl⟩⟩)
 have hDn:1≤D.length:=by
  match D,hD with
  |x::r,_=>simp
 unfold inC at hin
 by_cases h1:D.length=1
 ·rw [if_pos h1] at hin
  obtain ⟨x,rfl,_,hall⟩:=y9h hD (by omega)
  have hx:x≠(0,0):=by
   intro e; apply hin; subst e; rfl
  have hx0:=hall _ (z32.2 ⟨p0,hp0,q0,hq0,rfl⟩)
  refine ⟨sb q0 p0,first p0 hp0 q0 hq0,fun p hp q hq=>?_⟩
  have hx1:=hall _ (z32.2 ⟨p,hp,q,hq,rfl⟩)
  have hpos:=z04 hx
  have e:dt (sb q0 p0) q - dt (sb q0 p0) p=dt (sb p0 q0) (sb p q):=by simp only [dt,sb]; grind
  rw [hx0,hx1] at e
  omega
 ·rw [if_neg h1] at hin
  have h2:2≤D.length:=by omega
  by_cases hex:∃ x y,x∈dif a b∧Nx (dif a b) x y∧crs (sb y x) (sb (0,0) (ml x 1))<0
  ·obtain ⟨x,y,hxm,hn,hc⟩:=hex
   have he:sb y x≠(0,0):=fun e=>hn.2.1 (z1f.1 e).symm
   have hface:=y2n hxm hn
   have hcx:0<crs (sb y x) x:=by
    have:crs (sb y x) (sb (0,0) (ml x 1))= - crs (sb y x) x:=by simp only [crs,sb,ml]; grind
    omega
   have hall:∀ p∈a,∀ q∈b,0<crs (sb y x) (sb p q):=by
    intro p hp q hq
    have:=hface.left _ (z32.2 ⟨p,hp,q,hq,rfl⟩)
    have e:crs (sb y x) (sb (sb p q) x)=crs (sb y x) (sb p q) - crs (sb y x) x:=by rw [w16]
    omega
   have f1:=z9z ha he
   have f2:=w9c (z9z hb (v7f he))
   have fs:=f1.sum (w4z a b) f2
   obtain ⟨u1,u2⟩:=hface.unique he fs
   have hor:z8x (sb y x) (wy a)≠(0,0)∨z8x (ng (sb y x)) (wy b)≠(0,0):=by
    refine Classical.byContradiction fun hno=>hn.2.1 ?_
    simp only [not_or,Classical.not_not] at hno
    rw [hno.1,hno.2,z1q,z1q] at u2
    exact u1.trans u2.symm
   rcases hor with hor|hor
   ·obtain ⟨w,hw,hsw⟩:=x44 hor
    refine ⟨(w.2, -w.1),List.mem_append_right _ (List.mem_flatMap.2 ⟨w,List.mem_append_left _ hw,by simp⟩),fun p hp q hq=>?_⟩
    have:=(y26 hsw).1 (hall p hp q hq)
    have e:dt (w.2, -w.1) q - dt (w.2, -w.1) p=crs w (sb p q):=by simp only [dt,crs,sb]; grind
    omega
   ·obtain ⟨w,hw,hsw⟩:=x44 hor
    refine ⟨(-w.2,w.1),List.mem_append_right _ (List.mem_flatMap.2 ⟨w,List.mem_append_right _ hw,by simp⟩),fun p hp q hq=>?_⟩
    have h3:=hall p hp q hq
    have h4:=(y26 (x:=ng (sb p q)) hsw).1 (by rw [crs_ng]; exact h3)
    have e:dt (-w.2,w.1) q - dt (-w.2,w.1) p=crs w (ng (sb p q)):=by simp only [dt,crs,sb,ng]; grind
    omega
  ·have hno:∀ {x y:Pt},x∈dif a b→Nx (dif a b) x y→0≤crs (sb y x) (sb (0,0) (ml x 1)):=fun {x y} h1 h2=>by
    refine Classical.byContradiction fun hc=>hex ⟨x,y,h1,h2,by omega⟩
   rw [List.all_eq_true] at hin
   have:∃ i,i<D.length∧¬ y24 D.length (D.getD i (0,0)) (D.getD ((i+1) % D.length) (0,0)) (0,0) 1=true:=by
    refine Classical.byContradiction fun hn=>hin fun i hi=>Classical.byContradiction fun hc=>hn ⟨i,List.mem_range.1 hi,hc⟩
   obtain ⟨i,hi,hs⟩:=this
   obtain ⟨x,hx⟩:∃ x,D[i]?=some x:=⟨_,List.getElem?_eq_getElem hi⟩
   obtain ⟨y,hy⟩:∃ y,D[(i+1) % D.length]?=some y:=⟨_,List.getElem?_eq_getElem (Nat.mod_lt _ (by omega))⟩
   rw [getD_some hx,getD_some hy,z7j] at hs
   have hn:=z8o hD h2 hx hy
   have hxm:=hDm x (List.mem_of_getElem? hx)
   have hym:=hDm y (List.mem_of_getElem? hy)
   have he:sb y x≠(0,0):=fun e=>hn.2.1 (z1f.1 e).symm
   have hface:=y2n hxm hn
   have hc:=hno hxm hn
   have hz:D.length=2∧dt (sb y x) (sb (0,0) (ml x 1))<0:=by
    refine Classical.byContradiction fun hno=>hs ⟨by omega,fun hl=>?_⟩
    refine Classical.byContradiction fun hd=>hno ⟨hl,by omega⟩
   obtain ⟨hl2,hd⟩:=hz
   have hn2:Nx (dif a b) y x:=by
    match D,hl2,hD,hx,hy with
    |[u,v],_,hD,hx,hy=>
     have g1:=z8o hD (by simp) (i:=0) (a:=u) (b:=v) rfl rfl
     have g2:=z8o hD (by simp) (i:=1) (a:=v) (b:=u) rfl (by simp)
     have hi2:i<2:=by simpa using hi
     have:i=0∨i=1:=by omega
     rcases this with rfl|rfl
     ·simp at hx hy; subst hx; subst hy; exact g2
     ·simp at hx hy; subst hx; subst hy; exact g1
   have hc2:=hno hym hn2
   have hc0:crs (sb y x) (sb (0,0) (ml x 1))=0:=by
    have e:crs (sb x y) (sb (0,0) (ml y 1))= - crs (sb y x) (sb (0,0) (ml x 1)):=by simp only [crs,sb,ml]; grind
    omega
   have e1:crs (sb y x) (sb (0,0) (ml x 1))= - crs (sb y x) x:=by simp only [crs,sb,ml]; grind
   have e2:dt (sb y x) (sb (0,0) (ml x 1))= - dt (sb y x) x:=by simp only [dt,sb,ml]; grind
   have hsame:z6n (sb y x) x:=⟨by omega,by omega⟩
   obtain ⟨p1,hp1,q1,hq1,hx1⟩:=z32.1 hxm
   refine ⟨sb q1 p1,first p1 hp1 q1 hq1,fun p hp q hq=>?_⟩
   have hline:∀ z∈dif a b,crs (sb y x) (sb z x)=0:=by
    intro z hz
    have c1:=hface.left z hz
    have c2:=(hn2.2.2 z hz).1
    have e:cr y x z= - crs (sb y x) (sb z x):=by simp only [cr,crs,sb]; grind
    omega
   have hz:=z32.2 ⟨p,hp,q,hq,rfl⟩
   have on:=(hface.on _ hz (hline _ hz)).1
   have e3:dt (sb y x) (sb (sb p q) x)=dt (sb y x) (sb p q) - dt (sb y x) x:=by rw [x6f]
   have hpos:0<dt (sb y x) (sb p q):=by omega
   have hm:=(hsame.mul (sb p q)).2
   have hpos2:0<dt x (sb p q):=by
    have a1:=Int.mul_pos hsame.2 hpos
    refine Classical.byContradiction fun hc=>?_
    have:=Int.mul_nonneg (Int.le_of_lt (z04 he)) (show 0≤ - dt x (sb p q) by omega)
    rw [Int.mul_neg] at this; omega
   have e4:dt (sb q1 p1) q - dt (sb q1 p1) p=dt (sb p1 q1) (sb p q):=by simp only [dt,sb]; grind
   rw [←hx1] at e4
   omega
theorem w7t {a b:List Pt} (ha:Cyc a a) (hb:Cyc b b):(∃ w∈z5b a b,y03 a b w)↔¬ InH (dif a b) (0,0) 1:=
 ⟨fun ⟨_,_,h⟩=>x1k h,x1p ha hb⟩
end M06
end
section
namespace M06
theorem z9v {S c:List Pt} (hc:Cyc S c) {x y:Pt} {k m α β:Int} (hx:InH c x k) (hy:InH c y m) (hk:0≤k) (hm:0≤m) (ha:0≤α) (hb:0≤β):InH c (ad (ml x α) (ml y β)) (α*k+β*m):=by
 intro d
 obtain ⟨a,h1,h2⟩:=w1m (z2q hc) d
 refine ⟨a,h1,?_⟩
 obtain ⟨u,u1,u2⟩:=hx d
 obtain ⟨v,v1,v2⟩:=hy d
 have p1:0≤crs d (sb x (ml a k)):=by
  rw [w3g x u a k d]
  have:=Int.mul_nonneg hk (h2 u u1)
  omega
 have p2:0≤crs d (sb y (ml a m)):=by
  rw [w3g y v a m d]
  have:=Int.mul_nonneg hm (h2 v v1)
  omega
 have e:crs d (sb (ad (ml x α) (ml y β)) (ml a (α*k+β*m)))=α*crs d (sb x (ml a k))+β*crs d (sb y (ml a m)):=by simp only [crs,sb,ml,ad]; grind
 rw [e]
 have:=Int.mul_nonneg ha p1
 have:=Int.mul_nonneg hb p2
 omega
theorem x1u (x:Pt):ml x 1=x:=by simp [ml]
theorem x11 {S c:List Pt} (hc:Cyc S c) {u v w:Pt} (hu:u∈c) (hv:v∈c) (hw:w∈c) {α β γ:Int} (ha:0≤α) (hb:0≤β) (hg:0≤γ):
  InH c (ad (ad (ml u α) (ml v β)) (ml w γ)) (α+β+γ):=by
 have h1:=z9v hc (InH.point' hu) (InH.point' hv) (by omega) (by omega) ha hb
 have h2:=z9v hc h1 (InH.point' hw) (k:=α*1+β*1) (m:=1) (by omega) (by omega) (show (0:Int)≤1 by omega) hg
 rw [x1u] at h2
 have e:1*(α*1+β*1)+γ*1=α+β+γ:=by omega
 rw [e] at h2
 exact h2
where
 InH.point' {S:List Pt} {p:Pt} (h:p∈S):InH S p 1:=fun d=>⟨p,h,by simp [crs,sb,ml]⟩
theorem z87 {S:List Pt} {x:Pt} {k g:Int} (hg:0<g):InH S (ml x g) (g*k)↔InH S x k:=by
 have e:∀ (d a:Pt),crs d (sb (ml x g) (ml a (g*k)))=g*crs d (sb x (ml a k)):=by intros; simp only [crs,sb,ml]; grind
 constructor
 ·intro h d
  obtain ⟨a,h1,h2⟩:=h d
  rw [e] at h2
  refine ⟨a,h1,Classical.byContradiction fun hc=>?_⟩
  have:=Int.mul_neg_of_pos_of_neg hg (Int.not_le.1 hc)
  omega
 ·intro h d
  obtain ⟨a,h1,h2⟩:=h d
  exact ⟨a,h1,by rw [e]; exact Int.mul_nonneg (Int.le_of_lt hg) h2⟩
theorem x51 {S c:List Pt} (hc:Cyc S c) {d a b z:Pt} {k:Int} (hk:0≤k) (hd:d≠(0,0)) (hf:y4j c d a b) (hz:InH c z k) (h0:crs d (sb z (ml a k))=0):
  0≤dt d (sb z (ml a k))∧0≤dt d (sb (ml b k) z):=by
 obtain ⟨N,hN,hN2⟩:∃ N:Int,0≤N∧∀ x∈c, -N≤dt d (sb x a)∧ -N≤dt d (sb b x):=by
  have:∀ l:List Pt,∃ N:Int,0≤N∧∀ x∈l, -N≤dt d (sb x a)∧ -N≤dt d (sb b x):=by
   intro l
   induction l with
   |nil=>exact ⟨0,by omega,by simp⟩
   |cons x l ih=>
    obtain ⟨N,h1,h2⟩:=ih
    refine ⟨max N (max (- dt d (sb x a)) (- dt d (sb b x))),by omega,fun y hy=>?_⟩
    rcases List.mem_cons.1 hy with rfl|hy
    ·omega
    ·have:=h2 y hy; omega
  exact this c
 have pos1:∀ x∈c,0≤N*crs d (sb x a)+dt d (sb x a):=by
  intro x hx
  have c1:=hf.left x hx
  rcases Int.lt_or_eq_of_le c1 with h|h
  ·have:=Int.mul_le_mul_of_nonneg_left (show (1:Int)≤crs d (sb x a) by omega) hN
   have:=(hN2 x hx).1
   omega
  ·have:=(hf.on x hx h.symm).1
   rw [←h,Int.mul_zero]; omega
 have pos2:∀ x∈c,0≤N*crs d (sb x a)+dt d (sb b x):=by
  intro x hx
  have c1:=hf.left x hx
  rcases Int.lt_or_eq_of_le c1 with h|h
  ·have:=Int.mul_le_mul_of_nonneg_left (show (1:Int)≤crs d (sb x a) by omega) hN
   have:=(hN2 x hx).2
   omega
  ·have:=(hf.on x hx h.symm).2
   rw [←h,Int.mul_zero]; omega
 have hpar:=hf.par
 constructor
 ·
  obtain ⟨x,hx,hx0⟩:=hz (N*d.1+d.2,N*d.2 - d.1)
  have e:crs (N*d.1+d.2,N*d.2 - d.1) (sb z (ml x k))=N*crs d (sb z (ml a k))+dt d (sb z (ml a k)) - k*(N*crs d (sb x a)+dt d (sb x a)):=by simp only [crs,dt,sb,ml]; grind
  rw [e,h0,Int.mul_zero] at hx0
  have:=Int.mul_nonneg hk (pos1 x hx)
  omega
 ·obtain ⟨x,hx,hx0⟩:=hz (N*d.1 - d.2,N*d.2+d.1)
  have e:crs (N*d.1 - d.2,N*d.2+d.1) (sb z (ml x k))=N*crs d (sb z (ml a k))+dt d (sb (ml b k) z) - k*(N*crs d (sb x a)+dt d (sb b x)):=by simp only [crs,dt,sb,ml]; grind
  rw [e,h0,Int.mul_zero] at hx0
  have:=Int.mul_nonneg hk (pos2 x hx)
  omega
theorem u1k:∀ (F:List (Int×Int)),(∀ f∈F,0≤f.1)→(∃ f∈F,f.2<0)→∃ g∈F,g.2<0∧∀ f∈F,0≤g.1*f.2 - g.2*f.1
 |[],_,h=>by obtain ⟨f,hf,_⟩:=h; simp at hf
 |f::F,h0,h1=>by
  by_cases hF:∃ f∈F,f.2<0
  ·obtain ⟨g,g1,g2,g3⟩:=u1k F (fun x hx=>h0 x (List.mem_cons_of_mem _ hx)) hF
   have gp:=h0 g (List.mem_cons_of_mem _ g1)
   have fp:=h0 f (by simp)
   by_cases hf:0≤g.1*f.2 - g.2*f.1
   ·refine ⟨g,List.mem_cons_of_mem _ g1,g2,fun x hx=>?_⟩
    rcases List.mem_cons.1 hx with rfl|hx
    ·exact hf
    ·exact g3 x hx
   ·have hf2:f.2<0:=by
     refine Classical.byContradiction fun hc=>hf ?_
     have a1:=Int.mul_nonneg gp (show 0≤f.2 by omega)
     have a2:=Int.mul_nonneg (show 0≤ -g.2 by omega) fp
     rw [Int.neg_mul] at a2
     omega
    refine ⟨f,by simp,hf2,fun x hx=>?_⟩
    rcases List.mem_cons.1 hx with rfl|hx
    ·have:=Int.mul_comm x.1 x.2; omega
    ·have xp:=h0 x (List.mem_cons_of_mem _ hx)
     have gx:=g3 x hx
     by_cases hx2:0≤x.2
     ·have a1:=Int.mul_nonneg fp hx2
      have a2:=Int.mul_nonneg (show 0≤ -f.2 by omega) xp
      rw [Int.neg_mul] at a2
      omega
     ·
      have i1:(-g.2)*(f.1*x.2 - f.2*x.1)=(-f.2)*(g.1*x.2 - g.2*x.1)+(-x.2)*(g.1*f.2 - g.2*f.1)*(-1)*(-1)*(-1)+0:=by grind
      have a1:=Int.mul_nonneg (show 0≤ -f.2 by omega) gx
      have a2:=Int.mul_nonneg (show 0≤ -x.2 by omega) (show 0≤ -(g.1*f.2 - g.2*f.1) by omega)
      have i2:(-x.2)*(g.1*f.2 - g.2*f.1)*(-1)*(-1)*(-1)=(-x.2)*(-(g.1*f.2 - g.2*f.1)):=by grind
      rw [i2] at i1
      refine Classical.byContradiction fun hc=>?_
      have:=Int.mul_neg_of_pos_of_neg (show 0< -g.2 by omega) (Int.not_le.1 hc)
      omega
  ·obtain ⟨g,hg,g2⟩:=h1
   have hgf:g=f:=by
    rcases List.mem_cons.1 hg with h|h
    ·exact h
    ·exact absurd ⟨g,h,g2⟩ hF
   subst hgf
   have gp:=h0 g (by simp)
   refine ⟨g,by simp,g2,fun x hx=>?_⟩
   rcases List.mem_cons.1 hx with rfl|hx
   ·have:=Int.mul_comm x.1 x.2; omega
   ·have xp:=h0 x (List.mem_cons_of_mem _ hx)
    have hx2:0≤x.2:=Classical.byContradiction fun hc=>hF ⟨x,hx,by omega⟩
    have a1:=Int.mul_nonneg gp hx2
    have a2:=Int.mul_nonneg (show 0≤ -g.2 by omega) xp
    rw [Int.neg_mul] at a2
    omega
def y3n (c:List Pt):List (Pt×Pt):=(List.range c.length).map fun i=>(c.getD i (0,0),c.getD ((i+1) % c.length) (0,0))
theorem y1i {c:List Pt} (hc:Cyc c c) (h2:2≤c.length) {s:Pt×Pt}:s∈y3n c↔s.1∈c∧Nx c s.1 s.2:=by
 constructor
 ·intro hs
  obtain ⟨i,hi,rfl⟩:=List.mem_map.1 hs
  have hi:=List.mem_range.1 hi
  obtain ⟨x,hx⟩:∃ x,c[i]?=some x:=⟨_,List.getElem?_eq_getElem hi⟩
  obtain ⟨y,hy⟩:∃ y,c[(i+1) % c.length]?=some y:=⟨_,List.getElem?_eq_getElem (Nat.mod_lt _ (by omega))⟩
  simp only [getD_some hx,getD_some hy]
  exact ⟨List.mem_of_getElem? hx,z8o hc h2 hx hy⟩
 ·rintro ⟨h,hn⟩
  obtain ⟨i,hi,i1,i2⟩:=z60 hc h2 h hn
  refine List.mem_map.2 ⟨i,List.mem_range.2 hi,?_⟩
  rw [getD_some i1,getD_some i2]
theorem y1p {c:List Pt} (hc:Cyc c c) (h2:2≤c.length) {p:Pt} {k:Int}:inC c p k=true↔∀ s∈y3n c,0≤crs (sb s.2 s.1) (sb p (ml s.1 k))∧(c.length=2→0≤dt (sb s.2 s.1) (sb p (ml s.1 k))):=by
 unfold inC
 rw [if_neg (by omega),List.all_eq_true]
 constructor
 ·intro h s hs
  obtain ⟨i,hi,rfl⟩:=List.mem_map.1 hs
  exact z7j.1 (h i hi)
 ·intro h i hi
  exact z7j.2 (h _ (List.mem_map.2 ⟨i,hi,rfl⟩))
theorem rim {c:List Pt} (hc:Cyc c c) (h2:2≤c.length) {x u:Pt} {k:Int} (hk:0<k) (hx:InH c x k) (hu:¬ InH c u 1):
    ∃ (s:Pt×Pt) (α β:Int),s∈y3n c∧0≤α∧0<β∧InH c (ad (ml u (α*k)) (ml x β)) ((α+β)*k)∧
      ((crs (sb s.2 s.1) (sb (ad (ml u (α*k)) (ml x β)) (ml s.1 ((α+β)*k)))=0∧crs (sb s.2 s.1) (sb u s.1)<0)∨
       (ad (ml u (α*k)) (ml x β)=ml s.1 ((α+β)*k))):=by
  have hxC:=(z3r hc hk).2 hx
  have huC:¬ inC c u 1=true:=fun h=>hu ((z3r hc (by omega)).1 h)
  rw [y1p hc h2] at hxC huC
  let F:List (Int×Int):=(y3n c).flatMap fun s=>(crs (sb s.2 s.1) (sb x (ml s.1 k)),crs (sb s.2 s.1) (sb (ml u k) (ml s.1 k)))::(if c.length=2 then [(dt (sb s.2 s.1) (sb x (ml s.1 k)),dt (sb s.2 s.1) (sb (ml u k) (ml s.1 k)))] else [])
  have scC:∀ s:Pt×Pt,crs (sb s.2 s.1) (sb (ml u k) (ml s.1 k))=k*crs (sb s.2 s.1) (sb u (ml s.1 1)):=by intro s; simp only [crs,sb,ml]; grind
  have scD:∀ s:Pt×Pt,dt (sb s.2 s.1) (sb (ml u k) (ml s.1 k))=k*dt (sb s.2 s.1) (sb u (ml s.1 1)):=by intro s; simp only [dt,sb,ml]; grind
  have hF:∀ f∈F,0≤f.1:=by
    intro f hf
    obtain ⟨s,hs,hf⟩:=List.mem_flatMap.1 hf
    rcases List.mem_cons.1 hf with rfl|hf
    · exact (hxC s hs).1
    · by_cases hl:c.length=2
      · rw [if_pos hl] at hf
        simp at hf; subst hf
        exact (hxC s hs).2 hl
      · rw [if_neg hl] at hf; simp at hf
  have hneg:∃ f∈F,f.2<0:=by
    refine Classical.byContradiction fun hn=>huC fun s hs=>⟨?_,fun hl=>?_⟩
    · refine Classical.byContradiction fun hc=>hn ⟨_,List.mem_flatMap.2 ⟨s,hs,List.mem_cons_self ..⟩,?_⟩
      simp only
      rw [scC]
      exact Int.mul_neg_of_pos_of_neg hk (Int.not_le.1 hc)
    · refine Classical.byContradiction fun hc=>hn ⟨_,List.mem_flatMap.2 ⟨s,hs,List.mem_cons_of_mem _ (by rw [if_pos hl]; exact List.mem_singleton.2 rfl)⟩,?_⟩
      simp only
      rw [scD]
      exact Int.mul_neg_of_pos_of_neg hk (Int.not_le.1 hc)
  obtain ⟨g,g1,g2,g3⟩:=u1k F hF hneg
  have g0:=hF g g1
  obtain ⟨s,hs,hgs⟩:=List.mem_flatMap.1 g1
  have hsum:0<g.1+ -g.2:=by omega
  have lin:∀ (s:Pt×Pt),crs (sb s.2 s.1) (sb (ad (ml u (g.1*k)) (ml x (-g.2))) (ml s.1 ((g.1+ -g.2)*k)))=g.1*crs (sb s.2 s.1) (sb (ml u k) (ml s.1 k)) - g.2*crs (sb s.2 s.1) (sb x (ml s.1 k)):=by intro s; simp only [crs,sb,ml,ad]; grind
  have linD:∀ (s:Pt×Pt),dt (sb s.2 s.1) (sb (ad (ml u (g.1*k)) (ml x (-g.2))) (ml s.1 ((g.1+ -g.2)*k)))=g.1*dt (sb s.2 s.1) (sb (ml u k) (ml s.1 k)) - g.2*dt (sb s.2 s.1) (sb x (ml s.1 k)):=by intro s; simp only [dt,sb,ml,ad]; grind
  have hin:inC c (ad (ml u (g.1*k)) (ml x (-g.2))) ((g.1+ -g.2)*k)=true:=by
    rw [y1p hc h2]
    intro t ht
    refine ⟨?_,fun hl=>?_⟩
    · rw [lin]
      exact g3 _ (List.mem_flatMap.2 ⟨t,ht,List.mem_cons_self ..⟩)
    · rw [linD]
      exact g3 _ (List.mem_flatMap.2 ⟨t,ht,List.mem_cons_of_mem _ (by rw [if_pos hl]; exact List.mem_singleton.2 rfl)⟩)
  have hinH:=(z3r hc (Int.mul_pos hsum hk)).1 hin
  refine ⟨s,g.1, -g.2,hs,g0,by omega,hinH,?_⟩
  have hs':=(y1i hc h2).1 hs
  have he:sb s.2 s.1≠(0,0):=fun e=>hs'.2.2.1 (z1f.1 e).symm
  rcases List.mem_cons.1 hgs with hg|hg
  · left
    refine ⟨?_,?_⟩
    · rw [lin]
      have a1:crs (sb s.2 s.1) (sb (ml u k) (ml s.1 k))=g.2:=by rw [hg]
      have a2:crs (sb s.2 s.1) (sb x (ml s.1 k))=g.1:=by rw [hg]
      rw [a1,a2,Int.mul_comm]; omega
    · have a1:crs (sb s.2 s.1) (sb (ml u k) (ml s.1 k))=g.2:=by rw [hg]
      rw [scC,x1u] at a1
      refine Classical.byContradiction fun hc=>?_
      have:=Int.mul_nonneg (Int.le_of_lt hk) (show 0≤crs (sb s.2 s.1) (sb u s.1) by omega)
      omega
  · right
    by_cases hl:c.length=2
    · rw [if_pos hl] at hg
      have hg:=List.mem_singleton.1 hg
      have a1:dt (sb s.2 s.1) (sb (ml u k) (ml s.1 k))=g.2:=by rw [hg]
      have a2:dt (sb s.2 s.1) (sb x (ml s.1 k))=g.1:=by rw [hg]
      have hd:dt (sb s.2 s.1) (sb (ad (ml u (g.1*k)) (ml x (-g.2))) (ml s.1 ((g.1+ -g.2)*k)))=0:=by
        rw [linD,a1,a2,Int.mul_comm]; omega
      have hcz:crs (sb s.2 s.1) (sb (ad (ml u (g.1*k)) (ml x (-g.2))) (ml s.1 ((g.1+ -g.2)*k)))=0:=by
        rw [y1p hc h2] at hin
        have q1:=(hin s hs).1
        have hback:(s.2,s.1)∈y3n c:=by
          match c,hl,hc,hs with
          |[a,b],_,hc,hs=>
            have:y3n [a,b]=[(a,b),(b,a)]:=by simp [y3n,List.range_succ]
            rw [this] at hs⊢
            rcases List.mem_cons.1 hs with rfl|hs
            · simp
            · simp at hs; subst hs; simp
        have q2:=(hin _ hback).1
        simp only at q2
        have e:∀ z:Pt,∀ m:Int,crs (sb s.1 s.2) (sb z (ml s.2 m))= - crs (sb s.2 s.1) (sb z (ml s.1 m)):=by intros; simp only [crs,sb,ml]; grind
        rw [e] at q2
        omega
      exact z1f.1 (z7x he hcz hd)
    · rw [if_neg hl] at hg; simp at hg
end M06
end
section
namespace M06
theorem x9o {u v:Pt} (hu:Pos u) (hv:Pos v) (h0:crs u v=0) (h1:dt u v≤dt u u) (h2:dt u v≤dt v v):u=v:=by
 have hs:=y8k hu hv h0
 have hl:=lag u v
 rw [h0] at hl
 have e:dt (sb u v) (sb u v)=dt u u+dt v v - 2*dt u v:=by simp only [dt,sb]; grind
 have hm:=hs.2
 refine Classical.byContradiction fun hn=>?_
 have hp:=z04 (u:=sb u v) (fun e=>hn (z1f.1 e))
 generalize dt u v=m at*
 generalize dt u u=n at*
 generalize dt v v=k at*
 have a1:=Int.mul_le_mul_of_nonneg_left h2 (Int.le_of_lt hm)
 have a2:=Int.mul_le_mul_of_nonneg_right h1 (show 0≤k by omega)
 have hmk:m*m=m*k:=by omega
 have hk:k=m:=by
  have:m*(k - m)=0:=by rw [Int.mul_sub]; omega
  rcases Int.mul_eq_zero.1 this with h|h<;>omega
 subst hk
 have hnk:(n - k)*k=0:=by rw [Int.sub_mul]; omega
 rcases Int.mul_eq_zero.1 hnk with h|h<;>omega
theorem x63 {S D:List Pt} (hD:Cyc S D) (h2:2≤D.length) (h:inC D (0,0) 1=true):
  ∃ u v w:Pt,∃ α β γ:Int,u∈D∧v∈D∧w∈D∧0≤α∧0≤β∧0≤γ∧0<α+β+γ∧ad (ad (ml u α) (ml v β)) (ml w γ)=(0,0):=by
 have hc:=z2q hD
 have ht:=(y1p hc h2).1 h
 by_cases hl:D.length=2
 ·obtain ⟨x,y,rfl⟩:∃ x y,D=[x,y]:=by
   match D,hl with
   |[x,y],_=>exact ⟨x,y,rfl⟩
  have e:y3n [x,y]=[(x,y),(y,x)]:=by simp [y3n,List.range_succ]
  have t1:=ht (x,y) (by rw [e]; simp)
  have t2:=ht (y,x) (by rw [e]; simp)
  have n1:=(y1i hc h2).1 (show (x,y)∈y3n [x,y] by rw [e]; simp)
  have he:sb y x≠(0,0):=fun e=>n1.2.2.1 (z1f.1 e).symm
  have hpos:=z04 he
  simp only at t1 t2
  have a1:=t1.2 rfl
  have a2:=t2.2 rfl
  have c0:crs (sb y x) x=0:=by
   have b1:=t1.1
   have b2:=t2.1
   have e1:crs (sb y x) (sb (0,0) (ml x 1))= - crs (sb y x) x:=by simp only [crs,sb,ml]; grind
   have e2:crs (sb x y) (sb (0,0) (ml y 1))=crs (sb y x) x:=by simp only [crs,sb,ml]; grind
   omega
  have e3:dt (sb y x) (sb (0,0) (ml x 1))= - dt (sb y x) x:=by simp only [dt,sb,ml]; grind
  have e4:dt (sb x y) (sb (0,0) (ml y 1))=dt (sb y x) y:=by simp only [dt,sb,ml]; grind
  have e5:dt (sb y x) (sb y x)=dt (sb y x) y - dt (sb y x) x:=by rw [x6f]
  refine ⟨x,y,x,dt (sb y x) y, - dt (sb y x) x,0,by simp,by simp,by simp,by omega,by omega,by omega,by omega,?_⟩
  refine z7x he ?_ ?_
  ·have:crs (sb y x) (ad (ad (ml x (dt (sb y x) y)) (ml y (- dt (sb y x) x))) (ml x 0))=(dt (sb y x) y - dt (sb y x) x)*crs (sb y x) x:=by
    have e6:crs (sb y x) y=crs (sb y x) x:=by simp only [crs,sb]; grind
    have:crs (sb y x) (ad (ad (ml x (dt (sb y x) y)) (ml y (- dt (sb y x) x))) (ml x 0))=dt (sb y x) y*crs (sb y x) x - dt (sb y x) x*crs (sb y x) y:=by
     generalize dt (sb y x) y=s
     generalize dt (sb y x) x=t
     simp only [crs,ml,ad]; grind
    rw [this,e6,Int.sub_mul]
   rw [this,c0,Int.mul_zero]
  ·generalize hs:dt (sb y x) y=s
   generalize ht:dt (sb y x) x=t
   have:dt (sb y x) (ad (ad (ml x s) (ml y (-t))) (ml x 0))=s*dt (sb y x) x - t*dt (sb y x) y:=by simp only [dt,ml,ad]; grind
   rw [this,hs,ht,Int.mul_comm]; omega
 ·
  have h3:3≤D.length:=by omega
  have hg:∀ i,i<D.length→∃ x,D[i]?=some x:=fun i hi=>⟨_,List.getElem?_eq_getElem hi⟩
  obtain ⟨A,hA⟩:=hg 0 (by omega)
  have test:∀ i x y,D[i]?=some x→D[(i+1) % D.length]?=some y→0≤crs (sb y x) (sb (0,0) (ml x 1)):=by
   intro i x y hx hy
   have hi:=(List.getElem?_eq_some_iff.1 hx).1
   exact (ht (x,y) (List.mem_map.2 ⟨i,List.mem_range.2 hi,by rw [getD_some hx,getD_some hy]⟩)).1
  let f:Nat→Int:=fun i=>crs (sb (D.getD i (0,0)) A) (sb (0,0) A)
  have fA:∀ i x,D[i]?=some x→f i=crs (sb x A) (sb (0,0) A):=fun i x hx=>by show crs (sb (D.getD i (0,0)) A) _=_; rw [getD_some hx]
  have f1:0≤f 1:=by
   obtain ⟨B,hB⟩:=hg 1 (by omega)
   rw [fA 1 B hB]
   have:=test 0 A B hA (by rw [Nat.mod_eq_of_lt (by omega)]; exact hB)
   rwa [x1u] at this
  have fn:f (D.length - 1)≤0:=by
   obtain ⟨B,hB⟩:=hg (D.length - 1) (by omega)
   rw [fA _ B hB]
   have:=test (D.length - 1) B A hB (by rw [show D.length - 1+1=D.length by omega,Nat.mod_self]; exact hA)
   have e:crs (sb A B) (sb (0,0) (ml B 1))= - crs (sb B A) (sb (0,0) A):=by simp only [crs,sb,ml]; grind
   omega
  have hex:∃ i,1≤i∧i+1<D.length∧0≤f i∧f (i+1)≤0:=by
   refine Classical.byContradiction fun hn=>?_
   have:∀ i,1≤i→i<D.length→0≤f i∧(2≤i→0<f i):=by
    intro i
    induction i with
    |zero=>intro h; omega
    |succ i ih=>
     intro h1 hl
     by_cases hi:i=0
     ·subst hi; exact ⟨f1,fun h=>by omega⟩
     ·have hp:=ih (by omega) (by omega)
      have:¬ f (i+1)≤0:=fun hc=>hn ⟨i,by omega,hl,hp.1,hc⟩
      exact ⟨by omega,fun _=>by omega⟩
   have:=(this (D.length - 1) (by omega) (by omega)).2 (by omega)
   omega
  obtain ⟨i,i1,i2,i3,i4⟩:=hex
  obtain ⟨B,hB⟩:=hg i (by omega)
  obtain ⟨C,hC⟩:=hg (i+1) i2
  rw [fA _ B hB] at i3
  rw [fA _ C hC] at i4
  have hg0:=test i B C hB (by rw [Nat.mod_eq_of_lt i2]; exact hC)
  rw [x1u] at hg0
  have hsum:crs (sb C B) (sb (0,0) B)+(- crs (sb C A) (sb (0,0) A))+crs (sb B A) (sb (0,0) A)=crs (sb B A) (sb C A):=by simp only [crs,sb]; grind
  have hn:=z8o hc h2 hB (by rw [Nat.mod_eq_of_lt i2]; exact hC)
  have hAm:=List.mem_of_getElem? hA
  have hBm:=List.mem_of_getElem? hB
  have hCm:=List.mem_of_getElem? hC
  have hmin:∀ x∈D,Le A x:=by
   match D,hc,hA with
   |c0::r,hc,hA=>simp at hA; subst hA; exact hc.2.1
  have hnd:=y1y hc
  refine ⟨A,B,C,crs (sb C B) (sb (0,0) B), - crs (sb C A) (sb (0,0) A),crs (sb B A) (sb (0,0) A),hAm,hBm,hCm,hg0,by omega,i3,?_,?_⟩
  ·rw [hsum]
   have hge:=(hn.2.2 A hAm).1
   have e:cr B C A=crs (sb B A) (sb C A):=by simp only [cr,crs,sb]; grind
   rw [e] at hge
   rcases Int.lt_or_eq_of_le hge with h|h
   ·exact h
   ·exfalso
    have pB:Pos (sb B A):=by
     rcases hmin B hBm with e|h
     ·subst e
      have:=y1h hnd hA hB
      omega
     ·exact h
    have pC:Pos (sb C A):=by
     rcases hmin C hCm with e|h
     ·subst e
      have:=y1h hnd hA hC
      omega
     ·exact h
    have hf:=(y2n hBm hn).on A hAm (by
     have e2:crs (sb C B) (sb A B)=crs (sb B A) (sb C A):=by simp only [crs,sb]; grind
     omega)
    have e3:dt (sb C B) (sb A B)=dt (sb B A) (sb B A) - dt (sb B A) (sb C A):=by simp only [dt,sb]; grind
    have e4:dt (sb C B) (sb C A)=dt (sb C A) (sb C A) - dt (sb B A) (sb C A):=by simp only [dt,sb]; grind
    have:=x9o pB pC h.symm (by omega) (by omega)
    have hBC:B=C:=by
     have a1:=congrArg Prod.fst this
     have a2:=congrArg Prod.snd this
     simp only [sb] at a1 a2
     exact Prod.ext (by omega) (by omega)
    exact hn.2.1 hBC
  ·simp only [crs,sb,ml,ad]
   refine Prod.ext ?_ ?_<;>grind
theorem v4u {a b:List Pt} (ha:Cyc a a) (hb:Cyc b b) (h:InH (dif a b) (0,0) 1):∃ (x:Pt) (k:Int),0<k∧InH a x k∧InH b x k:=by
 obtain ⟨p0,hp0⟩:∃ p,p∈a:=by
  match a,ha with
  |p::r,_=>exact ⟨p,by simp⟩
 obtain ⟨q0,hq0⟩:∃ q,q∈b:=by
  match b,hb with
  |q::r,_=>exact ⟨q,by simp⟩
 have hne:dif a b≠[]:=by
  intro e
  have:=z32.2 ⟨p0,hp0,q0,hq0,rfl⟩
  rw [e] at this; simp at this
 have hD:=z3k hne
 have hin:=(z3r hD (k:=1) (by omega)).2 ((y4b hD (by omega)).1 h)
 have hDm:=z7c hD
 generalize z08 (dif a b)=D at hD hin hDm
 have pt:∀ {S:List Pt} {p:Pt},p∈S→InH S p 1:=fun h d=>⟨_,h,by simp [crs,sb,ml]⟩
 have hDn:1≤D.length:=by
  match D,hD with
  |x::r,_=>simp
 by_cases h1:D.length=1
 ·obtain ⟨x,rfl,_,hall⟩:=y9h hD (by omega)
  have hx:(0,0)=ml x 1:=by
   unfold inC at hin
   rw [if_pos h1] at hin
   simpa using hin
  rw [x1u] at hx
  have e:=hall _ (z32.2 ⟨p0,hp0,q0,hq0,rfl⟩)
  rw [←hx] at e
  have:=z1f.1 e
  subst this
  exact ⟨p0,1,by omega,pt hp0,pt hq0⟩
 ·obtain ⟨u,v,w,α,β,γ,hu,hv,hw,i1,i2,i3,i4,i5⟩:=x63 hD (by omega) hin
  obtain ⟨p1,hp1,q1,hq1,rfl⟩:=z32.1 (hDm u hu)
  obtain ⟨p2,hp2,q2,hq2,rfl⟩:=z32.1 (hDm v hv)
  obtain ⟨p3,hp3,q3,hq3,rfl⟩:=z32.1 (hDm w hw)
  have c1:=x11 ha hp1 hp2 hp3 i1 i2 i3
  have c2:=x11 hb hq1 hq2 hq3 i1 i2 i3
  refine ⟨_,_,i4,c1,?_⟩
  have e:ad (ad (ml p1 α) (ml p2 β)) (ml p3 γ)=ad (ad (ml q1 α) (ml q2 β)) (ml q3 γ):=by
   have a1:=congrArg Prod.fst i5
   have a2:=congrArg Prod.snd i5
   simp only [ad,ml,sb,Int.sub_mul] at a1 a2⊢
   exact Prod.ext (by simp only; omega) (by simp only; omega)
  rw [e]; exact c2
def u1n (s t:Pt×Pt):Prop:=
 (0<crs (sb s.2 s.1) (sb t.2 t.1)∧0≤crs (sb t.1 s.1) (sb t.2 t.1)∧crs (sb t.1 s.1) (sb t.2 t.1)≤crs (sb s.2 s.1) (sb t.2 t.1)∧0≤crs (sb t.1 s.1) (sb s.2 s.1)∧crs (sb t.1 s.1) (sb s.2 s.1)≤crs (sb s.2 s.1) (sb t.2 t.1))∨
 (0< - crs (sb s.2 s.1) (sb t.2 t.1)∧0≤ - crs (sb t.1 s.1) (sb t.2 t.1)∧ - crs (sb t.1 s.1) (sb t.2 t.1)≤ - crs (sb s.2 s.1) (sb t.2 t.1)∧0≤ - crs (sb t.1 s.1) (sb s.2 s.1)∧ - crs (sb t.1 s.1) (sb s.2 s.1)≤ - crs (sb s.2 s.1) (sb t.2 t.1))
theorem y27 {n k den x T:Int} (hn:0<n) (hk:0<k) (h:n*(k*x)=T*den) (h0:0≤T) (h1:T≤k*n):(0<den→0≤x∧x≤den)∧(den<0→0≤ -x∧ -x≤ -den):=by
 have hnk:=Int.mul_pos hn hk
 have e:n*(k*x)=(n*k)*x:=(Int.mul_assoc _ _ _).symm
 rw [e] at h
 have hkn:k*n=n*k:=Int.mul_comm _ _
 rw [hkn] at h1
 generalize n*k=m at*
 constructor
 ·intro hd
  have a1:=Int.mul_nonneg h0 (Int.le_of_lt hd)
  have a2:=Int.mul_le_mul_of_nonneg_right h1 (Int.le_of_lt hd)
  refine ⟨?_,?_⟩
  ·refine Classical.byContradiction fun hc=>?_
   have:=Int.mul_neg_of_pos_of_neg hnk (Int.not_le.1 hc); omega
  ·refine Classical.byContradiction fun hc=>?_
   have:=Int.mul_lt_mul_of_pos_left (Int.not_le.1 hc) hnk; omega
 ·intro hd
  have a1:=Int.mul_nonneg h0 (show 0≤ -den by omega)
  have a2:=Int.mul_le_mul_of_nonneg_right h1 (show 0≤ -den by omega)
  rw [Int.mul_neg] at a1 a2
  rw [Int.mul_neg] at a2
  refine ⟨?_,?_⟩
  ·refine Classical.byContradiction fun hc=>?_
   have:=Int.mul_pos hnk (show 0<x by omega); omega
  ·refine Classical.byContradiction fun hc=>?_
   have:=Int.mul_lt_mul_of_pos_left (show x<den by omega) hnk; omega
theorem v7r {a b:List Pt} (ha:Cyc a a) (hb:Cyc b b) {x:Pt} {k:Int} (hk:0<k) (hxa:InH a x k) (hxb:InH b x k):
  (∃ p∈a,InH b p 1)∨(∃ q∈b,InH a q 1)∨(2≤a.length∧2≤b.length∧∃ s∈y3n a,∃ t∈y3n b,u1n s t):=by
 refine Classical.byContradiction fun hno=>?_
 simp only [not_or,not_exists,not_and] at hno
 obtain ⟨na,nb,nm⟩:=hno
 have one:∀ {c d:List Pt},Cyc c c→InH c x k→InH d x k→(∀ p∈c,¬ InH d p 1)→2≤c.length:=by
  intro c d hc hxc hxd hn
  refine Classical.byContradiction fun hl=>?_
  obtain ⟨p,rfl,hp,_⟩:=y9h hc (by omega)
  have:=(z3r hc hk).2 hxc
  unfold inC at this
  rw [if_pos (show [p].length=1 from rfl)] at this
  have e:x=ml p k:=by simpa using this
  refine hn p hp ((z87 (g:=k) (k:=1) hk).1 ?_)
  rw [Int.mul_one, ←e]; exact hxd
 have ha2:=one ha hxa hxb na
 have hb2:=one hb hxb hxa nb
 obtain ⟨p,hp⟩:∃ p,p∈a:=by
  match a,ha with
  |p::r,_=>exact ⟨p,by simp⟩
 have pt:∀ {S:List Pt} {p:Pt},p∈S→InH S p 1:=fun h d=>⟨_,h,by simp [crs,sb,ml]⟩
 obtain ⟨t,α,β,ht,h1,h2,h3,h4⟩:=rim hb hb2 hk hxb (na p hp)
 have hky:0<(α+β)*k:=Int.mul_pos (by omega) hk
 have hya:InH a (ad (ml p (α*k)) (ml x β)) ((α+β)*k):=by
  have:=z9v ha (pt hp) hxa (by omega) (Int.le_of_lt hk) (Int.mul_nonneg h1 (Int.le_of_lt hk)) (Int.le_of_lt h2)
  have e:α*k*1+β*k=(α+β)*k:=by rw [Int.add_mul]; omega
  rwa [e] at this
 generalize ad (ml p (α*k)) (ml x β)=y at h3 h4 hya
 generalize (α+β)*k=m at hky h3 h4 hya
 have ht':=(y1i hb hb2).1 ht
 rcases h4 with ⟨h4,_⟩|h4
 rotate_left
 ·refine nb t.1 ht'.1 ((z87 (g:=m) (k:=1) hky).1 ?_)
  rw [Int.mul_one, ←h4]; exact hya
 obtain ⟨s,α',β',hs,j1,j2,j3,j4⟩:=rim ha ha2 hky hya (nb t.1 ht'.1)
 have hkz:0<(α'+β')*m:=Int.mul_pos (by omega) hky
 have hzb:InH b (ad (ml t.1 (α'*m)) (ml y β')) ((α'+β')*m):=by
  have:=z9v hb (pt ht'.1) h3 (by omega) (Int.le_of_lt hky) (Int.mul_nonneg j1 (Int.le_of_lt hky)) (Int.le_of_lt j2)
  have e:α'*m*1+β'*m=(α'+β')*m:=by rw [Int.add_mul]; omega
  rwa [e] at this
 have hzl:crs (sb t.2 t.1) (sb (ad (ml t.1 (α'*m)) (ml y β')) (ml t.1 ((α'+β')*m)))=0:=by
  have e:crs (sb t.2 t.1) (sb (ad (ml t.1 (α'*m)) (ml y β')) (ml t.1 ((α'+β')*m)))=β'*crs (sb t.2 t.1) (sb y (ml t.1 m)):=by simp only [crs,sb,ml,ad]; grind
  rw [e,h4,Int.mul_zero]
 generalize ad (ml t.1 (α'*m)) (ml y β')=z at j3 j4 hzb hzl
 generalize (α'+β')*m=n at hkz j3 j4 hzb hzl
 have hs':=(y1i ha ha2).1 hs
 rcases j4 with ⟨j4,j5⟩|j4
 rotate_left
 ·refine na s.1 hs'.1 ((z87 (g:=n) (k:=1) hkz).1 ?_)
  rw [Int.mul_one, ←j4]; exact hzb
 have he:sb s.2 s.1≠(0,0):=fun e=>hs'.2.2.1 (z1f.1 e).symm
 have hf:sb t.2 t.1≠(0,0):=fun e=>ht'.2.2.1 (z1f.1 e).symm
 have on1:=x51 ha (Int.le_of_lt hkz) he (y2n hs'.1 hs'.2) j3 j4
 have on2:=x51 hb (Int.le_of_lt hkz) hf (y2n ht'.1 ht'.2) hzb hzl
 refine nm ha2 hb2 s hs t ht ?_
 have pe:=z04 he
 have pf:=z04 hf
 have e1:dt (sb s.2 s.1) (sb (ml s.2 n) z)=n*dt (sb s.2 s.1) (sb s.2 s.1) - dt (sb s.2 s.1) (sb z (ml s.1 n)):=by simp only [dt,sb,ml]; grind
 have e2:dt (sb t.2 t.1) (sb (ml t.2 n) z)=n*dt (sb t.2 t.1) (sb t.2 t.1) - dt (sb t.2 t.1) (sb z (ml t.1 n)):=by simp only [dt,sb,ml]; grind
 have k1:dt (sb s.2 s.1) (sb s.2 s.1)*(n*crs (sb t.1 s.1) (sb t.2 t.1))=dt (sb s.2 s.1) (sb z (ml s.1 n))*crs (sb s.2 s.1) (sb t.2 t.1):=by
  have id1:dt (sb s.2 s.1) (sb s.2 s.1)*(n*crs (sb t.1 s.1) (sb t.2 t.1))=dt (sb s.2 s.1) (sb z (ml s.1 n))*crs (sb s.2 s.1) (sb t.2 t.1)+dt (sb s.2 s.1) (sb s.2 s.1)*crs (sb t.2 t.1) (sb z (ml t.1 n)) - crs (sb s.2 s.1) (sb z (ml s.1 n))*dt (sb s.2 s.1) (sb t.2 t.1):=by
   simp only [crs,dt,sb,ml]; grind
  rw [id1,hzl,j4]; simp
 have k2:dt (sb t.2 t.1) (sb t.2 t.1)*(n*crs (sb t.1 s.1) (sb s.2 s.1))=dt (sb t.2 t.1) (sb z (ml t.1 n))*crs (sb s.2 s.1) (sb t.2 t.1):=by
  have id1:dt (sb t.2 t.1) (sb t.2 t.1)*(n*crs (sb t.1 s.1) (sb s.2 s.1))=dt (sb t.2 t.1) (sb z (ml t.1 n))*crs (sb s.2 s.1) (sb t.2 t.1) - dt (sb t.2 t.1) (sb t.2 t.1)*crs (sb s.2 s.1) (sb z (ml s.1 n))+crs (sb t.2 t.1) (sb z (ml t.1 n))*dt (sb s.2 s.1) (sb t.2 t.1):=by
   simp only [crs,dt,sb,ml]; grind
  rw [id1,hzl,j4]; simp
 have b1:=y27 pe hkz k1 on1.1 (by omega)
 have b2:=y27 pf hkz k2 on2.1 (by omega)
 have hne:crs (sb s.2 s.1) (sb t.2 t.1)≠0:=by
  intro h0
  have hpar:z6n (sb t.2 t.1) (sb s.2 s.1)∨True:= .inr trivial
  have id3:dt (sb t.2 t.1) (sb t.2 t.1)*crs (sb s.2 s.1) (sb z (ml t.1 n))=dt (sb t.2 t.1) (sb z (ml t.1 n))*crs (sb s.2 s.1) (sb t.2 t.1)+crs (sb t.2 t.1) (sb z (ml t.1 n))*dt (sb s.2 s.1) (sb t.2 t.1):=by
   simp only [crs,dt,sb,ml]; grind
  rw [h0,hzl] at id3
  simp only [Int.mul_zero,Int.zero_mul,Int.add_zero] at id3
  have z3:crs (sb s.2 s.1) (sb z (ml t.1 n))=0:=by
   rcases Int.mul_eq_zero.1 id3 with h|h
   ·omega
   ·exact h
  have e3:crs (sb s.2 s.1) (sb z (ml t.1 n))=crs (sb s.2 s.1) (sb z (ml s.1 n)) - n*crs (sb s.2 s.1) (sb t.1 s.1):=by simp only [crs,sb,ml]; grind
  rw [j4] at e3
  have:=Int.mul_neg_of_pos_of_neg hkz j5
  omega
 unfold u1n
 rcases Int.lt_or_gt_of_ne hne with h|h
 ·right
  have:=b1.2 h; have:=b2.2 h
  omega
 ·left
  have:=b1.1 h; have:=b2.1 h
  omega
theorem w8d {a b:List Pt} (ha:Cyc a a) (hb:Cyc b b) {s t:Pt×Pt} (hs1:s.1∈a) (hs2:s.2∈a) (ht1:t.1∈b) (ht2:t.2∈b) {σ:Int} (hσ:σ=1∨σ= -1)
  (h0:0<σ*crs (sb s.2 s.1) (sb t.2 t.1)) (h1:0≤σ*crs (sb t.1 s.1) (sb t.2 t.1)) (h2:σ*crs (sb t.1 s.1) (sb t.2 t.1)≤σ*crs (sb s.2 s.1) (sb t.2 t.1)) (h3:0≤σ*crs (sb t.1 s.1) (sb s.2 s.1)) (h4:σ*crs (sb t.1 s.1) (sb s.2 s.1)≤σ*crs (sb s.2 s.1) (sb t.2 t.1)):
  InH a (ad (ml s.1 (σ*crs (sb s.2 s.1) (sb t.2 t.1))) (ml (sb s.2 s.1) (σ*crs (sb t.1 s.1) (sb t.2 t.1)))) (σ*crs (sb s.2 s.1) (sb t.2 t.1))∧
  InH b (ad (ml s.1 (σ*crs (sb s.2 s.1) (sb t.2 t.1))) (ml (sb s.2 s.1) (σ*crs (sb t.1 s.1) (sb t.2 t.1)))) (σ*crs (sb s.2 s.1) (sb t.2 t.1)):=by
 have pt:∀ {S:List Pt} {p:Pt},p∈S→InH S p 1:=fun h d=>⟨_,h,by simp [crs,sb,ml]⟩
 have q:ad (ml s.1 (σ*crs (sb s.2 s.1) (sb t.2 t.1))) (ml (sb s.2 s.1) (σ*crs (sb t.1 s.1) (sb t.2 t.1)))=ad (ml t.1 (σ*crs (sb s.2 s.1) (sb t.2 t.1))) (ml (sb t.2 t.1) (σ*crs (sb t.1 s.1) (sb s.2 s.1))):=by
  simp only [crs,sb,ml,ad]
  refine Prod.ext ?_ ?_<;>grind
 have c1:=z9v ha (pt hs1) (pt hs2) (k:=1) (m:=1) (α:=σ*crs (sb s.2 s.1) (sb t.2 t.1) - σ*crs (sb t.1 s.1) (sb t.2 t.1)) (β:=σ*crs (sb t.1 s.1) (sb t.2 t.1)) (by omega) (by omega) (by omega) h1
 have c2:=z9v hb (pt ht1) (pt ht2) (k:=1) (m:=1) (α:=σ*crs (sb s.2 s.1) (sb t.2 t.1) - σ*crs (sb t.1 s.1) (sb s.2 s.1)) (β:=σ*crs (sb t.1 s.1) (sb s.2 s.1)) (by omega) (by omega) (by omega) h3
 constructor
 ·generalize σ*crs (sb s.2 s.1) (sb t.2 t.1)=D at*
  generalize σ*crs (sb t.1 s.1) (sb t.2 t.1)=X at*
  have e1:ad (ml s.1 (D - X)) (ml s.2 X)=ad (ml s.1 D) (ml (sb s.2 s.1) X):=by simp only [ad,ml,sb]; exact Prod.ext (by simp only; grind) (by simp only; grind)
  have e2:(D - X)*1+X*1=D:=by omega
  rwa [e1,e2] at c1
 ·rw [q]
  generalize σ*crs (sb s.2 s.1) (sb t.2 t.1)=D at*
  generalize σ*crs (sb t.1 s.1) (sb s.2 s.1)=X at*
  have e1:ad (ml t.1 (D - X)) (ml t.2 X)=ad (ml t.1 D) (ml (sb t.2 t.1) X):=by simp only [ad,ml,sb]; exact Prod.ext (by simp only; grind) (by simp only; grind)
  have e2:(D - X)*1+X*1=D:=by omega
  rwa [e1,e2] at c2
end M06
end
section
namespace Go.Am
open M06
def mxd (l:List Pt) (w:Pt):Int:=l.foldl (fun m p=>max m (dt w p)) (dt w (l.getD 0 (0,0)))
theorem w01 (w:Pt):∀ (l:List Pt) (m:Int),m≤l.foldl (fun m p=>max m (dt w p)) m∧(∀ p∈l,dt w p≤l.foldl (fun m p=>max m (dt w p)) m)∧(l.foldl (fun m p=>max m (dt w p)) m=m∨∃ p∈l,l.foldl (fun m p=>max m (dt w p)) m=dt w p)
 |[],m=>⟨Int.le_refl _,by simp, .inl rfl⟩
 |p::l,m=>by
  obtain ⟨h1,h2,h3⟩:=w01 w l (max m (dt w p))
  simp only [List.foldl_cons]
  refine ⟨by omega,fun q hq=>?_,?_⟩
  ·rcases List.mem_cons.1 hq with rfl|hq
   ·omega
   ·exact h2 q hq
  ·rcases h3 with h|⟨q,hq,h⟩
   ·by_cases hm:dt w p≤m
    ·left; rw [h]; omega
    ·right; exact ⟨p,by simp,by rw [h]; omega⟩
   ·right; exact ⟨q,List.mem_cons_of_mem _ hq,h⟩
theorem y36 {l:List Pt} (hl:l≠[]) (w:Pt):(∀ p∈l,dt w p≤mxd l w)∧∃ p∈l,mxd l w=dt w p:=by
 obtain ⟨h1,h2,h3⟩:=w01 w l (dt w (l.getD 0 (0,0)))
 refine ⟨h2,?_⟩
 rcases h3 with h|h
 ·exact ⟨l.getD 0 (0,0),z5t _ (List.length_pos_iff.2 hl),h⟩
 ·exact h
theorem z9d {w p:Pt} (hw:z1i w) (hp:z0y (-10000) 10000 p):IntKind.i64.wrap (w.1*p.1)=w.1*p.1∧IntKind.i64.wrap (w.2*p.2)=w.2*p.2∧IntKind.i64.wrap (w.1*p.1+w.2*p.2)=dt w p∧ -20971520000≤dt w p∧dt w p≤20971520000:=by
 obtain ⟨w1,w2,w3,w4⟩:=hw
 obtain ⟨p1,p2,p3,p4⟩:=hp
 have m1:=z4i (A:=1048576) (B:=10000) (a:=w.1) (b:=p.1) (by omega) (by omega) (by omega) (by omega) (by omega)
 have m2:=z4i (A:=1048576) (B:=10000) (a:=w.2) (b:=p.2) (by omega) (by omega) (by omega) (by omega) (by omega)
 refine ⟨z1h _ (by omega) (by omega),z1h _ (by omega) (by omega),?_,by simp only [dt]; omega,by simp only [dt]; omega⟩
 rw [z1h _ (by omega) (by omega)]; rfl
theorem v5q {l:List Pt} (hl:l≠[]) (hn:l.length≤1000) {w:Pt} (hw:z1i w) (hb:∀ p∈l,z0y (-10000) 10000 p):G78 std (z0d l,w.1,w.2,())=some (mxd l w,()):=by
 have hl1:1≤l.length:=List.length_pos_iff.2 hl
 have key:=z4y (b:=w5k std) (fun (i:Nat)=>(w.1,w.2,(l.take i).foldl (fun m p=>max m (dt w p)) (dt w (l.getD 0 (0,0))),z0d l,(l.length:Int),(i:Int),())) (fun i=>i≤l.length) (fun i=>l.length - i) (fun _=>(mxd l w,())) (fun i hi=>by
  by_cases hlt:i<l.length
  ·left
   obtain ⟨p,hp⟩:=z0l hlt
   have gp:=z0w hp
   obtain ⟨d1,d2,d3,_⟩:=z9d hw (hb p (List.mem_of_getElem? hp))
   have c1:(i:Int)<(l.length:Int):=by omega
   have c2:(i:Int)≥0:=by omega
   have hwr:=z02 (i:=i) (by omega)
   refine ⟨i+1,?_,by omega,by omega,rfl⟩
   rw [z0z hp,List.foldl_append,List.foldl_cons,List.foldl_nil]
   simp only [w5k,z0m,z0n,z0g,z0s,z0r,z1c,z0i,z0c,z0a,z0t,hwr,c1,c2,gp,d1,d2,d3]
  ·right
   have:i=l.length:=by omega
   subst this
   have hn:¬ ((l.length:Int)<(l.length:Int)):=by omega
   rw [List.take_length]
   simp only [w5k,z0m,z0n,hn]
   rfl) 0 (Nat.zero_le _)
 obtain ⟨p,hp⟩:=z0l (l:=l) (i:=0) hl1
 have gp:=z0w hp
 obtain ⟨d1,d2,d3,_⟩:=z9d hw (hb p (List.mem_of_getElem? hp))
 have z0:(0:Int).toNat=0:=rfl
 have k0:((0:Nat):Int)=0:=rfl
 rw [List.take_zero,List.foldl_nil,k0,z4m hp] at key
 unfold G78
 simp only [g78,it0_eq,z0m,z0n,z0g,z0s,z0r,z1c,z0i,z0c,z0a,z0t,z0,gp,d1,d2,d3,key]
theorem w2u {l:List Pt} (hl:l≠[]) (hn:l.length≤1000) {w:Pt} (hw:z1i w) (hb:∀ p∈l,z0y (-10000) 10000 p):g78 it0 std (z0d l,w.1,w.2,())=some (mxd l w,()):=v5q hl hn hw hb
theorem w0c {w:Pt} (hw:z1i w):z1i (ng w)∧IntKind.i64.wrap (0 - w.1)=(ng w).1∧IntKind.i64.wrap (0 - w.2)=(ng w).2:=by
 obtain ⟨w1,w2,w3,w4⟩:=hw
 refine ⟨?_,?_,?_⟩
 ·simp only [z1i,ng]; omega
 ·rw [z1h _ (by omega) (by omega)]; simp only [ng]; omega
 ·rw [z1h _ (by omega) (by omega)]; simp only [ng]; omega
theorem w0d {l:List Pt} (hl:l≠[]) {w:Pt} (hw:z1i w) (hb:∀ p∈l,z0y (-10000) 10000 p): -20971520000≤mxd l w∧mxd l w≤20971520000:=by
 obtain ⟨p,hp,h⟩:=(y36 hl w).2
 have:=(z9d hw (hb p hp)).2.2.2
 omega
theorem x90 {a b:List Pt} (ha:a≠[]) (hb:b≠[]) (w:Pt):mxd a w< - mxd b (ng w)↔y03 a b w:=by
 obtain ⟨a1,p,hp,a2⟩:=y36 ha w
 obtain ⟨b1,q,hq,b2⟩:=y36 hb (ng w)
 have e:∀ x:Pt,dt (ng w) x= - dt w x:=fun x=>by simp only [dt,ng]; grind
 constructor
 ·intro h p' hp' q' hq'
  have:=a1 p' hp'
  have:=b1 q' hq'
  rw [e] at this
  omega
 ·intro h
  have:=h p hp q hq
  rw [e] at b2
  omega
instance (a b:List Pt) (w:Pt):Decidable (y03 a b w):=by unfold y03; infer_instance
theorem v5m {a b:List Pt} (ha:a≠[]) (hb:b≠[]) (la:a.length≤1000) (lb:b.length≤1000) {w:Pt} (hw:z1i w) (ba:∀ p∈a,z0y (-10000) 10000 p) (bb:∀ p∈b,z0y (-10000) 10000 p):
  G92 std (z0d a,z0d b,w.1,w.2,())=some (mxd a w,decide (y03 a b w),()):=by
 obtain ⟨n1,n2,n3⟩:=w0c hw
 have h1:=w2u ha la hw ba
 have h2:=w2u hb lb n1 bb
 have hx:=w0d hb n1 bb
 have e:IntKind.i64.wrap (0 - mxd b (ng w))= - mxd b (ng w):=by rw [z1h]<;>omega
 have e2:decide (mxd a w< - mxd b (ng w))=decide (y03 a b w):=by rw [decide_eq_decide]; exact x90 ha hb w
 unfold G92
 simp only [g92,z18,z2w,z2p,z0h,n2,n3,h1,h2,Option.bind_some,e,z3q,e2,z4s,decide_true,if_true]
theorem x9p {a b:List Pt} {i:Nat} {p:Pt} (h:a[i]?=some p):(a.take (i+1)).flatMap (fun p=>b.map fun q=>sb q p)=(a.take i).flatMap (fun p=>b.map fun q=>sb q p)++b.map fun q=>sb q p:=by
 rw [z0z h]; simp
theorem y87 {a b:List Pt}:(a.flatMap fun p=>b.map fun q=>sb q p).length=a.length*b.length:=by
 induction a with
 |nil=>simp
 |cons p a ih=>rw [List.flatMap_cons,List.length_append,ih,List.length_map,List.length_cons,Nat.add_mul,Nat.one_mul,Nat.add_comm]
theorem w7h {a b:List Pt} {i:Nat} {p:Pt} (hp:z1i p) (hb:∀ x∈b,z1i x) (hbl:b.length≤100) (o:List Pt) (ho:o.length≤100000) (x y z n j:Int):
  z37 (w2k std) (z0d o,x,y,z,p.1,p.2,z0d a,z0d b,z0d a,n,j,z0d b,(b.length:Int),(0:Int),())=some (z0d (o++b.map fun q=>sb q p),x,y,z,z0d a,z0d b,z0d a,n,j,()):=by
 have key:=z4y (b:=w2k std) (fun (i:Nat)=>(z0d (o++(b.take i).map fun q=>sb q p),x,y,z,p.1,p.2,z0d a,z0d b,z0d a,n,j,z0d b,(b.length:Int),(i:Int),())) (fun i=>i≤b.length) (fun i=>b.length - i) (fun _=>(z0d (o++b.map fun q=>sb q p),x,y,z,z0d a,z0d b,z0d a,n,j,())) (fun i hi=>by
  by_cases hlt:i<b.length
  ·left
   obtain ⟨q,hq⟩:=z0l hlt
   have gq:=z0w hq
   obtain ⟨d1,d2⟩:=z3t (hb q (List.mem_of_getElem? hq)) hp
   have c1:(i:Int)<(b.length:Int):=by omega
   have c2:(i:Int)≥0:=by omega
   have hw:=z02 (i:=i) (by omega)
   have htk:(z0d (o++(b.take i).map fun q=>sb q p)).take (o++(b.take i).map fun q=>sb q p).length=z0d (o++(b.take i).map fun q=>sb q p):=by rw [List.take_of_length_le (by rw [z0c]; omega)]
   have hap:z0d (o++(b.take i).map fun q=>sb q p)++[eP (sb q p)]=z0d (o++(b.take (i+1)).map fun q=>sb q p):=by rw [z0z hq]; simp [z0d]
   have hal:(o++(b.take i).map fun q=>sb q p).length+1=(o++(b.take (i+1)).map fun q=>sb q p).length:=by simp; omega
   have hl1:(o++(b.take (i+1)).map fun q=>sb q p).length≤1000000:=by simp; omega
   refine ⟨i+1,?_,by omega,by omega,rfl⟩
   simp only [w2k,z0m,z0n,z0g,z0s,z0r,z1c,z0i,z0c,z0a,z0h,hw,c1,c2,gq,d1,d2,htk,hap,hal,hl1,List.drop_zero,List.take_succ_cons,List.take_zero,Nat.le_refl]
  ·right
   have:i=b.length:=by omega
   subst this
   have hn:¬ ((b.length:Int)<(b.length:Int)):=by omega
   simp only [w2k,z0m,z0n,hn,List.take_length]) 0 (Nat.zero_le _)
 simpa using key
theorem w3a {a b:List Pt} (ha:∀ x∈a,z1i x) (hb:∀ x∈b,z1i x) (hal:a.length≤100) (hbl:b.length≤100):
  z37 (x4p it0 std) ([],(0:Int),(0:Int),(0:Int),z0d a,z0d b,z0d a,(a.length:Int),(0:Int),())=some (z0d (a.flatMap fun p=>b.map fun q=>sb q p),(0:Int),(0:Int),(0:Int),z0d a,z0d b,()):=by
 have key:=z4y (b:=x4p it0 std) (fun (i:Nat)=>(z0d ((a.take i).flatMap fun p=>b.map fun q=>sb q p),(0:Int),(0:Int),(0:Int),z0d a,z0d b,z0d a,(a.length:Int),(i:Int),())) (fun i=>i≤a.length) (fun i=>a.length - i) (fun _=>(z0d (a.flatMap fun p=>b.map fun q=>sb q p),(0:Int),(0:Int),(0:Int),z0d a,z0d b,())) (fun i hi=>by
  by_cases hlt:i<a.length
  ·left
   obtain ⟨p,hp⟩:=z0l hlt
   have gp:=z0w hp
   have hfl:((a.take i).flatMap fun p=>b.map fun q=>sb q p).length≤100000:=by
    rw [y87]
    have:=Nat.mul_le_mul (show (a.take i).length≤100 by simp; omega) hbl
    omega
   have hrow:=w7h (a:=a) (i:=i) (ha p (List.mem_of_getElem? hp)) hb hbl _ hfl 0 0 0 (a.length:Int) (i:Int)
   rw [←x9p hp] at hrow
   have c1:(i:Int)<(a.length:Int):=by omega
   have c2:(i:Int)≥0:=by omega
   have hw:=z02 (i:=i) (by omega)
   refine ⟨i+1,?_,by omega,by omega,rfl⟩
   simp only [x4p,it0_eq,hrow,z0m,z0n,z0g,z0s,z0r,z1c,z0i,z0c,z0a,hw,c1,c2,gp,z0c]
  ·right
   have:i=a.length:=by omega
   subst this
   have hn:¬ ((a.length:Int)<(a.length:Int)):=by omega
   simp only [x4p,z0m,z0n,hn,List.take_length]) 0 (Nat.zero_le _)
 simpa [z0d] using key
def ups (w:Pt):List Pt:=[(w.2, -w.1),(-w.2,w.1)]
theorem x41 {l:List Pt} {i:Nat} {w:Pt} (h:l[i]?=some w):(l.take (i+1)).flatMap ups=(l.take i).flatMap ups++ups w:=by
 rw [z0z h]; simp
theorem x3i (l:List Pt):(l.flatMap ups).length=2*l.length:=by
 induction l with
 |nil=>rfl
 |cons w l ih=>rw [List.flatMap_cons,List.length_append,ih,List.length_cons]; simp [ups]; omega
theorem x1b {S c:List Pt} (hc:Cyc S c) (hs:∀ x∈c,z0y (-5000) 5000 x) (hl:c.length≤1000) (o:List Pt) (ho:o.length≤100000) (Ls X Y:List (List D)) (x y z n i:Int):
  z37 (x24 std) (Ls,z0d o,x,y,z,z0d c,n,X,Y,i,z0d c,(c.length:Int),(0:Int),())=some (.inl (Ls,z0d (o++(wy c).flatMap ups),x,y,z,z0d c,n,X,Y,i,()))∨
  z37 (x24 std) (Ls,z0d o,x,y,z,z0d c,n,X,Y,i,z0d c,(c.length:Int),(0:Int),())=some (.inr (Ls,z0d (o++(wy c).flatMap ups),x,y,z,z0d c,n,X,Y,i,())):=by
 have hsm:∀ x∈c,z1i x:=fun x hx=>z14 (hs x hx)
 by_cases h2:2≤c.length
 ·right
  have hnz:=y7y hc h2
  have hwl:=w55 h2
  have hwb:=x0e hs
  have key:=z4y (b:=x24 std) (fun (j:Nat)=>(Ls,z0d (o++((wy c).take j).flatMap ups),x,y,z,z0d c,n,X,Y,i,z0d c,(c.length:Int),(j:Int),())) (fun j=>j≤c.length) (fun j=>c.length - j) (fun _=>Sum.inr (Ls,z0d (o++(wy c).flatMap ups),x,y,z,z0d c,n,X,Y,i,())) (fun j hj=>by
   by_cases hlt:j<c.length
   ·left
    obtain ⟨u,hx⟩:=z0l hlt
    obtain ⟨v,hy⟩:=z0l (l:=c) (i:=(j+1) % c.length) (Nat.mod_lt _ (by omega))
    have hw:=w56 h2 hx hy
    have hwm:=List.mem_of_getElem? hw
    have hne:=hnz _ hwm
    have hbw:=hwb _ hwm
    obtain ⟨m1,m2⟩:=y2p (i:=j) (n:=c.length) (by omega) (by omega)
    have gx:=z0w hx
    have gy:=z0w hy
    obtain ⟨d1,d2⟩:=z3t (hsm v (List.mem_of_getElem? hy)) (hsm u (List.mem_of_getElem? hx))
    have e1:IntKind.i64.wrap (0 - (sb v u).1)= -(sb v u).1:=by obtain ⟨q1,q2,q3,q4⟩:=hbw; rw [z1h]<;>omega
    have e2:IntKind.i64.wrap (0 - (sb v u).2)= -(sb v u).2:=by obtain ⟨q1,q2,q3,q4⟩:=hbw; rw [z1h]<;>omega
    have c1:(j:Int)<(c.length:Int):=by omega
    have c2:(j:Int)≥0:=by omega
    have c3:¬ (c.length:Int)=0:=by omega
    have c4:(((j+1) % c.length:Nat):Int)≥0:=by omega
    have c5:(((j+1) % c.length:Nat):Int)<(c.length:Int):=by have:=Nat.mod_lt (j+1) (show 0<c.length by omega); omega
    have hol2:(o++((wy c).take (j+1)).flatMap ups).length≤1000000:=by rw [List.length_append,x3i]; simp; omega
    have htk:(z0d (o++((wy c).take j).flatMap ups)).take (o++((wy c).take j).flatMap ups).length=z0d (o++((wy c).take j).flatMap ups):=by rw [List.take_of_length_le (by rw [z0c]; omega)]
    have hap:z0d (o++((wy c).take j).flatMap ups)++[[D.int IntKind.i64 (sb v u).2,D.int IntKind.i64 (-(sb v u).1)],[D.int IntKind.i64 (-(sb v u).2),D.int IntKind.i64 (sb v u).1]]=z0d (o++((wy c).take (j+1)).flatMap ups):=by
     rw [x41 hw]; simp [z0d,ups,eP]
    have hal:(o++((wy c).take j).flatMap ups).length+(1+1)=(o++((wy c).take (j+1)).flatMap ups).length:=by rw [x41 hw]; simp [ups]; omega
    have hne':¬ ((sb v u).1=0∧(sb v u).2=0):=fun e=>hne (Prod.ext e.1 e.2)
    have hz:(if (sb v u).1=0 then if (sb v u).2=0 then true else false else false)=false:=by
     by_cases q1:(sb v u).1=0
     ·rw [if_pos q1,if_neg (fun e=>hne (Prod.ext q1 e))]
     ·rw [if_neg q1]
    refine ⟨j+1,?_,by omega,by omega,rfl⟩
    simp only [x24,z0m,z0n,z0g,z0s,z0r,z0c,z0a,z00,z0h,m1,m2,gx,gy,d1,d2,e1,e2,c1,c2,c3,c4,c5,hz,htk,hol2,List.drop_zero,List.take_succ_cons,List.take_zero,hap,hal,Nat.le_refl,not_false_eq_true,show (1:Nat)≤2 by decide]
   ·right
    have:j=c.length:=by omega
    subst this
    have hn:¬ ((c.length:Int)<(c.length:Int)):=by omega
    rw [←hwl,List.take_length,hwl]
    simp only [x24,z0m,z0n,hn]) 0 (Nat.zero_le _)
  simpa using key
 ·left
  have hc1:∃ x,c=[x]:=by
   match c,hc,h2 with
   |[x],_,_=>exact ⟨x,rfl⟩
   |a::b::r,_,h2=>exact absurd (by simp) h2
  obtain ⟨u,rfl⟩:=hc1
  have gx:=z0w (l:=[u]) (i:=0) rfl
  obtain ⟨d1,d2⟩:=z3t (hsm u (by simp)) (hsm u (by simp))
  have z1:(sb u u).1=0:=by simp [sb]
  have z2:(sb u u).2=0:=by simp [sb]
  rw [z1] at d1
  rw [z2] at d2
  have w1:IntKind.i64.wrap 1=1:=by decide
  have t1:(1:Int).tmod 1=0:=by decide
  rw [z0j]
  have:x24 std (Ls,z0d o,x,y,z,z0d [u],n,X,Y,i,z0d [u],(([u]:List Pt).length:Int),(0:Int),())=some (.inr (.inl (Ls,z0d (o++(wy [u]).flatMap ups),x,y,z,z0d [u],n,X,Y,i,()))):=by
   have e:(wy [u]).flatMap ups=[]:=rfl
   rw [e,List.append_nil]
   have l1:((0+1:Nat):Int)=1:=rfl
   simp only [x24,z0m,z0n,z0g,z0s,z0r,z1c,z0i,z0c,z0a,z00,z0h,l1,Int.zero_add,w1,t1,gx,d1,d2,Int.toNat_zero,ge_iff_le,Int.le_refl,show (0:Int)<1 by decide,show ¬ (1:Int)=0 by decide,not_false_eq_true]
  rw [this]
theorem y4r {a b:List Pt} (ha:∀ x∈a,z0y (-5000) 5000 x) (hb:∀ x∈b,z0y (-5000) 5000 x):∀ w∈z5b a b,z0y (-10000) 10000 w:=by
 intro w hw
 rcases List.mem_append.1 hw with h|h
 ·obtain ⟨p,hp,h⟩:=List.mem_flatMap.1 h
  obtain ⟨q,hq,rfl⟩:=List.mem_map.1 h
  exact y0j (hb q hq) (ha p hp)
 ·obtain ⟨v,hv,h⟩:=List.mem_flatMap.1 h
  have bv:z0y (-10000) 10000 v:=by
   rcases List.mem_append.1 hv with h|h
   ·exact x0e ha v h
   ·exact x0e hb v h
  simp only [z0y] at*
  simp at h
  rcases h with rfl|rfl<;>simp only<;>omega
def z21 (a b:List Pt):(Int×Int×Int)×Bool:=match (z5b a b).find? (fun w=>decide (y03 a b w)) with
 |some w=>((w.1,w.2,mxd a w),true)
 |none=>((0,0,0),false)
theorem x9a {a b:List Pt} (la:a.length≤60) (lb:b.length≤60):(z5b a b).length≤10000:=by
 unfold z5b
 have h1:=y87 (a:=a) (b:=b)
 have h2:=x3i (wy a++wy b)
 have:=z7f a
 have:=z7f b
 have:=Nat.mul_le_mul la lb
 have e:((wy a++wy b).flatMap fun w=>[(w.2, -w.1),(-w.2,w.1)])=(wy a++wy b).flatMap ups:=rfl
 rw [e,List.length_append,h1,h2,List.length_append]
 omega
theorem v5t {A B a b:List Pt} (hA:Cyc A a) (hB:Cyc B b) (ka:∀ x∈a,z0y (-5000) 5000 x) (kb:∀ x∈b,z0y (-5000) 5000 x) (la:a.length≤60) (lb:b.length≤60):
  G63 std (z0d a,z0d b,())=some ((z21 a b).1.1,(z21 a b).1.2.1,(z21 a b).1.2.2,(z21 a b).2,()):=by
 have sa:∀ x∈a,z1i x:=fun x hx=>z14 (ka x hx)
 have sb':∀ x∈b,z1i x:=fun x hx=>z14 (kb x hx)
 have ane:=y3d (z2q hA)
 have bne:=y3d (z2q hB)
 have h1:=w3a sa sb' (by omega) (by omega)
 generalize ho:(a.flatMap fun p=>b.map fun q=>sb q p)=o at h1
 have hol:o.length≤3600:=by rw [←ho,y87]; exact Nat.mul_le_mul la lb
 have ht:z5b a b=o++(wy a).flatMap ups++(wy b).flatMap ups:=by
  unfold z5b
  rw [ho,List.append_assoc, ←List.flatMap_append]; rfl
 have hways:z37 (y3z it0 std) ([[D.list false 2 (z0d a)],[D.list false 2 (z0d b)]],z0d o,(0:Int),(0:Int),(0:Int),z0d a,z0d b,(2:Int),(0:Int),())=some (z0d (z5b a b),(0:Int),(0:Int),(0:Int),z0d a,z0d b,()):=by
  generalize hL:[[D.list false 2 (z0d a)],[D.list false 2 (z0d b)]]=L
  have r0:std.rdL L 0 0=z0d a:=by subst hL; rfl
  have r1:std.rdL L 1 0=z0d b:=by subst hL; rfl
  have k0:std.rowOk L 0 [CK.list 2]=true:=by subst hL; rfl
  have k1:std.rowOk L 1 [CK.list 2]=true:=by subst hL; rfl
  have hl2:L.length=2:=by subst hL; rfl
  have e1:(0:Int).toNat=0:=rfl
  have e2:(1:Int).toNat=1:=rfl
  have v1:IntKind.i64.wrap ((0:Int)+1)=1:=by decide
  have v2:IntKind.i64.wrap ((1:Int)+1)=2:=by decide
  have v1':IntKind.i64.wrap 1=1:=by decide
  have v2':IntKind.i64.wrap 2=2:=by decide
  have t0:y3z it0 std (L,z0d o,(0:Int),(0:Int),(0:Int),z0d a,z0d b,(2:Int),(0:Int),())=some (.inl (L,z0d (o++(wy a).flatMap ups),(0:Int),(0:Int),(0:Int),z0d a,z0d b,(2:Int),(1:Int),())):=by
   have hw:=x1b hA ka (by omega) o (by omega) L (z0d b) (z0d a) 0 0 0 2 0
   rcases hw with hw|hw
   ·simp only [y3z,it0_eq,z18,z3x,z2p,z2w,z3u,z6k,z3q,z4b,z5m,z8b,z2m,z1k,e1,Nat.zero_add,r0,k0,hl2,z0c,hw,Option.bind_some,Sum.elim_inl,Sum.elim_inr,z0a,v1,z4s,z5i]
    simp [v1']
   ·simp only [y3z,it0_eq,z18,z3x,z2p,z2w,z3u,z6k,z3q,z4b,z5m,z8b,z2m,z1k,e1,Nat.zero_add,r0,k0,hl2,z0c,hw,Option.bind_some,Sum.elim_inl,Sum.elim_inr,z0a,v1,z4s,z5i]
    simp [v1']
  have t1:y3z it0 std (L,z0d (o++(wy a).flatMap ups),(0:Int),(0:Int),(0:Int),z0d a,z0d b,(2:Int),(1:Int),())=some (.inl (L,z0d (z5b a b),(0:Int),(0:Int),(0:Int),z0d a,z0d b,(2:Int),(2:Int),())):=by
   have hw:=x1b hB kb (by omega) (o++(wy a).flatMap ups) (by rw [List.length_append,x3i]; have:=z7f a; omega) L (z0d b) (z0d a) 0 0 0 2 1
   rw [←ht] at hw
   rcases hw with hw|hw
   ·simp only [y3z,it0_eq,z18,z3x,z2p,z2w,z3u,z6k,z3q,z4b,z5m,z8b,z2m,z1k,e2,Nat.zero_add,r1,k1,hl2,z0c,hw,Option.bind_some,Sum.elim_inl,Sum.elim_inr,z0a,v2,z4s,z5i]
    simp [v2']
   ·simp only [y3z,it0_eq,z18,z3x,z2p,z2w,z3u,z6k,z3q,z4b,z5m,z8b,z2m,z1k,e2,Nat.zero_add,r1,k1,hl2,z0c,hw,Option.bind_some,Sum.elim_inl,Sum.elim_inr,z0a,v2,z4s,z5i]
    simp [v2']
  have t2:y3z it0 std (L,z0d (z5b a b),(0:Int),(0:Int),(0:Int),z0d a,z0d b,(2:Int),(2:Int),())=some (.inr (z0d (z5b a b),(0:Int),(0:Int),(0:Int),z0d a,z0d b,())):=by
   have c1:¬ (2:Int)<2:=by omega
   simp only [y3z,z0m,z0n,c1]
  rw [z0j,t0]
  simp only
  rw [z0j,t1]
  simp only
  rw [z0j,t2]
 have htl:=x9a la lb
 have hts:=y4r ka kb
 have key:=z11 (b:=x4o it0 std) (z5b a b).length (fun i=>(z0d (z5b a b),(0:Int),(0:Int),(0:Int),(0:Int),(0:Int),(0:Int),z0d a,z0d b,false,((z5b a b).length:Int),(i:Int),())) (fun i=>decide (y03 a b ((z5b a b).getD i (0,0))))
  (fun i=>((0:Int),(0:Int),(0:Int),((z5b a b).getD i (0,0)).1,((z5b a b).getD i (0,0)).2,mxd a ((z5b a b).getD i (0,0)),true,())) ((0:Int),(0:Int),(0:Int),(0:Int),(0:Int),(0:Int),false,()) (fun i hi=>by
  obtain ⟨w,hw⟩:=z0l hi
  have gw:=z0w hw
  rw [z4m hw]
  have hwb:=hts w (List.mem_of_getElem? hw)
  have hws:z1i w:=by simp only [z0y,z1i] at*; omega
  have h92:g92 it0 std (z0d a,z0d b,w.1,w.2,())=_:=v5m ane bne (by omega) (by omega) hws (fun x hx=>by have:=ka x hx; simp only [z0y] at*; omega) (fun x hx=>by have:=kb x hx; simp only [z0y] at*; omega)
  have c1:(i:Int)<((z5b a b).length:Int):=by omega
  have c2:(i:Int)≥0:=by omega
  have hwr:=z02 (i:=i) (by omega)
  by_cases hp:y03 a b w
  ·simp only [x4o,z0m,z0n,z0g,z0s,z0r,z1c,z0i,z0c,z0a,hwr,c1,c2,gw,h92,hp]
  ·simp only [x4o,z0m,z0n,z0g,z0s,z0r,z1c,z0i,z0c,z0a,hwr,c1,c2,gw,h92,hp]) (by
  have hn:¬ (((z5b a b).length:Int)<((z5b a b).length:Int)):=by omega
  simp only [x4o,z0m,z0n,hn])
 have e0:((0:Nat):Int)=0:=rfl
 rw [e0] at key
 have e2:std.ofNat 2=(2:Int):=rfl
 unfold G63 z21
 rcases key with ⟨i,i1,i2,i3,i4⟩|⟨i1,i2⟩
 ·rw [z9a (d:=(0,0)) i1 i2 i3]
  simp only [g63,it0_eq,e2,hways,h1,i4,z0m,z0n,z0c]
 ·rw [z9b (d:=(0,0)) i1]
  simp only [g63,it0_eq,e2,hways,h1,i2,z0m,z0n,z0c]
noncomputable def x1l (l:List Pt) (hs:List (List Pt)) (m:List Pt) (ks:List (List Pt)):(Int×Int×Int)×Int:=
 if z49 l hs≠0 then ((0,0,0),z49 l hs) else if z49 m ks≠0 then ((0,0,0),z49 m ks) else
  if (z21 (z08 (z1a l hs)) (z08 (z1a m ks))).2=true then ((z21 (z08 (z1a l hs)) (z08 (z1a m ks))).1,0) else ((0,0,0),21)
theorem x6v {l:List Pt} {hs:List (List Pt)} (hf:z4o l hs) {m:List Pt} {ks:List (List Pt)} (hk:z4o m ks):
  g63 it0 std (z0d (z08 (z1a l hs)),z0d (z08 (z1a m ks)),())=some ((z21 (z08 (z1a l hs)) (z08 (z1a m ks))).1.1,(z21 (z08 (z1a l hs)) (z08 (z1a m ks))).1.2.1,(z21 (z08 (z1a l hs)) (z08 (z1a m ks))).1.2.2,(z21 (z08 (z1a l hs)) (z08 (z1a m ks))).2,()):=
 v5t hf.cyc hk.cyc hf.cbox hk.cbox (z48 hf) (z48 hk)
theorem v5y (l:List Pt) (hs:List (List Pt)) (m:List Pt) (ks:List (List Pt)):
  G32 std (z0d l,z1m hs,z0d m,z1m ks,())=some ((x1l l hs m ks).1.1,(x1l l hs m ks).1.2.1,(x1l l hs m ks).1.2.2,(x1l l hs m ks).2,()):=by
 unfold G32 x1l
 by_cases h:z49 l hs=0
 case neg=>
  have h62:g62 it0 std (z0d l,z1m hs,z0d m,z1m ks,())=_:=x6x h m ks
  simp only [g32,z0m,z0n,h62,h,not_false_eq_true,ne_eq]
 have hf:=z12.1 h
 by_cases h':z49 m ks=0
 case neg=>
  have h62:g62 it0 std (z0d l,z1m hs,z0d m,z1m ks,())=_:=x6w hf h'
  simp only [g32,z0m,z0n,h62,h,h',not_false_eq_true,ne_eq,not_true]
 have hk:=z12.1 h'
 have h62:g62 it0 std (z0d l,z1m hs,z0d m,z1m ks,())=_:=w66 hf hk
 have h63:=x6v hf hk
 by_cases hq:(z21 (z08 (z1a l hs)) (z08 (z1a m ks))).2=true
 ·simp only [g32,z0m,z0n,h62,h,h',h63,hq,not_false_eq_true,ne_eq,not_true]
 ·have hq':(z21 (z08 (z1a l hs)) (z08 (z1a m ks))).2=false:=by simpa using hq
  simp only [g32,z0m,z0n,h62,h,h',h63,hq',not_false_eq_true,ne_eq,not_true]
end Go.Am
end
section
namespace Go.Am
open M06
def amt (n:Int):Int:=max n (IntKind.i64.wrap (0 - n))
theorem v5r (n:Int):G77 std (n,())=some (amt n,()):=by
 unfold G77 amt
 simp only [z2p,x48,z0h]
theorem v5h {n:Int} (h1: -9223372036854775808≤n) (h2:n≤9223372036854775807):(n= -9223372036854775808∧amt n=n)∨(n≠ -9223372036854775808∧amt n=max n (-n)):=by
 by_cases h:n= -9223372036854775808
 ·left
  subst h
  exact ⟨rfl,by unfold amt; decide⟩
 ·right
  refine ⟨h,?_⟩
  unfold amt
  rw [z1h _ (by omega) (by omega)]
  omega
def w0s (A B C:Int):Prop:=¬ (A=0∧B=0)∧ -1048576≤A∧A≤1048576∧ -1048576≤B∧B≤1048576∧ -1099511627776≤C∧C≤1099511627776
instance (A B C:Int):Decidable (w0s A B C):=by unfold w0s; infer_instance
def okL (a b:List Pt) (A B C:Int):Prop:=(∀ p∈a,dt (A,B) p≤C)∧∀ q∈b,C<dt (A,B) q
instance (a b:List Pt) (A B C:Int):Decidable (okL a b A B C):=by unfold okL; infer_instance
noncomputable def x2q (l:List Pt) (hs:List (List Pt)) (m:List Pt) (ks:List (List Pt)) (A B C:Int):Int:=
 if z49 l hs≠0 then z49 l hs else if z49 m ks≠0 then z49 m ks else if ¬ w0s A B C then 2 else if okL (z08 (z1a l hs)) (z08 (z1a m ks)) A B C then 0 else 14
theorem w97 {l:List Pt} {hs:List (List Pt)} (hf:z4o l hs):∀ p∈z08 (z1a l hs),z0y (-10000) 10000 p:=hf.cbox'
theorem w65 (l:List Pt) (hs:List (List Pt)) (m:List Pt) (ks:List (List Pt)):G72 std (z0d l,z1m hs,z0d m,z1m ks,())=some (if z49 l hs≠0 then z49 l hs else z49 m ks,()):=by
 unfold G72
 have h1:g19 it0 std (z0d l,z1m hs,())=some (z49 l hs,()):=w2w l hs
 have h2:g19 it0 std (z0d m,z1m ks,())=some (z49 m ks,()):=w2w m ks
 by_cases h:z49 l hs=0
 ·simp only [g72,z0m,z0n,h1,h2,h,not_true,ne_eq]
 ·simp only [g72,z0m,z0n,h1,h2,h,not_false_eq_true,ne_eq]
theorem w7b (l:List Pt) (hs:List (List Pt)) (m:List Pt) (ks:List (List Pt)) (A B C:Int):G36 std (z0d l,z1m hs,z0d m,z1m ks,A,B,C,())=some (x2q l hs m ks A B C,()):=by
 unfold G36 x2q
 have h72:g72 it0 std (z0d l,z1m hs,z0d m,z1m ks,())=_:=w65 l hs m ks
 by_cases h:z49 l hs=0
 case neg=>
  rw [if_pos h] at h72
  simp only [g36,z0m,z0n,h72,h,not_false_eq_true,ne_eq]
 rw [if_neg (by simp [h])] at h72
 have hf:=z12.1 h
 by_cases h':z49 m ks=0
 case neg=>simp only [g36,z0m,z0n,h72,h,h',not_false_eq_true,ne_eq,not_true]
 have hk:=z12.1 h'
 rw [h'] at h72
 rw [if_neg (by simp [h]),if_neg (by simp [h'])]
 by_cases hg:w0s A B C
 case neg=>
  rw [if_pos hg]
  by_cases q1:A=0
  ·by_cases q2:B=0
   ·simp only [g36,z0m,z0n,h72,eq_true q1,eq_true q2,not_true]
   ·by_cases u1:A< -1048576
    ·simp only [g36,z0m,z0n,h72,eq_true q1,q2,u1,not_true]
    ·by_cases u2:A>1048576
     ·simp only [g36,z0m,z0n,h72,eq_true q1,q2,u1,u2,not_true]
     ·by_cases u3:B< -1048576
      ·simp only [g36,z0m,z0n,h72,eq_true q1,q2,u1,u2,u3,not_true]
      ·by_cases u4:B>1048576
       ·simp only [g36,z0m,z0n,h72,eq_true q1,q2,u1,u2,u3,u4,not_true]
       ·by_cases u5:C< -1099511627776
        ·simp only [g36,z0m,z0n,h72,eq_true q1,q2,u1,u2,u3,u4,u5,not_true]
        ·have u6:C>1099511627776:=Classical.byContradiction fun hc=>hg ⟨fun e=>q2 e.2,by omega,by omega,by omega,by omega,by omega,by omega⟩
         simp only [g36,z0m,z0n,h72,eq_true q1,q2,u1,u2,u3,u4,u5,u6,not_true]
  ·by_cases u1:A< -1048576
   ·simp only [g36,z0m,z0n,h72,q1,u1,not_true]
   ·by_cases u2:A>1048576
    ·simp only [g36,z0m,z0n,h72,q1,u1,u2,not_true]
    ·by_cases u3:B< -1048576
     ·simp only [g36,z0m,z0n,h72,q1,u1,u2,u3,not_true]
     ·by_cases u4:B>1048576
      ·simp only [g36,z0m,z0n,h72,q1,u1,u2,u3,u4,not_true]
      ·by_cases u5:C< -1099511627776
       ·simp only [g36,z0m,z0n,h72,q1,u1,u2,u3,u4,u5,not_true]
       ·have u6:C>1099511627776:=Classical.byContradiction fun hc=>hg ⟨fun e=>q1 e.1,by omega,by omega,by omega,by omega,by omega,by omega⟩
        simp only [g36,z0m,z0n,h72,q1,u1,u2,u3,u4,u5,u6,not_true]
 rw [if_neg (by simp [hg])]
 have hg':=hg
 obtain ⟨z0,g1,g2,g3,g4,g5,g6⟩:=hg'
 have u1:¬ A< -1048576:=by omega
 have u2:¬ A>1048576:=by omega
 have u3:¬ B< -1048576:=by omega
 have u4:¬ B>1048576:=by omega
 have u5:¬ C< -1099511627776:=by omega
 have u6:¬ C>1099511627776:=by omega
 have hw:z1i (A,B):=⟨g1,g2,g3,g4⟩
 have a49:g49 it0 std (z0d l,z1m hs,())=_:=x60 hf
 have b49:g49 it0 std (z0d m,z1m ks,())=_:=x60 hk
 have ba:=w97 hf
 have bb:=w97 hk
 have la:=z48 hf
 have lb:=z48 hk
 generalize z08 (z1a l hs)=a at a49 ba la⊢
 generalize z08 (z1a m ks)=b at b49 bb lb⊢
 have key1:=z11 (b:=w2n std) a.length (fun i=>(A,B,C,z0d a,z0d b,(i:Int),())) (fun i=>decide (dt (A,B) (a.getD i (0,0))>C)) (fun i=> .inl (14,())) (.inr (A,B,C,z0d b,())) (fun i hi=>by
  obtain ⟨p,hp⟩:=z0l hi
  have gp:=z0w hp
  rw [z4m hp]
  obtain ⟨d1,d2,d3,_⟩:=z9d hw (ba p (List.mem_of_getElem? hp))
  simp only at d1 d2 d3
  have c1:(i:Int)<(a.length:Int):=by omega
  have c2:(i:Int)≥0:=by omega
  have hwr:=z02 (i:=i) (by omega)
  by_cases k:dt (A,B) p>C
  ·simp only [w2n,z0m,z0n,z0g,z0s,z0r,z1c,z0i,z0c,z0a,z0t,hwr,c1,c2,gp,d1,d2,d3,k]
  ·simp only [w2n,z0m,z0n,z0g,z0s,z0r,z1c,z0i,z0c,z0a,z0t,hwr,c1,c2,gp,d1,d2,d3,k]) (by
  have hn:¬ ((a.length:Int)<(a.length:Int)):=by omega
  simp only [w2n,z0m,z0n,z0c,hn])
 have key2:=z11 (b:=w2m std) b.length (fun i=>(A,B,C,z0d b,(i:Int),())) (fun i=>decide (dt (A,B) (b.getD i (0,0))≤C)) (fun i=> .inl (14,())) (.inr ()) (fun i hi=>by
  obtain ⟨p,hp⟩:=z0l hi
  have gp:=z0w hp
  rw [z4m hp]
  obtain ⟨d1,d2,d3,_⟩:=z9d hw (bb p (List.mem_of_getElem? hp))
  simp only at d1 d2 d3
  have c1:(i:Int)<(b.length:Int):=by omega
  have c2:(i:Int)≥0:=by omega
  have hwr:=z02 (i:=i) (by omega)
  by_cases k:dt (A,B) p≤C
  ·simp only [w2m,z0m,z0n,z0g,z0s,z0r,z1c,z0i,z0c,z0a,z0t,hwr,c1,c2,gp,d1,d2,d3,k]
  ·simp only [w2m,z0m,z0n,z0g,z0s,z0r,z1c,z0i,z0c,z0a,z0t,hwr,c1,c2,gp,d1,d2,d3,k]) (by
  have hn:¬ ((b.length:Int)<(b.length:Int)):=by omega
  simp only [w2m,z0m,z0n,z0c,hn])
 have e0:((0:Nat):Int)=0:=rfl
 rw [e0] at key1 key2
 have fin:∀ r:Int,(∀ q1:A=0,¬ B=0→g36 it0 std (z0d l,z1m hs,z0d m,z1m ks,A,B,C,())=some (r,()))→(¬ A=0→g36 it0 std (z0d l,z1m hs,z0d m,z1m ks,A,B,C,())=some (r,()))→g36 it0 std (z0d l,z1m hs,z0d m,z1m ks,A,B,C,())=some (r,()):=by
  intro r f1 f2
  by_cases q1:A=0
  ·exact f1 q1 (fun e=>z0 ⟨q1,e⟩)
  ·exact f2 q1
 rcases key1 with ⟨i,i1,i2,_,i4⟩|⟨i1,i2⟩
 ·have:¬ okL a b A B C:=fun h=>by
   have:=h.1 _ (z5t (0,0) i1)
   have i2:dt (A,B) (a.getD i (0,0))>C:=of_decide_eq_true i2
   omega
  rw [if_neg this]
  exact fin 14 (fun q1 q2=>by simp only [g36,it0_eq,z0m,z0n,h72,eq_true q1,q2,u1,u2,u3,u4,u5,u6,a49,b49,i4,not_true]) (fun q1=>by simp only [g36,it0_eq,z0m,z0n,h72,q1,u1,u2,u3,u4,u5,u6,a49,b49,i4,not_true])
 rcases key2 with ⟨j,j1,j2,_,j4⟩|⟨j1,j2⟩
 ·have:¬ okL a b A B C:=fun h=>by
   have:=h.2 _ (z5t (0,0) j1)
   have j2:dt (A,B) (b.getD j (0,0))≤C:=of_decide_eq_true j2
   omega
  rw [if_neg this]
  exact fin 14 (fun q1 q2=>by simp only [g36,it0_eq,z0m,z0n,h72,eq_true q1,q2,u1,u2,u3,u4,u5,u6,a49,b49,i2,j4,not_true]) (fun q1=>by simp only [g36,it0_eq,z0m,z0n,h72,q1,u1,u2,u3,u4,u5,u6,a49,b49,i2,j4,not_true])
 ·have:okL a b A B C:=⟨z8s (d:=(0,0)) (P:=fun p=>dt (A,B) p≤C) fun i hi=>by have:¬ dt (A,B) (a.getD i (0,0))>C:=of_decide_eq_false (i1 i hi); omega,z8s (d:=(0,0)) (P:=fun p=>C<dt (A,B) p) fun i hi=>by have:¬ dt (A,B) (b.getD i (0,0))≤C:=of_decide_eq_false (j1 i hi); omega⟩
  rw [if_pos this]
  exact fin 0 (fun q1 q2=>by simp only [g36,it0_eq,z0m,z0n,h72,eq_true q1,q2,u1,u2,u3,u4,u5,u6,a49,b49,i2,j2,not_true]) (fun q1=>by simp only [g36,it0_eq,z0m,z0n,h72,q1,u1,u2,u3,u4,u5,u6,a49,b49,i2,j2,not_true])
end Go.Am
end
section
namespace Go.Am
open M06
theorem w6m {a b:List Pt} (ha:a≠[]) (hb:b≠[]):dif a b≠[]:=by
 match a,b,ha,hb with
 |p::a,q::b,_,_=>intro e; have:=(z32 (a:=p::a) (b:=q::b)).2 ⟨p,by simp,q,by simp,rfl⟩; rw [e] at this; simp at this
noncomputable def z7v (l:List Pt) (hs:List (List Pt)) (m:List Pt) (ks:List (List Pt)):Bool:=inC (z08 (dif (z08 (z1a l hs)) (z08 (z1a m ks)))) (0,0) 1
theorem y2w {l:List Pt} {hs:List (List Pt)} (hf:z4o l hs) {m:List Pt} {ks:List (List Pt)} (hk:z4o m ks):
  (z21 (z08 (z1a l hs)) (z08 (z1a m ks))).2=!z7v l hs m ks:=by
 have ha:=z2q hf.cyc
 have hb:=z2q hk.cyc
 have hne:=w6m (z9f hf.allNe) (z9f hk.allNe)
 have hD:=z3k hne
 have hiff:=w7t ha hb
 have hin:z7v l hs m ks=true↔InH (dif (z08 (z1a l hs)) (z08 (z1a m ks))) (0,0) 1:=(z3r hD (by omega)).trans (y4b hD (by omega)).symm
 unfold z21
 cases hc:z7v l hs m ks with
 |true=>
  have hno:¬ ∃ w∈z5b (z08 (z1a l hs)) (z08 (z1a m ks)),y03 (z08 (z1a l hs)) (z08 (z1a m ks)) w:=fun h=>hiff.1 h (hin.1 hc)
  rw [List.find?_eq_none.2 (fun w hw=>by simp only [decide_eq_true_eq]; exact fun hp=>hno ⟨w,hw,hp⟩)]
  rfl
 |false=>
  have hyes:=hiff.2 (fun h=>by rw [hin.2 h] at hc; cases hc)
  obtain ⟨w,hw,hp⟩:=hyes
  cases hfd:(z5b (z08 (z1a l hs)) (z08 (z1a m ks))).find? (fun w=>decide (y03 (z08 (z1a l hs)) (z08 (z1a m ks)) w)) with
  |none=>have:=List.find?_eq_none.1 hfd w hw; simp [hp] at this
  |some v=>rfl
theorem v5w (l:List Pt) (hs:List (List Pt)) (m:List Pt) (ks:List (List Pt)) (p:Pt) (den:Int):
  G38 std (z0d l,z1m hs,z0d m,z1m ks,p.1,p.2,den,())=some (w5e l hs m ks p den,()):=by
 unfold G38 w5e
 have h72:g72 it0 std (z0d l,z1m hs,z0d m,z1m ks,())=_:=w65 l hs m ks
 by_cases h:z49 l hs=0
 case neg=>
  rw [if_pos h] at h72⊢
  simp only [g38,z0m,z0n,h72,h,not_false_eq_true]
 rw [if_neg (by simp [h])] at h72⊢
 by_cases h':z49 m ks=0
 case neg=>
  rw [if_pos h']
  simp only [g38,z0m,z0n,h72,h',not_false_eq_true]
 rw [if_neg (by simp [h'])]
 have hf:=z12.1 h
 have hk:=z12.1 h'
 rw [h'] at h72
 by_cases hg:1≤den∧den≤268435456∧Big p
 case neg=>
  rw [if_pos hg]
  by_cases u1:den<1
  ·simp only [g38,z0m,z0n,h72,u1,not_true]
  by_cases u2:den>268435456
  ·simp only [g38,z0m,z0n,h72,u1,u2,not_true]
  by_cases u3:p.1< -1099511627776
  ·simp only [g38,z0m,z0n,h72,u1,u2,u3,not_true]
  by_cases u4:p.1>1099511627776
  ·simp only [g38,z0m,z0n,h72,u1,u2,u3,u4,not_true]
  by_cases u5:p.2< -1099511627776
  ·simp only [g38,z0m,z0n,h72,u1,u2,u3,u4,u5,not_true]
  have u6:p.2>1099511627776:=Classical.byContradiction fun hc=>hg ⟨by omega,by omega,⟨by omega,by omega,by omega,by omega⟩⟩
  simp only [g38,z0m,z0n,h72,u1,u2,u3,u4,u5,u6,not_true]
 rw [if_neg (by simp [hg])]
 obtain ⟨d1,d2,hb⟩:=hg
 have hb':=hb
 obtain ⟨b1,b2,b3,b4⟩:=hb'
 have u1:¬ den<1:=by omega
 have u2:¬ den>268435456:=by omega
 have u3:¬ p.1< -1099511627776:=by omega
 have u4:¬ p.1>1099511627776:=by omega
 have u5:¬ p.2< -1099511627776:=by omega
 have u6:¬ p.2>1099511627776:=by omega
 have a49:g49 it0 std (z0d l,z1m hs,())=_:=x60 hf
 have b49:g49 it0 std (z0d m,z1m ks,())=_:=x60 hk
 have i1:=x62 hf hb d1 d2
 have i2:=x62 hk hb d1 d2
 by_cases k1:inC (z08 (z1a l hs)) p den=true
 ·by_cases k2:inC (z08 (z1a m ks)) p den=true
  ·rw [if_pos ⟨k1,k2⟩]
   simp only [g38,z0m,z0n,h72,u1,u2,u3,u4,u5,u6,a49,b49,i1,i2,k1,k2,not_true]
  ·have k2':inC (z08 (z1a m ks)) p den=false:=by simpa using k2
   rw [if_neg (fun h=>k2 h.2)]
   simp only [g38,z0m,z0n,h72,u1,u2,u3,u4,u5,u6,a49,b49,i1,i2,k1,k2',not_true]
 ·have k1':inC (z08 (z1a l hs)) p den=false:=by simpa using k1
  rw [if_neg (fun h=>k1 h.1)]
  simp only [g38,z0m,z0n,h72,u1,u2,u3,u4,u5,u6,a49,b49,i1,i2,k1',not_true]
end Go.Am
end
section
namespace Go.Am
open M06
def x3x (l:List Int):List (List D):=l.map fun n=>[D.int IntKind.i64 n]
theorem x9r {l:List Int} {i:Nat} {n:Int} (h:l[i]?=some n):(x3x l)[i]?=some [D.int IntKind.i64 n]:=by simp [x3x,h]
theorem x1f (l:List Int):(x3x l).length=l.length:=by simp [x3x]
def w4l (l:List Int):Nat:=l.foldl (fun g x=>Nat.gcd g x.natAbs) 0
theorem w4k (L:List (List D)) (u v:Int):∀ (n g:Nat),n<4611686018427387904→g<4611686018427387904→
  z37 (x8u std) ((g:Int),(n:Int),L,u,v,())=some ((Nat.gcd g n:Int),L,u,v,()):=by
 intro n
 induction n using Nat.strongRecOn with
 |_ n ih=>
  intro g hn hg
  rw [z0j]
  by_cases h:n=0
  ·subst h
   have:x8u std ((g:Int),((0:Nat):Int),L,u,v,())=some (.inr ((g:Int),L,u,v,())):=by
    have c1:((0:Nat):Int)=0:=rfl
    simp only [x8u,z0m,z0n,c1,not_true]
   rw [this,Nat.gcd_zero_right]
  ·have c1:¬ (n:Int)=0:=by omega
   have hr:((g:Int)).tmod (n:Int)=((g % n:Nat):Int):=by rw [Int.tmod_eq_emod_of_nonneg (by omega)]; rfl
   have:x8u std ((g:Int),(n:Int),L,u,v,())=some (.inl ((n:Int),((g % n:Nat):Int),L,u,v,())):=by
    simp only [x8u,z0m,z0n,c1,z00,hr,not_false_eq_true]
   rw [this]
   have hlt:=Nat.mod_lt g (show 0<n by omega)
   have:=ih (g % n) hlt n (by omega) hn
   simp only [this]
   rw [Nat.gcd_comm g n,Nat.gcd_rec n g,Nat.gcd_comm]
theorem v0b {n:Int} (h1: -4611686018427387904<n) (h2:n<4611686018427387904):amt n=(n.natAbs:Int):=by
 have:=v5h (n:=n) (by omega) (by omega)
 omega
theorem v3b {g n:Nat} (h1:g<4611686018427387904) (h2:n<4611686018427387904):Nat.gcd g n<4611686018427387904:=by
 rcases Nat.eq_zero_or_pos n with h|h
 ·subst h; rw [Nat.gcd_zero_right]; exact h1
 ·exact Nat.lt_of_le_of_lt (Nat.gcd_le_right g h) h2
theorem v5l {l:List Int} (hl:l.length≤1000) (hb:∀ n∈l, -4611686018427387904<n∧n<4611686018427387904):G93 std (x3x l,())=some ((w4l l:Int),()):=by
 have key:=z3p (b:=x8p it0 std) l.length (fun (g:Nat) (i:Nat)=>((g:Int),x3x l,(l.length:Int),(i:Int),())) (fun g i=>g=w4l (l.take i)∧g<4611686018427387904) (fun r=>r=((w4l l:Int),())) (fun g i hi ⟨h1,h2⟩=>by
  left
  obtain ⟨n,hn⟩:=z0l hi
  have gn:=x9r hn
  have hbn:=hb n (List.mem_of_getElem? hn)
  have c1:(i:Int)<(l.length:Int):=by omega
  have c2:(i:Int)≥0:=by omega
  have hw:=z02 (i:=i) (by omega)
  have h77:=v5r n
  rw [v0b hbn.1 hbn.2] at h77
  have hlp:=w4k (x3x l) (l.length:Int) (i:Int) n.natAbs g (by omega) h2
  refine ⟨Nat.gcd g n.natAbs,?_,?_,v3b h2 (by omega)⟩
  ·have cc:z2u [CK.int IntKind.i64] [D.int IntKind.i64 n]=true:=rfl
   have cd:dI (([D.int IntKind.i64 n]:List D)[0]?.getD D.nilp)=n:=rfl
   simp only [x8p,it0_eq,z0m,z0n,x1f,z0a,hw,c1,c2,gn,cc,cd,h77,hlp]
  ·rw [h1,w4l,w4l,z0z hn,List.foldl_append]; rfl) (fun g ⟨h1,h2⟩=>by
  have hn':¬ ((l.length:Int)<(l.length:Int)):=by omega
  rw [List.take_length] at h1
  exact ⟨((g:Int),()),by simp only [x8p,z0m,z0n,hn'],by rw [h1]⟩) 0 0 (Nat.zero_le _) ⟨rfl,by omega⟩
 obtain ⟨r,h1,rfl⟩:=key
 have e0:((0:Nat):Int)=0:=rfl
 rw [e0] at h1
 unfold G93
 simp only [g93,it0_eq,z0m,z0n,x1f,h1]
theorem y86:∀ (l:List Int) (g:Nat),(l.foldl (fun g x=>Nat.gcd g x.natAbs) g) ∣ g∧∀ x∈l,((l.foldl (fun g x=>Nat.gcd g x.natAbs) g:Nat):Int) ∣ x
 |[],g=>⟨Nat.dvd_refl _,by simp⟩
 |x::l,g=>by
  obtain ⟨h1,h2⟩:=y86 l (Nat.gcd g x.natAbs)
  simp only [List.foldl_cons]
  refine ⟨Nat.dvd_trans h1 (Nat.gcd_dvd_left _ _),fun y hy=>?_⟩
  rcases List.mem_cons.1 hy with rfl|hy
  ·exact Int.ofNat_dvd_left.2 (Nat.dvd_trans h1 (Nat.gcd_dvd_right _ _))
  ·exact h2 y hy
theorem x56 {l:List Int} {x:Int} (hx:x∈l) (h0:x≠0):0<w4l l:=by
 have:=(y86 l 0).2 x hx
 refine Nat.pos_of_ne_zero fun h=>h0 ?_
 have h':(l.foldl (fun g x=>Nat.gcd g x.natAbs) 0)=0:=h
 rw [h'] at this
 exact Int.zero_dvd.1 this
def z3y (P e Q f:Pt):Prop:=
 (0<crs e f∧0≤crs (sb Q P) f∧crs (sb Q P) f≤crs e f∧0≤crs (sb Q P) e∧crs (sb Q P) e≤crs e f)∨
 (0< - crs e f∧0≤ - crs (sb Q P) f∧ - crs (sb Q P) f≤ - crs e f∧0≤ - crs (sb Q P) e∧ - crs (sb Q P) e≤ - crs e f)
instance (P e Q f:Pt):Decidable (z3y P e Q f):=by unfold z3y; infer_instance
def sgn (e f:Pt):Int:=if crs e f<0 then -1 else 1
def z36 (P e Q f:Pt):Pt:=ad (ml P (sgn e f*crs e f)) (ml e (sgn e f*crs (sb Q P) f))
def z6l (P e Q f:Pt):Nat:=w4l [(z36 P e Q f).1,(z36 P e Q f).2,sgn e f*crs e f]
def y1k (P e Q f:Pt):Int×Int×Int:=((z36 P e Q f).1.tdiv (z6l P e Q f),(z36 P e Q f).2.tdiv (z6l P e Q f),(sgn e f*crs e f).tdiv (z6l P e Q f))
theorem w9w {e f:Pt} {A B:Int} (hA:0≤A) (he:z0y (-A) A e) (hf:z0y (-B) B f): -(2*(A*B))≤crs e f∧crs e f≤2*(A*B)∧(-(A*B)≤e.1*f.2∧e.1*f.2≤A*B)∧(-(A*B)≤e.2*f.1∧e.2*f.1≤A*B):=by
 obtain ⟨e1,e2,e3,e4⟩:=he
 obtain ⟨f1,f2,f3,f4⟩:=hf
 have m1:=z4i hA e1 e2 f3 f4
 have m2:=z4i hA e3 e4 f1 f2
 simp only [crs]
 omega
theorem y10 {e f:Pt} (he:z0y (-10000) 10000 e) (hf:z0y (-10000) 10000 f):IntKind.i64.wrap (e.1*f.2)=e.1*f.2∧IntKind.i64.wrap (e.2*f.1)=e.2*f.1∧IntKind.i64.wrap (e.1*f.2 - e.2*f.1)=crs e f∧ -200000000≤crs e f∧crs e f≤200000000:=by
 obtain ⟨h1,h2,h3,h4⟩:=w9w (A:=10000) (by omega) he hf
 exact ⟨z1h _ (by omega) (by omega),z1h _ (by omega) (by omega),by rw [z1h _ (by omega) (by omega)]; rfl,by omega,by omega⟩
theorem v5s {P e Q f:Pt} (hP:z0y (-5000) 5000 P) (he:z0y (-10000) 10000 e) (hQ:z0y (-5000) 5000 Q) (hf:z0y (-10000) 10000 f):
  G76 std (P.1,P.2,e.1,e.2,Q.1,Q.2,f.1,f.2,())=some (if z3y P e Q f then ((y1k P e Q f).1,(y1k P e Q f).2.1,(y1k P e Q f).2.2,true,()) else (0,0,0,false,())):=by
 have hap:z0y (-10000) 10000 (sb Q P):=y0j hQ hP
 obtain ⟨d1,d2⟩:=z3t (z14 hQ) (z14 hP)
 obtain ⟨w1,w2,w3,b1,b2⟩:=y10 he hf
 obtain ⟨w4,w5,w6,b3,b4⟩:=y10 hap hf
 obtain ⟨w7,w8,w9,b5,b6⟩:=y10 hap he
 unfold G76
 have hneg:∀ x:Int, -200000000≤x→x≤200000000→IntKind.i64.wrap (0 - x)= - x:=fun x h1 h2=>by rw [z1h]<;>omega
 have n1:=hneg _ b1 b2
 have n2:=hneg _ b3 b4
 have n3:=hneg _ b5 b6
 have fin:∀ (σ:Int),σ=sgn e f→z3y P e Q f→0<σ*crs e f→0≤σ*crs (sb Q P) f→σ*crs (sb Q P) f≤σ*crs e f→
   (IntKind.i64.wrap (P.1*(σ*crs e f))=P.1*(σ*crs e f)∧IntKind.i64.wrap (P.2*(σ*crs e f))=P.2*(σ*crs e f)∧IntKind.i64.wrap (e.1*(σ*crs (sb Q P) f))=e.1*(σ*crs (sb Q P) f)∧IntKind.i64.wrap (e.2*(σ*crs (sb Q P) f))=e.2*(σ*crs (sb Q P) f))∧
   (IntKind.i64.wrap (P.1*(σ*crs e f)+e.1*(σ*crs (sb Q P) f))=(z36 P e Q f).1∧IntKind.i64.wrap (P.2*(σ*crs e f)+e.2*(σ*crs (sb Q P) f))=(z36 P e Q f).2)∧
   g93 it0 std ([[D.int IntKind.i64 (z36 P e Q f).1],[D.int IntKind.i64 (z36 P e Q f).2],[D.int IntKind.i64 (σ*crs e f)]],())=some ((z6l P e Q f:Int),())∧¬ (z6l P e Q f:Int)=0∧
   IntKind.i64.wrap ((z36 P e Q f).1.tdiv (z6l P e Q f))=(y1k P e Q f).1∧IntKind.i64.wrap ((z36 P e Q f).2.tdiv (z6l P e Q f))=(y1k P e Q f).2.1∧IntKind.i64.wrap ((σ*crs e f).tdiv (z6l P e Q f))=(y1k P e Q f).2.2:=by
  intro σ hσ hm h0 h1 h2
  have hs:σ=1∨σ= -1:=by rw [hσ]; unfold sgn; split<;>omega
  have hd:σ*crs e f≤200000000:=by rcases hs with rfl|rfl<;>omega
  have hmN:z36 P e Q f=ad (ml P (σ*crs e f)) (ml e (σ*crs (sb Q P) f)):=by rw [z36, ←hσ]
  have hmG:z6l P e Q f=w4l [(z36 P e Q f).1,(z36 P e Q f).2,σ*crs e f]:=by rw [z6l, ←hσ]
  have hmV:y1k P e Q f=((z36 P e Q f).1.tdiv (z6l P e Q f),(z36 P e Q f).2.tdiv (z6l P e Q f),(σ*crs e f).tdiv (z6l P e Q f)):=by rw [y1k, ←hσ]
  generalize σ*crs e f=d at*
  generalize σ*crs (sb Q P) f=x at*
  obtain ⟨p1,p2,p3,p4⟩:=hP
  obtain ⟨e1,e2,e3,e4⟩:=he
  have m1:=z4i (A:=5000) (B:=200000000) (a:=P.1) (b:=d) (by omega) (by omega) (by omega) (by omega) (by omega)
  have m2:=z4i (A:=5000) (B:=200000000) (a:=P.2) (b:=d) (by omega) (by omega) (by omega) (by omega) (by omega)
  have m3:=z4i (A:=10000) (B:=200000000) (a:=e.1) (b:=x) (by omega) (by omega) (by omega) (by omega) (by omega)
  have m4:=z4i (A:=10000) (B:=200000000) (a:=e.2) (b:=x) (by omega) (by omega) (by omega) (by omega) (by omega)
  have q1:(z36 P e Q f).1=P.1*d+e.1*x:=by rw [hmN]; rfl
  have q2:(z36 P e Q f).2=P.2*d+e.2*x:=by rw [hmN]; rfl
  have hb1: -4611686018427387904<(z36 P e Q f).1∧(z36 P e Q f).1<4611686018427387904:=by omega
  have hb2: -4611686018427387904<(z36 P e Q f).2∧(z36 P e Q f).2<4611686018427387904:=by omega
  have hg:=v5l (l:=[(z36 P e Q f).1,(z36 P e Q f).2,d]) (by simp) (fun n hn=>by
   simp only [List.mem_cons,List.not_mem_nil,or_false] at hn
   rcases hn with rfl|rfl|rfl
   ·exact hb1
   ·exact hb2
   ·omega)
  rw [←hmG] at hg
  have hpos:0<z6l P e Q f:=by rw [hmG]; exact x56 (x:=d) (by simp) (by omega)
  have td:∀ n:Int, -4611686018427387904<n→n<4611686018427387904→IntKind.i64.wrap (n.tdiv (z6l P e Q f))=n.tdiv (z6l P e Q f):=by
   intro n h1 h2
   have:(n.tdiv (z6l P e Q f)).natAbs≤n.natAbs:=by
    rw [Int.natAbs_tdiv]
    exact Nat.div_le_self _ _
   rw [z1h]<;>omega
  refine ⟨⟨z1h _ (by omega) (by omega),z1h _ (by omega) (by omega),z1h _ (by omega) (by omega),z1h _ (by omega) (by omega)⟩,⟨?_,?_⟩,hg,by omega,?_,?_,?_⟩
  ·rw [z1h _ (by omega) (by omega),q1]
  ·rw [z1h _ (by omega) (by omega),q2]
  ·rw [td _ hb1.1 hb1.2,hmV]
  ·rw [td _ hb2.1 hb2.2,hmV]
  ·rw [td _ (by omega) (by omega),hmV]
 have t3:∀ u v w:List D,([u,v,w]:List (List D)).drop 0=[u,v,w]:=fun _ _ _=>rfl
 by_cases k0:crs e f<0
 ·have hσ:(-1:Int)=sgn e f:=by unfold sgn; rw [if_pos k0]
  have u1:¬ - crs e f=0:=by omega
  by_cases k2: - crs (sb Q P) f<0
  ·have:¬ z3y P e Q f:=fun h=>by unfold z3y at h; omega
   rw [if_neg this]
   simp only [g76,z0m,z0n,z0a,z0h,z0t,d1,d2,w1,w2,w3,w4,w5,w6,w7,w8,w9,n1,n2,n3,k0,u1,k2]
  by_cases k3: - crs (sb Q P) f> - crs e f
  ·have:¬ z3y P e Q f:=fun h=>by unfold z3y at h; omega
   rw [if_neg this]
   simp only [g76,z0m,z0n,z0a,z0h,z0t,d1,d2,w1,w2,w3,w4,w5,w6,w7,w8,w9,n1,n2,n3,k0,u1,k2,k3]
  by_cases k4: - crs (sb Q P) e<0
  ·have:¬ z3y P e Q f:=fun h=>by unfold z3y at h; omega
   rw [if_neg this]
   simp only [g76,z0m,z0n,z0a,z0h,z0t,d1,d2,w1,w2,w3,w4,w5,w6,w7,w8,w9,n1,n2,n3,k0,u1,k2,k3,k4]
  by_cases k5: - crs (sb Q P) e> - crs e f
  ·have:¬ z3y P e Q f:=fun h=>by unfold z3y at h; omega
   rw [if_neg this]
   simp only [g76,z0m,z0n,z0a,z0h,z0t,d1,d2,w1,w2,w3,w4,w5,w6,w7,w8,w9,n1,n2,n3,k0,u1,k2,k3,k4,k5]
  have hm:z3y P e Q f:= .inr ⟨by omega,by omega,by omega,by omega,by omega⟩
  have ff:=fin (-1) hσ hm (by omega) (by omega) (by omega)
  simp only [Int.neg_mul,Int.one_mul] at ff
  obtain ⟨⟨f1,f2,f3,f4⟩,⟨f5,f6⟩,f7,f8,f9,f10,f11⟩:=ff
  rw [if_pos hm]
  simp only [g76,z0m,z0n,z0a,z0h,z0t,y6z,d1,d2,w1,w2,w3,w4,w5,w6,w7,w8,w9,n1,n2,n3,k0,u1,k2,k3,k4,k5,f1,f2,f3,f4,f5,f6,List.drop_zero,List.take_succ_cons,List.take_zero,Nat.le_refl,f7,f8,f9,f10,f11,not_false_eq_true,show 0+3≤0+1+1+1 by decide,show (3:Nat)≤0+1+1+1 by decide,show (3:Nat)≤1+1+1 by decide]
 ·have hσ:(1:Int)=sgn e f:=by unfold sgn; rw [if_neg k0]
  by_cases k1:crs e f=0
  ·have:¬ z3y P e Q f:=fun h=>by unfold z3y at h; omega
   rw [if_neg this]
   have k1':¬ (0:Int)<0:=by omega
   simp only [g76,z0m,z0n,z0a,z0h,z0t,d1,d2,w1,w2,w3,w4,w5,w6,w7,w8,w9,n1,n2,n3,k1,k1']
  by_cases k2:crs (sb Q P) f<0
  ·have:¬ z3y P e Q f:=fun h=>by unfold z3y at h; omega
   rw [if_neg this]
   simp only [g76,z0m,z0n,z0a,z0h,z0t,d1,d2,w1,w2,w3,w4,w5,w6,w7,w8,w9,n1,n2,n3,k0,k1,k2]
  by_cases k3:crs (sb Q P) f>crs e f
  ·have:¬ z3y P e Q f:=fun h=>by unfold z3y at h; omega
   rw [if_neg this]
   simp only [g76,z0m,z0n,z0a,z0h,z0t,d1,d2,w1,w2,w3,w4,w5,w6,w7,w8,w9,n1,n2,n3,k0,k1,k2,k3]
  by_cases k4:crs (sb Q P) e<0
  ·have:¬ z3y P e Q f:=fun h=>by unfold z3y at h; omega
   rw [if_neg this]
   simp only [g76,z0m,z0n,z0a,z0h,z0t,d1,d2,w1,w2,w3,w4,w5,w6,w7,w8,w9,n1,n2,n3,k0,k1,k2,k3,k4]
  by_cases k5:crs (sb Q P) e>crs e f
  ·have:¬ z3y P e Q f:=fun h=>by unfold z3y at h; omega
   rw [if_neg this]
   simp only [g76,z0m,z0n,z0a,z0h,z0t,d1,d2,w1,w2,w3,w4,w5,w6,w7,w8,w9,n1,n2,n3,k0,k1,k2,k3,k4,k5]
  have hm:z3y P e Q f:= .inl ⟨by omega,by omega,by omega,by omega,by omega⟩
  have ff:=fin 1 hσ hm (by omega) (by omega) (by omega)
  simp only [Int.one_mul] at ff
  obtain ⟨⟨f1,f2,f3,f4⟩,⟨f5,f6⟩,f7,f8,f9,f10,f11⟩:=ff
  rw [if_pos hm]
  simp only [g76,z0m,z0n,z0a,z0h,z0t,y6z,d1,d2,w1,w2,w3,w4,w5,w6,w7,w8,w9,n1,n2,n3,k0,k1,k2,k3,k4,k5,f1,f2,f3,f4,f5,f6,List.drop_zero,List.take_succ_cons,List.take_zero,Nat.le_refl,f7,f8,f9,f10,f11,not_false_eq_true,show (3:Nat)≤1+1+1 by decide]
end Go.Am
end
