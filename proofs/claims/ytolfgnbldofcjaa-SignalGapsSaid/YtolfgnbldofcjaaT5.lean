/- Texts of this claim. -/
import Derived.Test.YtolfgnbldofcjaaT4
import Derived.Test.YtolfgnbldofcjaaProg
import Derived.KernelRfl
set_option linter.unusedVariables false
set_option linter.unusedSimpArgs false
set_option linter.unusedSectionVars false
set_option maxRecDepth 100000
set_option maxHeartbeats 0
noncomputable section
namespace Go.Am
def w55:Ctr:=
 ⟨57,[.list 2, .agg [.int .i64, .int .i64], .int .i64],[],[(.ret,⟨[(0, .bool)],[],1⟩)]⟩
def la57:List LA:=
 [⟨94,[false,true],7,⟨⟨[(0, .yld 6),(1, .bptr 5 0),(6, .list 2),(7, .int .i64),(8, .int .i64)],[.box [.list 2], .box [.int .i64, .int .i64], .box [.int .i64], .box [.bool], .box [.clo 84 [] [.bptr 2 0]], .box [.list 2], .loop Go.LoopState.ready Option.none 57 [Bool.false,Bool.true,Bool.false,Bool.true,Bool.true,Bool.true] 47 [(22, .clo 94 [] [.bptr 5 0]),(4, .bptr 1 0),(3, .bptr 0 0),(7, .bptr 4 0),(6, .bptr 3 0)]],33⟩,[(AX.ret,⟨[],[.box [.list 2], .box [.int .i64, .int .i64], .box [.int .i64], .box [.bool], .box [.clo 84 [] [.bptr 2 0]], .box [.list 2], .loop Go.LoopState.ready Option.none 57 [Bool.false,Bool.true,Bool.false,Bool.true,Bool.true,Bool.true] 47 [(22, .clo 94 [] [.bptr 5 0]),(4, .bptr 1 0),(3, .bptr 0 0),(7, .bptr 4 0),(6, .bptr 3 0)]],33⟩),(AX.ret,⟨[],[.box [.list 2], .box [.int .i64, .int .i64], .box [.int .i64], .box [.bool], .box [.clo 84 [] [.bptr 2 0]], .box [.list 2], .loop Go.LoopState.done (Option.some Go.Code.ret) 57 [Bool.false,Bool.true,Bool.false,Bool.true,Bool.true,Bool.true] 47 [(22, .clo 94 [] [.bptr 5 0]),(4, .bptr 1 0),(3, .bptr 0 0),(7, .bptr 4 0),(6, .bptr 3 0)]],33⟩),((AX.exit 0),⟨[],[.box [.list 2], .box [.int .i64, .int .i64], .box [.int .i64], .box [.bool], .box [.clo 84 [] [.bptr 2 0]], .box [.list 2], .loop Go.LoopState.ready Option.none 57 [Bool.false,Bool.true,Bool.false,Bool.true,Bool.true,Bool.true] 47 [(22, .clo 94 [] [.bptr 5 0]),(4, .bptr 1 0),(3, .bptr 0 0),(7, .bptr 4 0),(6, .bptr 3 0)]],33⟩)]⟩⟩]
def ja57:List JA:=
 [⟨57,[true,false,true,true,true],0,[(AX.normal,⟨[(6, .bptr 0 0)],[.box [.bool]],47⟩),(AX.ret,⟨[(6, .bptr 0 0)],[.box [.bool]],47⟩)]⟩,
 ⟨57,[false,true,false,true,false,true,false,true,true,true],19,[(AX.normal,⟨[(3, .bptr 0 0),(4, .bptr 1 0),(6, .bptr 3 0),(7, .bptr 4 0),(46, .bool)],[.box [.list 2], .box [.int .i64, .int .i64], .box [.int .i64], .box [.bool], .box [.clo 84 [] [.bptr 2 0]], .box [.list 2], .dead, .box [.int .i64, .int .i64], .dead, .dead, .dead, .dead, .dead, .dead, .dead, .dead, .dead, .dead, .box [.int .i64, .int .i64]],47⟩)]⟩]
def u0y:List CF:=
 []
def an57:Anns:=
 ⟨u0y,ja57,[]⟩
def u2h (p:Prim):(LD×T65)→Option ((LD×T65)⊕((LD×T12)⊕((LD×T12)⊕(LD×T12)))):=
 fun a=>opt.run _ (
 opt.ask _ (p.cmp .lss a.2.2.2.2.2.2.2.2.1 a.2.2.2.2.2.2.2.1) (
 opt.need _ (p.rowOk a.2.2.2.2.2.2.1 (p.nat a.2.2.2.2.2.2.2.2.1) [ci,ci])<|
 opt.need _ (p.cmp .geq a.2.2.2.2.2.2.2.2.1 (0:Int))<|
 opt.need _ (p.cmp .neq (p.ofNat (p.len a.2.2.2.2.2.1)) (0:Int))<|
 opt.need _ (p.rowOk a.2.2.2.2.2.1 (p.nat (p.ar .rem .i64 (p.ar .add .i64 a.2.2.2.2.2.2.2.2.1 (1:Int)) (p.ofNat (p.len a.2.2.2.2.2.1)))) [ci,ci])<|
 opt.need _ (p.cmp .geq (p.ar .rem .i64 (p.ar .add .i64 a.2.2.2.2.2.2.2.2.1 (1:Int)) (p.ofNat (p.len a.2.2.2.2.2.1))) (0:Int))<|
 opt.ask _ (bif (p.cmp .eql (p.ar .sub .i64 (p.rdI a.2.2.2.2.2.1 (p.nat (p.ar .rem .i64 (p.ar .add .i64 a.2.2.2.2.2.2.2.2.1 (1:Int)) (p.ofNat (p.len a.2.2.2.2.2.1)))) 0) (p.rdI a.2.2.2.2.2.2.1 (p.nat a.2.2.2.2.2.2.2.2.1) 0)) (0:Int)) then (bif (p.cmp .eql (p.ar .sub .i64 (p.rdI a.2.2.2.2.2.1 (p.nat (p.ar .rem .i64 (p.ar .add .i64 a.2.2.2.2.2.2.2.2.1 (1:Int)) (p.ofNat (p.len a.2.2.2.2.2.1)))) 1) (p.rdI a.2.2.2.2.2.2.1 (p.nat a.2.2.2.2.2.2.2.2.1) 1)) (0:Int)) then Bool.true else Bool.false) else Bool.false) (
 opt.ret _ (Sum.inr (Sum.inl (a.1,(a.2.1,(a.2.2.1,(a.2.2.2.1,(a.2.2.2.2.1,(a.2.2.2.2.2.1,()))))))))) (
 opt.need _ (p.and Bool.true (p.and Bool.true Bool.true))<|
 opt.bnd ((LD×T66)) _ (
 opt.run ((LD×T66)) (
 opt.ask _ (p.cmp .lss (p.ar .sub .i64 (p.ar .mul .i64 (p.ar .sub .i64 (p.rdI a.2.2.2.2.2.1 (p.nat (p.ar .rem .i64 (p.ar .add .i64 a.2.2.2.2.2.2.2.2.1 (1:Int)) (p.ofNat (p.len a.2.2.2.2.2.1)))) 0) (p.rdI a.2.2.2.2.2.2.1 (p.nat a.2.2.2.2.2.2.2.2.1) 0)) (p.ar .sub .i64 a.2.2.1 (p.ar .mul .i64 (p.rdI a.2.2.2.2.2.2.1 (p.nat a.2.2.2.2.2.2.2.2.1) 1) a.2.2.2.1))) (p.ar .mul .i64 (p.ar .sub .i64 (p.rdI a.2.2.2.2.2.1 (p.nat (p.ar .rem .i64 (p.ar .add .i64 a.2.2.2.2.2.2.2.2.1 (1:Int)) (p.ofNat (p.len a.2.2.2.2.2.1)))) 1) (p.rdI a.2.2.2.2.2.2.1 (p.nat a.2.2.2.2.2.2.2.2.1) 1)) (p.ar .sub .i64 a.2.1 (p.ar .mul .i64 (p.rdI a.2.2.2.2.2.2.1 (p.nat a.2.2.2.2.2.2.2.2.1) 0) a.2.2.2.1)))) (0:Int)) (
 opt.ret _ (a.1,(a.2.1,(a.2.2.1,(a.2.2.2.1,(a.2.2.2.2.1,(a.2.2.2.2.2.1,((p.rdI a.2.2.2.2.2.2.1 (p.nat a.2.2.2.2.2.2.2.2.1) 0),((p.rdI a.2.2.2.2.2.2.1 (p.nat a.2.2.2.2.2.2.2.2.1) 1),((p.ar .sub .i64 (p.rdI a.2.2.2.2.2.1 (p.nat (p.ar .rem .i64 (p.ar .add .i64 a.2.2.2.2.2.2.2.2.1 (1:Int)) (p.ofNat (p.len a.2.2.2.2.2.1)))) 0) (p.rdI a.2.2.2.2.2.2.1 (p.nat a.2.2.2.2.2.2.2.2.1) 0)),((p.ar .sub .i64 (p.rdI a.2.2.2.2.2.1 (p.nat (p.ar .rem .i64 (p.ar .add .i64 a.2.2.2.2.2.2.2.2.1 (1:Int)) (p.ofNat (p.len a.2.2.2.2.2.1)))) 1) (p.rdI a.2.2.2.2.2.2.1 (p.nat a.2.2.2.2.2.2.2.2.1) 1)),(Bool.true,())))))))))))) (
 opt.ask _ (p.cmp .eql (p.ofNat (p.len a.1)) (2:Int)) (
 opt.ret _ (a.1,(a.2.1,(a.2.2.1,(a.2.2.2.1,(a.2.2.2.2.1,(a.2.2.2.2.2.1,((p.rdI a.2.2.2.2.2.2.1 (p.nat a.2.2.2.2.2.2.2.2.1) 0),((p.rdI a.2.2.2.2.2.2.1 (p.nat a.2.2.2.2.2.2.2.2.1) 1),((p.ar .sub .i64 (p.rdI a.2.2.2.2.2.1 (p.nat (p.ar .rem .i64 (p.ar .add .i64 a.2.2.2.2.2.2.2.2.1 (1:Int)) (p.ofNat (p.len a.2.2.2.2.2.1)))) 0) (p.rdI a.2.2.2.2.2.2.1 (p.nat a.2.2.2.2.2.2.2.2.1) 0)),((p.ar .sub .i64 (p.rdI a.2.2.2.2.2.1 (p.nat (p.ar .rem .i64 (p.ar .add .i64 a.2.2.2.2.2.2.2.2.1 (1:Int)) (p.ofNat (p.len a.2.2.2.2.2.1)))) 1) (p.rdI a.2.2.2.2.2.2.1 (p.nat a.2.2.2.2.2.2.2.2.1) 1)),((p.cmp .lss (p.ar .add .i64 (p.ar .mul .i64 (p.ar .sub .i64 (p.rdI a.2.2.2.2.2.1 (p.nat (p.ar .rem .i64 (p.ar .add .i64 a.2.2.2.2.2.2.2.2.1 (1:Int)) (p.ofNat (p.len a.2.2.2.2.2.1)))) 0) (p.rdI a.2.2.2.2.2.2.1 (p.nat a.2.2.2.2.2.2.2.2.1) 0)) (p.ar .sub .i64 a.2.1 (p.ar .mul .i64 (p.rdI a.2.2.2.2.2.2.1 (p.nat a.2.2.2.2.2.2.2.2.1) 0) a.2.2.2.1))) (p.ar .mul .i64 (p.ar .sub .i64 (p.rdI a.2.2.2.2.2.1 (p.nat (p.ar .rem .i64 (p.ar .add .i64 a.2.2.2.2.2.2.2.2.1 (1:Int)) (p.ofNat (p.len a.2.2.2.2.2.1)))) 1) (p.rdI a.2.2.2.2.2.2.1 (p.nat a.2.2.2.2.2.2.2.2.1) 1)) (p.ar .sub .i64 a.2.2.1 (p.ar .mul .i64 (p.rdI a.2.2.2.2.2.2.1 (p.nat a.2.2.2.2.2.2.2.2.1) 1) a.2.2.2.1)))) (0:Int)),())))))))))))) (
 opt.ret _ (a.1,(a.2.1,(a.2.2.1,(a.2.2.2.1,(a.2.2.2.2.1,(a.2.2.2.2.2.1,((p.rdI a.2.2.2.2.2.2.1 (p.nat a.2.2.2.2.2.2.2.2.1) 0),((p.rdI a.2.2.2.2.2.2.1 (p.nat a.2.2.2.2.2.2.2.2.1) 1),((p.ar .sub .i64 (p.rdI a.2.2.2.2.2.1 (p.nat (p.ar .rem .i64 (p.ar .add .i64 a.2.2.2.2.2.2.2.2.1 (1:Int)) (p.ofNat (p.len a.2.2.2.2.2.1)))) 0) (p.rdI a.2.2.2.2.2.2.1 (p.nat a.2.2.2.2.2.2.2.2.1) 0)),((p.ar .sub .i64 (p.rdI a.2.2.2.2.2.1 (p.nat (p.ar .rem .i64 (p.ar .add .i64 a.2.2.2.2.2.2.2.2.1 (1:Int)) (p.ofNat (p.len a.2.2.2.2.2.1)))) 1) (p.rdI a.2.2.2.2.2.2.1 (p.nat a.2.2.2.2.2.2.2.2.1) 1)),(Bool.false,()))))))))))))))) fun b=>
 opt.ask _ b.2.2.2.2.2.2.2.2.2.2.1 (
 opt.ret _ (Sum.inr (Sum.inr (Sum.inl (b.1,(b.2.1,(b.2.2.1,(b.2.2.2.1,(Bool.false,(b.2.2.2.2.2.1,())))))))))) (
 opt.ret _ (Sum.inl (b.1,(b.2.1,(b.2.2.1,(b.2.2.2.1,(b.2.2.2.2.1,(b.2.2.2.2.2.1,(a.2.2.2.2.2.2.1,(a.2.2.2.2.2.2.2.1,((p.ar .add .i64 a.2.2.2.2.2.2.2.2.1 (1:Int)),()))))))))))))) (
 opt.ret _ (Sum.inr (Sum.inr (Sum.inr (a.1,(a.2.1,(a.2.2.1,(a.2.2.2.1,(a.2.2.2.2.1,(a.2.2.2.2.2.1,())))))))))))
def g57 (it:It):(p:Prim)→(LD×T7)→Option T2:=
 fun p x=>
 opt.ask _ (p.cmp .eql (p.ofNat (p.len x.1)) (1:Int)) (
 opt.need _ (p.rowOk x.1 (p.nat (0:Int)) [ci,ci])<|
 opt.need _ (p.and Bool.true (p.and Bool.true Bool.true))<|
 opt.ret _ ((bif (p.cmp .eql x.2.1 (p.ar .mul .i64 (p.rdI x.1 (p.nat (0:Int)) 0) x.2.2.2.1)) then (bif (p.cmp .eql x.2.2.1 (p.ar .mul .i64 (p.rdI x.1 (p.nat (0:Int)) 1) x.2.2.2.1)) then Bool.true else Bool.false) else Bool.false),())) (
 opt.alt T2 T2 _ (
 opt.run (((Bool×Unit)⊕(Bool×Unit))) (
 opt.alt ((LD×T12)) (((LD×T12)⊕(LD×T12))) _ (
 it _ _ (u2h p) (x.1,(x.2.1,(x.2.2.1,(x.2.2.2.1,(Bool.false,(x.1,(x.1,((p.ofNat (p.len x.1)),((0:Int),())))))))))) (fun a=>
 opt.ret _ (Sum.inl (a.2.2.2.2.1,()))) (fun b=>
 opt.alt ((LD×T12)) ((LD×T12)) _ (some b) (fun c=>
 opt.ret _ (Sum.inr (c.2.2.2.2.1,()))) (fun d=>
 opt.bnd ((LD×T12)) _ (some d) fun e=>
 opt.ret _ (Sum.inl (e.2.2.2.2.1,())))))) (fun f=>
 opt.ret _ (Bool.true,())) (fun g=>
 opt.bnd T2 _ (some g) fun h=>
 opt.ret _ (h.1,())))
def G57:=g57 it0
theorem v80:CtrOk PG w55 (G57 std):=okF (a:=an57) (l:=la57) (gN) (by kernel_rfl) fun _ _=>by kernel_rfl
def v03:Ctr:=
 ⟨77,[.int .i64],[],[(.ret,⟨[(0, .int .i64)],[],1⟩)]⟩
def la77:List LA:=
 []
def ja77:List JA:=
 []
def u0j:List CF:=
 []
def an77:Anns:=
 ⟨u0j,ja77,[]⟩
def G77:(p:Prim)→T1→Option T0:=
 fun p x=>
 opt.ret _ ((p.mm .gtr x.1 (p.ar .sub .i64 (0:Int) x.1)),())
theorem u3b:CtrOk PG v03 (G77 std):=okF (a:=an77) (l:=la77) (gN) (by kernel_rfl) fun _ _=>by kernel_rfl
def v01:Ctr:=
 ⟨93,[.list 1],[],[(.ret,⟨[(0, .int .i64)],[],1⟩)]⟩
def la93:List LA:=
 [⟨93,[false,true,false,true,true],0,⟨⟨[(3, .int .i64),(6, .list 1),(7, .int .i64),(8, .int .i64)],[],22⟩,[((AX.exit 0),⟨[(3, .int .i64)],[],22⟩)]⟩⟩,
 ⟨93,[false,true,true,false,false,true,true,false,false,true,false,true,true],0,⟨⟨[(3, .int .i64),(5, .int .i64),(6, .list 1),(7, .int .i64),(8, .int .i64)],[],22⟩,[((AX.exit 2),⟨[(3, .int .i64),(6, .list 1),(7, .int .i64),(8, .int .i64)],[],22⟩)]⟩⟩]
def ja93:List JA:=
 []
def v99:List CF:=
 [⟨v03,G77⟩]
def an93:Anns:=
 ⟨v99,ja93,[]⟩
def x9d (p:Prim):T54→Option ((Int×(Int×(LD×(Int×(Int×Unit)))))⊕(Int×(LD×(Int×(Int×Unit))))):=
 fun a=>opt.run _ (
 opt.ask _ (p.cmp .neq a.2.1 (0:Int)) (
 opt.need _ (p.cmp .neq a.2.1 (0:Int))<|
 opt.ret _ (Sum.inl (a.2.1,((p.ar .rem .i64 a.1 a.2.1),(a.2.2.1,(a.2.2.2.1,(a.2.2.2.2.1,()))))))) (
 opt.ret _ (Sum.inr (a.1,(a.2.2.1,(a.2.2.2.1,(a.2.2.2.2.1,())))))))
def x85 (it:It) (p:Prim):T50→Option ((Int×(LD×(Int×(Int×Unit))))⊕(Int×Unit)):=
 fun a=>opt.run _ (
 opt.ask _ (p.cmp .lss a.2.2.2.1 a.2.2.1) (
 opt.need _ (p.rowOk a.2.1 (p.nat a.2.2.2.1) [ci])<|
 opt.need _ (p.cmp .geq a.2.2.2.1 (0:Int))<|
 opt.bnd T0 _ (G77 p ((p.rdI a.2.1 (p.nat a.2.2.2.1) 0),())) fun b=>
 opt.bnd ((Int×(LD×(Int×(Int×Unit))))) _ (
 it _ _ (x9d p) (a.1,(b.1,(a.2.1,(a.2.2.1,(a.2.2.2.1,())))))) fun c=>
 opt.ret _ (Sum.inl (c.1,(c.2.1,(c.2.2.1,((p.ar .add .i64 c.2.2.2.1 (1:Int)),())))))) (
 opt.ret _ (Sum.inr (a.1,()))))
def g93 (it:It):(p:Prim)→(LD×Unit)→Option T0:=
 fun p x=>
 opt.bnd T0 _ (
 it _ _ (x85 it p) ((0:Int),(x.1,((p.ofNat (p.len x.1)),((0:Int),()))))) fun a=>
 opt.ret _ (a.1,())
def G93:=g93 it0
theorem u2y:CtrOk PG v01 (G93 std):=okF (a:=an93) (l:=la93) (gC u3b (gN)) (by kernel_rfl) fun _ _=>by kernel_rfl
def v04:Ctr:=
 ⟨65,[.int .i64, .int .i64],[],[(.ret,⟨[(0, .agg [.int .i64, .int .i64])],[],1⟩)]⟩
def la65:List LA:=
 []
def ja65:List JA:=
 []
def u0r:List CF:=
 [⟨v01,G93⟩]
def an65:Anns:=
 ⟨u0r,ja65,[]⟩
def g65 (it:It):(p:Prim)→T3→Option T4:=
 fun p x=>
 opt.need _ (p.and (p.leN (p.add 0 2) (p.len [[(D.int .i64 x.1)],[(D.int .i64 x.2.1)]])) Bool.true)<|
 opt.bnd T0 _ (g93 it p ((p.cut [[(D.int .i64 x.1)],[(D.int .i64 x.2.1)]] 0 2),())) fun a=>
 opt.need _ (p.cmp .neq a.1 (0:Int))<|
 opt.need _ (p.cmp .neq a.1 (0:Int))<|
 opt.ret _ ((p.ar .quo .i64 x.1 a.1),((p.ar .quo .i64 x.2.1 a.1),()))
def G65:=g65 it0
theorem u3c:CtrOk PG v04 (G65 std):=okF (a:=an65) (l:=la65) (gC u2y (gN)) (by kernel_rfl) fun _ _=>by kernel_rfl
def z47:Ctr:=
 ⟨71,[.agg [.int .i64, .int .i64], .agg [.int .i64, .int .i64]],[],[(.ret,⟨[(0, .bool)],[],1⟩)]⟩
def la71:List LA:=
 []
def ja71:List JA:=
 [⟨71,[false,false,true,true,true,true],0,[(AX.normal,⟨[(2, .bptr 0 0),(3, .bptr 1 0),(7, .int .i64),(8, .int .i64),(40, .bool)],[.box [.int .i64, .int .i64], .box [.int .i64, .int .i64]],53⟩)]⟩]
def v0c:(Prim→Tup (z47).scs→Option (STup (scss (z47).outs)))→List CF:=
 fun R=>[⟨z47,R⟩]
def an71:(Prim→Tup (z47).scs→Option (STup (scss (z47).outs)))→Anns:=
 fun R=>⟨v0c R,ja71,[]⟩
def G71:(Prim→Tup (z47).scs→Option (STup (scss (z47).outs)))→(p:Prim)→T10→Option T2:=
 fun R=>fun p x=>
 opt.need _ (p.cmp .neq x.2.1 (0:Int))<|
 opt.need _ (p.cmp .neq x.2.2.2.1 (0:Int))<|
 opt.ask _ (p.cmp .neq (p.ar .quo .i64 x.1 x.2.1) (p.ar .quo .i64 x.2.2.1 x.2.2.2.1)) (
 opt.ret _ ((p.cmp .lss (p.ar .quo .i64 x.1 x.2.1) (p.ar .quo .i64 x.2.2.1 x.2.2.2.1)),())) (
 opt.need _ (p.cmp .neq x.2.1 (0:Int))<|
 opt.need _ (p.cmp .neq x.2.2.2.1 (0:Int))<|
 opt.bnd T48 _ (
 opt.run T48 (
 opt.ask _ (p.cmp .eql (p.ar .rem .i64 x.1 x.2.1) (0:Int)) (
 opt.ret _ (x.1,(x.2.1,(x.2.2.1,(x.2.2.2.1,((p.ar .rem .i64 x.1 x.2.1),((p.ar .rem .i64 x.2.2.1 x.2.2.2.1),(Bool.true,())))))))) (
 opt.ret _ (x.1,(x.2.1,(x.2.2.1,(x.2.2.2.1,((p.ar .rem .i64 x.1 x.2.1),((p.ar .rem .i64 x.2.2.1 x.2.2.2.1),((p.cmp .eql (p.ar .rem .i64 x.2.2.1 x.2.2.2.1) (0:Int)),())))))))))) fun a=>
 opt.ask _ a.2.2.2.2.2.2.1 (
 opt.ret _ ((p.cmp .lss a.2.2.2.2.1 a.2.2.2.2.2.1),())) (
 opt.bnd T2 _ (R p (a.2.2.2.1,(a.2.2.2.2.2.1,(a.2.1,(a.2.2.2.2.1,()))))) fun b=>
 opt.ret _ (b.1,())))
def v2a:Nat→Prim→Tup (z47).scs→Option (STup (scss (z47).outs)):=
 fun n=>Nat.rec (motive:=fun _=>(Prim→Tup (z47).scs→Option (STup (scss (z47).outs)))) (fun _ _=>none) (fun _ f p x=>G71 f p x) n
def F71:Prim→Tup (z47).scs→Option (STup (scss (z47).outs)):=
 v2a 100
theorem eq71 (R:(Prim→Tup (z47).scs→Option (STup (scss (z47).outs)))) (p:Prim) (x:Tup (z47).scs):bodyRun opt p (autoEnv Go.Proofs.Try.prog) (mkOrc opt p (autoEnv Go.Proofs.Try.prog) 400 (an71 R) la71) 400 z47 x=G71 R p x:=by kernel_rfl
theorem v94 (R:(Prim→Tup (z47).scs→Option (STup (scss (z47).outs)))) (hR:CtrOk Go.Proofs.Try.prog z47 (R std)):GamOk Go.Proofs.Try.prog (v0c R):=by
 intro cf h
 simp only [v0c,List.mem_cons,List.not_mem_nil,or_false] at h
 rcases h with rfl
 ·exact hR
theorem x6s:z3j Go.Proofs.Try.prog 71:=enters_auto (b:=_) rfl (by kernel_rfl)
theorem w0t (R:(Prim→Tup (z47).scs→Option (STup (scss (z47).outs)))) (hR:CtrOk Go.Proofs.Try.prog z47 (R std)):CtrOk Go.Proofs.Try.prog z47 (fun x=>G71 R std x):=ctr_of_body (autoEnv_ok follows_mixed) (mkOrc_ok (autoEnv_ok follows_mixed) (v94 R hR) _) x6s (fun x=>eq71 R std x)
theorem w7m:∀ n,CtrOk Go.Proofs.Try.prog z47 (v2a n std)
 |0=>⟨x6s,fun x y h=>nomatch h⟩
 |n+1=>w0t (v2a n) (w7m n)
theorem ok71:CtrOk Go.Proofs.Try.prog z47 (F71 std):=w7m 100
def v5w:Ctr:=
 ⟨76,[.agg [.int .i64, .int .i64, .int .i64, .int .i64], .agg [.int .i64, .int .i64, .int .i64, .int .i64]],[],[(.ret,⟨[(0, .tuple [.agg [.int .i64, .int .i64, .int .i64], .bool])],[],1⟩)]⟩
def la76:List LA:=
 []
def ja76:List JA:=
 [⟨76,[true,false,true,true,true,true],0,[(AX.normal,⟨[(2, .bptr 0 0),(4, .bptr 1 0),(6, .int .i64),(8, .int .i64),(9, .int .i64)],[.box [.int .i64, .int .i64, .int .i64, .int .i64], .box [.int .i64, .int .i64, .int .i64]],101⟩)]⟩,
 ⟨76,[false,false,true,true,true,true,true],0,[(AX.normal,⟨[(2, .bptr 0 0),(4, .bptr 1 0),(6, .int .i64),(8, .int .i64),(57, .bool)],[.box [.int .i64, .int .i64, .int .i64, .int .i64], .box [.int .i64, .int .i64, .int .i64]],101⟩)]⟩]
def u0k:List CF:=
 [⟨v01,G93⟩]
def an76:Anns:=
 ⟨u0k,ja76,[]⟩
def g76 (it:It):(p:Prim)→(Int×(Int×(Int×(Int×(Int×(Int×(Int×(Int×Unit))))))))→Option T21:=
 fun p x=>
 opt.bnd T67 _ (
 opt.run T67 (
 opt.ask _ (p.cmp .lss (p.ar .sub .i64 (p.ar .mul .i64 x.2.2.1 x.2.2.2.2.2.2.2.1) (p.ar .mul .i64 x.2.2.2.1 x.2.2.2.2.2.2.1)) (0:Int)) (
 opt.ret _ (x.1,(x.2.1,(x.2.2.1,(x.2.2.2.1,((0:Int),((0:Int),((0:Int),((p.ar .sub .i64 (0:Int) (p.ar .sub .i64 (p.ar .mul .i64 x.2.2.1 x.2.2.2.2.2.2.2.1) (p.ar .mul .i64 x.2.2.2.1 x.2.2.2.2.2.2.1))),((p.ar .sub .i64 (0:Int) (p.ar .sub .i64 (p.ar .mul .i64 (p.ar .sub .i64 x.2.2.2.2.1 x.1) x.2.2.2.2.2.2.2.1) (p.ar .mul .i64 (p.ar .sub .i64 x.2.2.2.2.2.1 x.2.1) x.2.2.2.2.2.2.1))),((p.ar .sub .i64 (0:Int) (p.ar .sub .i64 (p.ar .mul .i64 (p.ar .sub .i64 x.2.2.2.2.1 x.1) x.2.2.2.1) (p.ar .mul .i64 (p.ar .sub .i64 x.2.2.2.2.2.1 x.2.1) x.2.2.1))),()))))))))))) (
 opt.ret _ (x.1,(x.2.1,(x.2.2.1,(x.2.2.2.1,((0:Int),((0:Int),((0:Int),((p.ar .sub .i64 (p.ar .mul .i64 x.2.2.1 x.2.2.2.2.2.2.2.1) (p.ar .mul .i64 x.2.2.2.1 x.2.2.2.2.2.2.1)),((p.ar .sub .i64 (p.ar .mul .i64 (p.ar .sub .i64 x.2.2.2.2.1 x.1) x.2.2.2.2.2.2.2.1) (p.ar .mul .i64 (p.ar .sub .i64 x.2.2.2.2.2.1 x.2.1) x.2.2.2.2.2.2.1)),((p.ar .sub .i64 (p.ar .mul .i64 (p.ar .sub .i64 x.2.2.2.2.1 x.1) x.2.2.2.1) (p.ar .mul .i64 (p.ar .sub .i64 x.2.2.2.2.2.1 x.2.1) x.2.2.1)),()))))))))))))) fun a=>
 opt.bnd T31 _ (
 opt.run T31 (
 opt.ask _ (p.cmp .eql a.2.2.2.2.2.2.2.1 (0:Int)) (
 opt.ret _ (a.1,(a.2.1,(a.2.2.1,(a.2.2.2.1,(a.2.2.2.2.1,(a.2.2.2.2.2.1,(a.2.2.2.2.2.2.1,(a.2.2.2.2.2.2.2.1,(a.2.2.2.2.2.2.2.2.1,(Bool.true,()))))))))))) (
 opt.ask _ (p.cmp .lss a.2.2.2.2.2.2.2.2.1 (0:Int)) (
 opt.ret _ (a.1,(a.2.1,(a.2.2.1,(a.2.2.2.1,(a.2.2.2.2.1,(a.2.2.2.2.2.1,(a.2.2.2.2.2.2.1,(a.2.2.2.2.2.2.2.1,(a.2.2.2.2.2.2.2.2.1,(Bool.true,()))))))))))) (
 opt.ask _ (p.cmp .gtr a.2.2.2.2.2.2.2.2.1 a.2.2.2.2.2.2.2.1) (
 opt.ret _ (a.1,(a.2.1,(a.2.2.1,(a.2.2.2.1,(a.2.2.2.2.1,(a.2.2.2.2.2.1,(a.2.2.2.2.2.2.1,(a.2.2.2.2.2.2.2.1,(a.2.2.2.2.2.2.2.2.1,(Bool.true,()))))))))))) (
 opt.ask _ (p.cmp .lss a.2.2.2.2.2.2.2.2.2.1 (0:Int)) (
 opt.ret _ (a.1,(a.2.1,(a.2.2.1,(a.2.2.2.1,(a.2.2.2.2.1,(a.2.2.2.2.2.1,(a.2.2.2.2.2.2.1,(a.2.2.2.2.2.2.2.1,(a.2.2.2.2.2.2.2.2.1,(Bool.true,()))))))))))) (
 opt.ret _ (a.1,(a.2.1,(a.2.2.1,(a.2.2.2.1,(a.2.2.2.2.1,(a.2.2.2.2.2.1,(a.2.2.2.2.2.2.1,(a.2.2.2.2.2.2.2.1,(a.2.2.2.2.2.2.2.2.1,((p.cmp .gtr a.2.2.2.2.2.2.2.2.2.1 a.2.2.2.2.2.2.2.1),())))))))))))))))) fun b=>
 opt.ask _ b.2.2.2.2.2.2.2.2.2.1 (
 opt.ret _ ((0:Int),((0:Int),((0:Int),(Bool.false,()))))) (
 opt.need _ (p.and (p.leN (p.add 0 3) (p.len [[(D.int .i64 (p.ar .add .i64 (p.ar .mul .i64 b.1 b.2.2.2.2.2.2.2.1) (p.ar .mul .i64 b.2.2.1 b.2.2.2.2.2.2.2.2.1)))],[(D.int .i64 (p.ar .add .i64 (p.ar .mul .i64 b.2.1 b.2.2.2.2.2.2.2.1) (p.ar .mul .i64 b.2.2.2.1 b.2.2.2.2.2.2.2.2.1)))],[(D.int .i64 b.2.2.2.2.2.2.2.1)]])) Bool.true)<|
 opt.bnd T0 _ (g93 it p ((p.cut [[(D.int .i64 (p.ar .add .i64 (p.ar .mul .i64 b.1 b.2.2.2.2.2.2.2.1) (p.ar .mul .i64 b.2.2.1 b.2.2.2.2.2.2.2.2.1)))],[(D.int .i64 (p.ar .add .i64 (p.ar .mul .i64 b.2.1 b.2.2.2.2.2.2.2.1) (p.ar .mul .i64 b.2.2.2.1 b.2.2.2.2.2.2.2.2.1)))],[(D.int .i64 b.2.2.2.2.2.2.2.1)]] 0 3),())) fun c=>
 opt.need _ (p.cmp .neq c.1 (0:Int))<|
 opt.need _ (p.cmp .neq c.1 (0:Int))<|
 opt.need _ (p.cmp .neq c.1 (0:Int))<|
 opt.ret _ ((p.ar .quo .i64 (p.ar .add .i64 (p.ar .mul .i64 b.1 b.2.2.2.2.2.2.2.1) (p.ar .mul .i64 b.2.2.1 b.2.2.2.2.2.2.2.2.1)) c.1),((p.ar .quo .i64 (p.ar .add .i64 (p.ar .mul .i64 b.2.1 b.2.2.2.2.2.2.2.1) (p.ar .mul .i64 b.2.2.2.1 b.2.2.2.2.2.2.2.2.1)) c.1),((p.ar .quo .i64 b.2.2.2.2.2.2.2.1 c.1),(Bool.true,())))))
def G76:=g76 it0
theorem ok76:CtrOk PG v5w (G76 std):=okF (a:=an76) (l:=la76) (gC u2y (gN)) (by kernel_rfl) fun _ _=>by kernel_rfl
def v52:Ctr:=
 ⟨68,[.agg [.int .i64, .int .i64], .agg [.int .i64, .int .i64, .int .i64, .int .i64]],[],[(.ret,⟨[(0, .tuple [.agg [.int .i64, .int .i64], .bool])],[],1⟩)]⟩
def la68:List LA:=
 []
def ja68:List JA:=
 [⟨68,[false,false,true,true,true],0,[(AX.normal,⟨[(3, .bptr 0 0),(4, .bptr 1 0),(6, .bptr 2 0),(8, .int .i64),(29, .bool)],[.box [.int .i64, .int .i64, .int .i64, .int .i64], .box [.int .i64, .int .i64], .box [.int .i64, .int .i64]],40⟩)]⟩]
def u0q:List CF:=
 [⟨v04,G65⟩]
def an68:Anns:=
 ⟨u0q,ja68,[]⟩
def g68 (it:It):(p:Prim)→T46→Option T18:=
 fun p x=>
 opt.bnd T31 _ (
 opt.run T31 (
 opt.ask _ (p.cmp .leq (p.ar .add .i64 (p.ar .mul .i64 x.2.2.2.2.1 (p.ar .sub .i64 x.1 x.2.2.1)) (p.ar .mul .i64 x.2.2.2.2.2.1 (p.ar .sub .i64 x.2.1 x.2.2.2.1))) (0:Int)) (
 opt.ret _ (x.2.2.1,(x.2.2.2.1,(x.2.2.2.2.1,(x.2.2.2.2.2.1,((0:Int),((0:Int),((p.ar .sub .i64 x.1 x.2.2.1),((p.ar .sub .i64 x.2.1 x.2.2.2.1),((p.ar .add .i64 (p.ar .mul .i64 x.2.2.2.2.1 x.2.2.2.2.1) (p.ar .mul .i64 x.2.2.2.2.2.1 x.2.2.2.2.2.1)),(Bool.true,()))))))))))) (
 opt.ret _ (x.2.2.1,(x.2.2.2.1,(x.2.2.2.2.1,(x.2.2.2.2.2.1,((0:Int),((0:Int),((p.ar .sub .i64 x.1 x.2.2.1),((p.ar .sub .i64 x.2.1 x.2.2.2.1),((p.ar .add .i64 (p.ar .mul .i64 x.2.2.2.2.1 x.2.2.2.2.1) (p.ar .mul .i64 x.2.2.2.2.2.1 x.2.2.2.2.2.1)),((p.cmp .geq (p.ar .add .i64 (p.ar .mul .i64 x.2.2.2.2.1 (p.ar .sub .i64 x.1 x.2.2.1)) (p.ar .mul .i64 x.2.2.2.2.2.1 (p.ar .sub .i64 x.2.1 x.2.2.2.1))) (p.ar .add .i64 (p.ar .mul .i64 x.2.2.2.2.1 x.2.2.2.2.1) (p.ar .mul .i64 x.2.2.2.2.2.1 x.2.2.2.2.2.1))),()))))))))))))) fun a=>
 opt.ask _ a.2.2.2.2.2.2.2.2.2.1 (
 opt.ret _ ((0:Int),((0:Int),(Bool.false,())))) (
 opt.bnd T4 _ (g65 it p ((p.ar .mul .i64 (p.ar .sub .i64 (p.ar .mul .i64 a.2.2.1 a.2.2.2.2.2.2.2.1) (p.ar .mul .i64 a.2.2.2.1 a.2.2.2.2.2.2.1)) (p.ar .sub .i64 (p.ar .mul .i64 a.2.2.1 a.2.2.2.2.2.2.2.1) (p.ar .mul .i64 a.2.2.2.1 a.2.2.2.2.2.2.1))),(a.2.2.2.2.2.2.2.2.1,()))) fun b=>
 opt.ret _ (b.1,(b.2.1,(Bool.true,()))))
def G68:=g68 it0
theorem ok68:CtrOk PG v52 (G68 std):=okF (a:=an68) (l:=la68) (gC u3c (gN)) (by kernel_rfl) fun _ _=>by kernel_rfl
end Go.Am
end
noncomputable section
namespace Go.Am
def v6h:Ctr:=
 ⟨21,[.agg [.list 2, .list 1], .agg [.int .i64, .int .i64]],[],[(.ret,⟨[(0, .tuple [.bool, .int .i64])],[],1⟩)]⟩
def la21:List LA:=
 []
def ja21:List JA:=
 []
def u1s:List CF:=
 [⟨w55,G57⟩,⟨w56,G53⟩,⟨x8t,G48⟩]
def an21:Anns:=
 ⟨u1s,ja21,[]⟩
def g21 (it:It):(p:Prim)→(LD×(LD×T3))→Option ((Bool×(Int×Unit))):=
 fun p x=>
 opt.alt T0 ((LD×(LD×(LD×T1)))) _ (g48 it p (x.1,(x.2.1,()))) (fun a=>
 opt.ask _ (p.cmp .neq a.1 (0:Int)) (
 opt.ret _ (Bool.false,(a.1,()))) (
 opt.need _ (p.and Bool.true (p.and Bool.true (p.and (p.leN (p.add 0 1) (p.len [[(D.int .i64 x.2.2.1),(D.int .i64 x.2.2.2.1)]])) Bool.true)))<|
 opt.bnd T2 _ (g53 it p ((-1099511627776:Int),((1099511627776:Int),((p.cut [[(D.int .i64 x.2.2.1),(D.int .i64 x.2.2.2.1)]] 0 1),())))) fun b=>
 opt.ask _ (bif b.1 then Bool.false else Bool.true) (
 opt.ret _ (Bool.false,((3:Int),()))) (
 opt.no _ 41))) (fun c=>
 opt.bnd ((LD×(LD×(LD×T1)))) _ (some c) fun d=>
 opt.ask _ (p.cmp .neq d.2.2.2.1 (0:Int)) (
 opt.ret _ (Bool.false,(d.2.2.2.1,()))) (
 opt.need _ (p.and Bool.true (p.and Bool.true (p.and (p.leN (p.add 0 1) (p.len [[(D.int .i64 x.2.2.1),(D.int .i64 x.2.2.2.1)]])) Bool.true)))<|
 opt.bnd T2 _ (g53 it p ((-1099511627776:Int),((1099511627776:Int),((p.cut [[(D.int .i64 x.2.2.1),(D.int .i64 x.2.2.2.1)]] 0 1),())))) fun e=>
 opt.ask _ (bif e.1 then Bool.false else Bool.true) (
 opt.ret _ (Bool.false,((3:Int),()))) (
 opt.bnd T2 _ (g57 it p (d.2.2.1,(x.2.2.1,(x.2.2.2.1,((1:Int),()))))) fun f=>
 opt.ret _ (f.1,((0:Int),())))))
def G21:=g21 it0
theorem ok21:CtrOk PG v6h (G21 std):=okF (a:=an21) (l:=la21) (gC v80 (gC v81 (gC v2n (gN)))) (by kernel_rfl) fun _ _=>by kernel_rfl
def v6g:Ctr:=
 ⟨23,[.agg [.list 2, .list 1], .list 2],[],[(.ret,⟨[(0, .tuple [.agg [.int .i64, .int .i64], .int .i64])],[],1⟩)]⟩
def la23:List LA:=
 [⟨23,[false,true,false,true,true,true,true],0,⟨⟨[(4, .bptr 0 0),(8, .list 2),(37, .list 2),(38, .int .i64),(39, .int .i64)],[.box [.int .i64, .int .i64]],54⟩,[(AX.ret,⟨[(4, .bptr 0 0),(5, .int .i64)],[.box [.int .i64, .int .i64]],54⟩),((AX.exit 1),⟨[(4, .bptr 0 0)],[.box [.int .i64, .int .i64]],54⟩)]⟩⟩]
def ja23:List JA:=
 [⟨23,[true,true,true,false,false,true,true],0,[(AX.ret,⟨[(4, .bptr 0 0),(5, .int .i64)],[.box [.int .i64, .int .i64]],54⟩),(AX.normal,⟨[(1, .list 2),(4, .bptr 0 0),(6, .nilp)],[.box [.int .i64, .int .i64]],54⟩),(AX.normal,⟨[(1, .list 2),(4, .bptr 0 0),(6, .bptr 1 0)],[.box [.int .i64, .int .i64], .box [.list 2, .list 1, .list 2]],54⟩)]⟩,
 ⟨23,[true,false,false,true,true],0,[(AX.ret,⟨[(4, .bptr 0 0),(5, .int .i64)],[.box [.int .i64, .int .i64]],54⟩),(AX.normal,⟨[(1, .list 2),(4, .bptr 0 0),(6, .nilp)],[.box [.int .i64, .int .i64]],54⟩),(AX.normal,⟨[(1, .list 2),(4, .bptr 0 0),(6, .bptr 1 0)],[.box [.int .i64, .int .i64], .box [.list 2, .list 1, .list 2]],54⟩)]⟩]
def u1r:List CF:=
 [⟨w55,G57⟩,⟨v07,G59⟩,⟨v06,G60⟩,⟨w56,G53⟩,⟨v09,G50⟩,⟨x8t,G48⟩]
def an23:Anns:=
 ⟨u1r,ja23,[]⟩
def v1m (it:It) (p:Prim):T68→Option T69:=
 fun a=>opt.run _ (
 opt.ask _ (p.cmp .lss a.2.2.2.2.2.1 a.2.2.2.2.1) (
 opt.need _ (p.rowOk a.2.2.2.1 (p.nat a.2.2.2.2.2.1) [ci,ci])<|
 opt.need _ (p.cmp .geq a.2.2.2.2.2.1 (0:Int))<|
 opt.bnd T2 _ (g57 it p (a.2.2.1,((p.rdI a.2.2.2.1 (p.nat a.2.2.2.2.2.1) 0),((p.rdI a.2.2.2.1 (p.nat a.2.2.2.2.2.1) 1),((1:Int),()))))) fun b=>
 opt.ask _ (bif b.1 then Bool.false else Bool.true) (
 opt.ret _ (Sum.inr (Sum.inl ((p.rdI a.2.2.2.1 (p.nat a.2.2.2.2.2.1) 0),((p.rdI a.2.2.2.1 (p.nat a.2.2.2.2.2.1) 1),((0:Int),())))))) (
 opt.ret _ (Sum.inl (a.1,(a.2.1,(a.2.2.1,(a.2.2.2.1,(a.2.2.2.2.1,((p.ar .add .i64 a.2.2.2.2.2.1 (1:Int)),()))))))))) (
 opt.ret _ (Sum.inr (Sum.inr (a.1,(a.2.1,()))))))
def v1n (it:It) (p:Prim):T68→Option T69:=
 fun a=>opt.run _ (
 opt.ask _ (p.cmp .lss a.2.2.2.2.2.1 a.2.2.2.2.1) (
 opt.need _ (p.rowOk a.2.2.2.1 (p.nat a.2.2.2.2.2.1) [ci,ci])<|
 opt.need _ (p.cmp .geq a.2.2.2.2.2.1 (0:Int))<|
 opt.bnd T2 _ (g57 it p (a.2.2.1,((p.rdI a.2.2.2.1 (p.nat a.2.2.2.2.2.1) 0),((p.rdI a.2.2.2.1 (p.nat a.2.2.2.2.2.1) 1),((1:Int),()))))) fun b=>
 opt.ask _ (bif b.1 then Bool.false else Bool.true) (
 opt.ret _ (Sum.inr (Sum.inl ((p.rdI a.2.2.2.1 (p.nat a.2.2.2.2.2.1) 0),((p.rdI a.2.2.2.1 (p.nat a.2.2.2.2.2.1) 1),((0:Int),())))))) (
 opt.ret _ (Sum.inl (a.1,(a.2.1,(a.2.2.1,(a.2.2.2.1,(a.2.2.2.2.1,((p.ar .add .i64 a.2.2.2.2.2.1 (1:Int)),()))))))))) (
 opt.ret _ (Sum.inr (Sum.inr (a.1,(a.2.1,()))))))
def g23 (it:It):(p:Prim)→(LD×(LD×(LD×Unit)))→Option T5:=
 fun p x=>
 opt.alt T0 ((LD×(LD×(LD×T1)))) _ (g48 it p (x.1,(x.2.1,()))) (fun a=>
 opt.alt T5 T32 _ (
 opt.run T33 (
 opt.ask _ (p.cmp .neq a.1 (0:Int)) (
 opt.ret _ (Sum.inl ((0:Int),((0:Int),(a.1,()))))) (
 opt.bnd T2 _ (G50 p (x.2.2.1,())) fun b=>
 opt.alt T5 T32 _ (
 opt.run T33 (
 opt.ask _ (bif b.1 then Bool.false else Bool.true) (
 opt.ret _ (Sum.inl ((0:Int),((0:Int),((6:Int),()))))) (
 opt.bnd T2 _ (g53 it p ((-10000:Int),((10000:Int),(x.2.2.1,())))) fun c=>
 opt.ask _ (bif c.1 then Bool.false else Bool.true) (
 opt.ret _ (Sum.inl ((0:Int),((0:Int),((3:Int),()))))) (
 opt.ret _ (Sum.inr (Sum.inl ((0:Int),((0:Int),(x.2.2.1,()))))))))) (fun d=>
 opt.ret _ (Sum.inl (d.1,(d.2.1,(d.2.2.1,()))))) (fun e=>
 opt.alt T22 T15 _ (some e) (fun f=>
 opt.ret _ (Sum.inr (Sum.inl (f.1,(f.2.1,(f.2.2.1,())))))) (fun g=>
 opt.bnd T15 _ (some g) fun h=>
 opt.ret _ (Sum.inr (Sum.inr (h.1,(h.2.1,(h.2.2.1,(h.2.2.2.1,(h.2.2.2.2.1,(h.2.2.2.2.2.1,()))))))))))))) (fun i=>
 opt.ret _ (i.1,(i.2.1,(i.2.2.1,())))) (fun j=>
 opt.alt T22 T15 _ (some j) (fun k=>
 opt.bnd ((LD×Unit)) _ (g60 it p (k.2.2.1,())) fun l=>
 opt.bnd ((LD×Unit)) _ (g59 it p (l.1,())) fun m=>
 opt.no _ 41) (fun n=>
 opt.bnd T15 _ (some n) fun o=>
 opt.bnd ((LD×Unit)) _ (g60 it p (o.2.2.2.2.2.1,())) fun q=>
 opt.bnd ((LD×Unit)) _ (g59 it p (q.1,())) fun r=>
 opt.alt T5 T4 _ (
 it _ _ (v1n it p) (o.1,(o.2.1,(r.1,(o.2.2.2.2.1,((p.ofNat (p.len o.2.2.2.2.1)),((0:Int),()))))))) (fun t=>
 opt.ret _ (t.1,(t.2.1,(t.2.2.1,())))) (fun u=>
 opt.bnd T4 _ (some u) fun v=>
 opt.ret _ ((0:Int),((0:Int),((5:Int),()))))))) (fun w=>
 opt.bnd ((LD×(LD×(LD×T1)))) _ (some w) fun z=>
 opt.alt T5 T32 _ (
 opt.run T33 (
 opt.ask _ (p.cmp .neq z.2.2.2.1 (0:Int)) (
 opt.ret _ (Sum.inl ((0:Int),((0:Int),(z.2.2.2.1,()))))) (
 opt.bnd T2 _ (G50 p (x.2.2.1,())) fun a1=>
 opt.alt T5 T32 _ (
 opt.run T33 (
 opt.ask _ (bif a1.1 then Bool.false else Bool.true) (
 opt.ret _ (Sum.inl ((0:Int),((0:Int),((6:Int),()))))) (
 opt.bnd T2 _ (g53 it p ((-10000:Int),((10000:Int),(x.2.2.1,())))) fun b1=>
 opt.ask _ (bif b1.1 then Bool.false else Bool.true) (
 opt.ret _ (Sum.inl ((0:Int),((0:Int),((3:Int),()))))) (
 opt.ret _ (Sum.inr (Sum.inr ((0:Int),((0:Int),(z.1,(z.2.1,(z.2.2.1,(x.2.2.1,())))))))))))) (fun c1=>
 opt.ret _ (Sum.inl (c1.1,(c1.2.1,(c1.2.2.1,()))))) (fun d1=>
 opt.alt T22 T15 _ (some d1) (fun e1=>
 opt.ret _ (Sum.inr (Sum.inl (e1.1,(e1.2.1,(e1.2.2.1,())))))) (fun f1=>
 opt.bnd T15 _ (some f1) fun g1=>
 opt.ret _ (Sum.inr (Sum.inr (g1.1,(g1.2.1,(g1.2.2.1,(g1.2.2.2.1,(g1.2.2.2.2.1,(g1.2.2.2.2.2.1,()))))))))))))) (fun h1=>
 opt.ret _ (h1.1,(h1.2.1,(h1.2.2.1,())))) (fun i1=>
 opt.alt T22 T15 _ (some i1) (fun j1=>
 opt.bnd ((LD×Unit)) _ (g60 it p (j1.2.2.1,())) fun k1=>
 opt.bnd ((LD×Unit)) _ (g59 it p (k1.1,())) fun l1=>
 opt.no _ 41) (fun m1=>
 opt.bnd T15 _ (some m1) fun n1=>
 opt.bnd ((LD×Unit)) _ (g60 it p (n1.2.2.2.2.2.1,())) fun o1=>
 opt.bnd ((LD×Unit)) _ (g59 it p (o1.1,())) fun q1=>
 opt.alt T5 T4 _ (
 it _ _ (v1m it p) (n1.1,(n1.2.1,(q1.1,(n1.2.2.2.2.1,((p.ofNat (p.len n1.2.2.2.2.1)),((0:Int),()))))))) (fun r1=>
 opt.ret _ (r1.1,(r1.2.1,(r1.2.2.1,())))) (fun t1=>
 opt.bnd T4 _ (some t1) fun u1=>
 opt.ret _ ((0:Int),((0:Int),((5:Int),())))))))
def G23:=g23 it0
theorem ok23:CtrOk PG v6g (G23 std):=okF (a:=an23) (l:=la23) (gC v80 (gC u3f (gC u3e (gC v81 (gC u3h (gC v2n (gN))))))) (by kernel_rfl) fun _ _=>by kernel_rfl
end Go.Am
end
section
namespace M06
def ml (a:Pt) (den:Int):Pt:=(a.1*den,a.2*den)
def y65 (n:Nat) (a b p:Pt) (den:Int):Bool:=if crs (sb b a) (sb p (ml a den))<0 then false else if n=2 then !decide (dt (sb b a) (sb p (ml a den))<0) else true
def inC (c:List Pt) (p:Pt) (den:Int):Bool:=
 if c.length=1 then decide (p=ml (c.getD 0 (0,0)) den) else (List.range c.length).all fun i=>y65 c.length (c.getD i (0,0)) (c.getD ((i+1) % c.length) (0,0)) p den
def InH (S:List Pt) (p:Pt) (den:Int):Prop:=∀ d:Pt,∃ x∈S,0≤crs d (sb p (ml x den))
theorem w37 (p a b:Pt) (k:Int) (d:Pt):crs d (sb p (ml b k))=crs d (sb p (ml a k))+k*crs d (sb a b):=by simp only [crs,sb,ml]; grind
theorem InH.sub {S T:List Pt} {p:Pt} {k:Int} (h:InH S p k) (hs:∀ x∈S,x∈T):InH T p k:=fun d=>by
 obtain ⟨x,hx,h0⟩:=h d
 exact ⟨x,hs x hx,h0⟩
theorem w18 {S c:List Pt} (h:Cyc S c) (d:Pt):∃ a∈c,∀ x∈S,0≤crs d (sb x a):=by
 by_cases hd:d=(0,0)
 ·subst hd
  match c,h with
  |a::r,_=>exact ⟨a,by simp,fun x _=>by simp [crs]⟩
 ·have h1:=z64 h hd
  have h2:=z64 (z2a h) hd
  exact ⟨_,h2.ina,h1.left⟩
theorem z9y {S c:List Pt} (h:Cyc S c) {p:Pt} {k:Int} (hk:0≤k):InH S p k↔InH c p k:=by
 refine ⟨fun hp d=>?_,fun hp=>hp.sub (z4b h)⟩
 obtain ⟨x,hx,h0⟩:=hp d
 obtain ⟨a,ha,hall⟩:=w18 h d
 refine ⟨a,ha,?_⟩
 rw [w37 p x a k d]
 have:=Int.mul_nonneg hk (hall x hx)
 omega
theorem x4m {S:List Pt} {q a b:Pt} (hq:q∈S) (h1:Nx S q a) (h2:Nx S a b) (h0:crs (sb a q) (sb b a)=0):q=b:=by
 have z1:cr q a b=0:=by
  have e:cr q a b=crs (sb a q) (sb b a):=by simp only [cr,crs,sb]; grind
  omega
 have z2:cr a b q=0:=by
  have e:cr a b q=crs (sb a q) (sb b a):=by simp only [cr,crs,sb]; grind
  omega
 have d1:=((h1.2.2 b h2.1).2 z1).1
 refine w0u h2 hq z2 ?_
 have hu:=z01 (u:=sb a q) (fun e=>h1.2.1 (z1g.1 e).symm)
 have hl:=lag (sb a q) (sb b a)
 rw [h0] at hl
 have e1:far a q=dt (sb a q) (sb a q):=by simp only [far,dt,sb]
 have e2:far a b=dt (sb b a) (sb b a):=by simp only [far,dt,sb]; grind
 have e3:dt (sb a q) (sb b q)=dt (sb a q) (sb a q)+dt (sb a q) (sb b a):=by simp only [dt,sb]; grind
 have d2:=((h2.2.2 q hq).2 z2).1
 have e4:dt (sb b a) (sb q a)= - dt (sb a q) (sb b a):=by simp only [dt,sb]; grind
 rw [e1,e2]
 generalize dt (sb a q) (sb a q)=n at*
 generalize dt (sb b a) (sb b a)=m at*
 generalize dt (sb a q) (sb b a)=t at*
 have hm:(-t)*(-t)≤n*n:=Int.mul_le_mul (by omega) (by omega) (by omega) (by omega)
 rw [Int.neg_mul_neg] at hm
 have hnm:n*m≤n*n:=by omega
 refine Classical.byContradiction fun hc=>?_
 have:=Int.mul_lt_mul_of_pos_left (show n<m by omega) hu
 omega
theorem getD_some {α:Type} {l:List α} {i:Nat} {a d:α} (h:l[i]?=some a):l.getD i d=a:=by simp [List.getD_eq_getElem?_getD,h]
theorem z65 {c:List Pt} (h:Cyc c c) (h2:2≤c.length) {a b:Pt} (ha:a∈c) (hn:Nx c a b):∃ i,i<c.length∧c[i]?=some a∧c[(i+1) % c.length]?=some b:=by
 obtain ⟨i,hi⟩:=List.getElem?_of_mem ha
 have hil:=(List.getElem?_eq_some_iff.1 hi).1
 have hx:∃ y,c[(i+1) % c.length]?=some y:=⟨_,List.getElem?_eq_getElem (Nat.mod_lt _ (by omega))⟩
 obtain ⟨y,hy⟩:=hx
 have:=y1f hn (z8t h h2 hi hy)
 subst this
 exact ⟨i,hil,hi,hy⟩
theorem x14 {α:Type} {l:List α} (h:l.Nodup) {i j:Nat} {a:α} (hi:l[i]?=some a) (hj:l[j]?=some a):i=j:=by
 obtain ⟨i1,i2⟩:=List.getElem?_eq_some_iff.1 hi
 obtain ⟨j1,j2⟩:=List.getElem?_eq_some_iff.1 hj
 have hp:=List.pairwise_iff_getElem.1 h
 rcases Nat.lt_trichotomy i j with k|k|k
 ·exact absurd (i2.trans j2.symm) (hp i j i1 j1 k)
 ·exact k
 ·exact absurd (j2.trans i2.symm) (hp j i j1 i1 k)
theorem z7m {n:Nat} {a b p:Pt} {k:Int}:y65 n a b p k=true↔0≤crs (sb b a) (sb p (ml a k))∧(n=2→0≤dt (sb b a) (sb p (ml a k))):=by
 unfold y65
 split
 ·rename_i h
  exact ⟨fun h=>by simp at h,fun h'=>by omega⟩
 ·rename_i h
  split
  ·rename_i h2
   rw [Bool.not_eq_true',decide_eq_false_iff_not]
   exact ⟨fun h'=>⟨by omega,fun _=>by omega⟩,fun h'=>by have:=h'.2 h2; omega⟩
  ·rename_i h2
   exact ⟨fun _=>⟨by omega,fun e=>absurd e h2⟩,fun _=>rfl⟩
theorem y2h {S c:List Pt} (h:Cyc S c) {p:Pt} {k:Int} (hk:0<k):inC c p k=true↔InH c p k:=by
 have hc:=z2a h
 have hne:1≤c.length:=by
  match c,h with
  |a::r,_=>simp
 unfold inC
 by_cases h1:c.length=1
 ·rw [if_pos h1]
  obtain ⟨a,rfl⟩:∃ a,c=[a]:=by
   match c,h1 with
   |[a],_=>exact ⟨a,rfl⟩
  show decide (p=ml a k)=true↔_
  rw [decide_eq_true_eq]
  constructor
  ·rintro rfl d
   exact ⟨a,by simp,by simp [crs,sb]⟩
  ·intro hp
   have q:∀ d:Pt,0≤crs d (sb p (ml a k)):=fun d=>by
    obtain ⟨x,hx,h0⟩:=hp d
    simp at hx; subst hx; exact h0
   have q1:=q (1,0)
   have q2:=q (-1,0)
   have q3:=q (0,1)
   have q4:=q (0, -1)
   simp only [crs,sb] at q1 q2 q3 q4
   exact Prod.ext (by omega) (by omega)
 ·have h2:2≤c.length:=by omega
  rw [if_neg h1,List.all_eq_true]
  constructor
  ·intro hall
   have side:∀ {a b:Pt},a∈c→Nx c a b→0≤crs (sb b a) (sb p (ml a k))∧(c.length=2→0≤dt (sb b a) (sb p (ml a k))):=by
    intro a b ha hn
    obtain ⟨i,hi,i1,i2⟩:=z65 hc h2 ha hn
    have:=hall i (List.mem_range.2 hi)
    rw [getD_some i1,getD_some i2] at this
    exact z7m.1 this
   intro d
   by_cases hd:d=(0,0)
   ·subst hd
    obtain ⟨a,ha⟩:∃ a,a∈c:=by
     match c,hne with
     |a::r,_=>exact ⟨a,by simp⟩
    exact ⟨a,ha,by simp [crs]⟩
   ·obtain ⟨α,a1,_,a3⟩:∃ α,α∈c∧True∧((∃ β,Nx c α β∧z6r d (sb β α))∨∃ q β,q∈c∧Nx c q α∧Nx c α β∧0<crs (sb α q) d∧0<crs d (sb β α)):=by
     match c,hc,h2 with
     |a::b::r,hc,_=>
      obtain ⟨α,k1,k2,k3⟩:=w19 hc hd
      exact ⟨α,k1,trivial,k3.imp (fun ⟨β,x,y,_⟩=>⟨β,x,y⟩) (fun ⟨_,x⟩=>x)⟩
    refine ⟨α,a1,?_⟩
    rcases a3 with ⟨β,b1,b2⟩|⟨q,β,b1,b2,b3,b4,b5⟩
    ·have hs:=(side a1 b1).1
     have hm:=(b2.symm.mul (sb p (ml α k))).1
     exact (z8i (z01 b2.symm.ne) b2.symm.2 hm).1.2 hs
    ·have s1:=(side b1 b2).1
     have s2:=side a1 b3
     have e1:crs (sb α q) (sb p (ml q k))=crs (sb α q) (sb p (ml α k)):=by simp only [crs,sb,ml]; grind
     rw [e1] at s1
     have hD:0≤crs (sb α q) (sb β α):=by
      have:=(b2.2.2 β b3.1).1
      have e:cr q α β=crs (sb α q) (sb β α):=by simp only [cr,crs,sb]; grind
      omega
     have hflat:crs (sb α q) (sb β α)=0→c.length=2:=by
      intro h0
      have hqb:=x4m b1 b2 b3 h0
      subst hqb
      obtain ⟨i,i0,i1,i2⟩:=z65 hc h2 a1 b3
      obtain ⟨j,j0,j1,j2⟩:=z65 hc h2 b1 b2
      have hnd:=y5z hc
      have x1:=x14 hnd i1 j2
      have x2:=x14 hnd i2 j1
      by_cases w1:i+1<c.length
      ·rw [Nat.mod_eq_of_lt w1] at x2
       by_cases w2:j+1<c.length
       ·rw [Nat.mod_eq_of_lt w2] at x1; omega
       ·have:j+1=c.length:=by omega
        rw [this,Nat.mod_self] at x1; omega
      ·have:i+1=c.length:=by omega
       rw [this,Nat.mod_self] at x2
       by_cases w2:j+1<c.length
       ·rw [Nat.mod_eq_of_lt w2] at x1; omega
       ·omega
     have hn:sb β α≠(0,0):=fun e=>b3.2.1 (z1g.1 e).symm
     generalize sb α q=u at*
     generalize sb β α=n at*
     generalize sb p (ml α k)=v at*
     have id1:crs u n*crs d v=crs d n*crs u v+crs u d*crs n v:=by simp only [crs]; grind
     have m1:=Int.mul_nonneg (Int.le_of_lt b5) s1
     have m2:=Int.mul_nonneg (Int.le_of_lt b4) s2.1
     rcases Int.lt_or_eq_of_le hD with hD|hD
     ·refine Classical.byContradiction fun hc=>?_
      have:=Int.mul_neg_of_pos_of_neg hD (Int.not_le.1 hc)
      omega
     ·have hdt:=s2.2 (hflat hD.symm)
      rw [←hD,Int.zero_mul] at id1
      have z2:crs u d*crs n v=0:=by omega
      have z2:crs n v=0:=by rcases Int.mul_eq_zero.1 z2 with h|h<;>omega
      have id2:dt n n*crs d v=dt n v*crs d n+crs n v*dt n d:=by simp only [crs,dt]; grind
      rw [z2,Int.zero_mul,Int.add_zero] at id2
      have m3:=Int.mul_nonneg hdt (Int.le_of_lt b5)
      refine Classical.byContradiction fun hc=>?_
      have:=Int.mul_neg_of_pos_of_neg (z01 hn) (Int.not_le.1 hc)
      omega
  ·intro hp i hi
   have hi:=List.mem_range.1 hi
   obtain ⟨a,ha⟩:∃ a,c[i]?=some a:=⟨_,List.getElem?_eq_getElem hi⟩
   obtain ⟨b,hb⟩:∃ b,c[(i+1) % c.length]?=some b:=⟨_,List.getElem?_eq_getElem (Nat.mod_lt _ (by omega))⟩
   rw [getD_some ha,getD_some hb,z7m]
   have hn:=z8t hc h2 ha hb
   refine ⟨?_,fun hl=>?_⟩
   ·obtain ⟨x,hx,h0⟩:=hp (sb b a)
    have:=(hn.2.2 x hx).1
    have e:cr a b x=crs (sb b a) (sb x a):=rfl
    rw [w37 p x a k]
    have:=Int.mul_nonneg (Int.le_of_lt hk) (show 0≤crs (sb b a) (sb x a) by omega)
    omega
   ·
    obtain ⟨x,hx,h0⟩:=hp ((sb b a).2, -(sb b a).1)
    have hab:x=a∨x=b:=by
     match c,hl,ha,hb,hx with
     |[u,v],_,ha,hb,hx=>
      have hi2:i<2:=by simpa using hi
      have:i=0∨i=1:=by omega
      rcases this with rfl|rfl
      ·simp at ha hb hx; subst ha; subst hb; exact hx
      ·simp at ha hb hx; subst ha; subst hb; exact hx.symm
    have e:∀ v:Pt,crs ((sb b a).2, -(sb b a).1) v=dt (sb b a) v:=fun v=>by simp only [crs,dt]; grind
    rw [e] at h0
    rcases hab with rfl|rfl
    ·exact h0
    ·have e2:dt (sb x a) (sb p (ml a k))=dt (sb x a) (sb p (ml x k))+k*dt (sb x a) (sb x a):=by simp only [dt,sb,ml]; grind
     rw [e2]
     have:=Int.mul_nonneg (Int.le_of_lt hk) (z2r (sb x a))
     omega
end M06
end
section
namespace Go.Am
open M06
def Big (p:Pt):Prop:=z0s (-1099511627776) 1099511627776 p
theorem z3a {a b A B:Int} (hA:0≤A) (h1: -A≤a) (h2:a≤A) (h3: -B≤b) (h4:b≤B): -(A*B)≤a*b∧a*b≤A*B:=by
 have e1:=Int.mul_nonneg (show 0≤A - a by omega) (show 0≤B - b by omega)
 have e2:=Int.mul_nonneg (show 0≤A+a by omega) (show 0≤B+b by omega)
 have e3:=Int.mul_nonneg (show 0≤A - a by omega) (show 0≤B+b by omega)
 have e4:=Int.mul_nonneg (show 0≤A+a by omega) (show 0≤B - b by omega)
 simp only [Int.sub_mul,Int.add_mul,Int.mul_sub,Int.mul_add] at e1 e2 e3 e4
 omega
theorem y64 {a b p:Pt} {den:Int} (ha:z0s (-10000) 10000 a) (hb:z0s (-10000) 10000 b) (hp:Big p) (hd:1≤den) (hd2:den≤268435456):
  (IntKind.i64.wrap (b.1 - a.1)=(sb b a).1∧IntKind.i64.wrap (b.2 - a.2)=(sb b a).2)∧
  (IntKind.i64.wrap (a.1*den)=(ml a den).1∧IntKind.i64.wrap (a.2*den)=(ml a den).2)∧
  (IntKind.i64.wrap (p.1 - (ml a den).1)=(sb p (ml a den)).1∧IntKind.i64.wrap (p.2 - (ml a den).2)=(sb p (ml a den)).2)∧
  (IntKind.i64.wrap ((sb b a).1*(sb p (ml a den)).2)=(sb b a).1*(sb p (ml a den)).2∧IntKind.i64.wrap ((sb b a).2*(sb p (ml a den)).1)=(sb b a).2*(sb p (ml a den)).1)∧
  (IntKind.i64.wrap ((sb b a).1*(sb p (ml a den)).1)=(sb b a).1*(sb p (ml a den)).1∧IntKind.i64.wrap ((sb b a).2*(sb p (ml a den)).2)=(sb b a).2*(sb p (ml a den)).2)∧
  IntKind.i64.wrap ((sb b a).1*(sb p (ml a den)).2 - (sb b a).2*(sb p (ml a den)).1)=crs (sb b a) (sb p (ml a den))∧
  IntKind.i64.wrap ((sb b a).1*(sb p (ml a den)).1+(sb b a).2*(sb p (ml a den)).2)=dt (sb b a) (sb p (ml a den)):=by
 obtain ⟨a1,a2,a3,a4⟩:=ha
 obtain ⟨b1,b2,b3,b4⟩:=hb
 obtain ⟨p1,p2,p3,p4⟩:=hp
 have m1:=z3a (A:=10000) (B:=268435456) (a:=a.1) (b:=den) (by omega) (by omega) (by omega) (by omega) (by omega)
 have m2:=z3a (A:=10000) (B:=268435456) (a:=a.2) (b:=den) (by omega) (by omega) (by omega) (by omega) (by omega)
 have s1: -20000≤(sb b a).1∧(sb b a).1≤20000:=by simp only [sb]; omega
 have s2: -20000≤(sb b a).2∧(sb b a).2≤20000:=by simp only [sb]; omega
 have q1: -3783866187776≤(sb p (ml a den)).1∧(sb p (ml a den)).1≤3783866187776:=by simp only [sb,ml]; omega
 have q2: -3783866187776≤(sb p (ml a den)).2∧(sb p (ml a den)).2≤3783866187776:=by simp only [sb,ml]; omega
 have r1:=z3a (A:=20000) (B:=3783866187776) (by omega) s1.1 s1.2 q2.1 q2.2
 have r2:=z3a (A:=20000) (B:=3783866187776) (by omega) s2.1 s2.2 q1.1 q1.2
 have r3:=z3a (A:=20000) (B:=3783866187776) (by omega) s1.1 s1.2 q1.1 q1.2
 have r4:=z3a (A:=20000) (B:=3783866187776) (by omega) s2.1 s2.2 q2.1 q2.2
 have w:∀ x:Int, -9223372036854775808≤x→x≤9223372036854775807→IntKind.i64.wrap x=x:=fun x h1 h2=>z09 x h1 h2
 refine ⟨⟨w _ (by omega) (by omega),w _ (by omega) (by omega)⟩,⟨w _ (by omega) (by omega),w _ (by omega) (by omega)⟩,⟨w _ (by simp only [ml]; omega) (by simp only [ml]; omega),w _ (by simp only [ml]; omega) (by simp only [ml]; omega)⟩,⟨w _ (by omega) (by omega),w _ (by omega) (by omega)⟩,⟨w _ (by omega) (by omega),w _ (by omega) (by omega)⟩,w _ (by omega) (by omega),w _ (by omega) (by omega)⟩
theorem x4v {S c:List Pt} (h:Cyc S c) (h2:2≤c.length) {i:Nat} {a b:Pt} (ha:c[i]?=some a) (hb:c[(i+1) % c.length]?=some b):sb b a≠(0,0):=fun e=>(z8t h h2 ha hb).2.1 (z1g.1 e).symm
theorem w3a {n:Nat} {P:Nat→Bool} (h:∀ i,i<n→P i=true):(List.range n).all P=true:=by
 rw [List.all_eq_true]; intro i hi; exact h i (List.mem_range.1 hi)
theorem y83 {n:Nat} {P:Nat→Bool} {i:Nat} (hi:i<n) (h:P i=false):(List.range n).all P=false:=by
 rw [Bool.eq_false_iff]
 intro ha
 rw [List.all_eq_true] at ha
 have:=ha i (List.mem_range.2 hi)
 rw [h] at this; cases this
theorem w8l {S c:List Pt} (hc:Cyc S c) (hbx:∀ x∈c,z0s (-10000) 10000 x) (hl:c.length≤100000) {p:Pt} (hp:Big p) {den:Int} (hd:1≤den) (hd2:den≤268435456):
  G43 std (z0d c,p.1,p.2,den,())=some (inC c p den,()):=by
 unfold G43
 have hl1:1≤c.length:=by
  match c,hc with
  |a::r,_=>simp
 by_cases h1:c.length=1
 ·obtain ⟨a,ha⟩:∃ a,c=[a]:=by
   match c,h1 with
   |[a],_=>exact ⟨a,rfl⟩
  subst ha
  have ga:=z0x (l:=[a]) (i:=0) rfl
  obtain ⟨_,⟨w1,w2⟩,⟨w5,w6⟩,_⟩:=y64 (hbx a (by simp)) (hbx a (by simp)) hp hd hd2
  have z0:(0:Int).toNat=0:=rfl
  have c1:(([a]:List Pt).length:Int)=1:=rfl
  have c1':((1:Nat):Int)=1:=rfl
  have hin:inC [a] p den=decide (p=ml a den):=rfl
  have v1:IntKind.i64.wrap ((0:Int)+1)=1:=by decide
  have t1:(1:Int).tmod 1=0:=by decide
  have q3:(0:Int)<1:=by omega
  have q4:¬ (1:Int)=0:=by omega
  have q5:(0:Int)≥0:=by omega
  rw [hin]
  have hstep:y3s std (p.1,p.2,den,z0d [a],(1:Int),(0:Int),())=some (.inr (.inl (decide (p=ml a den),()))):=by
   have e1:(sb p (ml a den)).1=0↔p.1=(ml a den).1:=by simp only [sb]; omega
   have e2:(sb p (ml a den)).2=0↔p.2=(ml a den).2:=by simp only [sb]; omega
   by_cases k1:(sb p (ml a den)).1=0
   ·by_cases k2:(sb p (ml a den)).2=0
    ·have:p=ml a den:=Prod.ext (e1.1 k1) (e2.1 k2)
     simp only [y3s,z0q,z0r,z0g,z0u,z0t,z1b,z0i,z0c,z0,ga,z0z,z0h,z0a,z02,v1,t1,w1,w2,w5,w6,q3,q4,q5,eq_true k1,eq_true k2,eq_true this,not_false_eq_true]
    ·have:¬ p=ml a den:=fun e=>k2 (e2.2 (by rw [e]))
     simp only [y3s,z0q,z0r,z0g,z0u,z0t,z1b,z0i,z0c,z0,ga,z0z,z0h,z0a,z02,v1,t1,w1,w2,w5,w6,q3,q4,q5,eq_true k1,k2,this,not_false_eq_true]
   ·have:¬ p=ml a den:=fun e=>k1 (e1.2 (by rw [e]))
    simp only [y3s,z0q,z0r,z0g,z0u,z0t,z1b,z0i,z0c,z0,ga,z0z,z0h,z0a,z02,v1,t1,w1,w2,w5,w6,q3,q4,q5,k1,this,not_false_eq_true]
  have hit:z3w (y3s std) (p.1,p.2,den,z0d [a],(1:Int),(0:Int),())=some (.inl (decide (p=ml a den),())):=by rw [z0j,hstep]
  simp only [g43,it0_eq,z6p,z20,z2t,z1j,z2p,z0c,c1,hit,Option.bind_some,Sum.elim_inl]
 ·have h2:2≤c.length:=by omega
  have c1:¬ (c.length:Int)=1:=by omega
  have key:=z3d (b:=y3s std) c.length (fun i=>(p.1,p.2,den,z0d c,(c.length:Int),(i:Int),())) (fun i=>!y65 c.length (c.getD i (0,0)) (c.getD ((i+1) % c.length) (0,0)) p den)
   (fun i=> .inl (false,())) (.inr ()) (fun i hi=>by
   obtain ⟨a,ha⟩:=z0l hi
   obtain ⟨b,hb⟩:=z0l (l:=c) (i:=(i+1) % c.length) (Nat.mod_lt _ (by omega))
   have ga:=z0x ha
   have gb:=z0x hb
   rw [z4t ha,z4t hb]
   obtain ⟨⟨w1,w2⟩,⟨w3,w4⟩,⟨w5,w6⟩,⟨w7,w8⟩,⟨w9,w10⟩,w11,w12⟩:=y64 (hbx a (List.mem_of_getElem? ha)) (hbx b (List.mem_of_getElem? hb)) hp hd hd2
   obtain ⟨m1,m2⟩:=y5a (i:=i) (n:=c.length) (by omega) (by omega)
   have c2:(i:Int)<(c.length:Int):=by omega
   have c3:(i:Int)≥0:=by omega
   have c4:¬ (c.length:Int)=0:=by omega
   have c5:(((i+1) % c.length:Nat):Int)≥0:=by omega
   have c6:(((i+1) % c.length:Nat):Int)<(c.length:Int):=by have:=Nat.mod_lt (i+1) (show 0<c.length by omega); omega
   unfold y65
   by_cases k1:crs (sb b a) (sb p (ml a den))<0
   ·simp only [y3s,z0q,z0r,z0g,z0u,z0t,z1b,z0i,z0c,z0a,z0h,z0z,z02,m1,m2,ga,gb,w1,w2,w3,w4,w5,w6,w7,w8,w9,w10,w11,w12,c1,c2,c3,c4,c5,c6,k1,not_false_eq_true]
   ·by_cases k2:c.length=2
    ·have k2':(c.length:Int)=2:=by omega
     by_cases k3:dt (sb b a) (sb p (ml a den))<0
     ·simp only [y3s,z0q,z0r,z0g,z0u,z0t,z1b,z0i,z0c,z0a,z0h,z0z,z02,m1,m2,ga,gb,w1,w2,w3,w4,w5,w6,w7,w8,w9,w10,w11,w12,c1,c2,c3,c4,c5,c6,k1,eq_true k2,eq_true k2',k3,not_false_eq_true]
     ·simp only [y3s,z0q,z0r,z0g,z0u,z0t,z1b,z0i,z0c,z0a,z0h,z0z,z02,m1,m2,ga,gb,w1,w2,w3,w4,w5,w6,w7,w8,w9,w10,w11,w12,c1,c2,c3,c4,c5,c6,k1,eq_true k2,eq_true k2',k3,not_false_eq_true]
    ·have k2':¬ (c.length:Int)=2:=by omega
     simp only [y3s,z0q,z0r,z0g,z0u,z0t,z1b,z0i,z0c,z0a,z0h,z0z,z02,m1,m2,ga,gb,w1,w2,w3,w4,w5,w6,w7,w8,w9,w10,w11,w12,c1,c2,c3,c4,c5,c6,k1,k2,k2',not_false_eq_true]) (by
   have hn:¬ ((c.length:Int)<(c.length:Int)):=by omega
   simp only [y3s,z0q,z0r,hn])
  have e0:(p.1,p.2,den,z0d c,(c.length:Int),((0:Nat):Int),())=(p.1,p.2,den,z0d c,(c.length:Int),(0:Int),()):=rfl
  rw [e0] at key
  unfold inC
  rw [if_neg h1]
  rcases key with ⟨i,i1,i2,_,i4⟩|⟨i1,i2⟩
  ·rw [y83 i1 (by simpa using i2)]
   simp only [g43,it0_eq,z0q,z0r,z0c,i4]
  ·rw [w3a (fun i hi=>by simpa using i1 i hi)]
   simp only [g43,it0_eq,z0q,z0r,z0c,i2]
end Go.Am
end
noncomputable section
namespace Go.Am
def v5v:Ctr:=
 ⟨78,[.list 2, .clo 66 [.agg [.int .i64, .int .i64]] []],[],[(.ret,⟨[(0, .int .i64)],[],1⟩)]⟩
def la78:List LA:=
 [⟨78,[false,true,false,true,true],0,⟨⟨[(1, .clo 66 [.agg [.int .i64, .int .i64]] []),(5, .int .i64),(13, .list 2),(14, .int .i64),(15, .int .i64)],[],26⟩,[((AX.exit 0),⟨[(5, .int .i64)],[],26⟩)]⟩⟩]
def ja78:List JA:=
 []
def u0i:List CF:=
 []
def an78:Anns:=
 ⟨u0i,ja78,[]⟩
def w6m (p:Prim):T47→Option T70:=
 fun a=>opt.run _ (
 opt.ask _ (p.cmp .lss a.2.2.2.2.2.1 a.2.2.2.2.1) (
 opt.need _ (p.rowOk a.2.2.2.1 (p.nat a.2.2.2.2.2.1) [ci,ci])<|
 opt.need _ (p.cmp .geq a.2.2.2.2.2.1 (0:Int))<|
 opt.ret _ (Sum.inl (a.1,(a.2.1,((p.mm .gtr a.2.2.1 (p.ar .add .i64 (p.ar .mul .i64 a.1 (p.rdI a.2.2.2.1 (p.nat a.2.2.2.2.2.1) 0)) (p.ar .mul .i64 a.2.1 (p.rdI a.2.2.2.1 (p.nat a.2.2.2.2.2.1) 1)))),(a.2.2.2.1,(a.2.2.2.2.1,((p.ar .add .i64 a.2.2.2.2.2.1 (1:Int)),())))))))) (
 opt.ret _ (Sum.inr (a.2.2.1,()))))
def g78 (it:It):(p:Prim)→(LD×T3)→Option T0:=
 fun p x=>
 opt.need _ (p.rowOk x.1 (p.nat (0:Int)) [ci,ci])<|
 opt.bnd T0 _ (
 it _ _ (w6m p) (x.2.1,(x.2.2.1,((p.ar .add .i64 (p.ar .mul .i64 x.2.1 (p.rdI x.1 (p.nat (0:Int)) 0)) (p.ar .mul .i64 x.2.2.1 (p.rdI x.1 (p.nat (0:Int)) 1))),(x.1,((p.ofNat (p.len x.1)),((0:Int),()))))))) fun a=>
 opt.ret _ (a.1,())
def G78:=g78 it0
theorem ok78:CtrOk PG v5v (G78 std):=okF (a:=an78) (l:=la78) (gN) (by kernel_rfl) fun _ _=>by kernel_rfl
def v5o:Ctr:=
 ⟨92,[.list 2, .list 2, .agg [.int .i64, .int .i64]],[],[(.ret,⟨[(0, .tuple [.int .i64, .bool])],[],1⟩)]⟩
def la92:List LA:=
 []
def ja92:List JA:=
 []
def u0a:List CF:=
 [⟨v5v,G78⟩]
def an92:Anns:=
 ⟨u0a,ja92,[]⟩
def g92 (it:It):(p:Prim)→(LD×(LD×T3))→Option ((Int×(Bool×Unit))):=
 fun p x=>
 opt.bnd T0 _ (g78 it p (x.1,(x.2.2.1,(x.2.2.2.1,())))) fun a=>
 opt.bnd T0 _ (g78 it p (x.2.1,((p.ar .sub .i64 (0:Int) x.2.2.1),((p.ar .sub .i64 (0:Int) x.2.2.2.1),())))) fun b=>
 opt.ret _ (a.1,((p.cmp .lss a.1 (p.ar .sub .i64 (0:Int) b.1)),()))
def G92:=g92 it0
theorem ok92:CtrOk PG v5o (G92 std):=okF (a:=an92) (l:=la92) (gC ok78 (gN)) (by kernel_rfl) fun _ _=>by kernel_rfl
def w54:Ctr:=
 ⟨63,[.list 2, .list 2],[],[(.ret,⟨[(0, .tuple [.agg [.int .i64, .int .i64, .int .i64], .bool])],[],1⟩)]⟩
def la63:List LA:=
 [⟨63,[false,true,false,true,false,true],0,⟨⟨[(0, .list 2),(1, .list 2),(4, .bptr 0 0),(6, .bptr 1 0),(20, .list 2),(21, .int .i64),(22, .int .i64)],[.box [.int .i64, .int .i64, .int .i64], .box [.vec 2 2], .row [ci,ci]],94⟩,[((AX.exit 0),⟨[(0, .list 2),(1, .list 2),(4, .bptr 0 0),(6, .bptr 1 0)],[.box [.int .i64, .int .i64, .int .i64], .box [.vec 2 2], .row [ci,ci]],94⟩)]⟩⟩,
 ⟨63,[false,true,true,false,false,true,true,false,false,true,false,true,false,true],0,⟨⟨[(0, .list 2),(1, .list 2),(4, .bptr 0 0),(6, .bptr 1 0),(8, .bptr 2 0),(20, .list 2),(21, .int .i64),(22, .int .i64),(26, .list 2),(27, .int .i64),(28, .int .i64)],[.box [.int .i64, .int .i64, .int .i64], .box [.vec 3 2], .box [.int .i64, .int .i64], .row [ci,ci]],94⟩,[((AX.exit 2),⟨[(0, .list 2),(1, .list 2),(4, .bptr 0 0),(6, .bptr 1 0),(20, .list 2),(21, .int .i64),(22, .int .i64)],[.box [.int .i64, .int .i64, .int .i64], .box [.vec 2 2], .row [ci,ci]],94⟩)]⟩⟩,
 ⟨63,[false,true,false,true,true,false,true],0,⟨⟨[(0, .list 2),(1, .list 2),(4, .bptr 0 0),(6, .bptr 1 0),(42, .full 2 1),(43, .int .i64),(44, .int .i64)],[.box [.int .i64, .int .i64, .int .i64], .box [.vec 3 2], .row [(CK.list 2)], .row [ci,ci]],94⟩,[((AX.exit 4),⟨[(0, .list 2),(1, .list 2),(4, .bptr 0 0),(6, .bptr 1 0)],[.box [.int .i64, .int .i64, .int .i64], .box [.vec 2 2], .row [ci,ci]],94⟩)]⟩⟩,
 ⟨94,[false,true],6,⟨⟨[(0, .yld 5),(1, .bptr 4 0),(6, .list 2),(7, .int .i64),(8, .int .i64)],[.box [.int .i64, .int .i64, .int .i64], .box [.vec 6 2], .row [(CK.list 2)], .dead, .box [.list 2], .loop Go.LoopState.ready Option.none 63 [Bool.false,Bool.true,Bool.true,Bool.false,Bool.false,Bool.true,Bool.true,Bool.false,Bool.false,Bool.true,Bool.false,Bool.true,Bool.true,Bool.false,Bool.true] 94 [(49, .clo 94 [] [.bptr 4 0]),(43, .int .i64),(42, .full 2 1),(6, .bptr 1 0),(1, .list 2),(4, .bptr 0 0),(0, .list 2),(44, .int .i64)], .row [ci,ci]],33⟩,[(AX.ret,⟨[],[.box [.int .i64, .int .i64, .int .i64], .box [.vec 6 2], .row [(CK.list 2)], .dead, .box [.list 2], .loop Go.LoopState.ready Option.none 63 [Bool.false,Bool.true,Bool.true,Bool.false,Bool.false,Bool.true,Bool.true,Bool.false,Bool.false,Bool.true,Bool.false,Bool.true,Bool.true,Bool.false,Bool.true] 94 [(49, .clo 94 [] [.bptr 4 0]),(43, .int .i64),(42, .full 2 1),(6, .bptr 1 0),(1, .list 2),(4, .bptr 0 0),(0, .list 2),(44, .int .i64)], .row [ci,ci]],33⟩),((AX.exit 0),⟨[],[.box [.int .i64, .int .i64, .int .i64], .box [.vec 6 2], .row [(CK.list 2)], .dead, .box [.list 2], .loop Go.LoopState.ready Option.none 63 [Bool.false,Bool.true,Bool.true,Bool.false,Bool.false,Bool.true,Bool.true,Bool.false,Bool.false,Bool.true,Bool.false,Bool.true,Bool.true,Bool.false,Bool.true] 94 [(49, .clo 94 [] [.bptr 4 0]),(43, .int .i64),(42, .full 2 1),(6, .bptr 1 0),(1, .list 2),(4, .bptr 0 0),(0, .list 2),(44, .int .i64)], .row [ci,ci]],33⟩)]⟩⟩,
 ⟨63,[false,true,false,true,true,true,true,true,true,false,true],0,⟨⟨[(0, .list 2),(1, .list 2),(4, .bptr 0 0),(14, .bool),(15, .bptr 1 0),(71, .vec 2 2),(72, .int .i64),(73, .int .i64)],[.box [.int .i64, .int .i64, .int .i64], .box [.int .i64, .int .i64, .int .i64], .row [ci,ci]],94⟩,[((AX.exit 8),⟨[(4, .bptr 0 0),(14, .bool),(15, .bptr 1 0)],[.box [.int .i64, .int .i64, .int .i64], .box [.int .i64, .int .i64, .int .i64]],94⟩)]⟩⟩]
def ja63:List JA:=
 [⟨63,[true,true,false,false,true,true,false,false,true,false,true,true,false,true],0,[(AX.normal,⟨[(0, .list 2),(1, .list 2),(4, .bptr 0 0),(6, .bptr 1 0),(42, .full 2 1),(43, .int .i64),(44, .int .i64)],[.box [.int .i64, .int .i64, .int .i64], .box [.vec 3 2], .row [(CK.list 2)], .row [ci,ci]],94⟩)]⟩]
def u0s:List CF:=
 [⟨v5o,G92⟩]
def an63:Anns:=
 ⟨u0s,ja63,[]⟩
def x40 (it:It) (p:Prim):(LD×T71)→Option ((LD×T71)⊕(Int×(Int×(Int×(Int×(Int×(Int×(Bool×Unit)))))))):=
 fun a=>opt.run _ (
 opt.ask _ (p.cmp .lss a.2.2.2.2.2.2.2.2.2.2.2.1 a.2.2.2.2.2.2.2.2.2.2.1) (
 opt.need _ (bif (p.cmp .geq a.2.2.2.2.2.2.2.2.2.2.2.1 (0:Int)) then (p.cmp .lss a.2.2.2.2.2.2.2.2.2.2.2.1 (p.ofNat (p.len a.1))) else Bool.false)<|
 opt.need _ (p.rowOk a.1 (p.add 0 (p.nat a.2.2.2.2.2.2.2.2.2.2.2.1)) [ci,ci])<|
 opt.bnd ((Int×(Bool×Unit))) _ (g92 it p (a.2.2.2.2.2.2.2.1,(a.2.2.2.2.2.2.2.2.1,((p.rdI a.1 (p.add 0 (p.nat a.2.2.2.2.2.2.2.2.2.2.2.1)) 0),((p.rdI a.1 (p.add 0 (p.nat a.2.2.2.2.2.2.2.2.2.2.2.1)) 1),()))))) fun b=>
 opt.ask _ b.2.1 (
 opt.ret _ (Sum.inr (a.2.1,(a.2.2.1,(a.2.2.2.1,((p.rdI a.1 (p.add 0 (p.nat a.2.2.2.2.2.2.2.2.2.2.2.1)) 0),((p.rdI a.1 (p.add 0 (p.nat a.2.2.2.2.2.2.2.2.2.2.2.1)) 1),(b.1,(Bool.true,()))))))))) (
 opt.need _ (p.eqN 0 0)<|
 opt.need _ (p.eqN (p.len a.1) (p.len a.1))<|
 opt.ret _ (Sum.inl (a.1,(a.2.1,(a.2.2.1,(a.2.2.2.1,(a.2.2.2.2.1,(a.2.2.2.2.2.1,(a.2.2.2.2.2.2.1,(a.2.2.2.2.2.2.2.1,(a.2.2.2.2.2.2.2.2.1,(a.2.2.2.2.2.2.2.2.2.1,(a.2.2.2.2.2.2.2.2.2.2.1,((p.ar .add .i64 a.2.2.2.2.2.2.2.2.2.2.2.1 (1:Int)),()))))))))))))))) (
 opt.ret _ (Sum.inr (a.2.1,(a.2.2.1,(a.2.2.2.1,(a.2.2.2.2.1,(a.2.2.2.2.2.1,(a.2.2.2.2.2.2.1,(a.2.2.2.2.2.2.2.2.2.1,()))))))))))
def x3d (p:Prim):(LD×(LD×T72))→Option ((LD×(LD×T72))⊕((LD×(LD×T24))⊕(LD×(LD×T24)))):=
 fun a=>opt.run _ (
 opt.ask _ (p.cmp .lss a.2.2.2.2.2.2.2.2.2.2.2.2.1 a.2.2.2.2.2.2.2.2.2.2.2.1) (
 opt.need _ (p.rowOk a.2.2.2.2.2.2.2.2.2.2.1 (p.nat a.2.2.2.2.2.2.2.2.2.2.2.2.1) [ci,ci])<|
 opt.need _ (p.cmp .geq a.2.2.2.2.2.2.2.2.2.2.2.2.1 (0:Int))<|
 opt.need _ (p.cmp .neq (p.ofNat (p.len a.2.2.2.2.2.1)) (0:Int))<|
 opt.need _ (p.rowOk a.2.2.2.2.2.1 (p.nat (p.ar .rem .i64 (p.ar .add .i64 a.2.2.2.2.2.2.2.2.2.2.2.2.1 (1:Int)) (p.ofNat (p.len a.2.2.2.2.2.1)))) [ci,ci])<|
 opt.need _ (p.cmp .geq (p.ar .rem .i64 (p.ar .add .i64 a.2.2.2.2.2.2.2.2.2.2.2.2.1 (1:Int)) (p.ofNat (p.len a.2.2.2.2.2.1))) (0:Int))<|
 opt.ask _ (bif (p.cmp .eql (p.ar .sub .i64 (p.rdI a.2.2.2.2.2.1 (p.nat (p.ar .rem .i64 (p.ar .add .i64 a.2.2.2.2.2.2.2.2.2.2.2.2.1 (1:Int)) (p.ofNat (p.len a.2.2.2.2.2.1)))) 0) (p.rdI a.2.2.2.2.2.2.2.2.2.2.1 (p.nat a.2.2.2.2.2.2.2.2.2.2.2.2.1) 0)) (0:Int)) then (bif (p.cmp .eql (p.ar .sub .i64 (p.rdI a.2.2.2.2.2.1 (p.nat (p.ar .rem .i64 (p.ar .add .i64 a.2.2.2.2.2.2.2.2.2.2.2.2.1 (1:Int)) (p.ofNat (p.len a.2.2.2.2.2.1)))) 1) (p.rdI a.2.2.2.2.2.2.2.2.2.2.1 (p.nat a.2.2.2.2.2.2.2.2.2.2.2.2.1) 1)) (0:Int)) then Bool.true else Bool.false) else Bool.false) (
 opt.need _ (p.eqN 0 0)<|
 opt.need _ (p.eqN (p.len a.2.1) (p.len a.2.1))<|
 opt.need _ (p.eqN 0 0)<|
 opt.need _ (p.eqN (p.len a.1) (p.len a.1))<|
 opt.need _ (p.eqN (p.len a.1) (p.len a.1))<|
 opt.ret _ (Sum.inr (Sum.inl (a.1,(a.2.1,(a.2.2.1,(a.2.2.2.1,(a.2.2.2.2.1,(a.2.2.2.2.2.1,(a.2.2.2.2.2.2.1,(a.2.2.2.2.2.2.2.1,(a.2.2.2.2.2.2.2.2.1,(a.2.2.2.2.2.2.2.2.2.1,()))))))))))))) (
 opt.need _ (p.and (p.leN (p.add 0 2) (p.len [[(D.int .i64 (p.ar .sub .i64 (p.rdI a.2.2.2.2.2.1 (p.nat (p.ar .rem .i64 (p.ar .add .i64 a.2.2.2.2.2.2.2.2.2.2.2.2.1 (1:Int)) (p.ofNat (p.len a.2.2.2.2.2.1)))) 1) (p.rdI a.2.2.2.2.2.2.2.2.2.2.1 (p.nat a.2.2.2.2.2.2.2.2.2.2.2.2.1) 1))),(D.int .i64 (p.ar .sub .i64 (0:Int) (p.ar .sub .i64 (p.rdI a.2.2.2.2.2.1 (p.nat (p.ar .rem .i64 (p.ar .add .i64 a.2.2.2.2.2.2.2.2.2.2.2.2.1 (1:Int)) (p.ofNat (p.len a.2.2.2.2.2.1)))) 0) (p.rdI a.2.2.2.2.2.2.2.2.2.2.1 (p.nat a.2.2.2.2.2.2.2.2.2.2.2.2.1) 0))))],[(D.int .i64 (p.ar .sub .i64 (0:Int) (p.ar .sub .i64 (p.rdI a.2.2.2.2.2.1 (p.nat (p.ar .rem .i64 (p.ar .add .i64 a.2.2.2.2.2.2.2.2.2.2.2.2.1 (1:Int)) (p.ofNat (p.len a.2.2.2.2.2.1)))) 1) (p.rdI a.2.2.2.2.2.2.2.2.2.2.1 (p.nat a.2.2.2.2.2.2.2.2.2.2.2.2.1) 1)))),(D.int .i64 (p.ar .sub .i64 (p.rdI a.2.2.2.2.2.1 (p.nat (p.ar .rem .i64 (p.ar .add .i64 a.2.2.2.2.2.2.2.2.2.2.2.2.1 (1:Int)) (p.ofNat (p.len a.2.2.2.2.2.1)))) 0) (p.rdI a.2.2.2.2.2.2.2.2.2.2.1 (p.nat a.2.2.2.2.2.2.2.2.2.2.2.2.1) 0)))]])) (p.and (p.leN (p.add 0 (p.len a.2.1)) (p.len a.2.1)) (p.and (p.leN 1 2) (p.leN (p.add (p.len a.2.1) 2) 1000000))))<|
 opt.need _ (p.eqN 0 0)<|
 opt.need _ (p.eqN (p.add (p.len a.2.1) 2) (p.len (p.app (p.cut a.2.1 0 (p.len a.2.1)) (p.cut [[(D.int .i64 (p.ar .sub .i64 (p.rdI a.2.2.2.2.2.1 (p.nat (p.ar .rem .i64 (p.ar .add .i64 a.2.2.2.2.2.2.2.2.2.2.2.2.1 (1:Int)) (p.ofNat (p.len a.2.2.2.2.2.1)))) 1) (p.rdI a.2.2.2.2.2.2.2.2.2.2.1 (p.nat a.2.2.2.2.2.2.2.2.2.2.2.2.1) 1))),(D.int .i64 (p.ar .sub .i64 (0:Int) (p.ar .sub .i64 (p.rdI a.2.2.2.2.2.1 (p.nat (p.ar .rem .i64 (p.ar .add .i64 a.2.2.2.2.2.2.2.2.2.2.2.2.1 (1:Int)) (p.ofNat (p.len a.2.2.2.2.2.1)))) 0) (p.rdI a.2.2.2.2.2.2.2.2.2.2.1 (p.nat a.2.2.2.2.2.2.2.2.2.2.2.2.1) 0))))],[(D.int .i64 (p.ar .sub .i64 (0:Int) (p.ar .sub .i64 (p.rdI a.2.2.2.2.2.1 (p.nat (p.ar .rem .i64 (p.ar .add .i64 a.2.2.2.2.2.2.2.2.2.2.2.2.1 (1:Int)) (p.ofNat (p.len a.2.2.2.2.2.1)))) 1) (p.rdI a.2.2.2.2.2.2.2.2.2.2.1 (p.nat a.2.2.2.2.2.2.2.2.2.2.2.2.1) 1)))),(D.int .i64 (p.ar .sub .i64 (p.rdI a.2.2.2.2.2.1 (p.nat (p.ar .rem .i64 (p.ar .add .i64 a.2.2.2.2.2.2.2.2.2.2.2.2.1 (1:Int)) (p.ofNat (p.len a.2.2.2.2.2.1)))) 0) (p.rdI a.2.2.2.2.2.2.2.2.2.2.1 (p.nat a.2.2.2.2.2.2.2.2.2.2.2.2.1) 0)))]] 0 2))))<|
 opt.need _ (p.eqN 0 0)<|
 opt.need _ (p.eqN (p.len a.1) (p.len a.1))<|
 opt.need _ (p.eqN (p.len a.1) (p.len a.1))<|
 opt.ret _ (Sum.inl (a.1,((p.app (p.cut a.2.1 0 (p.len a.2.1)) (p.cut [[(D.int .i64 (p.ar .sub .i64 (p.rdI a.2.2.2.2.2.1 (p.nat (p.ar .rem .i64 (p.ar .add .i64 a.2.2.2.2.2.2.2.2.2.2.2.2.1 (1:Int)) (p.ofNat (p.len a.2.2.2.2.2.1)))) 1) (p.rdI a.2.2.2.2.2.2.2.2.2.2.1 (p.nat a.2.2.2.2.2.2.2.2.2.2.2.2.1) 1))),(D.int .i64 (p.ar .sub .i64 (0:Int) (p.ar .sub .i64 (p.rdI a.2.2.2.2.2.1 (p.nat (p.ar .rem .i64 (p.ar .add .i64 a.2.2.2.2.2.2.2.2.2.2.2.2.1 (1:Int)) (p.ofNat (p.len a.2.2.2.2.2.1)))) 0) (p.rdI a.2.2.2.2.2.2.2.2.2.2.1 (p.nat a.2.2.2.2.2.2.2.2.2.2.2.2.1) 0))))],[(D.int .i64 (p.ar .sub .i64 (0:Int) (p.ar .sub .i64 (p.rdI a.2.2.2.2.2.1 (p.nat (p.ar .rem .i64 (p.ar .add .i64 a.2.2.2.2.2.2.2.2.2.2.2.2.1 (1:Int)) (p.ofNat (p.len a.2.2.2.2.2.1)))) 1) (p.rdI a.2.2.2.2.2.2.2.2.2.2.1 (p.nat a.2.2.2.2.2.2.2.2.2.2.2.2.1) 1)))),(D.int .i64 (p.ar .sub .i64 (p.rdI a.2.2.2.2.2.1 (p.nat (p.ar .rem .i64 (p.ar .add .i64 a.2.2.2.2.2.2.2.2.2.2.2.2.1 (1:Int)) (p.ofNat (p.len a.2.2.2.2.2.1)))) 0) (p.rdI a.2.2.2.2.2.2.2.2.2.2.1 (p.nat a.2.2.2.2.2.2.2.2.2.2.2.2.1) 0)))]] 0 2)),(a.2.2.1,(a.2.2.2.1,(a.2.2.2.2.1,(a.2.2.2.2.2.1,(a.2.2.2.2.2.2.1,(a.2.2.2.2.2.2.2.1,(a.2.2.2.2.2.2.2.2.1,(a.2.2.2.2.2.2.2.2.2.1,(a.2.2.2.2.2.2.2.2.2.2.1,(a.2.2.2.2.2.2.2.2.2.2.2.1,((p.ar .add .i64 a.2.2.2.2.2.2.2.2.2.2.2.2.1 (1:Int)),())))))))))))))))) (
 opt.need _ (p.eqN 0 0)<|
 opt.need _ (p.eqN (p.len a.2.1) (p.len a.2.1))<|
 opt.need _ (p.eqN 0 0)<|
 opt.need _ (p.eqN (p.len a.1) (p.len a.1))<|
 opt.need _ (p.eqN (p.len a.1) (p.len a.1))<|
 opt.ret _ (Sum.inr (Sum.inr (a.1,(a.2.1,(a.2.2.1,(a.2.2.2.1,(a.2.2.2.2.1,(a.2.2.2.2.2.1,(a.2.2.2.2.2.2.1,(a.2.2.2.2.2.2.2.1,(a.2.2.2.2.2.2.2.2.1,(a.2.2.2.2.2.2.2.2.2.1,()))))))))))))))
def y3r (it:It) (p:Prim):(LD×(LD×T34))→Option ((LD×(LD×T34))⊕(LD×T35)):=
 fun a=>opt.run _ (
 opt.ask _ (p.cmp .lss a.2.2.2.2.2.2.2.2.1 a.2.2.2.2.2.2.2.1) (
 opt.need _ (bif (p.cmp .geq a.2.2.2.2.2.2.2.2.1 (0:Int)) then (p.cmp .lss a.2.2.2.2.2.2.2.2.1 (p.ofNat (p.len a.1))) else Bool.false)<|
 opt.need _ (p.rowOk a.1 (p.add 0 (p.nat a.2.2.2.2.2.2.2.2.1)) [(CK.list 2)])<|
 opt.bnd ((LD×(LD×T34))) _ (
 opt.run ((LD×(LD×T34))) (
 opt.need _ (p.eqN 0 0)<|
 opt.need _ (p.eqN (p.len a.2.1) (p.len a.2.1))<|
 opt.need _ (p.eqN 0 0)<|
 opt.need _ (p.eqN (p.len a.1) (p.len a.1))<|
 opt.need _ (p.eqN (p.len a.1) (p.len a.1))<|
 opt.alt ((LD×(LD×T24))) ((LD×(LD×T24))) _ (
 it _ _ (x3d p) (a.1,(a.2.1,(a.2.2.1,(a.2.2.2.1,(a.2.2.2.2.1,((p.rdL a.1 (p.add 0 (p.nat a.2.2.2.2.2.2.2.2.1)) 0),(a.2.2.2.2.2.2.2.1,(a.2.2.2.2.2.2.1,(a.2.2.2.2.2.1,(a.2.2.2.2.2.2.2.2.1,((p.rdL a.1 (p.add 0 (p.nat a.2.2.2.2.2.2.2.2.1)) 0),((p.ofNat (p.len (p.rdL a.1 (p.add 0 (p.nat a.2.2.2.2.2.2.2.2.1)) 0))),((0:Int),())))))))))))))) (fun b=>
 opt.need _ (p.eqN 0 0)<|
 opt.need _ (p.eqN (p.len b.2.1) (p.len b.2.1))<|
 opt.need _ (p.eqN 0 0)<|
 opt.need _ (p.eqN (p.len a.1) (p.len b.1))<|
 opt.need _ (p.eqN (p.len a.1) (p.len b.1))<|
 opt.ret _ (b.1,(b.2.1,(b.2.2.1,(b.2.2.2.1,(b.2.2.2.2.1,(a.2.2.2.2.2.1,(a.2.2.2.2.2.2.1,(a.2.2.2.2.2.2.2.1,(a.2.2.2.2.2.2.2.2.1,())))))))))) (fun c=>
 opt.bnd ((LD×(LD×T24))) _ (some c) fun d=>
 opt.need _ (p.eqN 0 0)<|
 opt.need _ (p.eqN (p.len d.2.1) (p.len d.2.1))<|
 opt.need _ (p.eqN 0 0)<|
 opt.need _ (p.eqN (p.len a.1) (p.len d.1))<|
 opt.need _ (p.eqN (p.len a.1) (p.len d.1))<|
 opt.ret _ (d.1,(d.2.1,(d.2.2.1,(d.2.2.2.1,(d.2.2.2.2.1,(a.2.2.2.2.2.1,(a.2.2.2.2.2.2.1,(a.2.2.2.2.2.2.2.1,(a.2.2.2.2.2.2.2.2.1,())))))))))))) fun e=>
 opt.need _ (p.eqN 0 0)<|
 opt.need _ (p.eqN (p.len e.2.1) (p.len e.2.1))<|
 opt.need _ (p.eqN 0 0)<|
 opt.need _ (p.eqN (p.len e.1) (p.len e.1))<|
 opt.need _ (p.eqN (p.len e.1) (p.len e.1))<|
 opt.ret _ (Sum.inl (e.1,(e.2.1,(e.2.2.1,(e.2.2.2.1,(e.2.2.2.2.1,(e.2.2.2.2.2.1,(e.2.2.2.2.2.2.1,(e.2.2.2.2.2.2.2.1,((p.ar .add .i64 e.2.2.2.2.2.2.2.2.1 (1:Int)),()))))))))))) (
 opt.need _ (p.eqN 0 0)<|
 opt.need _ (p.eqN (p.len a.2.1) (p.len a.2.1))<|
 opt.ret _ (Sum.inr (a.2.1,(a.2.2.1,(a.2.2.2.1,(a.2.2.2.2.1,(a.2.2.2.2.2.1,(a.2.2.2.2.2.2.1,())))))))))
def w26 (p:Prim):(LD×T73)→Option ((LD×T73)⊕(LD×T36)):=
 fun a=>opt.run _ (
 opt.ask _ (p.cmp .lss a.2.2.2.2.2.2.2.2.2.2.2.2.2.1 a.2.2.2.2.2.2.2.2.2.2.2.2.1) (
 opt.need _ (p.rowOk a.2.2.2.2.2.2.2.2.2.2.2.1 (p.nat a.2.2.2.2.2.2.2.2.2.2.2.2.2.1) [ci,ci])<|
 opt.need _ (p.cmp .geq a.2.2.2.2.2.2.2.2.2.2.2.2.2.1 (0:Int))<|
 opt.need _ (p.and (p.leN (p.add 0 1) (p.len [[(D.int .i64 (p.ar .sub .i64 (p.rdI a.2.2.2.2.2.2.2.2.2.2.2.1 (p.nat a.2.2.2.2.2.2.2.2.2.2.2.2.2.1) 0) a.2.2.2.2.1)),(D.int .i64 (p.ar .sub .i64 (p.rdI a.2.2.2.2.2.2.2.2.2.2.2.1 (p.nat a.2.2.2.2.2.2.2.2.2.2.2.2.2.1) 1) a.2.2.2.2.2.1))]])) (p.and (p.leN (p.add 0 (p.len a.1)) (p.len a.1)) (p.and (p.leN 1 1) (p.leN (p.add (p.len a.1) 1) 1000000))))<|
 opt.need _ (p.eqN 0 0)<|
 opt.need _ (p.eqN (p.add (p.len a.1) 1) (p.len (p.app (p.cut a.1 0 (p.len a.1)) (p.cut [[(D.int .i64 (p.ar .sub .i64 (p.rdI a.2.2.2.2.2.2.2.2.2.2.2.1 (p.nat a.2.2.2.2.2.2.2.2.2.2.2.2.2.1) 0) a.2.2.2.2.1)),(D.int .i64 (p.ar .sub .i64 (p.rdI a.2.2.2.2.2.2.2.2.2.2.2.1 (p.nat a.2.2.2.2.2.2.2.2.2.2.2.2.2.1) 1) a.2.2.2.2.2.1))]] 0 1))))<|
 opt.ret _ (Sum.inl ((p.app (p.cut a.1 0 (p.len a.1)) (p.cut [[(D.int .i64 (p.ar .sub .i64 (p.rdI a.2.2.2.2.2.2.2.2.2.2.2.1 (p.nat a.2.2.2.2.2.2.2.2.2.2.2.2.2.1) 0) a.2.2.2.2.1)),(D.int .i64 (p.ar .sub .i64 (p.rdI a.2.2.2.2.2.2.2.2.2.2.2.1 (p.nat a.2.2.2.2.2.2.2.2.2.2.2.2.2.1) 1) a.2.2.2.2.2.1))]] 0 1)),(a.2.1,(a.2.2.1,(a.2.2.2.1,(a.2.2.2.2.1,(a.2.2.2.2.2.1,(a.2.2.2.2.2.2.1,(a.2.2.2.2.2.2.2.1,(a.2.2.2.2.2.2.2.2.1,(a.2.2.2.2.2.2.2.2.2.1,(a.2.2.2.2.2.2.2.2.2.2.1,(a.2.2.2.2.2.2.2.2.2.2.2.1,(a.2.2.2.2.2.2.2.2.2.2.2.2.1,((p.ar .add .i64 a.2.2.2.2.2.2.2.2.2.2.2.2.2.1 (1:Int)),())))))))))))))))) (
 opt.need _ (p.eqN 0 0)<|
 opt.need _ (p.eqN (p.len a.1) (p.len a.1))<|
 opt.ret _ (Sum.inr (a.1,(a.2.1,(a.2.2.1,(a.2.2.2.1,(a.2.2.2.2.2.2.1,(a.2.2.2.2.2.2.2.1,(a.2.2.2.2.2.2.2.2.1,(a.2.2.2.2.2.2.2.2.2.1,(a.2.2.2.2.2.2.2.2.2.2.1,()))))))))))))
def x41 (it:It) (p:Prim):(LD×T36)→Option ((LD×T36)⊕(LD×T35)):=
 fun a=>opt.run _ (
 opt.ask _ (p.cmp .lss a.2.2.2.2.2.2.2.2.1 a.2.2.2.2.2.2.2.1) (
 opt.need _ (p.rowOk a.2.2.2.2.2.2.1 (p.nat a.2.2.2.2.2.2.2.2.1) [ci,ci])<|
 opt.need _ (p.cmp .geq a.2.2.2.2.2.2.2.2.1 (0:Int))<|
 opt.need _ (p.eqN 0 0)<|
 opt.need _ (p.eqN (p.len a.1) (p.len a.1))<|
 opt.bnd ((LD×T36)) _ (
 it _ _ (w26 p) (a.1,(a.2.1,(a.2.2.1,(a.2.2.2.1,((p.rdI a.2.2.2.2.2.2.1 (p.nat a.2.2.2.2.2.2.2.2.1) 0),((p.rdI a.2.2.2.2.2.2.1 (p.nat a.2.2.2.2.2.2.2.2.1) 1),(a.2.2.2.2.1,(a.2.2.2.2.2.1,(a.2.2.2.2.2.2.1,(a.2.2.2.2.2.2.2.1,(a.2.2.2.2.2.2.2.2.1,(a.2.2.2.2.2.1,((p.ofNat (p.len a.2.2.2.2.2.1)),((0:Int),()))))))))))))))) fun b=>
 opt.need _ (p.eqN 0 0)<|
 opt.need _ (p.eqN (p.len b.1) (p.len b.1))<|
 opt.ret _ (Sum.inl (b.1,(b.2.1,(b.2.2.1,(b.2.2.2.1,(b.2.2.2.2.1,(b.2.2.2.2.2.1,(b.2.2.2.2.2.2.1,(b.2.2.2.2.2.2.2.1,((p.ar .add .i64 b.2.2.2.2.2.2.2.2.1 (1:Int)),()))))))))))) (
 opt.need _ (p.eqN 0 0)<|
 opt.need _ (p.eqN (p.len a.1) (p.len a.1))<|
 opt.ret _ (Sum.inr (a.1,(a.2.1,(a.2.2.1,(a.2.2.2.1,(a.2.2.2.2.1,(a.2.2.2.2.2.1,())))))))))
def g63 (it:It):(p:Prim)→(LD×(LD×Unit))→Option T21:=
 fun p x=>
 opt.bnd ((LD×T35)) _ (
 it _ _ (x41 it p) ([],((0:Int),((0:Int),((0:Int),(x.1,(x.2.1,(x.1,((p.ofNat (p.len x.1)),((0:Int),())))))))))) fun a=>
 opt.need _ (p.eqN 0 0)<|
 opt.need _ (p.eqN (p.len a.1) (p.len a.1))<|
 opt.need _ (p.eqN 0 0)<|
 opt.need _ (p.eqN 2 (p.len [[(D.list Bool.false 2 a.2.2.2.2.1)],[(D.list Bool.false 2 a.2.2.2.2.2.1)]]))<|
 opt.need _ (p.eqN 2 (p.len [[(D.list Bool.false 2 a.2.2.2.2.1)],[(D.list Bool.false 2 a.2.2.2.2.2.1)]]))<|
 opt.bnd ((LD×T35)) _ (
 it _ _ (y3r it p) ([[(D.list Bool.false 2 a.2.2.2.2.1)],[(D.list Bool.false 2 a.2.2.2.2.2.1)]],(a.1,(a.2.1,(a.2.2.1,(a.2.2.2.1,(a.2.2.2.2.1,(a.2.2.2.2.2.1,((p.ofNat 2),((0:Int),())))))))))) fun b=>
 opt.need _ (p.eqN 0 0)<|
 opt.need _ (p.eqN (p.len b.1) (p.len b.1))<|
 opt.bnd T48 _ (
 it _ _ (x40 it p) (b.1,(b.2.1,(b.2.2.1,(b.2.2.2.1,((0:Int),((0:Int),((0:Int),(b.2.2.2.2.1,(b.2.2.2.2.2.1,(Bool.false,((p.ofNat (p.len b.1)),((0:Int),()))))))))))))) fun c=>
 opt.ret _ (c.2.2.2.1,(c.2.2.2.2.1,(c.2.2.2.2.2.1,(c.2.2.2.2.2.2.1,()))))
def G63:=g63 it0
theorem v8z:CtrOk PG w54 (G63 std):=okF (a:=an63) (l:=la63) (gC ok92 (gN)) (by kernel_rfl) fun _ _=>by kernel_rfl
end Go.Am
end
noncomputable section
namespace Go.Am
def v6d:Ctr:=
 ⟨32,[.agg [.list 2, .list 1], .agg [.list 2, .list 1]],[],[(.ret,⟨[(0, .tuple [.agg [.int .i64, .int .i64, .int .i64], .int .i64])],[],1⟩)]⟩
def la32:List LA:=
 []
def ja32:List JA:=
 []
def u1m:List CF:=
 [⟨w54,G63⟩,⟨w2c,G62⟩]
def an32:Anns:=
 ⟨u1m,ja32,[]⟩
def g32 (it:It):(p:Prim)→(LD×(LD×(LD×(LD×Unit))))→Option T8:=
 fun p x=>
 opt.alt T0 (((LD×(LD×(LD×T1)))⊕((LD×(LD×(LD×T1)))⊕(LD×(LD×(LD×(LD×(LD×(LD×T1))))))))) _ (g62 it p (x.1,(x.2.1,(x.2.2.1,(x.2.2.2.1,()))))) (fun a=>
 opt.ask _ (p.cmp .neq a.1 (0:Int)) (
 opt.ret _ ((0:Int),((0:Int),((0:Int),(a.1,()))))) (
 opt.no _ 41)) (fun b=>
 opt.alt ((LD×(LD×(LD×T1)))) (((LD×(LD×(LD×T1)))⊕(LD×(LD×(LD×(LD×(LD×(LD×T1)))))))) _ (some b) (fun c=>
 opt.ask _ (p.cmp .neq c.2.2.2.1 (0:Int)) (
 opt.ret _ ((0:Int),((0:Int),((0:Int),(c.2.2.2.1,()))))) (
 opt.no _ 41)) (fun d=>
 opt.alt ((LD×(LD×(LD×T1)))) ((LD×(LD×(LD×(LD×(LD×(LD×T1))))))) _ (some d) (fun e=>
 opt.ask _ (p.cmp .neq e.2.2.2.1 (0:Int)) (
 opt.ret _ ((0:Int),((0:Int),((0:Int),(e.2.2.2.1,()))))) (
 opt.no _ 41)) (fun f=>
 opt.bnd ((LD×(LD×(LD×(LD×(LD×(LD×T1))))))) _ (some f) fun g=>
 opt.ask _ (p.cmp .neq g.2.2.2.2.2.2.1 (0:Int)) (
 opt.ret _ ((0:Int),((0:Int),((0:Int),(g.2.2.2.2.2.2.1,()))))) (
 opt.bnd T21 _ (g63 it p (g.2.2.1,(g.2.2.2.2.2.1,()))) fun h=>
 opt.ask _ (bif h.2.2.2.1 then Bool.false else Bool.true) (
 opt.ret _ ((0:Int),((0:Int),((0:Int),((21:Int),()))))) (
 opt.ret _ (h.1,(h.2.1,(h.2.2.1,((0:Int),())))))))))
def G32:=g32 it0
theorem ok32:CtrOk PG v6d (G32 std):=okF (a:=an32) (l:=la32) (gC v8z (gC v8f (gN))) (by kernel_rfl) fun _ _=>by kernel_rfl
end Go.Am
end
noncomputable section
namespace Go.Am
def w7x:Ctr:=
 ⟨78,[.list 2, .clo 66 [.agg [.int .i64, .int .i64]] []],[],[(.ret,⟨[(0, .int .i64)],[],1⟩)]⟩
def v9l:List LA:=
 [⟨78,[false,true,false,true,true],0,⟨⟨[(1, .clo 66 [.agg [.int .i64, .int .i64]] []),(5, .int .i64),(13, .list 2),(14, .int .i64),(15, .int .i64)],[],26⟩,[((AX.exit 0),⟨[(5, .int .i64)],[],26⟩)]⟩⟩]
def v9r:List JA:=
 []
def v4w:List CF:=
 []
def u2m:Anns:=
 ⟨v4w,v9r,[]⟩
def v6v (p:Prim):T47→Option T70:=
 fun a=>opt.run _ (
 opt.ask _ (p.cmp .lss a.2.2.2.2.2.1 a.2.2.2.2.1) (
 opt.need _ (p.rowOk a.2.2.2.1 (p.nat a.2.2.2.2.2.1) [ci,ci])<|
 opt.need _ (p.cmp .geq a.2.2.2.2.2.1 (0:Int))<|
 opt.ret _ (Sum.inl (a.1,(a.2.1,((p.mm .gtr a.2.2.1 (p.ar .add .i64 (p.ar .mul .i64 a.1 (p.rdI a.2.2.2.1 (p.nat a.2.2.2.2.2.1) 0)) (p.ar .mul .i64 a.2.1 (p.rdI a.2.2.2.1 (p.nat a.2.2.2.2.2.1) 1)))),(a.2.2.2.1,(a.2.2.2.2.1,((p.ar .add .i64 a.2.2.2.2.2.1 (1:Int)),())))))))) (
 opt.ret _ (Sum.inr (a.2.2.1,()))))
def v16 (it:It):(p:Prim)→(LD×T3)→Option T0:=
 fun p x=>
 opt.need _ (p.rowOk x.1 (p.nat (0:Int)) [ci,ci])<|
 opt.bnd T0 _ (
 it _ _ (v6v p) (x.2.1,(x.2.2.1,((p.ar .add .i64 (p.ar .mul .i64 x.2.1 (p.rdI x.1 (p.nat (0:Int)) 0)) (p.ar .mul .i64 x.2.2.1 (p.rdI x.1 (p.nat (0:Int)) 1))),(x.1,((p.ofNat (p.len x.1)),((0:Int),()))))))) fun a=>
 opt.ret _ (a.1,())
def u4c:=v16 it0
theorem v8x:CtrOk PG w7x (u4c std):=okF (a:=u2m) (l:=v9l) (gN) (by kernel_rfl) fun _ _=>by kernel_rfl
def v57:Ctr:=
 ⟨39,[.agg [.list 2, .list 1], .agg [.list 2, .list 1], .agg [.int .i64, .int .i64, .int .i64]],[],[(.ret,⟨[(0, .int .i64)],[],1⟩)]⟩
def la39:List LA:=
 []
def ja39:List JA:=
 [⟨39,[true,true,true,false,false,true,true,true],0,[(AX.ret,⟨[(6, .int .i64)],[],90⟩),(AX.normal,⟨[],[],90⟩)]⟩,
 ⟨39,[true,false,false,true,true,true],0,[(AX.ret,⟨[(6, .int .i64)],[],90⟩),(AX.normal,⟨[],[],90⟩)]⟩]
def u1g:List CF:=
 [⟨w7x,u4c⟩,⟨v03,G77⟩,⟨w2c,G62⟩]
def an39:Anns:=
 ⟨u1g,ja39,[]⟩
def g39 (it:It):(p:Prim)→(LD×(LD×(LD×(LD×T7))))→Option T0:=
 fun p x=>
 opt.alt T0 (((LD×(LD×(LD×T1)))⊕((LD×(LD×(LD×T1)))⊕(LD×(LD×(LD×(LD×(LD×(LD×T1))))))))) _ (g62 it p (x.1,(x.2.1,(x.2.2.1,(x.2.2.2.1,()))))) (fun a=>
 opt.alt T0 (Unit) _ (
 opt.run T6 (
 opt.ask _ (p.cmp .neq a.1 (0:Int)) (
 opt.ret _ (Sum.inl (a.1,()))) (
 opt.ask _ (bif (p.cmp .eql x.2.2.2.2.1 (0:Int)) then (bif (p.cmp .eql x.2.2.2.2.2.1 (0:Int)) then Bool.true else Bool.false) else Bool.false) (
 opt.alt T0 (Unit) _ (
 opt.run T6 (
 opt.ret _ (Sum.inl ((2:Int),())))) (fun b=>
 opt.ret _ (Sum.inl (b.1,()))) (fun c=>
 opt.bnd (Unit) _ (some c) fun d=>
 opt.ret _ (Sum.inr ()))) (
 opt.bnd T0 _ (G77 p (x.2.2.2.2.1,())) fun e=>
 opt.bnd T0 _ (G77 p (x.2.2.2.2.2.1,())) fun f=>
 opt.ask _ (p.cmp .gtr (p.mm .gtr e.1 f.1) (1048576:Int)) (
 opt.alt T0 (Unit) _ (
 opt.run T6 (
 opt.ret _ (Sum.inl ((2:Int),())))) (fun g=>
 opt.ret _ (Sum.inl (g.1,()))) (fun h=>
 opt.bnd (Unit) _ (some h) fun i=>
 opt.ret _ (Sum.inr ()))) (
 opt.bnd T0 _ (G77 p (x.2.2.2.2.2.2.1,())) fun j=>
 opt.ask _ (p.cmp .gtr j.1 (1099511627776:Int)) (
 opt.alt T0 (Unit) _ (
 opt.run T6 (
 opt.ret _ (Sum.inl ((2:Int),())))) (fun k=>
 opt.ret _ (Sum.inl (k.1,()))) (fun l=>
 opt.bnd (Unit) _ (some l) fun m=>
 opt.ret _ (Sum.inr ()))) (
 opt.ask _ (p.cmp .lss (p.mm .lss x.2.2.2.2.1 x.2.2.2.2.2.1) (-1048576:Int)) (
 opt.alt T0 (Unit) _ (
 opt.run T6 (
 opt.ret _ (Sum.inl ((2:Int),())))) (fun n=>
 opt.ret _ (Sum.inl (n.1,()))) (fun o=>
 opt.bnd (Unit) _ (some o) fun q=>
 opt.ret _ (Sum.inr ()))) (
 opt.alt T0 (Unit) _ (
 opt.run T6 (
 opt.ask _ (p.cmp .lss x.2.2.2.2.2.2.1 (-1099511627776:Int)) (
 opt.ret _ (Sum.inl ((2:Int),()))) (
 opt.no _ 41))) (fun r=>
 opt.ret _ (Sum.inl (r.1,()))) (fun t=>
 opt.bnd (Unit) _ (some t) fun u=>
 opt.ret _ (Sum.inr ()))))))))) (fun v=>
 opt.ret _ (v.1,())) (fun w=>
 opt.bnd (Unit) _ (some w) fun z=>
 opt.ret _ ((0:Int),()))) (fun a1=>
 opt.alt ((LD×(LD×(LD×T1)))) (((LD×(LD×(LD×T1)))⊕(LD×(LD×(LD×(LD×(LD×(LD×T1)))))))) _ (some a1) (fun b1=>
 opt.alt T0 (Unit) _ (
 opt.run T6 (
 opt.ask _ (p.cmp .neq b1.2.2.2.1 (0:Int)) (
 opt.ret _ (Sum.inl (b1.2.2.2.1,()))) (
 opt.ask _ (bif (p.cmp .eql x.2.2.2.2.1 (0:Int)) then (bif (p.cmp .eql x.2.2.2.2.2.1 (0:Int)) then Bool.true else Bool.false) else Bool.false) (
 opt.alt T0 (Unit) _ (
 opt.run T6 (
 opt.ret _ (Sum.inl ((2:Int),())))) (fun c1=>
 opt.ret _ (Sum.inl (c1.1,()))) (fun d1=>
 opt.bnd (Unit) _ (some d1) fun e1=>
 opt.ret _ (Sum.inr ()))) (
 opt.bnd T0 _ (G77 p (x.2.2.2.2.1,())) fun f1=>
 opt.bnd T0 _ (G77 p (x.2.2.2.2.2.1,())) fun g1=>
 opt.ask _ (p.cmp .gtr (p.mm .gtr f1.1 g1.1) (1048576:Int)) (
 opt.alt T0 (Unit) _ (
 opt.run T6 (
 opt.ret _ (Sum.inl ((2:Int),())))) (fun h1=>
 opt.ret _ (Sum.inl (h1.1,()))) (fun i1=>
 opt.bnd (Unit) _ (some i1) fun j1=>
 opt.ret _ (Sum.inr ()))) (
 opt.bnd T0 _ (G77 p (x.2.2.2.2.2.2.1,())) fun k1=>
 opt.ask _ (p.cmp .gtr k1.1 (1099511627776:Int)) (
 opt.alt T0 (Unit) _ (
 opt.run T6 (
 opt.ret _ (Sum.inl ((2:Int),())))) (fun l1=>
 opt.ret _ (Sum.inl (l1.1,()))) (fun m1=>
 opt.bnd (Unit) _ (some m1) fun n1=>
 opt.ret _ (Sum.inr ()))) (
 opt.ask _ (p.cmp .lss (p.mm .lss x.2.2.2.2.1 x.2.2.2.2.2.1) (-1048576:Int)) (
 opt.alt T0 (Unit) _ (
 opt.run T6 (
 opt.ret _ (Sum.inl ((2:Int),())))) (fun o1=>
 opt.ret _ (Sum.inl (o1.1,()))) (fun q1=>
 opt.bnd (Unit) _ (some q1) fun r1=>
 opt.ret _ (Sum.inr ()))) (
 opt.alt T0 (Unit) _ (
 opt.run T6 (
 opt.ask _ (p.cmp .lss x.2.2.2.2.2.2.1 (-1099511627776:Int)) (
 opt.ret _ (Sum.inl ((2:Int),()))) (
 opt.no _ 41))) (fun t1=>
 opt.ret _ (Sum.inl (t1.1,()))) (fun u1=>
 opt.bnd (Unit) _ (some u1) fun v1=>
 opt.ret _ (Sum.inr ()))))))))) (fun w1=>
 opt.ret _ (w1.1,())) (fun z1=>
 opt.bnd (Unit) _ (some z1) fun a2=>
 opt.ret _ ((0:Int),()))) (fun b2=>
 opt.alt ((LD×(LD×(LD×T1)))) ((LD×(LD×(LD×(LD×(LD×(LD×T1))))))) _ (some b2) (fun c2=>
 opt.alt T0 (Unit) _ (
 opt.run T6 (
 opt.ask _ (p.cmp .neq c2.2.2.2.1 (0:Int)) (
 opt.ret _ (Sum.inl (c2.2.2.2.1,()))) (
 opt.ask _ (bif (p.cmp .eql x.2.2.2.2.1 (0:Int)) then (bif (p.cmp .eql x.2.2.2.2.2.1 (0:Int)) then Bool.true else Bool.false) else Bool.false) (
 opt.alt T0 (Unit) _ (
 opt.run T6 (
 opt.ret _ (Sum.inl ((2:Int),())))) (fun d2=>
 opt.ret _ (Sum.inl (d2.1,()))) (fun e2=>
 opt.bnd (Unit) _ (some e2) fun f2=>
 opt.ret _ (Sum.inr ()))) (
 opt.bnd T0 _ (G77 p (x.2.2.2.2.1,())) fun g2=>
 opt.bnd T0 _ (G77 p (x.2.2.2.2.2.1,())) fun h2=>
 opt.ask _ (p.cmp .gtr (p.mm .gtr g2.1 h2.1) (1048576:Int)) (
 opt.alt T0 (Unit) _ (
 opt.run T6 (
 opt.ret _ (Sum.inl ((2:Int),())))) (fun i2=>
 opt.ret _ (Sum.inl (i2.1,()))) (fun j2=>
 opt.bnd (Unit) _ (some j2) fun k2=>
 opt.ret _ (Sum.inr ()))) (
 opt.bnd T0 _ (G77 p (x.2.2.2.2.2.2.1,())) fun l2=>
 opt.ask _ (p.cmp .gtr l2.1 (1099511627776:Int)) (
 opt.alt T0 (Unit) _ (
 opt.run T6 (
 opt.ret _ (Sum.inl ((2:Int),())))) (fun m2=>
 opt.ret _ (Sum.inl (m2.1,()))) (fun n2=>
 opt.bnd (Unit) _ (some n2) fun o2=>
 opt.ret _ (Sum.inr ()))) (
 opt.ask _ (p.cmp .lss (p.mm .lss x.2.2.2.2.1 x.2.2.2.2.2.1) (-1048576:Int)) (
 opt.alt T0 (Unit) _ (
 opt.run T6 (
 opt.ret _ (Sum.inl ((2:Int),())))) (fun q2=>
 opt.ret _ (Sum.inl (q2.1,()))) (fun r2=>
 opt.bnd (Unit) _ (some r2) fun t2=>
 opt.ret _ (Sum.inr ()))) (
 opt.alt T0 (Unit) _ (
 opt.run T6 (
 opt.ask _ (p.cmp .lss x.2.2.2.2.2.2.1 (-1099511627776:Int)) (
 opt.ret _ (Sum.inl ((2:Int),()))) (
 opt.bnd T0 _ (v16 it p (c2.2.2.1,(x.2.2.2.2.1,(x.2.2.2.2.2.1,())))) fun u2=>
 opt.ask _ (p.cmp .gtr u2.1 x.2.2.2.2.2.2.1) (
 opt.ret _ (Sum.inl ((14:Int),()))) (
 opt.no _ 41)))) (fun v2=>
 opt.ret _ (Sum.inl (v2.1,()))) (fun w2=>
 opt.bnd (Unit) _ (some w2) fun z2=>
 opt.ret _ (Sum.inr ()))))))))) (fun a3=>
 opt.ret _ (a3.1,())) (fun b3=>
 opt.bnd (Unit) _ (some b3) fun c3=>
 opt.ret _ ((0:Int),()))) (fun d3=>
 opt.bnd ((LD×(LD×(LD×(LD×(LD×(LD×T1))))))) _ (some d3) fun e3=>
 opt.alt T0 (Unit) _ (
 opt.run T6 (
 opt.ask _ (p.cmp .neq e3.2.2.2.2.2.2.1 (0:Int)) (
 opt.ret _ (Sum.inl (e3.2.2.2.2.2.2.1,()))) (
 opt.ask _ (bif (p.cmp .eql x.2.2.2.2.1 (0:Int)) then (bif (p.cmp .eql x.2.2.2.2.2.1 (0:Int)) then Bool.true else Bool.false) else Bool.false) (
 opt.alt T0 (Unit) _ (
 opt.run T6 (
 opt.ret _ (Sum.inl ((2:Int),())))) (fun f3=>
 opt.ret _ (Sum.inl (f3.1,()))) (fun g3=>
 opt.bnd (Unit) _ (some g3) fun h3=>
 opt.ret _ (Sum.inr ()))) (
 opt.bnd T0 _ (G77 p (x.2.2.2.2.1,())) fun i3=>
 opt.bnd T0 _ (G77 p (x.2.2.2.2.2.1,())) fun j3=>
 opt.ask _ (p.cmp .gtr (p.mm .gtr i3.1 j3.1) (1048576:Int)) (
 opt.alt T0 (Unit) _ (
 opt.run T6 (
 opt.ret _ (Sum.inl ((2:Int),())))) (fun k3=>
 opt.ret _ (Sum.inl (k3.1,()))) (fun l3=>
 opt.bnd (Unit) _ (some l3) fun m3=>
 opt.ret _ (Sum.inr ()))) (
 opt.bnd T0 _ (G77 p (x.2.2.2.2.2.2.1,())) fun n3=>
 opt.ask _ (p.cmp .gtr n3.1 (1099511627776:Int)) (
 opt.alt T0 (Unit) _ (
 opt.run T6 (
 opt.ret _ (Sum.inl ((2:Int),())))) (fun o3=>
 opt.ret _ (Sum.inl (o3.1,()))) (fun q3=>
 opt.bnd (Unit) _ (some q3) fun r3=>
 opt.ret _ (Sum.inr ()))) (
 opt.ask _ (p.cmp .lss (p.mm .lss x.2.2.2.2.1 x.2.2.2.2.2.1) (-1048576:Int)) (
 opt.alt T0 (Unit) _ (
 opt.run T6 (
 opt.ret _ (Sum.inl ((2:Int),())))) (fun t3=>
 opt.ret _ (Sum.inl (t3.1,()))) (fun u3=>
 opt.bnd (Unit) _ (some u3) fun v3=>
 opt.ret _ (Sum.inr ()))) (
 opt.alt T0 (Unit) _ (
 opt.run T6 (
 opt.ask _ (p.cmp .lss x.2.2.2.2.2.2.1 (-1099511627776:Int)) (
 opt.ret _ (Sum.inl ((2:Int),()))) (
 opt.bnd T0 _ (v16 it p (e3.2.2.1,(x.2.2.2.2.1,(x.2.2.2.2.2.1,())))) fun w3=>
 opt.ask _ (p.cmp .gtr w3.1 x.2.2.2.2.2.2.1) (
 opt.ret _ (Sum.inl ((14:Int),()))) (
 opt.bnd T0 _ (v16 it p (e3.2.2.2.2.2.1,((p.ar .sub .i64 (0:Int) x.2.2.2.2.1),((p.ar .sub .i64 (0:Int) x.2.2.2.2.2.1),())))) fun z3=>
 opt.ask _ (p.cmp .leq (p.ar .sub .i64 (0:Int) z3.1) x.2.2.2.2.2.2.1) (
 opt.ret _ (Sum.inl ((14:Int),()))) (
 opt.ret _ (Sum.inr ())))))) (fun a4=>
 opt.ret _ (Sum.inl (a4.1,()))) (fun b4=>
 opt.bnd (Unit) _ (some b4) fun c4=>
 opt.ret _ (Sum.inr ()))))))))) (fun d4=>
 opt.ret _ (d4.1,())) (fun e4=>
 opt.bnd (Unit) _ (some e4) fun f4=>
 opt.ret _ ((0:Int),())))))
def G39:=g39 it0
theorem ok39:CtrOk PG v57 (G39 std):=okF (a:=an39) (l:=la39) (gC v8x (gC u3b (gC v8f (gN)))) (by kernel_rfl) fun _ _=>by kernel_rfl
end Go.Am
end
noncomputable section
namespace Go.Am
def v59:Ctr:=
 ⟨37,[.agg [.list 2, .list 1], .agg [.list 2, .list 1]],[],[(.ret,⟨[(0, .tuple [.agg [.int .i64, .int .i64, .int .i64], .int .i64])],[],1⟩)]⟩
def la37:List LA:=
 [⟨37,[false,true,false,true,true,true],0,⟨⟨[(4, .bptr 0 0),(5, .bptr 1 0),(6, .bptr 2 0),(7, .bptr 3 0),(46, .agg [.list 2, .list 2, .list 2, .list 2]),(47, .int .i64)],[.box [.int .i64, .int .i64, .int .i64], .box [.int .i64], .box [.list 2, .list 1, .list 2], .box [.bptr 4 0], .box [.list 2, .list 1, .list 2]],89⟩,[(AX.ret,⟨[(4, .bptr 0 0),(5, .bptr 1 0)],[.box [.int .i64, .int .i64, .int .i64], .box [.int .i64]],89⟩),((AX.exit 0),⟨[(4, .bptr 0 0),(5, .bptr 1 0),(6, .bptr 2 0),(7, .bptr 3 0)],[.box [.int .i64, .int .i64, .int .i64], .box [.int .i64], .box [.list 2, .list 1, .list 2], .box [.bptr 4 0], .box [.list 2, .list 1, .list 2]],89⟩)]⟩⟩,
 ⟨37,[false,true,true,false,false,true,true,false,false,true,false,true,true,true],0,⟨⟨[(4, .bptr 0 0),(5, .bptr 1 0),(6, .bptr 2 0),(7, .bptr 3 0),(10, .bptr 4 0),(46, .agg [.list 2, .list 2, .list 2, .list 2]),(47, .int .i64),(51, .list 2),(52, .int .i64),(53, .int .i64)],[.box [.int .i64, .int .i64, .int .i64], .box [.int .i64], .box [.list 2, .list 1, .list 2], .box [.bptr 5 0], .box [.list 2, .list 2], .box [.list 2, .list 1, .list 2]],89⟩,[(AX.ret,⟨[(4, .bptr 0 0),(5, .bptr 1 0)],[.box [.int .i64, .int .i64, .int .i64], .box [.int .i64]],89⟩),((AX.exit 2),⟨[(4, .bptr 0 0),(5, .bptr 1 0),(6, .bptr 2 0),(7, .bptr 3 0),(46, .agg [.list 2, .list 2, .list 2, .list 2]),(47, .int .i64)],[.box [.int .i64, .int .i64, .int .i64], .box [.int .i64], .box [.list 2, .list 1, .list 2], .box [.bptr 4 0], .box [.list 2, .list 1, .list 2]],89⟩)]⟩⟩,
 ⟨94,[false,true],7,⟨⟨[(0, .yld 6),(1, .bptr 5 0),(6, .list 2),(7, .int .i64),(8, .int .i64)],[.box [.int .i64, .int .i64, .int .i64], .box [.int .i64], .box [.list 2, .list 1, .list 2], .box [.bptr 4 0], .box [.list 2, .list 1, .list 2], .box [.list 2], .loop Go.LoopState.ready Option.none 37 [Bool.false,Bool.true,Bool.false,Bool.true,Bool.true,Bool.true,Bool.true] 89 [(72, .clo 94 [] [.bptr 5 0]),(7, .bptr 3 0),(4, .bptr 0 0),(5, .bptr 1 0)]],33⟩,[(AX.ret,⟨[],[.box [.int .i64, .int .i64, .int .i64], .box [.int .i64], .box [.list 2, .list 1, .list 2], .box [.bptr 4 0], .box [.list 2, .list 1, .list 2], .box [.list 2], .loop Go.LoopState.ready Option.none 37 [Bool.false,Bool.true,Bool.false,Bool.true,Bool.true,Bool.true,Bool.true] 89 [(72, .clo 94 [] [.bptr 5 0]),(7, .bptr 3 0),(4, .bptr 0 0),(5, .bptr 1 0)]],33⟩),(AX.ret,⟨[],[.box [.int .i64, .int .i64, .int .i64], .box [.int .i64], .box [.list 2, .list 1, .list 2], .box [.bptr 4 0], .box [.list 2, .list 1, .list 2], .box [.list 2], .loop Go.LoopState.done (Option.some Go.Code.ret) 37 [Bool.false,Bool.true,Bool.false,Bool.true,Bool.true,Bool.true,Bool.true] 89 [(72, .clo 94 [] [.bptr 5 0]),(7, .bptr 3 0),(4, .bptr 0 0),(5, .bptr 1 0)]],33⟩),((AX.exit 0),⟨[],[.box [.int .i64, .int .i64, .int .i64], .box [.int .i64], .box [.list 2, .list 1, .list 2], .box [.bptr 4 0], .box [.list 2, .list 1, .list 2], .box [.list 2], .loop Go.LoopState.ready Option.none 37 [Bool.false,Bool.true,Bool.false,Bool.true,Bool.true,Bool.true,Bool.true] 89 [(72, .clo 94 [] [.bptr 5 0]),(7, .bptr 3 0),(4, .bptr 0 0),(5, .bptr 1 0)]],33⟩)]⟩⟩,
 ⟨94,[false,true],22,⟨⟨[(0, .yld 21),(1, .bptr 20 0),(6, .list 2),(7, .int .i64),(8, .int .i64)],[.box [.int .i64, .int .i64, .int .i64], .box [.int .i64], .box [.list 2, .list 1, .list 2], .box [.bptr 4 0], .box [.list 2, .list 1, .list 2], .box [.list 2], .dead, .box [.int .i64, .int .i64], .dead, .dead, .dead, .dead, .dead, .dead, .dead, .dead, .dead, .dead, .box [.int .i64, .int .i64], .box [.int .i64, .int .i64, .int .i64, .int .i64], .box [.list 2], .loop Go.LoopState.ready Option.none 37 [Bool.false,Bool.true,Bool.false,Bool.true,Bool.false,Bool.true,Bool.false,Bool.true,Bool.true,Bool.true,Bool.true] 89 [(78, .clo 94 [] [.bptr 20 0]),(13, .bptr 19 0),(7, .bptr 3 0),(4, .bptr 0 0),(5, .bptr 1 0)]],33⟩,[(AX.ret,⟨[],[.box [.int .i64, .int .i64, .int .i64], .box [.int .i64], .box [.list 2, .list 1, .list 2], .box [.bptr 4 0], .box [.list 2, .list 1, .list 2], .box [.list 2], .dead, .box [.int .i64, .int .i64], .dead, .dead, .dead, .dead, .dead, .dead, .dead, .dead, .dead, .dead, .box [.int .i64, .int .i64], .box [.int .i64, .int .i64, .int .i64, .int .i64], .box [.list 2], .loop Go.LoopState.ready Option.none 37 [Bool.false,Bool.true,Bool.false,Bool.true,Bool.false,Bool.true,Bool.false,Bool.true,Bool.true,Bool.true,Bool.true] 89 [(78, .clo 94 [] [.bptr 20 0]),(13, .bptr 19 0),(7, .bptr 3 0),(4, .bptr 0 0),(5, .bptr 1 0)]],33⟩),(AX.ret,⟨[],[.box [.int .i64, .int .i64, .int .i64], .box [.int .i64], .box [.list 2, .list 1, .list 2], .box [.bptr 4 0], .box [.list 2, .list 1, .list 2], .box [.list 2], .dead, .box [.int .i64, .int .i64], .dead, .dead, .dead, .dead, .dead, .dead, .dead, .dead, .dead, .dead, .box [.int .i64, .int .i64], .box [.int .i64, .int .i64, .int .i64, .int .i64], .box [.list 2], .loop Go.LoopState.done (Option.some Go.Code.ret) 37 [Bool.false,Bool.true,Bool.false,Bool.true,Bool.false,Bool.true,Bool.false,Bool.true,Bool.true,Bool.true,Bool.true] 89 [(78, .clo 94 [] [.bptr 20 0]),(13, .bptr 19 0),(7, .bptr 3 0),(4, .bptr 0 0),(5, .bptr 1 0)]],33⟩),((AX.exit 0),⟨[],[.box [.int .i64, .int .i64, .int .i64], .box [.int .i64], .box [.list 2, .list 1, .list 2], .box [.bptr 4 0], .box [.list 2, .list 1, .list 2], .box [.list 2], .dead, .box [.int .i64, .int .i64], .dead, .dead, .dead, .dead, .dead, .dead, .dead, .dead, .dead, .dead, .box [.int .i64, .int .i64], .box [.int .i64, .int .i64, .int .i64, .int .i64], .box [.list 2], .loop Go.LoopState.ready Option.none 37 [Bool.false,Bool.true,Bool.false,Bool.true,Bool.false,Bool.true,Bool.false,Bool.true,Bool.true,Bool.true,Bool.true] 89 [(78, .clo 94 [] [.bptr 20 0]),(13, .bptr 19 0),(7, .bptr 3 0),(4, .bptr 0 0),(5, .bptr 1 0)]],33⟩)]⟩⟩]
def ja37:List JA:=
 [⟨37,[true,false,true,false,true,false,true,true,true,true],19,[(AX.normal,⟨[(4, .bptr 0 0),(5, .bptr 1 0),(7, .bptr 3 0)],[.box [.int .i64, .int .i64, .int .i64], .box [.int .i64], .box [.list 2, .list 1, .list 2], .box [.bptr 4 0], .box [.list 2, .list 1, .list 2], .box [.list 2], .dead, .box [.int .i64, .int .i64], .dead, .dead, .dead, .dead, .dead, .dead, .dead, .dead, .dead, .dead, .box [.int .i64, .int .i64]],89⟩),(AX.ret,⟨[(4, .bptr 0 0),(5, .bptr 1 0)],[.box [.int .i64, .int .i64, .int .i64], .box [.int .i64], .box [.list 2, .list 1, .list 2], .box [.bptr 4 0], .box [.list 2, .list 1, .list 2], .box [.list 2], .dead, .box [.int .i64, .int .i64], .dead, .dead, .dead, .dead, .dead, .dead, .dead, .dead, .dead, .dead, .box [.int .i64, .int .i64]],89⟩)]⟩,
 ⟨37,[false,false,false,true,true,false,false,true,false,true,true,true],0,[(AX.normal,⟨[(4, .bptr 0 0),(5, .bptr 1 0),(6, .bptr 2 0),(7, .bptr 3 0),(10, .bptr 4 0),(46, .agg [.list 2, .list 2, .list 2, .list 2]),(47, .int .i64)],[.box [.int .i64, .int .i64, .int .i64], .box [.int .i64], .box [.list 2, .list 1, .list 2], .box [.bptr 5 0], .box [.list 2, .list 2], .box [.list 2, .list 1, .list 2]],89⟩)]⟩,
 ⟨37,[true,false,true,true,true,true],0,[(AX.normal,⟨[(4, .bptr 0 0),(5, .bptr 1 0)],[.box [.int .i64, .int .i64, .int .i64], .box [.int .i64]],89⟩),(AX.ret,⟨[(4, .bptr 0 0),(5, .bptr 1 0)],[.box [.int .i64, .int .i64, .int .i64], .box [.int .i64]],89⟩)]⟩]
def u1i:List CF:=
 [⟨v5w,G76⟩,⟨w55,G57⟩,⟨w2c,G62⟩]
def an37:Anns:=
 ⟨u1i,ja37,[]⟩
def v1i (it:It) (p:Prim):(Int×(Int×(Int×(Int×(LD×(LD×(LD×(LD×(LD×(LD×(LD×(Int×(Int×(Int×(Int×(Int×(Int×(Int×(Int×(LD×(LD×(Int×(Int×Unit)))))))))))))))))))))))→Option ((Int×(Int×(Int×(Int×(LD×(LD×(LD×(LD×(LD×(LD×(LD×(Int×(Int×(Int×(Int×(Int×(Int×(Int×(Int×(LD×(LD×(Int×(Int×Unit)))))))))))))))))))))))⊕((Int×(Int×(Int×(Int×(LD×(LD×(LD×(LD×(LD×(LD×(LD×(Int×(Int×(Int×(Int×(Int×(Int×(Int×(Int×(LD×Unit))))))))))))))))))))⊕((Int×(Int×(Int×(Int×(LD×(LD×(LD×(LD×(LD×(LD×(LD×(Int×(Int×(Int×(Int×(Int×(Int×(Int×(Int×(LD×Unit))))))))))))))))))))⊕(Int×(Int×(Int×(Int×(LD×(LD×(LD×(LD×(LD×(LD×(LD×(Int×(Int×(Int×(Int×(Int×(Int×(Int×(Int×(LD×Unit))))))))))))))))))))))):=
 fun a=>opt.run _ (
 opt.ask _ (p.cmp .lss a.2.2.2.2.2.2.2.2.2.2.2.2.2.2.2.2.2.2.2.2.2.2.1 a.2.2.2.2.2.2.2.2.2.2.2.2.2.2.2.2.2.2.2.2.2.1) (
 opt.need _ (p.rowOk a.2.2.2.2.2.2.2.2.2.2.2.2.2.2.2.2.2.2.2.2.1 (p.nat a.2.2.2.2.2.2.2.2.2.2.2.2.2.2.2.2.2.2.2.2.2.2.1) [ci,ci])<|
 opt.need _ (p.cmp .geq a.2.2.2.2.2.2.2.2.2.2.2.2.2.2.2.2.2.2.2.2.2.2.1 (0:Int))<|
 opt.need _ (p.cmp .neq (p.ofNat (p.len a.2.2.2.2.2.2.2.2.2.2.2.2.2.2.2.2.2.2.2.1)) (0:Int))<|
 opt.need _ (p.rowOk a.2.2.2.2.2.2.2.2.2.2.2.2.2.2.2.2.2.2.2.1 (p.nat (p.ar .rem .i64 (p.ar .add .i64 a.2.2.2.2.2.2.2.2.2.2.2.2.2.2.2.2.2.2.2.2.2.2.1 (1:Int)) (p.ofNat (p.len a.2.2.2.2.2.2.2.2.2.2.2.2.2.2.2.2.2.2.2.1)))) [ci,ci])<|
 opt.need _ (p.cmp .geq (p.ar .rem .i64 (p.ar .add .i64 a.2.2.2.2.2.2.2.2.2.2.2.2.2.2.2.2.2.2.2.2.2.2.1 (1:Int)) (p.ofNat (p.len a.2.2.2.2.2.2.2.2.2.2.2.2.2.2.2.2.2.2.2.1))) (0:Int))<|
 opt.ask _ (bif (p.cmp .eql (p.ar .sub .i64 (p.rdI a.2.2.2.2.2.2.2.2.2.2.2.2.2.2.2.2.2.2.2.1 (p.nat (p.ar .rem .i64 (p.ar .add .i64 a.2.2.2.2.2.2.2.2.2.2.2.2.2.2.2.2.2.2.2.2.2.2.1 (1:Int)) (p.ofNat (p.len a.2.2.2.2.2.2.2.2.2.2.2.2.2.2.2.2.2.2.2.1)))) 0) (p.rdI a.2.2.2.2.2.2.2.2.2.2.2.2.2.2.2.2.2.2.2.2.1 (p.nat a.2.2.2.2.2.2.2.2.2.2.2.2.2.2.2.2.2.2.2.2.2.2.1) 0)) (0:Int)) then (bif (p.cmp .eql (p.ar .sub .i64 (p.rdI a.2.2.2.2.2.2.2.2.2.2.2.2.2.2.2.2.2.2.2.1 (p.nat (p.ar .rem .i64 (p.ar .add .i64 a.2.2.2.2.2.2.2.2.2.2.2.2.2.2.2.2.2.2.2.2.2.2.1 (1:Int)) (p.ofNat (p.len a.2.2.2.2.2.2.2.2.2.2.2.2.2.2.2.2.2.2.2.1)))) 1) (p.rdI a.2.2.2.2.2.2.2.2.2.2.2.2.2.2.2.2.2.2.2.2.1 (p.nat a.2.2.2.2.2.2.2.2.2.2.2.2.2.2.2.2.2.2.2.2.2.2.1) 1)) (0:Int)) then Bool.true else Bool.false) else Bool.false) (
 opt.ret _ (Sum.inr (Sum.inl (a.1,(a.2.1,(a.2.2.1,(a.2.2.2.1,(a.2.2.2.2.1,(a.2.2.2.2.2.1,(a.2.2.2.2.2.2.1,(a.2.2.2.2.2.2.2.1,(a.2.2.2.2.2.2.2.2.1,(a.2.2.2.2.2.2.2.2.2.1,(a.2.2.2.2.2.2.2.2.2.2.1,(a.2.2.2.2.2.2.2.2.2.2.2.1,(a.2.2.2.2.2.2.2.2.2.2.2.2.1,(a.2.2.2.2.2.2.2.2.2.2.2.2.2.1,(a.2.2.2.2.2.2.2.2.2.2.2.2.2.2.1,(a.2.2.2.2.2.2.2.2.2.2.2.2.2.2.2.1,(a.2.2.2.2.2.2.2.2.2.2.2.2.2.2.2.2.1,(a.2.2.2.2.2.2.2.2.2.2.2.2.2.2.2.2.2.1,(a.2.2.2.2.2.2.2.2.2.2.2.2.2.2.2.2.2.2.1,(a.2.2.2.2.2.2.2.2.2.2.2.2.2.2.2.2.2.2.2.1,()))))))))))))))))))))))) (
 opt.bnd T21 _ (g76 it p (a.2.2.2.2.2.2.2.2.2.2.2.2.2.2.2.1,(a.2.2.2.2.2.2.2.2.2.2.2.2.2.2.2.2.1,(a.2.2.2.2.2.2.2.2.2.2.2.2.2.2.2.2.2.1,(a.2.2.2.2.2.2.2.2.2.2.2.2.2.2.2.2.2.2.1,((p.rdI a.2.2.2.2.2.2.2.2.2.2.2.2.2.2.2.2.2.2.2.2.1 (p.nat a.2.2.2.2.2.2.2.2.2.2.2.2.2.2.2.2.2.2.2.2.2.2.1) 0),((p.rdI a.2.2.2.2.2.2.2.2.2.2.2.2.2.2.2.2.2.2.2.2.1 (p.nat a.2.2.2.2.2.2.2.2.2.2.2.2.2.2.2.2.2.2.2.2.2.2.1) 1),((p.ar .sub .i64 (p.rdI a.2.2.2.2.2.2.2.2.2.2.2.2.2.2.2.2.2.2.2.1 (p.nat (p.ar .rem .i64 (p.ar .add .i64 a.2.2.2.2.2.2.2.2.2.2.2.2.2.2.2.2.2.2.2.2.2.2.1 (1:Int)) (p.ofNat (p.len a.2.2.2.2.2.2.2.2.2.2.2.2.2.2.2.2.2.2.2.1)))) 0) (p.rdI a.2.2.2.2.2.2.2.2.2.2.2.2.2.2.2.2.2.2.2.2.1 (p.nat a.2.2.2.2.2.2.2.2.2.2.2.2.2.2.2.2.2.2.2.2.2.2.1) 0)),((p.ar .sub .i64 (p.rdI a.2.2.2.2.2.2.2.2.2.2.2.2.2.2.2.2.2.2.2.1 (p.nat (p.ar .rem .i64 (p.ar .add .i64 a.2.2.2.2.2.2.2.2.2.2.2.2.2.2.2.2.2.2.2.2.2.2.1 (1:Int)) (p.ofNat (p.len a.2.2.2.2.2.2.2.2.2.2.2.2.2.2.2.2.2.2.2.1)))) 1) (p.rdI a.2.2.2.2.2.2.2.2.2.2.2.2.2.2.2.2.2.2.2.2.1 (p.nat a.2.2.2.2.2.2.2.2.2.2.2.2.2.2.2.2.2.2.2.2.2.2.1) 1)),()))))))))) fun b=>
 opt.ask _ b.2.2.2.1 (
 opt.ret _ (Sum.inr (Sum.inr (Sum.inl (b.1,(b.2.1,(b.2.2.1,((0:Int),(a.2.2.2.2.1,(a.2.2.2.2.2.1,(a.2.2.2.2.2.2.1,(a.2.2.2.2.2.2.2.1,(a.2.2.2.2.2.2.2.2.1,(a.2.2.2.2.2.2.2.2.2.1,(a.2.2.2.2.2.2.2.2.2.2.1,(a.2.2.2.2.2.2.2.2.2.2.2.1,(a.2.2.2.2.2.2.2.2.2.2.2.2.1,(a.2.2.2.2.2.2.2.2.2.2.2.2.2.1,(a.2.2.2.2.2.2.2.2.2.2.2.2.2.2.1,(a.2.2.2.2.2.2.2.2.2.2.2.2.2.2.2.1,(a.2.2.2.2.2.2.2.2.2.2.2.2.2.2.2.2.1,(a.2.2.2.2.2.2.2.2.2.2.2.2.2.2.2.2.2.1,(a.2.2.2.2.2.2.2.2.2.2.2.2.2.2.2.2.2.2.1,(a.2.2.2.2.2.2.2.2.2.2.2.2.2.2.2.2.2.2.2.1,())))))))))))))))))))))))) (
 opt.ret _ (Sum.inl (a.1,(a.2.1,(a.2.2.1,(a.2.2.2.1,(a.2.2.2.2.1,(a.2.2.2.2.2.1,(a.2.2.2.2.2.2.1,(a.2.2.2.2.2.2.2.1,(a.2.2.2.2.2.2.2.2.1,(a.2.2.2.2.2.2.2.2.2.1,(a.2.2.2.2.2.2.2.2.2.2.1,(a.2.2.2.2.2.2.2.2.2.2.2.1,(a.2.2.2.2.2.2.2.2.2.2.2.2.1,(a.2.2.2.2.2.2.2.2.2.2.2.2.2.1,(a.2.2.2.2.2.2.2.2.2.2.2.2.2.2.1,(a.2.2.2.2.2.2.2.2.2.2.2.2.2.2.2.1,(a.2.2.2.2.2.2.2.2.2.2.2.2.2.2.2.2.1,(a.2.2.2.2.2.2.2.2.2.2.2.2.2.2.2.2.2.1,(a.2.2.2.2.2.2.2.2.2.2.2.2.2.2.2.2.2.2.1,(a.2.2.2.2.2.2.2.2.2.2.2.2.2.2.2.2.2.2.2.1,(a.2.2.2.2.2.2.2.2.2.2.2.2.2.2.2.2.2.2.2.2.1,(a.2.2.2.2.2.2.2.2.2.2.2.2.2.2.2.2.2.2.2.2.2.1,((p.ar .add .i64 a.2.2.2.2.2.2.2.2.2.2.2.2.2.2.2.2.2.2.2.2.2.2.1 (1:Int)),()))))))))))))))))))))))))))) (
 opt.ret _ (Sum.inr (Sum.inr (Sum.inr (a.1,(a.2.1,(a.2.2.1,(a.2.2.2.1,(a.2.2.2.2.1,(a.2.2.2.2.2.1,(a.2.2.2.2.2.2.1,(a.2.2.2.2.2.2.2.1,(a.2.2.2.2.2.2.2.2.1,(a.2.2.2.2.2.2.2.2.2.1,(a.2.2.2.2.2.2.2.2.2.2.1,(a.2.2.2.2.2.2.2.2.2.2.2.1,(a.2.2.2.2.2.2.2.2.2.2.2.2.1,(a.2.2.2.2.2.2.2.2.2.2.2.2.2.1,(a.2.2.2.2.2.2.2.2.2.2.2.2.2.2.1,(a.2.2.2.2.2.2.2.2.2.2.2.2.2.2.2.1,(a.2.2.2.2.2.2.2.2.2.2.2.2.2.2.2.2.1,(a.2.2.2.2.2.2.2.2.2.2.2.2.2.2.2.2.2.1,(a.2.2.2.2.2.2.2.2.2.2.2.2.2.2.2.2.2.2.1,(a.2.2.2.2.2.2.2.2.2.2.2.2.2.2.2.2.2.2.2.1,())))))))))))))))))))))))))
def v1j (it:It) (p:Prim):(Int×(Int×(Int×(Int×(LD×(LD×(LD×(LD×(LD×(LD×(LD×(LD×(Int×(Int×Unit))))))))))))))→Option ((Int×(Int×(Int×(Int×(LD×(LD×(LD×(LD×(LD×(LD×(LD×(LD×(Int×(Int×Unit))))))))))))))⊕((Int×(Int×(Int×(Int×(LD×(LD×(LD×(LD×(LD×(LD×(LD×Unit)))))))))))⊕((Int×(Int×(Int×(Int×(LD×(LD×(LD×(LD×(LD×(LD×(LD×Unit)))))))))))⊕(Int×(Int×(Int×(Int×(LD×(LD×(LD×(LD×(LD×(LD×(LD×Unit)))))))))))))):=
 fun a=>opt.run _ (
 opt.ask _ (p.cmp .lss a.2.2.2.2.2.2.2.2.2.2.2.2.2.1 a.2.2.2.2.2.2.2.2.2.2.2.2.1) (
 opt.need _ (p.rowOk a.2.2.2.2.2.2.2.2.2.2.2.1 (p.nat a.2.2.2.2.2.2.2.2.2.2.2.2.2.1) [ci,ci])<|
 opt.need _ (p.cmp .geq a.2.2.2.2.2.2.2.2.2.2.2.2.2.1 (0:Int))<|
 opt.need _ (p.cmp .neq (p.ofNat (p.len a.2.2.2.2.2.2.2.2.2.2.1)) (0:Int))<|
 opt.need _ (p.rowOk a.2.2.2.2.2.2.2.2.2.2.1 (p.nat (p.ar .rem .i64 (p.ar .add .i64 a.2.2.2.2.2.2.2.2.2.2.2.2.2.1 (1:Int)) (p.ofNat (p.len a.2.2.2.2.2.2.2.2.2.2.1)))) [ci,ci])<|
 opt.need _ (p.cmp .geq (p.ar .rem .i64 (p.ar .add .i64 a.2.2.2.2.2.2.2.2.2.2.2.2.2.1 (1:Int)) (p.ofNat (p.len a.2.2.2.2.2.2.2.2.2.2.1))) (0:Int))<|
 opt.ask _ (bif (p.cmp .eql (p.ar .sub .i64 (p.rdI a.2.2.2.2.2.2.2.2.2.2.1 (p.nat (p.ar .rem .i64 (p.ar .add .i64 a.2.2.2.2.2.2.2.2.2.2.2.2.2.1 (1:Int)) (p.ofNat (p.len a.2.2.2.2.2.2.2.2.2.2.1)))) 0) (p.rdI a.2.2.2.2.2.2.2.2.2.2.2.1 (p.nat a.2.2.2.2.2.2.2.2.2.2.2.2.2.1) 0)) (0:Int)) then (bif (p.cmp .eql (p.ar .sub .i64 (p.rdI a.2.2.2.2.2.2.2.2.2.2.1 (p.nat (p.ar .rem .i64 (p.ar .add .i64 a.2.2.2.2.2.2.2.2.2.2.2.2.2.1 (1:Int)) (p.ofNat (p.len a.2.2.2.2.2.2.2.2.2.2.1)))) 1) (p.rdI a.2.2.2.2.2.2.2.2.2.2.2.1 (p.nat a.2.2.2.2.2.2.2.2.2.2.2.2.2.1) 1)) (0:Int)) then Bool.true else Bool.false) else Bool.false) (
 opt.ret _ (Sum.inr (Sum.inl (a.1,(a.2.1,(a.2.2.1,(a.2.2.2.1,(a.2.2.2.2.1,(a.2.2.2.2.2.1,(a.2.2.2.2.2.2.1,(a.2.2.2.2.2.2.2.1,(a.2.2.2.2.2.2.2.2.1,(a.2.2.2.2.2.2.2.2.2.1,(a.2.2.2.2.2.2.2.2.2.2.1,())))))))))))))) (
 opt.alt T49 T49 _ (
 opt.run (((Int×(Int×(Int×(Int×(LD×(LD×(LD×(LD×(LD×(LD×(LD×(Int×(Int×(Int×(Int×Unit)))))))))))))))⊕(Int×(Int×(Int×(Int×(LD×(LD×(LD×(LD×(LD×(LD×(LD×(Int×(Int×(Int×(Int×Unit))))))))))))))))) (
 opt.alt T37 (((Int×(Int×(Int×(Int×(LD×(LD×(LD×(LD×(LD×(LD×(LD×(Int×(Int×(Int×(Int×(Int×(Int×(Int×(Int×(LD×Unit))))))))))))))))))))⊕(Int×(Int×(Int×(Int×(LD×(LD×(LD×(LD×(LD×(LD×(LD×(Int×(Int×(Int×(Int×(Int×(Int×(Int×(Int×(LD×Unit)))))))))))))))))))))) _ (
 it _ _ (v1i it p) (a.1,(a.2.1,(a.2.2.1,(a.2.2.2.1,(a.2.2.2.2.1,(a.2.2.2.2.2.1,(a.2.2.2.2.2.2.1,(a.2.2.2.2.2.2.2.1,(a.2.2.2.2.2.2.2.2.1,(a.2.2.2.2.2.2.2.2.2.1,(a.2.2.2.2.2.2.2.2.2.2.1,((p.rdI a.2.2.2.2.2.2.2.2.2.2.2.1 (p.nat a.2.2.2.2.2.2.2.2.2.2.2.2.2.1) 0),((p.rdI a.2.2.2.2.2.2.2.2.2.2.2.1 (p.nat a.2.2.2.2.2.2.2.2.2.2.2.2.2.1) 1),((p.ar .sub .i64 (p.rdI a.2.2.2.2.2.2.2.2.2.2.1 (p.nat (p.ar .rem .i64 (p.ar .add .i64 a.2.2.2.2.2.2.2.2.2.2.2.2.2.1 (1:Int)) (p.ofNat (p.len a.2.2.2.2.2.2.2.2.2.2.1)))) 0) (p.rdI a.2.2.2.2.2.2.2.2.2.2.2.1 (p.nat a.2.2.2.2.2.2.2.2.2.2.2.2.2.1) 0)),((p.ar .sub .i64 (p.rdI a.2.2.2.2.2.2.2.2.2.2.1 (p.nat (p.ar .rem .i64 (p.ar .add .i64 a.2.2.2.2.2.2.2.2.2.2.2.2.2.1 (1:Int)) (p.ofNat (p.len a.2.2.2.2.2.2.2.2.2.2.1)))) 1) (p.rdI a.2.2.2.2.2.2.2.2.2.2.2.1 (p.nat a.2.2.2.2.2.2.2.2.2.2.2.2.2.1) 1)),((p.rdI a.2.2.2.2.2.2.2.2.2.2.2.1 (p.nat a.2.2.2.2.2.2.2.2.2.2.2.2.2.1) 0),((p.rdI a.2.2.2.2.2.2.2.2.2.2.2.1 (p.nat a.2.2.2.2.2.2.2.2.2.2.2.2.2.1) 1),((p.ar .sub .i64 (p.rdI a.2.2.2.2.2.2.2.2.2.2.1 (p.nat (p.ar .rem .i64 (p.ar .add .i64 a.2.2.2.2.2.2.2.2.2.2.2.2.2.1 (1:Int)) (p.ofNat (p.len a.2.2.2.2.2.2.2.2.2.2.1)))) 0) (p.rdI a.2.2.2.2.2.2.2.2.2.2.2.1 (p.nat a.2.2.2.2.2.2.2.2.2.2.2.2.2.1) 0)),((p.ar .sub .i64 (p.rdI a.2.2.2.2.2.2.2.2.2.2.1 (p.nat (p.ar .rem .i64 (p.ar .add .i64 a.2.2.2.2.2.2.2.2.2.2.2.2.2.1 (1:Int)) (p.ofNat (p.len a.2.2.2.2.2.2.2.2.2.2.1)))) 1) (p.rdI a.2.2.2.2.2.2.2.2.2.2.2.1 (p.nat a.2.2.2.2.2.2.2.2.2.2.2.2.2.1) 1)),(a.2.2.2.2.2.2.2.2.2.1,(a.2.2.2.2.2.2.2.2.2.1,((p.ofNat (p.len a.2.2.2.2.2.2.2.2.2.1)),((0:Int),())))))))))))))))))))))))) (fun b=>
 opt.ret _ (Sum.inl (b.1,(b.2.1,(b.2.2.1,(b.2.2.2.1,(b.2.2.2.2.1,(b.2.2.2.2.2.1,(b.2.2.2.2.2.2.1,(b.2.2.2.2.2.2.2.1,(b.2.2.2.2.2.2.2.2.1,(b.2.2.2.2.2.2.2.2.2.1,(b.2.2.2.2.2.2.2.2.2.2.1,(b.2.2.2.2.2.2.2.2.2.2.2.1,(b.2.2.2.2.2.2.2.2.2.2.2.2.1,(b.2.2.2.2.2.2.2.2.2.2.2.2.2.1,(b.2.2.2.2.2.2.2.2.2.2.2.2.2.2.1,()))))))))))))))))) (fun c=>
 opt.alt T37 T37 _ (some c) (fun d=>
 opt.ret _ (Sum.inr (d.1,(d.2.1,(d.2.2.1,(d.2.2.2.1,(d.2.2.2.2.1,(d.2.2.2.2.2.1,(d.2.2.2.2.2.2.1,(d.2.2.2.2.2.2.2.1,(d.2.2.2.2.2.2.2.2.1,(d.2.2.2.2.2.2.2.2.2.1,(d.2.2.2.2.2.2.2.2.2.2.1,(d.2.2.2.2.2.2.2.2.2.2.2.1,(d.2.2.2.2.2.2.2.2.2.2.2.2.1,(d.2.2.2.2.2.2.2.2.2.2.2.2.2.1,(d.2.2.2.2.2.2.2.2.2.2.2.2.2.2.1,()))))))))))))))))) (fun e=>
 opt.bnd T37 _ (some e) fun f=>
 opt.ret _ (Sum.inl (f.1,(f.2.1,(f.2.2.1,(f.2.2.2.1,(f.2.2.2.2.1,(f.2.2.2.2.2.1,(f.2.2.2.2.2.2.1,(f.2.2.2.2.2.2.2.1,(f.2.2.2.2.2.2.2.2.1,(f.2.2.2.2.2.2.2.2.2.1,(f.2.2.2.2.2.2.2.2.2.2.1,(f.2.2.2.2.2.2.2.2.2.2.2.1,(f.2.2.2.2.2.2.2.2.2.2.2.2.1,(f.2.2.2.2.2.2.2.2.2.2.2.2.2.1,(f.2.2.2.2.2.2.2.2.2.2.2.2.2.2.1,())))))))))))))))))))) (fun g=>
 opt.ret _ (Sum.inl (g.1,(g.2.1,(g.2.2.1,(g.2.2.2.1,(g.2.2.2.2.1,(g.2.2.2.2.2.1,(g.2.2.2.2.2.2.1,(g.2.2.2.2.2.2.2.1,(g.2.2.2.2.2.2.2.2.1,(g.2.2.2.2.2.2.2.2.2.1,(g.2.2.2.2.2.2.2.2.2.2.1,(a.2.2.2.2.2.2.2.2.2.2.2.1,(a.2.2.2.2.2.2.2.2.2.2.2.2.1,((p.ar .add .i64 a.2.2.2.2.2.2.2.2.2.2.2.2.2.1 (1:Int)),())))))))))))))))) (fun h=>
 opt.bnd T49 _ (some h) fun i=>
 opt.ret _ (Sum.inr (Sum.inr (Sum.inl (i.1,(i.2.1,(i.2.2.1,(i.2.2.2.1,(i.2.2.2.2.1,(i.2.2.2.2.2.1,(i.2.2.2.2.2.2.1,(i.2.2.2.2.2.2.2.1,(i.2.2.2.2.2.2.2.2.1,(i.2.2.2.2.2.2.2.2.2.1,(i.2.2.2.2.2.2.2.2.2.2.1,()))))))))))))))))) (
 opt.ret _ (Sum.inr (Sum.inr (Sum.inr (a.1,(a.2.1,(a.2.2.1,(a.2.2.2.1,(a.2.2.2.2.1,(a.2.2.2.2.2.1,(a.2.2.2.2.2.2.1,(a.2.2.2.2.2.2.2.1,(a.2.2.2.2.2.2.2.2.1,(a.2.2.2.2.2.2.2.2.2.1,(a.2.2.2.2.2.2.2.2.2.2.1,()))))))))))))))))
def v1k (it:It) (p:Prim):(Int×(Int×(Int×(Int×(LD×(LD×(LD×(LD×(LD×(LD×(LD×(LD×(LD×(LD×(LD×(LD×(Int×(LD×(Int×(Int×Unit))))))))))))))))))))→Option ((Int×(Int×(Int×(Int×(LD×(LD×(LD×(LD×(LD×(LD×(LD×(LD×(LD×(LD×(LD×(LD×(Int×(LD×(Int×(Int×Unit))))))))))))))))))))⊕((Int×(Int×(Int×(Int×Unit))))⊕(Int×(Int×(Int×(Int×(LD×(LD×(LD×(LD×(LD×(LD×(LD×(LD×(LD×(LD×(Int×Unit))))))))))))))))):=
 fun a=>opt.run _ (
 opt.ask _ (p.cmp .lss a.2.2.2.2.2.2.2.2.2.2.2.2.2.2.2.2.2.2.2.1 a.2.2.2.2.2.2.2.2.2.2.2.2.2.2.2.2.2.2.1) (
 opt.need _ (p.rowOk a.2.2.2.2.2.2.2.2.2.2.2.2.2.2.2.2.2.1 (p.nat a.2.2.2.2.2.2.2.2.2.2.2.2.2.2.2.2.2.2.2.1) [ci,ci])<|
 opt.need _ (p.cmp .geq a.2.2.2.2.2.2.2.2.2.2.2.2.2.2.2.2.2.2.2.1 (0:Int))<|
 opt.bnd T2 _ (g57 it p (a.2.2.2.2.2.2.2.2.1,((p.rdI a.2.2.2.2.2.2.2.2.2.2.2.2.2.2.2.2.2.1 (p.nat a.2.2.2.2.2.2.2.2.2.2.2.2.2.2.2.2.2.2.2.1) 0),((p.rdI a.2.2.2.2.2.2.2.2.2.2.2.2.2.2.2.2.2.1 (p.nat a.2.2.2.2.2.2.2.2.2.2.2.2.2.2.2.2.2.2.2.1) 1),((1:Int),()))))) fun b=>
 opt.ask _ b.1 (
 opt.ret _ (Sum.inr (Sum.inl ((p.rdI a.2.2.2.2.2.2.2.2.2.2.2.2.2.2.2.2.2.1 (p.nat a.2.2.2.2.2.2.2.2.2.2.2.2.2.2.2.2.2.2.2.1) 0),((p.rdI a.2.2.2.2.2.2.2.2.2.2.2.2.2.2.2.2.2.1 (p.nat a.2.2.2.2.2.2.2.2.2.2.2.2.2.2.2.2.2.2.2.1) 1),((1:Int),((0:Int),()))))))) (
 opt.ret _ (Sum.inl (a.1,(a.2.1,(a.2.2.1,(a.2.2.2.1,(a.2.2.2.2.1,(a.2.2.2.2.2.1,(a.2.2.2.2.2.2.1,(a.2.2.2.2.2.2.2.1,(a.2.2.2.2.2.2.2.2.1,(a.2.2.2.2.2.2.2.2.2.1,(a.2.2.2.2.2.2.2.2.2.2.1,(a.2.2.2.2.2.2.2.2.2.2.2.1,(a.2.2.2.2.2.2.2.2.2.2.2.2.1,(a.2.2.2.2.2.2.2.2.2.2.2.2.2.1,(a.2.2.2.2.2.2.2.2.2.2.2.2.2.2.1,(a.2.2.2.2.2.2.2.2.2.2.2.2.2.2.2.1,(a.2.2.2.2.2.2.2.2.2.2.2.2.2.2.2.2.1,(a.2.2.2.2.2.2.2.2.2.2.2.2.2.2.2.2.2.1,(a.2.2.2.2.2.2.2.2.2.2.2.2.2.2.2.2.2.2.1,((p.ar .add .i64 a.2.2.2.2.2.2.2.2.2.2.2.2.2.2.2.2.2.2.2.1 (1:Int)),()))))))))))))))))))))))) (
 opt.ret _ (Sum.inr (Sum.inr (a.1,(a.2.1,(a.2.2.1,(a.2.2.2.1,(a.2.2.2.2.1,(a.2.2.2.2.2.1,(a.2.2.2.2.2.2.1,(a.2.2.2.2.2.2.2.2.2.1,(a.2.2.2.2.2.2.2.2.2.2.1,(a.2.2.2.2.2.2.2.2.2.2.2.1,(a.2.2.2.2.2.2.2.2.2.2.2.2.1,(a.2.2.2.2.2.2.2.2.2.2.2.2.2.1,(a.2.2.2.2.2.2.2.2.2.2.2.2.2.2.1,(a.2.2.2.2.2.2.2.2.2.2.2.2.2.2.2.1,(a.2.2.2.2.2.2.2.2.2.2.2.2.2.2.2.2.1,())))))))))))))))))))
def v1l (it:It) (p:Prim):(Int×(Int×(Int×(Int×(LD×(LD×(LD×(LD×(LD×(LD×(LD×(LD×(LD×(LD×(Int×Unit)))))))))))))))→Option ((Int×(Int×(Int×(Int×(LD×(LD×(LD×(LD×(LD×(LD×(LD×(LD×(LD×(LD×(Int×Unit)))))))))))))))⊕((Int×(Int×(Int×(Int×Unit))))⊕(Int×(Int×(Int×(Int×(LD×(LD×(LD×(LD×(LD×(LD×Unit)))))))))))):=
 fun a=>opt.run _ (
 opt.ask _ (p.cmp .lss a.2.2.2.2.2.2.2.2.2.2.2.2.2.2.1 (2:Int)) (
 opt.bnd T74 _ (
 opt.run T74 (
 opt.ask _ (p.cmp .eql a.2.2.2.2.2.2.2.2.2.2.2.2.2.2.1 (0:Int)) (
 opt.need _ (bif (p.cmp .geq (0:Int) (0:Int)) then (p.cmp .lss (0:Int) (p.ofNat 2)) else Bool.false)<|
 opt.ret _ (a.1,(a.2.1,(a.2.2.1,(a.2.2.2.1,(a.2.2.2.2.1,(a.2.2.2.2.2.1,(a.2.2.2.2.2.2.1,(a.2.2.2.2.2.2.2.2.2.2.1,(a.2.2.2.2.2.2.2.2.2.2.2.1,(a.2.2.2.2.2.2.2.1,(a.2.2.2.2.2.2.2.2.1,(a.2.2.2.2.2.2.2.2.2.1,(a.2.2.2.2.2.2.2.2.2.2.1,(a.2.2.2.2.2.2.2.2.2.2.2.1,(a.2.2.2.2.2.2.2.2.2.2.2.2.1,(a.2.2.2.2.2.2.2.2.2.2.2.2.2.1,((0:Int),())))))))))))))))))) (
 opt.need _ (p.cmp .eql a.2.2.2.2.2.2.2.2.2.2.2.2.2.2.1 (1:Int))<|
 opt.need _ (bif (p.cmp .geq (1:Int) (0:Int)) then (p.cmp .lss (1:Int) (p.ofNat 2)) else Bool.false)<|
 opt.ret _ (a.1,(a.2.1,(a.2.2.1,(a.2.2.2.1,(a.2.2.2.2.1,(a.2.2.2.2.2.1,(a.2.2.2.2.2.2.1,(a.2.2.2.2.2.2.2.2.2.2.2.2.1,(a.2.2.2.2.2.2.2.2.2.2.2.2.2.1,(a.2.2.2.2.2.2.2.1,(a.2.2.2.2.2.2.2.2.1,(a.2.2.2.2.2.2.2.2.2.1,(a.2.2.2.2.2.2.2.2.2.2.1,(a.2.2.2.2.2.2.2.2.2.2.2.1,(a.2.2.2.2.2.2.2.2.2.2.2.2.1,(a.2.2.2.2.2.2.2.2.2.2.2.2.2.1,((1:Int),())))))))))))))))))))) fun b=>
 opt.alt T8 T75 _ (
 it _ _ (v1k it p) (b.1,(b.2.1,(b.2.2.1,(b.2.2.2.1,(b.2.2.2.2.1,(b.2.2.2.2.2.1,(b.2.2.2.2.2.2.1,(b.2.2.2.2.2.2.2.1,(b.2.2.2.2.2.2.2.2.1,(b.2.2.2.2.2.2.2.2.2.1,(b.2.2.2.2.2.2.2.2.2.2.1,(b.2.2.2.2.2.2.2.2.2.2.2.1,(b.2.2.2.2.2.2.2.2.2.2.2.2.1,(b.2.2.2.2.2.2.2.2.2.2.2.2.2.1,(b.2.2.2.2.2.2.2.2.2.2.2.2.2.2.1,(b.2.2.2.2.2.2.2.2.2.2.2.2.2.2.2.1,(b.2.2.2.2.2.2.2.2.2.2.2.2.2.2.2.2.1,(b.2.2.2.2.2.2.2.1,((p.ofNat (p.len b.2.2.2.2.2.2.2.1)),((0:Int),()))))))))))))))))))))) (fun c=>
 opt.ret _ (Sum.inr (Sum.inl (c.1,(c.2.1,(c.2.2.1,(c.2.2.2.1,()))))))) (fun d=>
 opt.bnd T75 _ (some d) fun e=>
 opt.ret _ (Sum.inl (e.1,(e.2.1,(e.2.2.1,(e.2.2.2.1,(e.2.2.2.2.1,(e.2.2.2.2.2.1,(e.2.2.2.2.2.2.1,(e.2.2.2.2.2.2.2.1,(e.2.2.2.2.2.2.2.2.1,(e.2.2.2.2.2.2.2.2.2.1,(e.2.2.2.2.2.2.2.2.2.2.1,(e.2.2.2.2.2.2.2.2.2.2.2.1,(e.2.2.2.2.2.2.2.2.2.2.2.2.1,(e.2.2.2.2.2.2.2.2.2.2.2.2.2.1,((p.ar .add .i64 e.2.2.2.2.2.2.2.2.2.2.2.2.2.2.1 (1:Int)),())))))))))))))))))) (
 opt.ret _ (Sum.inr (Sum.inr (a.1,(a.2.1,(a.2.2.1,(a.2.2.2.1,(a.2.2.2.2.1,(a.2.2.2.2.2.1,(a.2.2.2.2.2.2.1,(a.2.2.2.2.2.2.2.1,(a.2.2.2.2.2.2.2.2.1,(a.2.2.2.2.2.2.2.2.2.1,()))))))))))))))
def g37 (it:It):(p:Prim)→(LD×(LD×(LD×(LD×Unit))))→Option T8:=
 fun p x=>
 opt.alt T0 (((LD×(LD×(LD×T1)))⊕((LD×(LD×(LD×T1)))⊕(LD×(LD×(LD×(LD×(LD×(LD×T1))))))))) _ (g62 it p (x.1,(x.2.1,(x.2.2.1,(x.2.2.2.1,()))))) (fun a=>
 opt.ask _ (p.cmp .neq a.1 (0:Int)) (
 opt.ret _ ((0:Int),((0:Int),((0:Int),(a.1,()))))) (
 opt.no _ 41)) (fun b=>
 opt.alt ((LD×(LD×(LD×T1)))) (((LD×(LD×(LD×T1)))⊕(LD×(LD×(LD×(LD×(LD×(LD×T1)))))))) _ (some b) (fun c=>
 opt.ask _ (p.cmp .neq c.2.2.2.1 (0:Int)) (
 opt.ret _ ((0:Int),((0:Int),((0:Int),(c.2.2.2.1,()))))) (
 opt.no _ 41)) (fun d=>
 opt.alt ((LD×(LD×(LD×T1)))) ((LD×(LD×(LD×(LD×(LD×(LD×T1))))))) _ (some d) (fun e=>
 opt.ask _ (p.cmp .neq e.2.2.2.1 (0:Int)) (
 opt.ret _ ((0:Int),((0:Int),((0:Int),(e.2.2.2.1,()))))) (
 opt.no _ 41)) (fun f=>
 opt.bnd ((LD×(LD×(LD×(LD×(LD×(LD×T1))))))) _ (some f) fun g=>
 opt.ask _ (p.cmp .neq g.2.2.2.2.2.2.1 (0:Int)) (
 opt.ret _ ((0:Int),((0:Int),((0:Int),(g.2.2.2.2.2.2.1,()))))) (
 opt.alt T8 T76 _ (
 it _ _ (v1l it p) ((0:Int),((0:Int),((0:Int),((0:Int),(g.1,(g.2.1,(g.2.2.1,(g.2.2.2.1,(g.2.2.2.2.1,(g.2.2.2.2.2.1,(g.2.2.1,(g.2.2.2.2.2.1,(g.2.2.2.2.2.1,(g.2.2.1,((0:Int),())))))))))))))))) (fun h=>
 opt.ret _ (h.1,(h.2.1,(h.2.2.1,(h.2.2.2.1,()))))) (fun i=>
 opt.bnd T76 _ (some i) fun j=>
 opt.alt T8 T8 _ (
 opt.run (((Int×(Int×(Int×(Int×Unit))))⊕(Int×(Int×(Int×(Int×Unit)))))) (
 opt.alt T38 (((Int×(Int×(Int×(Int×(LD×(LD×(LD×(LD×(LD×(LD×(LD×Unit)))))))))))⊕(Int×(Int×(Int×(Int×(LD×(LD×(LD×(LD×(LD×(LD×(LD×Unit))))))))))))) _ (
 it _ _ (v1j it p) (j.1,(j.2.1,(j.2.2.1,(j.2.2.2.1,(j.2.2.2.2.1,(j.2.2.2.2.2.1,(j.2.2.2.2.2.2.1,(j.2.2.2.2.2.2.2.1,(j.2.2.2.2.2.2.2.2.1,(j.2.2.2.2.2.2.2.2.2.1,(j.2.2.2.2.2.2.1,(j.2.2.2.2.2.2.1,((p.ofNat (p.len j.2.2.2.2.2.2.1)),((0:Int),()))))))))))))))) (fun k=>
 opt.ret _ (Sum.inl (k.1,(k.2.1,(k.2.2.1,(k.2.2.2.1,())))))) (fun l=>
 opt.alt T38 T38 _ (some l) (fun m=>
 opt.ret _ (Sum.inr (m.1,(m.2.1,(m.2.2.1,(m.2.2.2.1,())))))) (fun n=>
 opt.bnd T38 _ (some n) fun o=>
 opt.ret _ (Sum.inl (o.1,(o.2.1,(o.2.2.1,(o.2.2.2.1,()))))))))) (fun q=>
 opt.ret _ ((0:Int),((0:Int),((0:Int),((5:Int),()))))) (fun r=>
 opt.bnd T8 _ (some r) fun t=>
 opt.ret _ (t.1,(t.2.1,(t.2.2.1,(t.2.2.2.1,()))))))))))
def G37:=g37 it0
theorem ok37:CtrOk PG v59 (G37 std):=okF (a:=an37) (l:=la37) (gC ok76 (gC v80 (gC v8f (gN)))) (by kernel_rfl) fun _ _=>by kernel_rfl
end Go.Am
end
noncomputable section
namespace Go.Am
def v5z:Ctr:=
 ⟨70,[.agg [.int .i64, .int .i64], .agg [.int .i64, .int .i64]],[],[(.ret,⟨[(0, .int .i64)],[],1⟩)]⟩
def la70:List LA:=
 []
def ja70:List JA:=
 []
def u0o:List CF:=
 [⟨z47,F71⟩]
def an70:Anns:=
 ⟨u0o,ja70,[]⟩
def G70:(p:Prim)→T10→Option T0:=
 fun p x=>
 opt.bnd T2 _ (F71 p (x.1,(x.2.1,(x.2.2.1,(x.2.2.2.1,()))))) fun a=>
 opt.ask _ a.1 (
 opt.ret _ ((-1:Int),())) (
 opt.ret _ ((1:Int),()))
theorem ok70:CtrOk PG v5z (G70 std):=okF (a:=an70) (l:=la70) (gC ok71 (gN)) (by kernel_rfl) fun _ _=>by kernel_rfl
def v51:Ctr:=
 ⟨69,[.sl 0 2, .clo 70 [] []],[.row [ci,ci]],[(.ret,⟨[(0, .agg [.int .i64, .int .i64])],[.row [ci,ci]],1⟩)]⟩
def la69:List LA:=
 [⟨69,[false,true,false,true,true,true],1,⟨⟨[(0, .sl 0 2),(1, .clo 70 [] []),(4, .bptr 1 0),(5, .bptr 2 0),(6, .int .i64)],[.row [ci,ci], .box [.int .i64, .int .i64], .box [.int .i64, .int .i64]],33⟩,[((AX.exit 0),⟨[(4, .bptr 1 0),(5, .bptr 2 0)],[.row [ci,ci], .box [.int .i64, .int .i64], .box [.int .i64, .int .i64]],33⟩)]⟩⟩]
def ja69:List JA:=
 [⟨69,[true,false,false,true,false,false,true,false,true,true,true],1,[(AX.normal,⟨[(0, .sl 0 2),(1, .clo 70 [] []),(4, .bptr 1 0),(5, .bptr 2 0),(6, .int .i64)],[.row [ci,ci], .box [.int .i64, .int .i64], .box [.int .i64, .int .i64]],33⟩)]⟩]
def u0p:List CF:=
 [⟨v5z,G70⟩]
def an69:Anns:=
 ⟨u0p,ja69,[]⟩
def w25 (p:Prim):(LD×T39)→Option ((LD×T39)⊕(LD×T10)):=
 fun a=>opt.run _ (
 opt.ask _ (p.cmp .lss a.2.2.2.2.2.2.2.1 (p.ofNat a.2.2.2.2.2.2.1)) (
 opt.need _ (bif (p.cmp .geq a.2.2.2.2.2.2.2.1 (0:Int)) then (p.cmp .lss a.2.2.2.2.2.2.2.1 (p.ofNat a.2.2.2.2.2.2.1)) else Bool.false)<|
 opt.need _ (p.rowOk a.1 (p.add a.2.2.2.2.2.1 (p.nat a.2.2.2.2.2.2.2.1)) [ci,ci])<|
 opt.bnd T0 _ (G70 p ((p.rdI a.1 (p.add a.2.2.2.2.2.1 (p.nat a.2.2.2.2.2.2.2.1)) 0),((p.rdI a.1 (p.add a.2.2.2.2.2.1 (p.nat a.2.2.2.2.2.2.2.1)) 1),(a.2.2.2.1,(a.2.2.2.2.1,()))))) fun b=>
 opt.bnd ((LD×T39)) _ (
 opt.run ((LD×T39)) (
 opt.ask _ (p.cmp .lss b.1 (0:Int)) (
 opt.need _ (bif (p.cmp .geq a.2.2.2.2.2.2.2.1 (0:Int)) then (p.cmp .lss a.2.2.2.2.2.2.2.1 (p.ofNat a.2.2.2.2.2.2.1)) else Bool.false)<|
 opt.need _ (p.rowOk a.1 (p.add a.2.2.2.2.2.1 (p.nat a.2.2.2.2.2.2.2.1)) [ci,ci])<|
 opt.ret _ (a.1,(a.2.1,(a.2.2.1,((p.rdI a.1 (p.add a.2.2.2.2.2.1 (p.nat a.2.2.2.2.2.2.2.1)) 0),((p.rdI a.1 (p.add a.2.2.2.2.2.1 (p.nat a.2.2.2.2.2.2.2.1)) 1),(a.2.2.2.2.2.1,(a.2.2.2.2.2.2.1,(a.2.2.2.2.2.2.2.1,()))))))))) (
 opt.ret _ (a.1,(a.2.1,(a.2.2.1,(a.2.2.2.1,(a.2.2.2.2.1,(a.2.2.2.2.2.1,(a.2.2.2.2.2.2.1,(a.2.2.2.2.2.2.2.1,()))))))))))) fun c=>
 opt.ret _ (Sum.inl (c.1,(c.2.1,(c.2.2.1,(c.2.2.2.1,(c.2.2.2.2.1,(c.2.2.2.2.2.1,(c.2.2.2.2.2.2.1,((p.ar .add .i64 c.2.2.2.2.2.2.2.1 (1:Int)),())))))))))) (
 opt.ret _ (Sum.inr (a.1,(a.2.1,(a.2.2.1,(a.2.2.2.1,(a.2.2.2.2.1,()))))))))
def g69 (it:It):(p:Prim)→(LD×T17)→Option ((LD×T3)):=
 fun p x=>
 opt.ask _ (p.cmp .lss (p.ofNat x.2.2.1) (1:Int)) (
 opt.no _ 41) (
 opt.need _ (bif (p.cmp .geq (0:Int) (0:Int)) then (p.cmp .lss (0:Int) (p.ofNat x.2.2.1)) else Bool.false)<|
 opt.need _ (p.rowOk x.1 (p.add x.2.1 (p.nat (0:Int))) [ci,ci])<|
 opt.bnd ((LD×T10)) _ (
 it _ _ (w25 p) (x.1,((0:Int),((0:Int),((p.rdI x.1 (p.add x.2.1 (p.nat (0:Int))) 0),((p.rdI x.1 (p.add x.2.1 (p.nat (0:Int))) 1),(x.2.1,(x.2.2.1,((1:Int),()))))))))) fun a=>
 opt.ret _ (a.1,(a.2.2.2.1,(a.2.2.2.2.1,()))))
def G69:=g69 it0
theorem ok69:CtrOk PG v51 (G69 std):=okF (a:=an69) (l:=la69) (gC ok70 (gN)) (by kernel_rfl) fun _ _=>by kernel_rfl
def v1c:Ctr:=
 ⟨25,[.agg [.list 2, .list 1], .agg [.list 2, .list 1]],[],[(.ret,⟨[(0, .tuple [.agg [.int .i64, .int .i64], .int .i64])],[],1⟩)]⟩
def la25:List LA:=
 [⟨25,[false,true,false,true,true,true,true,true],0,⟨⟨[(4, .bptr 0 0),(11, .bptr 1 0),(67, .agg [.list 2, .list 2, .list 2, .list 2]),(68, .int .i64)],[.box [.int .i64, .int .i64], .box [.sl 2 2], .row [ci,ci]],115⟩,[((AX.exit 0),⟨[(4, .bptr 0 0),(11, .bptr 1 0)],[.box [.int .i64, .int .i64], .box [.sl 2 2], .row [ci,ci]],115⟩)]⟩⟩,
 ⟨25,[false,true,true,false,false,true,true,false,false,true,false,true,true,true,true,true],0,⟨⟨[(4, .bptr 0 0),(11, .bptr 1 0),(13, .bptr 2 0),(67, .agg [.list 2, .list 2, .list 2, .list 2]),(68, .int .i64),(72, .list 2),(73, .int .i64),(74, .int .i64)],[.box [.int .i64, .int .i64], .box [.sl 3 2], .box [.list 2, .list 2], .row [ci,ci]],115⟩,[((AX.exit 2),⟨[(4, .bptr 0 0),(11, .bptr 1 0),(67, .agg [.list 2, .list 2, .list 2, .list 2]),(68, .int .i64)],[.box [.int .i64, .int .i64], .box [.sl 2 2], .row [ci,ci]],115⟩)]⟩⟩,
 ⟨25,[false,true,false,true,false,false,true,true,false,false,true,true,false,false,true,true,false,false,true,false,true,true,true,true,true],0,⟨⟨[(4, .bptr 0 0),(11, .bptr 1 0),(13, .bptr 2 0),(15, .bptr 3 0),(67, .agg [.list 2, .list 2, .list 2, .list 2]),(68, .int .i64),(72, .list 2),(73, .int .i64),(74, .int .i64),(79, .list 2),(80, .int .i64),(81, .int .i64)],[.box [.int .i64, .int .i64], .box [.sl 4 2], .box [.list 2, .list 2], .box [.int .i64, .int .i64], .row [ci,ci]],115⟩,[((AX.exit 4),⟨[(4, .bptr 0 0),(11, .bptr 1 0),(13, .bptr 2 0),(15, .bptr 3 0),(67, .agg [.list 2, .list 2, .list 2, .list 2]),(68, .int .i64),(72, .list 2),(73, .int .i64),(74, .int .i64)],[.box [.int .i64, .int .i64], .box [.sl 4 2], .box [.list 2, .list 2], .box [.int .i64, .int .i64], .row [ci,ci]],115⟩)]⟩⟩,
 ⟨94,[false,true],7,⟨⟨[(0, .yld 6),(1, .bptr 5 0),(6, .list 2),(7, .int .i64),(8, .int .i64)],[.box [.int .i64, .int .i64], .box [.sl 7 2], .box [.list 2, .list 2], .box [.int .i64, .int .i64], .dead, .box [.list 2], .loop Go.LoopState.ready Option.none 25 [Bool.false,Bool.true,Bool.true,Bool.true,Bool.false,Bool.false,Bool.true,Bool.true,Bool.false,Bool.false,Bool.true,Bool.true,Bool.false,Bool.false,Bool.true,Bool.true,Bool.false,Bool.false,Bool.true,Bool.false,Bool.true,Bool.true,Bool.true,Bool.true,Bool.true] 115 [(98, .clo 94 [] [.bptr 5 0]),(15, .bptr 3 0),(73, .int .i64),(72, .list 2),(13, .bptr 2 0),(11, .bptr 1 0),(67, .agg [.list 2, .list 2, .list 2, .list 2]),(4, .bptr 0 0),(68, .int .i64),(74, .int .i64)], .row [ci,ci]],33⟩,[(AX.ret,⟨[],[.box [.int .i64, .int .i64], .box [.sl 7 2], .box [.list 2, .list 2], .box [.int .i64, .int .i64], .dead, .box [.list 2], .loop Go.LoopState.ready Option.none 25 [Bool.false,Bool.true,Bool.true,Bool.true,Bool.false,Bool.false,Bool.true,Bool.true,Bool.false,Bool.false,Bool.true,Bool.true,Bool.false,Bool.false,Bool.true,Bool.true,Bool.false,Bool.false,Bool.true,Bool.false,Bool.true,Bool.true,Bool.true,Bool.true,Bool.true] 115 [(98, .clo 94 [] [.bptr 5 0]),(15, .bptr 3 0),(73, .int .i64),(72, .list 2),(13, .bptr 2 0),(11, .bptr 1 0),(67, .agg [.list 2, .list 2, .list 2, .list 2]),(4, .bptr 0 0),(68, .int .i64),(74, .int .i64)], .row [ci,ci]],33⟩),((AX.exit 0),⟨[],[.box [.int .i64, .int .i64], .box [.sl 7 2], .box [.list 2, .list 2], .box [.int .i64, .int .i64], .dead, .box [.list 2], .loop Go.LoopState.ready Option.none 25 [Bool.false,Bool.true,Bool.true,Bool.true,Bool.false,Bool.false,Bool.true,Bool.true,Bool.false,Bool.false,Bool.true,Bool.true,Bool.false,Bool.false,Bool.true,Bool.true,Bool.false,Bool.false,Bool.true,Bool.false,Bool.true,Bool.true,Bool.true,Bool.true,Bool.true] 115 [(98, .clo 94 [] [.bptr 5 0]),(15, .bptr 3 0),(73, .int .i64),(72, .list 2),(13, .bptr 2 0),(11, .bptr 1 0),(67, .agg [.list 2, .list 2, .list 2, .list 2]),(4, .bptr 0 0),(68, .int .i64),(74, .int .i64)], .row [ci,ci]],33⟩)]⟩⟩]
def ja25:List JA:=
 [⟨25,[true,true,false,true,false,true,true,true,false,false,true,true,false,false,true,true,false,false,true,true,false,false,true,false,true,true,true,true,true],20,[(AX.normal,⟨[(4, .bptr 0 0),(11, .bptr 1 0),(13, .bptr 2 0),(15, .bptr 3 0),(67, .agg [.list 2, .list 2, .list 2, .list 2]),(68, .int .i64),(72, .list 2),(73, .int .i64),(74, .int .i64)],[.box [.int .i64, .int .i64], .box [.sl 20 2], .box [.list 2, .list 2], .box [.int .i64, .int .i64], .dead, .box [.list 2], .dead, .dead, .box [.int .i64, .int .i64], .dead, .dead, .dead, .dead, .dead, .dead, .dead, .dead, .dead, .dead, .box [.int .i64, .int .i64], .row [ci,ci]],115⟩)]⟩,
 ⟨25,[true,true,true,false,false,true,true,false,false,true,true,false,false,true,true,false,false,true,false,true,true,true,true,true],0,[(AX.normal,⟨[(4, .bptr 0 0),(11, .bptr 1 0),(13, .bptr 2 0),(67, .agg [.list 2, .list 2, .list 2, .list 2]),(68, .int .i64),(72, .list 2),(73, .int .i64),(74, .int .i64)],[.box [.int .i64, .int .i64], .box [.sl 3 2], .box [.list 2, .list 2], .row [ci,ci]],115⟩)]⟩,
 ⟨25,[false,false,false,true,true,false,false,true,false,true,true,true,true,true],0,[(AX.normal,⟨[(4, .bptr 0 0),(11, .bptr 1 0),(13, .bptr 2 0),(67, .agg [.list 2, .list 2, .list 2, .list 2]),(68, .int .i64)],[.box [.int .i64, .int .i64], .box [.sl 3 2], .box [.list 2, .list 2], .row [ci,ci]],115⟩)]⟩]
def u1q:List CF:=
 [⟨v51,G69⟩,⟨v52,G68⟩,⟨v04,G65⟩,⟨w54,G63⟩,⟨w2c,G62⟩]
def an25:Anns:=
 ⟨u1q,ja25,[]⟩
def y6s (it:It) (p:Prim):(LD×T77)→Option ((LD×T77)⊕((LD×T25)⊕(LD×T25))):=
 fun a=>opt.run _ (
 opt.ask _ (p.cmp .lss a.2.2.2.2.2.2.2.2.2.2.2.2.2.2.2.2.2.2.2.2.1 a.2.2.2.2.2.2.2.2.2.2.2.2.2.2.2.2.2.2.2.1) (
 opt.need _ (p.rowOk a.2.2.2.2.2.2.2.2.2.2.2.2.2.2.2.2.2.2.1 (p.nat a.2.2.2.2.2.2.2.2.2.2.2.2.2.2.2.2.2.2.2.2.1) [ci,ci])<|
 opt.need _ (p.cmp .geq a.2.2.2.2.2.2.2.2.2.2.2.2.2.2.2.2.2.2.2.2.1 (0:Int))<|
 opt.need _ (p.cmp .neq (p.ofNat (p.len a.2.2.2.2.2.2.2.2.2.1)) (0:Int))<|
 opt.need _ (p.rowOk a.2.2.2.2.2.2.2.2.2.1 (p.nat (p.ar .rem .i64 (p.ar .add .i64 a.2.2.2.2.2.2.2.2.2.2.2.2.2.2.2.2.2.2.2.2.1 (1:Int)) (p.ofNat (p.len a.2.2.2.2.2.2.2.2.2.1)))) [ci,ci])<|
 opt.need _ (p.cmp .geq (p.ar .rem .i64 (p.ar .add .i64 a.2.2.2.2.2.2.2.2.2.2.2.2.2.2.2.2.2.2.2.2.1 (1:Int)) (p.ofNat (p.len a.2.2.2.2.2.2.2.2.2.1))) (0:Int))<|
 opt.ask _ (bif (p.cmp .eql (p.ar .sub .i64 (p.rdI a.2.2.2.2.2.2.2.2.2.1 (p.nat (p.ar .rem .i64 (p.ar .add .i64 a.2.2.2.2.2.2.2.2.2.2.2.2.2.2.2.2.2.2.2.2.1 (1:Int)) (p.ofNat (p.len a.2.2.2.2.2.2.2.2.2.1)))) 0) (p.rdI a.2.2.2.2.2.2.2.2.2.2.2.2.2.2.2.2.2.2.1 (p.nat a.2.2.2.2.2.2.2.2.2.2.2.2.2.2.2.2.2.2.2.2.1) 0)) (0:Int)) then (bif (p.cmp .eql (p.ar .sub .i64 (p.rdI a.2.2.2.2.2.2.2.2.2.1 (p.nat (p.ar .rem .i64 (p.ar .add .i64 a.2.2.2.2.2.2.2.2.2.2.2.2.2.2.2.2.2.2.2.2.1 (1:Int)) (p.ofNat (p.len a.2.2.2.2.2.2.2.2.2.1)))) 1) (p.rdI a.2.2.2.2.2.2.2.2.2.2.2.2.2.2.2.2.2.2.1 (p.nat a.2.2.2.2.2.2.2.2.2.2.2.2.2.2.2.2.2.2.2.2.1) 1)) (0:Int)) then Bool.true else Bool.false) else Bool.false) (
 opt.ret _ (Sum.inr (Sum.inl (a.1,(a.2.1,(a.2.2.1,(a.2.2.2.1,(a.2.2.2.2.1,(a.2.2.2.2.2.1,(a.2.2.2.2.2.2.1,(a.2.2.2.2.2.2.2.1,(a.2.2.2.2.2.2.2.2.1,(a.2.2.2.2.2.2.2.2.2.1,(a.2.2.2.2.2.2.2.2.2.2.1,(a.2.2.2.2.2.2.2.2.2.2.2.1,(a.2.2.2.2.2.2.2.2.2.2.2.2.1,(a.2.2.2.2.2.2.2.2.2.2.2.2.2.1,(a.2.2.2.2.2.2.2.2.2.2.2.2.2.2.1,(a.2.2.2.2.2.2.2.2.2.2.2.2.2.2.2.1,(a.2.2.2.2.2.2.2.2.2.2.2.2.2.2.2.2.1,(a.2.2.2.2.2.2.2.2.2.2.2.2.2.2.2.2.2.1,()))))))))))))))))))))) (
 opt.bnd T18 _ (g68 it p (a.2.2.2.2.2.2.2.1,(a.2.2.2.2.2.2.2.2.1,((p.rdI a.2.2.2.2.2.2.2.2.2.2.2.2.2.2.2.2.2.2.1 (p.nat a.2.2.2.2.2.2.2.2.2.2.2.2.2.2.2.2.2.2.2.2.1) 0),((p.rdI a.2.2.2.2.2.2.2.2.2.2.2.2.2.2.2.2.2.2.1 (p.nat a.2.2.2.2.2.2.2.2.2.2.2.2.2.2.2.2.2.2.2.2.1) 1),((p.ar .sub .i64 (p.rdI a.2.2.2.2.2.2.2.2.2.1 (p.nat (p.ar .rem .i64 (p.ar .add .i64 a.2.2.2.2.2.2.2.2.2.2.2.2.2.2.2.2.2.2.2.2.1 (1:Int)) (p.ofNat (p.len a.2.2.2.2.2.2.2.2.2.1)))) 0) (p.rdI a.2.2.2.2.2.2.2.2.2.2.2.2.2.2.2.2.2.2.1 (p.nat a.2.2.2.2.2.2.2.2.2.2.2.2.2.2.2.2.2.2.2.2.1) 0)),((p.ar .sub .i64 (p.rdI a.2.2.2.2.2.2.2.2.2.1 (p.nat (p.ar .rem .i64 (p.ar .add .i64 a.2.2.2.2.2.2.2.2.2.2.2.2.2.2.2.2.2.2.2.2.1 (1:Int)) (p.ofNat (p.len a.2.2.2.2.2.2.2.2.2.1)))) 1) (p.rdI a.2.2.2.2.2.2.2.2.2.2.2.2.2.2.2.2.2.2.1 (p.nat a.2.2.2.2.2.2.2.2.2.2.2.2.2.2.2.2.2.2.2.2.1) 1)),()))))))) fun b=>
 opt.bnd ((LD×T78)) _ (
 opt.run ((LD×T78)) (
 opt.ask _ b.2.2.1 (
 opt.need _ (p.and (p.leN (p.add 0 1) (p.len [[(D.int .i64 b.1),(D.int .i64 b.2.1)]])) (p.and (p.leN (p.add a.2.2.2.1 a.2.2.2.2.1) (p.len a.1)) (p.and (p.leN 1 1) (p.leN (p.add a.2.2.2.2.1 1) 1000000))))<|
 opt.ret _ ((p.app (p.cut a.1 a.2.2.2.1 a.2.2.2.2.1) (p.cut [[(D.int .i64 b.1),(D.int .i64 b.2.1)]] 0 1)),(a.2.1,(a.2.2.1,(0,((p.add a.2.2.2.2.1 1),(a.2.2.2.2.2.1,(a.2.2.2.2.2.2.1,(a.2.2.2.2.2.2.2.1,(a.2.2.2.2.2.2.2.2.1,(a.2.2.2.2.2.2.2.2.2.1,((p.rdI a.2.2.2.2.2.2.2.2.2.2.2.2.2.2.2.2.2.2.1 (p.nat a.2.2.2.2.2.2.2.2.2.2.2.2.2.2.2.2.2.2.2.2.1) 0),((p.rdI a.2.2.2.2.2.2.2.2.2.2.2.2.2.2.2.2.2.2.1 (p.nat a.2.2.2.2.2.2.2.2.2.2.2.2.2.2.2.2.2.2.2.2.1) 1),((p.ar .sub .i64 (p.rdI a.2.2.2.2.2.2.2.2.2.1 (p.nat (p.ar .rem .i64 (p.ar .add .i64 a.2.2.2.2.2.2.2.2.2.2.2.2.2.2.2.2.2.2.2.2.1 (1:Int)) (p.ofNat (p.len a.2.2.2.2.2.2.2.2.2.1)))) 0) (p.rdI a.2.2.2.2.2.2.2.2.2.2.2.2.2.2.2.2.2.2.1 (p.nat a.2.2.2.2.2.2.2.2.2.2.2.2.2.2.2.2.2.2.2.2.1) 0)),((p.ar .sub .i64 (p.rdI a.2.2.2.2.2.2.2.2.2.1 (p.nat (p.ar .rem .i64 (p.ar .add .i64 a.2.2.2.2.2.2.2.2.2.2.2.2.2.2.2.2.2.2.2.2.1 (1:Int)) (p.ofNat (p.len a.2.2.2.2.2.2.2.2.2.1)))) 1) (p.rdI a.2.2.2.2.2.2.2.2.2.2.2.2.2.2.2.2.2.2.1 (p.nat a.2.2.2.2.2.2.2.2.2.2.2.2.2.2.2.2.2.2.2.2.1) 1)),(a.2.2.2.2.2.2.2.2.2.2.2.2.1,(a.2.2.2.2.2.2.2.2.2.2.2.2.2.1,(a.2.2.2.2.2.2.2.2.2.2.2.2.2.2.1,(a.2.2.2.2.2.2.2.2.2.2.2.2.2.2.2.1,(a.2.2.2.2.2.2.2.2.2.2.2.2.2.2.2.2.1,(a.2.2.2.2.2.2.2.2.2.2.2.1,(a.2.2.2.2.2.2.2.2.2.2.1,(a.2.2.2.2.2.2.2.2.2.2.2.2.2.2.2.2.2.1,()))))))))))))))))))))))) (
 opt.ret _ (a.1,(a.2.1,(a.2.2.1,(a.2.2.2.1,(a.2.2.2.2.1,(a.2.2.2.2.2.1,(a.2.2.2.2.2.2.1,(a.2.2.2.2.2.2.2.1,(a.2.2.2.2.2.2.2.2.1,(a.2.2.2.2.2.2.2.2.2.1,((p.rdI a.2.2.2.2.2.2.2.2.2.2.2.2.2.2.2.2.2.2.1 (p.nat a.2.2.2.2.2.2.2.2.2.2.2.2.2.2.2.2.2.2.2.2.1) 0),((p.rdI a.2.2.2.2.2.2.2.2.2.2.2.2.2.2.2.2.2.2.1 (p.nat a.2.2.2.2.2.2.2.2.2.2.2.2.2.2.2.2.2.2.2.2.1) 1),((p.ar .sub .i64 (p.rdI a.2.2.2.2.2.2.2.2.2.1 (p.nat (p.ar .rem .i64 (p.ar .add .i64 a.2.2.2.2.2.2.2.2.2.2.2.2.2.2.2.2.2.2.2.2.1 (1:Int)) (p.ofNat (p.len a.2.2.2.2.2.2.2.2.2.1)))) 0) (p.rdI a.2.2.2.2.2.2.2.2.2.2.2.2.2.2.2.2.2.2.1 (p.nat a.2.2.2.2.2.2.2.2.2.2.2.2.2.2.2.2.2.2.2.2.1) 0)),((p.ar .sub .i64 (p.rdI a.2.2.2.2.2.2.2.2.2.1 (p.nat (p.ar .rem .i64 (p.ar .add .i64 a.2.2.2.2.2.2.2.2.2.2.2.2.2.2.2.2.2.2.2.2.1 (1:Int)) (p.ofNat (p.len a.2.2.2.2.2.2.2.2.2.1)))) 1) (p.rdI a.2.2.2.2.2.2.2.2.2.2.2.2.2.2.2.2.2.2.1 (p.nat a.2.2.2.2.2.2.2.2.2.2.2.2.2.2.2.2.2.2.2.2.1) 1)),(a.2.2.2.2.2.2.2.2.2.2.2.2.1,(a.2.2.2.2.2.2.2.2.2.2.2.2.2.1,(a.2.2.2.2.2.2.2.2.2.2.2.2.2.2.1,(a.2.2.2.2.2.2.2.2.2.2.2.2.2.2.2.1,(a.2.2.2.2.2.2.2.2.2.2.2.2.2.2.2.2.1,(a.2.2.2.2.2.2.2.2.2.2.2.1,(a.2.2.2.2.2.2.2.2.2.2.1,(a.2.2.2.2.2.2.2.2.2.2.2.2.2.2.2.2.2.1,()))))))))))))))))))))))))) fun c=>
 opt.ret _ (Sum.inl (c.1,(c.2.1,(c.2.2.1,(c.2.2.2.1,(c.2.2.2.2.1,(c.2.2.2.2.2.1,(c.2.2.2.2.2.2.1,(c.2.2.2.2.2.2.2.1,(c.2.2.2.2.2.2.2.2.1,(c.2.2.2.2.2.2.2.2.2.1,(a.2.2.2.2.2.2.2.2.2.2.1,(a.2.2.2.2.2.2.2.2.2.2.2.1,(a.2.2.2.2.2.2.2.2.2.2.2.2.1,(a.2.2.2.2.2.2.2.2.2.2.2.2.2.1,(a.2.2.2.2.2.2.2.2.2.2.2.2.2.2.1,(a.2.2.2.2.2.2.2.2.2.2.2.2.2.2.2.1,(a.2.2.2.2.2.2.2.2.2.2.2.2.2.2.2.2.1,(a.2.2.2.2.2.2.2.2.2.2.2.2.2.2.2.2.2.1,(a.2.2.2.2.2.2.2.2.2.2.2.2.2.2.2.2.2.2.1,(a.2.2.2.2.2.2.2.2.2.2.2.2.2.2.2.2.2.2.2.1,((p.ar .add .i64 a.2.2.2.2.2.2.2.2.2.2.2.2.2.2.2.2.2.2.2.2.1 (1:Int)),())))))))))))))))))))))))) (
 opt.ret _ (Sum.inr (Sum.inr (a.1,(a.2.1,(a.2.2.1,(a.2.2.2.1,(a.2.2.2.2.1,(a.2.2.2.2.2.1,(a.2.2.2.2.2.2.1,(a.2.2.2.2.2.2.2.1,(a.2.2.2.2.2.2.2.2.1,(a.2.2.2.2.2.2.2.2.2.1,(a.2.2.2.2.2.2.2.2.2.2.1,(a.2.2.2.2.2.2.2.2.2.2.2.1,(a.2.2.2.2.2.2.2.2.2.2.2.2.1,(a.2.2.2.2.2.2.2.2.2.2.2.2.2.1,(a.2.2.2.2.2.2.2.2.2.2.2.2.2.2.1,(a.2.2.2.2.2.2.2.2.2.2.2.2.2.2.2.1,(a.2.2.2.2.2.2.2.2.2.2.2.2.2.2.2.2.1,(a.2.2.2.2.2.2.2.2.2.2.2.2.2.2.2.2.2.1,()))))))))))))))))))))))
def x46 (it:It) (p:Prim):(LD×T79)→Option ((LD×T79)⊕(LD×T80)):=
 fun a=>opt.run _ (
 opt.ask _ (p.cmp .lss a.2.2.2.2.2.2.2.2.2.2.2.2.2.2.2.2.2.2.2.1 a.2.2.2.2.2.2.2.2.2.2.2.2.2.2.2.2.2.2.1) (
 opt.need _ (p.rowOk a.2.2.2.2.2.2.2.2.2.2.2.2.2.2.2.2.2.1 (p.nat a.2.2.2.2.2.2.2.2.2.2.2.2.2.2.2.2.2.2.2.1) [ci,ci])<|
 opt.need _ (p.cmp .geq a.2.2.2.2.2.2.2.2.2.2.2.2.2.2.2.2.2.2.2.1 (0:Int))<|
 opt.bnd T4 _ (g65 it p ((p.ar .add .i64 (p.ar .mul .i64 (p.ar .sub .i64 (p.rdI a.2.2.2.2.2.2.2.2.2.2.2.2.2.2.2.2.2.1 (p.nat a.2.2.2.2.2.2.2.2.2.2.2.2.2.2.2.2.2.2.2.1) 0) a.2.2.2.2.2.2.2.1) (p.ar .sub .i64 (p.rdI a.2.2.2.2.2.2.2.2.2.2.2.2.2.2.2.2.2.1 (p.nat a.2.2.2.2.2.2.2.2.2.2.2.2.2.2.2.2.2.2.2.1) 0) a.2.2.2.2.2.2.2.1)) (p.ar .mul .i64 (p.ar .sub .i64 (p.rdI a.2.2.2.2.2.2.2.2.2.2.2.2.2.2.2.2.2.1 (p.nat a.2.2.2.2.2.2.2.2.2.2.2.2.2.2.2.2.2.2.2.1) 1) a.2.2.2.2.2.2.2.2.1) (p.ar .sub .i64 (p.rdI a.2.2.2.2.2.2.2.2.2.2.2.2.2.2.2.2.2.1 (p.nat a.2.2.2.2.2.2.2.2.2.2.2.2.2.2.2.2.2.2.2.1) 1) a.2.2.2.2.2.2.2.2.1))),((1:Int),()))) fun b=>
 opt.need _ (p.and (p.leN (p.add 0 1) (p.len [[(D.int .i64 b.1),(D.int .i64 b.2.1)]])) (p.and (p.leN (p.add a.2.2.2.1 a.2.2.2.2.1) (p.len a.1)) (p.and (p.leN 1 1) (p.leN (p.add a.2.2.2.2.1 1) 1000000))))<|
 opt.ret _ (Sum.inl ((p.app (p.cut a.1 a.2.2.2.1 a.2.2.2.2.1) (p.cut [[(D.int .i64 b.1),(D.int .i64 b.2.1)]] 0 1)),(a.2.1,(a.2.2.1,(0,((p.add a.2.2.2.2.1 1),(a.2.2.2.2.2.1,(a.2.2.2.2.2.2.1,(a.2.2.2.2.2.2.2.1,(a.2.2.2.2.2.2.2.2.1,(a.2.2.2.2.2.2.2.2.2.1,(a.2.2.2.2.2.2.2.2.2.2.1,(a.2.2.2.2.2.2.2.2.2.2.2.1,(a.2.2.2.2.2.2.2.2.2.2.2.2.1,(a.2.2.2.2.2.2.2.2.2.2.2.2.2.1,(a.2.2.2.2.2.2.2.2.2.2.2.2.2.2.1,(a.2.2.2.2.2.2.2.2.2.2.2.2.2.2.2.1,(a.2.2.2.2.2.2.2.2.2.2.2.2.2.2.2.2.1,(a.2.2.2.2.2.2.2.2.2.2.2.2.2.2.2.2.2.1,(a.2.2.2.2.2.2.2.2.2.2.2.2.2.2.2.2.2.2.1,((p.ar .add .i64 a.2.2.2.2.2.2.2.2.2.2.2.2.2.2.2.2.2.2.2.1 (1:Int)),())))))))))))))))))))))) (
 opt.ret _ (Sum.inr (a.1,(a.2.1,(a.2.2.1,(a.2.2.2.1,(a.2.2.2.2.1,(a.2.2.2.2.2.1,(a.2.2.2.2.2.2.1,(a.2.2.2.2.2.2.2.1,(a.2.2.2.2.2.2.2.2.1,(a.2.2.2.2.2.2.2.2.2.1,(a.2.2.2.2.2.2.2.2.2.2.1,(a.2.2.2.2.2.2.2.2.2.2.2.1,(a.2.2.2.2.2.2.2.2.2.2.2.2.1,(a.2.2.2.2.2.2.2.2.2.2.2.2.2.1,(a.2.2.2.2.2.2.2.2.2.2.2.2.2.2.1,(a.2.2.2.2.2.2.2.2.2.2.2.2.2.2.2.1,(a.2.2.2.2.2.2.2.2.2.2.2.2.2.2.2.2.1,()))))))))))))))))))))
def x29 (it:It) (p:Prim):(LD×T40)→Option ((LD×T40)⊕(LD×T41)):=
 fun a=>opt.run _ (
 opt.ask _ (p.cmp .lss a.2.2.2.2.2.2.2.2.2.2.2.2.2.2.1 a.2.2.2.2.2.2.2.2.2.2.2.2.2.1) (
 opt.need _ (p.rowOk a.2.2.2.2.2.2.2.2.2.2.2.2.1 (p.nat a.2.2.2.2.2.2.2.2.2.2.2.2.2.2.1) [ci,ci])<|
 opt.need _ (p.cmp .geq a.2.2.2.2.2.2.2.2.2.2.2.2.2.2.1 (0:Int))<|
 opt.bnd ((LD×T80)) _ (
 it _ _ (x46 it p) (a.1,(a.2.1,(a.2.2.1,(a.2.2.2.1,(a.2.2.2.2.1,(a.2.2.2.2.2.1,(a.2.2.2.2.2.2.1,((p.rdI a.2.2.2.2.2.2.2.2.2.2.2.2.1 (p.nat a.2.2.2.2.2.2.2.2.2.2.2.2.2.2.1) 0),((p.rdI a.2.2.2.2.2.2.2.2.2.2.2.2.1 (p.nat a.2.2.2.2.2.2.2.2.2.2.2.2.2.2.1) 1),(a.2.2.2.2.2.2.2.1,(a.2.2.2.2.2.2.2.2.1,(a.2.2.2.2.2.2.2.2.2.1,(a.2.2.2.2.2.2.2.2.2.2.1,(a.2.2.2.2.2.2.2.2.2.2.2.1,(a.2.2.2.2.2.2.2.2.2.2.2.2.1,(a.2.2.2.2.2.2.2.2.2.2.2.2.2.1,(a.2.2.2.2.2.2.2.2.2.2.2.2.2.2.1,(a.2.2.2.2.2.2.1,((p.ofNat (p.len a.2.2.2.2.2.2.1)),((0:Int),()))))))))))))))))))))) fun b=>
 opt.bnd ((LD×T40)) _ (
 opt.run ((LD×T40)) (
 opt.alt ((LD×T25)) ((LD×T25)) _ (
 it _ _ (y6s it p) (b.1,(b.2.1,(b.2.2.1,(b.2.2.2.1,(b.2.2.2.2.1,(b.2.2.2.2.2.1,(b.2.2.2.2.2.2.1,(b.2.2.2.2.2.2.2.1,(b.2.2.2.2.2.2.2.2.1,(b.2.2.2.2.2.2.1,(b.2.2.2.2.2.2.2.2.2.2.2.2.2.2.2.1,(b.2.2.2.2.2.2.2.2.2.2.2.2.2.2.1,(b.2.2.2.2.2.2.2.2.2.1,(b.2.2.2.2.2.2.2.2.2.2.1,(b.2.2.2.2.2.2.2.2.2.2.2.1,(b.2.2.2.2.2.2.2.2.2.2.2.2.1,(b.2.2.2.2.2.2.2.2.2.2.2.2.2.1,(b.2.2.2.2.2.2.2.2.2.2.2.2.2.2.2.2.1,(b.2.2.2.2.2.2.1,((p.ofNat (p.len b.2.2.2.2.2.2.1)),((0:Int),())))))))))))))))))))))) (fun c=>
 opt.ret _ (c.1,(c.2.1,(c.2.2.1,(c.2.2.2.1,(c.2.2.2.2.1,(c.2.2.2.2.2.1,(c.2.2.2.2.2.2.1,(b.2.2.2.2.2.2.2.2.2.1,(b.2.2.2.2.2.2.2.2.2.2.1,(b.2.2.2.2.2.2.2.2.2.2.2.1,(b.2.2.2.2.2.2.2.2.2.2.2.2.1,(b.2.2.2.2.2.2.2.2.2.2.2.2.2.1,(b.2.2.2.2.2.2.2.2.2.2.2.2.2.2.1,(b.2.2.2.2.2.2.2.2.2.2.2.2.2.2.2.1,(b.2.2.2.2.2.2.2.2.2.2.2.2.2.2.2.2.1,())))))))))))))))) (fun d=>
 opt.bnd ((LD×T25)) _ (some d) fun e=>
 opt.ret _ (e.1,(e.2.1,(e.2.2.1,(e.2.2.2.1,(e.2.2.2.2.1,(e.2.2.2.2.2.1,(e.2.2.2.2.2.2.1,(b.2.2.2.2.2.2.2.2.2.1,(b.2.2.2.2.2.2.2.2.2.2.1,(b.2.2.2.2.2.2.2.2.2.2.2.1,(b.2.2.2.2.2.2.2.2.2.2.2.2.1,(b.2.2.2.2.2.2.2.2.2.2.2.2.2.1,(b.2.2.2.2.2.2.2.2.2.2.2.2.2.2.1,(b.2.2.2.2.2.2.2.2.2.2.2.2.2.2.2.1,(b.2.2.2.2.2.2.2.2.2.2.2.2.2.2.2.2.1,())))))))))))))))))) fun f=>
 opt.ret _ (Sum.inl (f.1,(f.2.1,(f.2.2.1,(f.2.2.2.1,(f.2.2.2.2.1,(f.2.2.2.2.2.1,(f.2.2.2.2.2.2.1,(f.2.2.2.2.2.2.2.1,(f.2.2.2.2.2.2.2.2.1,(f.2.2.2.2.2.2.2.2.2.1,(f.2.2.2.2.2.2.2.2.2.2.1,(f.2.2.2.2.2.2.2.2.2.2.2.1,(f.2.2.2.2.2.2.2.2.2.2.2.2.1,(f.2.2.2.2.2.2.2.2.2.2.2.2.2.1,((p.ar .add .i64 f.2.2.2.2.2.2.2.2.2.2.2.2.2.2.1 (1:Int)),()))))))))))))))))) (
 opt.ret _ (Sum.inr (a.1,(a.2.1,(a.2.2.1,(a.2.2.2.1,(a.2.2.2.2.1,(a.2.2.2.2.2.2.2.1,(a.2.2.2.2.2.2.2.2.1,(a.2.2.2.2.2.2.2.2.2.1,(a.2.2.2.2.2.2.2.2.2.2.1,(a.2.2.2.2.2.2.2.2.2.2.2.1,())))))))))))))
def y6t (it:It) (p:Prim):(LD×T41)→Option ((LD×T41)⊕(LD×T81)):=
 fun a=>opt.run _ (
 opt.ask _ (p.cmp .lss a.2.2.2.2.2.2.2.2.2.1 (2:Int)) (
 opt.bnd ((LD×T82)) _ (
 opt.run ((LD×T82)) (
 opt.ask _ (p.cmp .eql a.2.2.2.2.2.2.2.2.2.1 (0:Int)) (
 opt.need _ (bif (p.cmp .geq (0:Int) (0:Int)) then (p.cmp .lss (0:Int) (p.ofNat 2)) else Bool.false)<|
 opt.ret _ (a.1,(a.2.1,(a.2.2.1,(a.2.2.2.1,(a.2.2.2.2.1,(a.2.2.2.2.2.1,(a.2.2.2.2.2.2.1,(a.2.2.2.2.2.1,(a.2.2.2.2.2.2.1,(a.2.2.2.2.2.2.2.1,(a.2.2.2.2.2.2.2.2.1,((0:Int),()))))))))))))) (
 opt.need _ (p.cmp .eql a.2.2.2.2.2.2.2.2.2.1 (1:Int))<|
 opt.need _ (bif (p.cmp .geq (1:Int) (0:Int)) then (p.cmp .lss (1:Int) (p.ofNat 2)) else Bool.false)<|
 opt.ret _ (a.1,(a.2.1,(a.2.2.1,(a.2.2.2.1,(a.2.2.2.2.1,(a.2.2.2.2.2.2.2.1,(a.2.2.2.2.2.2.2.2.1,(a.2.2.2.2.2.1,(a.2.2.2.2.2.2.1,(a.2.2.2.2.2.2.2.1,(a.2.2.2.2.2.2.2.2.1,((1:Int),()))))))))))))))) fun b=>
 opt.bnd ((LD×T41)) _ (
 it _ _ (x29 it p) (b.1,(b.2.1,(b.2.2.1,(b.2.2.2.1,(b.2.2.2.2.1,(b.2.2.2.2.2.1,(b.2.2.2.2.2.2.1,(b.2.2.2.2.2.2.2.1,(b.2.2.2.2.2.2.2.2.1,(b.2.2.2.2.2.2.2.2.2.1,(b.2.2.2.2.2.2.2.2.2.2.1,(b.2.2.2.2.2.2.2.2.2.2.2.1,(b.2.2.2.2.2.1,((p.ofNat (p.len b.2.2.2.2.2.1)),((0:Int),())))))))))))))))) fun c=>
 opt.ret _ (Sum.inl (c.1,(c.2.1,(c.2.2.1,(c.2.2.2.1,(c.2.2.2.2.1,(c.2.2.2.2.2.1,(c.2.2.2.2.2.2.1,(c.2.2.2.2.2.2.2.1,(c.2.2.2.2.2.2.2.2.1,((p.ar .add .i64 c.2.2.2.2.2.2.2.2.2.1 (1:Int)),())))))))))))) (
 opt.ret _ (Sum.inr (a.1,(a.2.1,(a.2.2.1,(a.2.2.2.1,(a.2.2.2.2.1,()))))))))
def g25 (it:It):(p:Prim)→(LD×(LD×(LD×(LD×Unit))))→Option T5:=
 fun p x=>
 opt.alt T0 (((LD×(LD×(LD×T1)))⊕((LD×(LD×(LD×T1)))⊕(LD×(LD×(LD×(LD×(LD×(LD×T1))))))))) _ (g62 it p (x.1,(x.2.1,(x.2.2.1,(x.2.2.2.1,()))))) (fun a=>
 opt.ask _ (p.cmp .neq a.1 (0:Int)) (
 opt.ret _ ((0:Int),((0:Int),(a.1,())))) (
 opt.no _ 41)) (fun b=>
 opt.alt ((LD×(LD×(LD×T1)))) (((LD×(LD×(LD×T1)))⊕(LD×(LD×(LD×(LD×(LD×(LD×T1)))))))) _ (some b) (fun c=>
 opt.ask _ (p.cmp .neq c.2.2.2.1 (0:Int)) (
 opt.ret _ ((0:Int),((0:Int),(c.2.2.2.1,())))) (
 opt.no _ 41)) (fun d=>
 opt.alt ((LD×(LD×(LD×T1)))) ((LD×(LD×(LD×(LD×(LD×(LD×T1))))))) _ (some d) (fun e=>
 opt.ask _ (p.cmp .neq e.2.2.2.1 (0:Int)) (
 opt.ret _ ((0:Int),((0:Int),(e.2.2.2.1,())))) (
 opt.no _ 41)) (fun f=>
 opt.bnd ((LD×(LD×(LD×(LD×(LD×(LD×T1))))))) _ (some f) fun g=>
 opt.ask _ (p.cmp .neq g.2.2.2.2.2.2.1 (0:Int)) (
 opt.ret _ ((0:Int),((0:Int),(g.2.2.2.2.2.2.1,())))) (
 opt.bnd T21 _ (g63 it p (g.2.2.1,(g.2.2.2.2.2.1,()))) fun h=>
 opt.ask _ (bif h.2.2.2.1 then Bool.false else Bool.true) (
 opt.ret _ ((0:Int),((1:Int),((0:Int),())))) (
 opt.need _ (p.leN (p.add 0 0) (p.len []))<|
 opt.bnd ((LD×T81)) _ (
 it _ _ (y6t it p) ([],((0:Int),((0:Int),(0,(0,(g.2.2.1,(g.2.2.2.2.2.1,(g.2.2.2.2.2.1,(g.2.2.1,((0:Int),()))))))))))) fun i=>
 opt.bnd ((LD×T3)) _ (g69 it p (i.1,(i.2.2.2.1,(i.2.2.2.2.1,())))) fun j=>
 opt.ret _ (j.2.1,(j.2.2.1,((0:Int),()))))))))
def G25:=g25 it0
theorem u3k:CtrOk PG v1c (G25 std):=okF (a:=an25) (l:=la25) (gC ok69 (gC ok68 (gC u3c (gC v8z (gC v8f (gN)))))) (by kernel_rfl) fun _ _=>by kernel_rfl
end Go.Am
end
noncomputable section
namespace Go.Am
def v1b:Ctr:=
 ⟨27,[.list 2],[],[(.ret,⟨[(0, .tuple [.int .i64, .int .i64, .int .i64])],[],1⟩)]⟩
def la27:List LA:=
 [⟨27,[false,true,false,true,true,true],0,⟨⟨[(5, .vec 0 1),(22, .list 2),(23, .int .i64),(24, .int .i64)],[.row [(CK.ref [(CR.list 2),(CR.list 1),(CR.list 2)])]],103⟩,[(AX.ret,⟨[(2, .int .i64),(3, .int .i64),(4, .int .i64)],[],103⟩),((AX.exit 0),⟨[(5, .vec 0 1)],[.row [(CK.ref [(CR.list 2),(CR.list 1),(CR.list 2)])]],103⟩)]⟩⟩,
 ⟨27,[false,true,false,true,true,true,true,true],0,⟨⟨[(5, .vec 0 1),(10, .map 1),(42, .vec 0 1),(43, .int .i64),(44, .int .i64)],[.row [(CK.ref [(CR.list 2),(CR.list 1),(CR.list 2)])], .map],103⟩,[((AX.exit 2),⟨[(5, .vec 0 1),(10, .map 1)],[.row [(CK.ref [(CR.list 2),(CR.list 1),(CR.list 2)])], .map],103⟩)]⟩⟩,
 ⟨27,[false,true,true,false,false,true,true,false,false,true,false,true,true,true,true,true],0,⟨⟨[(5, .vec 0 1),(10, .map 1),(11, .int .i64),(12, .ref [.list 2, .list 1, .list 2]),(42, .vec 0 1),(43, .int .i64),(44, .int .i64),(52, .slc 0 1),(53, .int .i64),(54, .int .i64)],[.row [(CK.ref [(CR.list 2),(CR.list 1),(CR.list 2)])], .map],103⟩,[((AX.exit 4),⟨[(5, .vec 0 1),(10, .map 1),(42, .vec 0 1),(43, .int .i64),(44, .int .i64)],[.row [(CK.ref [(CR.list 2),(CR.list 1),(CR.list 2)])], .map],103⟩)]⟩⟩,
 ⟨27,[false,true,false,true,true,true,true,true,true],0,⟨⟨[(5, .vec 0 1),(10, .map 1),(84, .int .i64),(85, .int .i64)],[.row [(CK.ref [(CR.list 2),(CR.list 1),(CR.list 2)])], .map],103⟩,[(AX.ret,⟨[(2, .int .i64),(3, .int .i64),(4, .int .i64)],[],103⟩),((AX.exit 6),⟨[],[],103⟩)]⟩⟩,
 ⟨27,[false,true,true,false,false,true,true,false,false,true,false,true,true,true,true,true,true],0,⟨⟨[(5, .vec 0 1),(10, .map 1),(17, .int .i64),(84, .int .i64),(85, .int .i64),(89, .int .i64),(90, .int .i64)],[.row [(CK.ref [(CR.list 2),(CR.list 1),(CR.list 2)])], .map],103⟩,[(AX.ret,⟨[(2, .int .i64),(3, .int .i64),(4, .int .i64)],[],103⟩),((AX.exit 8),⟨[(5, .vec 0 1),(10, .map 1),(84, .int .i64),(85, .int .i64)],[.row [(CK.ref [(CR.list 2),(CR.list 1),(CR.list 2)])], .map],103⟩)]⟩⟩]
def ja27:List JA:=
 [⟨27,[true,true,true,false,false,true,true,false,false,true,true,false,false,true,true,false,false,true,false,true,true,true,true,true],0,[(AX.normal,⟨[(5, .vec 0 1),(10, .map 1),(11, .int .i64),(12, .ref [.list 2, .list 1, .list 2]),(42, .vec 0 1),(43, .int .i64),(44, .int .i64),(52, .slc 0 1),(53, .int .i64),(54, .int .i64)],[.row [(CK.ref [(CR.list 2),(CR.list 1),(CR.list 2)])], .map],103⟩)]⟩,
 ⟨27,[false,true,true,false,false,true,true,false,false,true,true,false,false,true,false,true,true,true,true,true,true],0,[(AX.ret,⟨[(2, .int .i64),(3, .int .i64),(4, .int .i64)],[],103⟩),(AX.normal,⟨[(5, .vec 0 1),(10, .map 1),(17, .int .i64),(84, .int .i64),(85, .int .i64),(89, .int .i64),(90, .int .i64)],[.row [(CK.ref [(CR.list 2),(CR.list 1),(CR.list 2)])], .map],103⟩)]⟩,
 ⟨27,[false,true,true,false,false,true,false,true,true,true],0,[(AX.ret,⟨[(2, .int .i64),(3, .int .i64),(4, .int .i64)],[],103⟩),(AX.normal,⟨[(5, .vec 0 1),(22, .list 2),(23, .int .i64),(24, .int .i64)],[.row [(CK.ref [(CR.list 2),(CR.list 1),(CR.list 2)])]],103⟩)]⟩]
def u1o:List CF:=
 [⟨w54,G63⟩,⟨x8t,G48⟩]
def an27:Anns:=
 ⟨u1o,ja27,[⟨27,[true,true,true,false,false,true,true,false,false,true,false,true,true,true],⟨[(5, .vec 0 1),(8, .ref [.list 2, .list 1, .list 2]),(22, .list 2),(23, .int .i64),(24, .int .i64)],[.row [(CK.ref [(CR.list 2),(CR.list 1),(CR.list 2)])]],103⟩⟩]⟩
def x9f (p:Prim):(LD×T42)→Option ((LD×T42)⊕((Int×(Int×(Int×Unit)))⊕(LD×(List ((D×D))×(Int×(Int×Unit)))))):=
 fun a=>opt.run _ (
 opt.ask _ (p.cmp .lss a.2.2.2.2.2.2.1 a.2.2.2.2.2.1) (
 opt.alt T5 ((LD×T42)) _ (
 opt.run (((Int×(Int×(Int×Unit)))⊕(LD×(List ((D×D))×(Int×(Int×(Int×(Int×(Int×Unit))))))))) (
 opt.need _ (p.mOk a.2.1 [SK.i,SK.i] Bool.true (D.agg [(D.int .i64 a.2.2.1),(D.int .i64 a.2.2.2.2.2.2.1)]) Bool.false [ci])<|
 opt.ask _ (p.mhas a.2.1 [SK.i,SK.i] Bool.true (D.agg [(D.int .i64 a.2.2.1),(D.int .i64 a.2.2.2.2.2.2.1)])) (
 opt.ask _ (p.cmp .gtr (p.mI a.2.1 [SK.i,SK.i] Bool.true (D.agg [(D.int .i64 a.2.2.1),(D.int .i64 a.2.2.2.2.2.2.1)]) 0) (0:Int)) (
 opt.ret _ (Sum.inl (a.2.2.1,(a.2.2.2.2.2.2.1,((0:Int),()))))) (
 opt.need _ (p.eqN 0 0)<|
 opt.need _ (p.eqN (p.len a.1) (p.len a.1))<|
 opt.ret _ (Sum.inr (a.1,(a.2.1,(a.2.2.1,(a.2.2.2.1,(a.2.2.2.2.1,(a.2.2.2.2.2.1,(a.2.2.2.2.2.2.1,())))))))))) (
 opt.ask _ (p.cmp .gtr (0:Int) (0:Int)) (
 opt.ret _ (Sum.inl (a.2.2.1,(a.2.2.2.2.2.2.1,((0:Int),()))))) (
 opt.need _ (p.eqN 0 0)<|
 opt.need _ (p.eqN (p.len a.1) (p.len a.1))<|
 opt.ret _ (Sum.inr (a.1,(a.2.1,(a.2.2.1,(a.2.2.2.1,(a.2.2.2.2.1,(a.2.2.2.2.2.1,(a.2.2.2.2.2.2.1,())))))))))))) (fun b=>
 opt.ret _ (Sum.inr (Sum.inl (b.1,(b.2.1,(b.2.2.1,())))))) (fun c=>
 opt.bnd ((LD×T42)) _ (some c) fun d=>
 opt.need _ (p.eqN 0 0)<|
 opt.need _ (p.eqN (p.len d.1) (p.len d.1))<|
 opt.ret _ (Sum.inl (d.1,(d.2.1,(d.2.2.1,(d.2.2.2.1,(d.2.2.2.2.1,(d.2.2.2.2.2.1,((p.ar .add .i64 d.2.2.2.2.2.2.1 (1:Int)),())))))))))) (
 opt.need _ (p.eqN 0 0)<|
 opt.need _ (p.eqN (p.len a.1) (p.len a.1))<|
 opt.ret _ (Sum.inr (Sum.inr (a.1,(a.2.1,(a.2.2.2.1,(a.2.2.2.2.1,()))))))))
def x26 (it:It) (p:Prim):(LD×T16)→Option ((LD×T16)⊕T61):=
 fun a=>opt.run _ (
 opt.ask _ (p.cmp .lss a.2.2.2.1 a.2.2.1) (
 opt.need _ (p.eqN 0 0)<|
 opt.need _ (p.eqN (p.len a.1) (p.len a.1))<|
 opt.alt T5 ((LD×T16)) _ (
 it _ _ (x9f p) (a.1,(a.2.1,(a.2.2.2.1,(a.2.2.1,(a.2.2.2.1,((p.ofNat (p.len a.1)),((0:Int),())))))))) (fun b=>
 opt.ret _ (Sum.inr (Sum.inl (b.1,(b.2.1,(b.2.2.1,())))))) (fun c=>
 opt.bnd ((LD×T16)) _ (some c) fun d=>
 opt.need _ (p.eqN 0 0)<|
 opt.need _ (p.eqN (p.len d.1) (p.len d.1))<|
 opt.ret _ (Sum.inl (d.1,(d.2.1,(d.2.2.1,((p.ar .add .i64 d.2.2.2.1 (1:Int)),()))))))) (
 opt.ret _ (Sum.inr (Sum.inr ()))))
def x27 (it:It) (p:Prim):(LD×T43)→Option ((LD×T43)⊕(LD×T16)):=
 fun a=>opt.run _ (
 opt.ask _ (p.cmp .lss a.2.2.2.2.2.2.2.2.2.2.2.2.1 a.2.2.2.2.2.2.2.2.2.2.2.1) (
 opt.need _ (bif (p.cmp .geq a.2.2.2.2.2.2.2.2.2.2.2.2.1 (0:Int)) then (p.cmp .lss a.2.2.2.2.2.2.2.2.2.2.2.2.1 (p.ofNat a.2.2.2.2.2.2.2.2.2.1)) else Bool.false)<|
 opt.need _ (p.rowOk a.1 (p.add a.2.2.2.2.2.2.2.2.1 (p.nat a.2.2.2.2.2.2.2.2.2.2.2.2.1)) [(CK.ref [(CR.list 2),(CR.list 1),(CR.list 2)])])<|
 opt.bnd T21 _ (g63 it p ((p.rdL (p.rdR a.1 (p.add a.2.2.2.2.2.2.2.2.1 (p.nat a.2.2.2.2.2.2.2.2.2.2.2.2.1)) 0) 0 2),(a.2.2.2.2.2.1,()))) fun b=>
 opt.bnd ((LD×T43)) _ (
 opt.run ((LD×T43)) (
 opt.ask _ (bif b.2.2.2.1 then Bool.false else Bool.true) (
 opt.need _ (p.mOk a.2.1 [SK.i,SK.i] Bool.true (D.agg [(D.int .i64 a.2.2.2.2.2.2.2.2.2.2.2.2.1),(D.int .i64 a.2.2.1)]) Bool.false [ci])<|
 opt.ask _ (p.mhas a.2.1 [SK.i,SK.i] Bool.true (D.agg [(D.int .i64 a.2.2.2.2.2.2.2.2.2.2.2.2.1),(D.int .i64 a.2.2.1)])) (
 opt.need _ (p.eqN 0 0)<|
 opt.need _ (p.eqN (p.len a.1) (p.len a.1))<|
 opt.need _ (p.eqN 0 0)<|
 opt.need _ (p.eqN (p.len a.1) (p.len a.1))<|
 opt.ret _ (a.1,((p.mset a.2.1 (p.nat (p.ofNat (p.mpos a.2.1 [SK.i,SK.i] Bool.true (D.agg [(D.int .i64 a.2.2.2.2.2.2.2.2.2.2.2.2.1),(D.int .i64 a.2.2.1)])))) (D.agg [(D.int .i64 a.2.2.2.2.2.2.2.2.2.2.2.2.1),(D.int .i64 a.2.2.1)]) (D.int .i64 (p.ar .add .i64 (p.mI a.2.1 [SK.i,SK.i] Bool.true (D.agg [(D.int .i64 a.2.2.2.2.2.2.2.2.2.2.2.2.1),(D.int .i64 a.2.2.1)]) 0) (1:Int)))),(a.2.2.1,(a.2.2.2.1,(a.2.2.2.2.1,(a.2.2.2.2.2.1,(a.2.2.2.2.2.2.1,(a.2.2.2.2.2.2.2.1,(a.2.2.2.2.2.2.2.2.1,(a.2.2.2.2.2.2.2.2.2.1,(a.2.2.2.2.2.2.2.2.2.2.1,(a.2.2.2.2.2.2.2.2.2.2.2.1,(a.2.2.2.2.2.2.2.2.2.2.2.2.1,())))))))))))))) (
 opt.need _ (p.eqN 0 0)<|
 opt.need _ (p.eqN (p.len a.1) (p.len a.1))<|
 opt.need _ (p.eqN 0 0)<|
 opt.need _ (p.eqN (p.len a.1) (p.len a.1))<|
 opt.ret _ (a.1,((p.madd a.2.1 (D.agg [(D.int .i64 a.2.2.2.2.2.2.2.2.2.2.2.2.1),(D.int .i64 a.2.2.1)]) (D.int .i64 (p.ar .add .i64 (0:Int) (1:Int)))),(a.2.2.1,(a.2.2.2.1,(a.2.2.2.2.1,(a.2.2.2.2.2.1,(a.2.2.2.2.2.2.1,(a.2.2.2.2.2.2.2.1,(a.2.2.2.2.2.2.2.2.1,(a.2.2.2.2.2.2.2.2.2.1,(a.2.2.2.2.2.2.2.2.2.2.1,(a.2.2.2.2.2.2.2.2.2.2.2.1,(a.2.2.2.2.2.2.2.2.2.2.2.2.1,()))))))))))))))) (
 opt.need _ (p.eqN 0 0)<|
 opt.need _ (p.eqN (p.len a.1) (p.len a.1))<|
 opt.need _ (p.eqN 0 0)<|
 opt.need _ (p.eqN (p.len a.1) (p.len a.1))<|
 opt.ret _ (a.1,(a.2.1,(a.2.2.1,(a.2.2.2.1,(a.2.2.2.2.1,(a.2.2.2.2.2.1,(a.2.2.2.2.2.2.1,(a.2.2.2.2.2.2.2.1,(a.2.2.2.2.2.2.2.2.1,(a.2.2.2.2.2.2.2.2.2.1,(a.2.2.2.2.2.2.2.2.2.2.1,(a.2.2.2.2.2.2.2.2.2.2.2.1,(a.2.2.2.2.2.2.2.2.2.2.2.2.1,())))))))))))))))) fun c=>
 opt.need _ (p.eqN 0 0)<|
 opt.need _ (p.eqN (p.len c.1) (p.len c.1))<|
 opt.need _ (p.eqN 0 0)<|
 opt.need _ (p.eqN (p.len c.1) (p.len c.1))<|
 opt.ret _ (Sum.inl (c.1,(c.2.1,(c.2.2.1,(c.2.2.2.1,(c.2.2.2.2.1,(c.2.2.2.2.2.1,(c.2.2.2.2.2.2.1,(c.2.2.2.2.2.2.2.1,(c.2.2.2.2.2.2.2.2.1,(c.2.2.2.2.2.2.2.2.2.1,(c.2.2.2.2.2.2.2.2.2.2.1,(c.2.2.2.2.2.2.2.2.2.2.2.1,((p.ar .add .i64 c.2.2.2.2.2.2.2.2.2.2.2.2.1 (1:Int)),()))))))))))))))) (
 opt.need _ (p.eqN 0 0)<|
 opt.need _ (p.eqN (p.len a.1) (p.len a.1))<|
 opt.need _ (p.eqN 0 0)<|
 opt.need _ (p.eqN (p.len a.1) (p.len a.1))<|
 opt.ret _ (Sum.inr (a.1,(a.2.1,(a.2.2.2.2.2.2.1,(a.2.2.2.2.2.2.2.1,())))))))
def x45 (it:It) (p:Prim):(LD×T16)→Option ((LD×T16)⊕(LD×(List ((D×D))×Unit))):=
 fun a=>opt.run _ (
 opt.ask _ (p.cmp .lss a.2.2.2.1 a.2.2.1) (
 opt.need _ (bif (p.cmp .geq a.2.2.2.1 (0:Int)) then (p.cmp .lss a.2.2.2.1 (p.ofNat (p.len a.1))) else Bool.false)<|
 opt.need _ (p.rowOk a.1 (p.add 0 (p.nat a.2.2.2.1)) [(CK.ref [(CR.list 2),(CR.list 1),(CR.list 2)])])<|
 opt.need _ (p.and (p.cmp .geq (0:Int) (0:Int)) (p.and (p.cmp .leq (0:Int) a.2.2.2.1) (p.and (p.cmp .leq a.2.2.2.1 a.2.2.2.1) (p.cmp .leq a.2.2.2.1 (p.ofNat (p.len a.1))))))<|
 opt.need _ (p.eqN 0 0)<|
 opt.need _ (p.eqN (p.len a.1) (p.len a.1))<|
 opt.need _ (p.eqN 0 0)<|
 opt.need _ (p.eqN (p.len a.1) (p.len a.1))<|
 opt.bnd ((LD×T16)) _ (
 it _ _ (x27 it p) (a.1,(a.2.1,(a.2.2.2.1,((p.rdL (p.rdR a.1 (p.add 0 (p.nat a.2.2.2.1)) 0) 0 0),((p.rdL (p.rdR a.1 (p.add 0 (p.nat a.2.2.2.1)) 0) 0 1),((p.rdL (p.rdR a.1 (p.add 0 (p.nat a.2.2.2.1)) 0) 0 2),(a.2.2.1,(a.2.2.2.1,((p.add 0 (p.nat (0:Int))),((p.sub (p.nat a.2.2.2.1) (p.nat (0:Int))),((p.sub (p.nat a.2.2.2.1) (p.nat (0:Int))),((p.ofNat (p.sub (p.nat a.2.2.2.1) (p.nat (0:Int)))),((0:Int),())))))))))))))) fun b=>
 opt.need _ (p.eqN 0 0)<|
 opt.need _ (p.eqN (p.len b.1) (p.len b.1))<|
 opt.need _ (p.eqN 0 0)<|
 opt.need _ (p.eqN (p.len b.1) (p.len b.1))<|
 opt.ret _ (Sum.inl (b.1,(b.2.1,(b.2.2.1,((p.ar .add .i64 b.2.2.2.1 (1:Int)),())))))) (
 opt.need _ (p.eqN 0 0)<|
 opt.need _ (p.eqN (p.len a.1) (p.len a.1))<|
 opt.ret _ (Sum.inr (a.1,(a.2.1,())))))
def x28 (it:It) (p:Prim):(LD×(LD×T3))→Option ((LD×(LD×T3))⊕T62):=
 fun a=>opt.run _ (
 opt.ask _ (p.cmp .lss a.2.2.2.1 a.2.2.1) (
 opt.alt T5 ((LD×(LD×T3))) _ (
 opt.run (((Int×(Int×(Int×Unit)))⊕(LD×(LD×(Int×(Int×Unit)))))) (
 opt.need _ (p.rowOk a.2.1 (p.nat a.2.2.2.1) [(CK.list 2),(CK.list 1)])<|
 opt.need _ (p.cmp .geq a.2.2.2.1 (0:Int))<|
 opt.alt T0 ((LD×(LD×(LD×T1)))) _ (g48 it p ((p.rdL a.2.1 (p.nat a.2.2.2.1) 0),((p.rdL a.2.1 (p.nat a.2.2.2.1) 1),()))) (fun b=>
 opt.ask _ (p.cmp .neq b.1 (0:Int)) (
 opt.ret _ (Sum.inl ((0:Int),((0:Int),(b.1,()))))) (
 opt.no _ 96)) (fun c=>
 opt.bnd ((LD×(LD×(LD×T1)))) _ (some c) fun d=>
 opt.ask _ (p.cmp .neq d.2.2.2.1 (0:Int)) (
 opt.ret _ (Sum.inl ((0:Int),((0:Int),(d.2.2.2.1,()))))) (
 opt.need _ (p.eqN 0 0)<|
 opt.need _ (p.eqN (p.len a.1) (p.len a.1))<|
 opt.need _ (p.and (p.leN (p.add 0 1) (p.len [[(D.ref [(D.list Bool.false 2 d.1),(D.list Bool.false 1 d.2.1),(D.list Bool.false 2 d.2.2.1)])]])) (p.and (p.leN (p.add 0 (p.len a.1)) (p.len a.1)) (p.and (p.leN 1 1) (p.leN (p.add (p.len a.1) 1) 1000000))))<|
 opt.need _ (p.eqN 0 0)<|
 opt.need _ (p.eqN (p.add (p.len a.1) 1) (p.len (p.app (p.cut a.1 0 (p.len a.1)) (p.cut [[(D.ref [(D.list Bool.false 2 d.1),(D.list Bool.false 1 d.2.1),(D.list Bool.false 2 d.2.2.1)])]] 0 1))))<|
 opt.ret _ (Sum.inr ((p.app (p.cut a.1 0 (p.len a.1)) (p.cut [[(D.ref [(D.list Bool.false 2 d.1),(D.list Bool.false 1 d.2.1),(D.list Bool.false 2 d.2.2.1)])]] 0 1)),(a.2.1,(a.2.2.1,(a.2.2.2.1,()))))))))) (fun e=>
 opt.ret _ (Sum.inr (Sum.inl (e.1,(e.2.1,(e.2.2.1,())))))) (fun f=>
 opt.bnd ((LD×(LD×T3))) _ (some f) fun g=>
 opt.need _ (p.eqN 0 0)<|
 opt.need _ (p.eqN (p.len g.1) (p.len g.1))<|
 opt.ret _ (Sum.inl (g.1,(g.2.1,(g.2.2.1,((p.ar .add .i64 g.2.2.2.1 (1:Int)),()))))))) (
 opt.need _ (p.eqN 0 0)<|
 opt.need _ (p.eqN (p.len a.1) (p.len a.1))<|
 opt.ret _ (Sum.inr (Sum.inr (a.1,())))))
def g27 (it:It):(p:Prim)→(LD×Unit)→Option T5:=
 fun p x=>
 opt.ask _ (p.cmp .gtr (p.ofNat (p.len x.1)) (8:Int)) (
 opt.ret _ ((0:Int),((0:Int),((6:Int),())))) (
 opt.alt T5 ((LD×Unit)) _ (
 it _ _ (x28 it p) ([],(x.1,((p.ofNat (p.len x.1)),((0:Int),()))))) (fun a=>
 opt.ret _ (a.1,(a.2.1,(a.2.2.1,())))) (fun b=>
 opt.bnd ((LD×Unit)) _ (some b) fun c=>
 opt.need _ (p.eqN 0 0)<|
 opt.need _ (p.eqN (p.len c.1) (p.len c.1))<|
 opt.need _ (p.eqN 0 0)<|
 opt.need _ (p.eqN (p.len c.1) (p.len c.1))<|
 opt.bnd ((LD×(List ((D×D))×Unit))) _ (
 it _ _ (x45 it p) (c.1,([],((p.ofNat (p.len c.1)),((0:Int),()))))) fun d=>
 opt.need _ (p.eqN 0 0)<|
 opt.need _ (p.eqN (p.len d.1) (p.len d.1))<|
 opt.alt T5 (Unit) _ (
 it _ _ (x26 it p) (d.1,(d.2.1,((p.ofNat (p.len d.1)),((0:Int),()))))) (fun e=>
 opt.ret _ (e.1,(e.2.1,(e.2.2.1,())))) (fun f=>
 opt.bnd (Unit) _ (some f) fun g=>
 opt.ret _ ((0:Int),((0:Int),((5:Int),()))))))
def G27:=g27 it0
theorem u3j:CtrOk PG v1b (G27 std):=okF (a:=an27) (l:=la27) (gC v8z (gC v2n (gN))) (by kernel_rfl) fun _ _=>by kernel_rfl
end Go.Am
end
noncomputable section
namespace Go.Am
def v6b:Ctr:=
 ⟨35,[.agg [.int .i64, .int .i64], .agg [.int .i64, .int .i64]],[],[(.ret,⟨[(0, .bool)],[],1⟩)]⟩
def la35:List LA:=
 [⟨35,[false,true,true,true],0,⟨⟨[(2, .bptr 0 0),(3, .bptr 1 0),(5, .bool)],[.box [.int .i64, .int .i64], .box [.int .i64, .int .i64]],85⟩,[(AX.ret,⟨[(4, .bool)],[],85⟩)]⟩⟩]
def ja35:List JA:=
 [⟨35,[false,false,true,true,true,false,false,false,true,true,true],0,[(AX.normal,⟨[(2, .bptr 0 0),(3, .bptr 1 0),(5, .bool),(8, .int .i64),(9, .int .i64),(65, .bool)],[.box [.int .i64, .int .i64], .box [.int .i64, .int .i64]],85⟩)]⟩,
 ⟨35,[false,false,true,false,true,true,true,false,false,false,true,true,true],0,[(AX.normal,⟨[(4, .bool)],[],85⟩)]⟩,
 ⟨35,[false,false,true],0,[(AX.normal,⟨[(2, .bptr 0 0),(3, .bptr 1 0),(27, .bool)],[.box [.int .i64, .int .i64], .box [.int .i64, .int .i64]],85⟩)]⟩,
 ⟨35,[false,false,true,true,true],0,[(AX.ret,⟨[(4, .bool)],[],85⟩),(AX.normal,⟨[(2, .bptr 0 0),(3, .bptr 1 0),(5, .bool)],[.box [.int .i64, .int .i64], .box [.int .i64, .int .i64]],85⟩)]⟩]
def u1k:List CF:=
 []
def an35:Anns:=
 ⟨u1k,ja35,[]⟩
def y6v (p:Prim):(Int×(Int×(Int×(Int×(Bool×Unit)))))→Option ((Int×(Int×(Int×(Int×(Bool×Unit)))))⊕(Bool×Unit)):=
 fun a=>opt.run _ (
 opt.alt T2 T19 _ (
 opt.run (((Bool×Unit)⊕(Int×(Int×(Int×(Int×(Bool×Unit))))))) (
 opt.need _ (p.cmp .neq a.2.1 (0:Int))<|
 opt.need _ (p.cmp .neq a.2.2.2.1 (0:Int))<|
 opt.ask _ (p.cmp .neq (p.ar .quo .i64 a.1 a.2.1) (p.ar .quo .i64 a.2.2.1 a.2.2.2.1)) (
 opt.ret _ (Sum.inl ((bif (bif (p.bEq (p.cmp .lss (p.ar .quo .i64 a.1 a.2.1) (p.ar .quo .i64 a.2.2.1 a.2.2.2.1)) a.2.2.2.2.1) then Bool.true else Bool.false) then Bool.false else Bool.true),()))) (
 opt.bnd T83 _ (
 opt.run T83 (
 opt.ask _ (p.cmp .eql (p.ar .sub .i64 a.1 (p.ar .mul .i64 (p.ar .quo .i64 a.1 a.2.1) a.2.1)) (0:Int)) (
 opt.ret _ (a.1,(a.2.1,(a.2.2.1,(a.2.2.2.1,(a.2.2.2.2.1,((p.ar .sub .i64 a.1 (p.ar .mul .i64 (p.ar .quo .i64 a.1 a.2.1) a.2.1)),((p.ar .sub .i64 a.2.2.1 (p.ar .mul .i64 (p.ar .quo .i64 a.2.2.1 a.2.2.2.1) a.2.2.2.1)),(Bool.true,()))))))))) (
 opt.ret _ (a.1,(a.2.1,(a.2.2.1,(a.2.2.2.1,(a.2.2.2.2.1,((p.ar .sub .i64 a.1 (p.ar .mul .i64 (p.ar .quo .i64 a.1 a.2.1) a.2.1)),((p.ar .sub .i64 a.2.2.1 (p.ar .mul .i64 (p.ar .quo .i64 a.2.2.1 a.2.2.2.1) a.2.2.2.1)),((p.cmp .eql (p.ar .sub .i64 a.2.2.1 (p.ar .mul .i64 (p.ar .quo .i64 a.2.2.1 a.2.2.2.1) a.2.2.2.1)) (0:Int)),()))))))))))) fun b=>
 opt.ask _ b.2.2.2.2.2.2.2.1 (
 opt.bnd T2 _ (
 opt.run T2 (
 opt.ask _ (p.cmp .neq b.2.2.2.2.2.1 b.2.2.2.2.2.2.1) (
 opt.ret _ ((bif (bif (p.bEq (p.cmp .eql b.2.2.2.2.2.1 (0:Int)) b.2.2.2.2.1) then Bool.true else Bool.false) then Bool.false else Bool.true),())) (
 opt.ret _ (Bool.false,())))) fun c=>
 opt.ret _ (Sum.inl (c.1,()))) (
 opt.ret _ (Sum.inr (b.2.1,(b.2.2.2.2.2.1,(b.2.2.2.1,(b.2.2.2.2.2.2.1,((bif b.2.2.2.2.1 then Bool.false else Bool.true),())))))))))) (fun d=>
 opt.ret _ (Sum.inr (d.1,()))) (fun e=>
 opt.bnd T19 _ (some e) fun f=>
 opt.ret _ (Sum.inl (f.1,(f.2.1,(f.2.2.1,(f.2.2.2.1,(f.2.2.2.2.1,()))))))))
def g35 (it:It):(p:Prim)→T10→Option T2:=
 fun p x=>
 opt.bnd T19 _ (
 opt.run T19 (
 opt.ask _ (p.cmp .lss x.1 (0:Int)) (
 opt.ret _ (x.1,(x.2.1,(x.2.2.1,(x.2.2.2.1,(Bool.true,())))))) (
 opt.ask _ (p.cmp .lss x.2.2.1 (0:Int)) (
 opt.ret _ (x.1,(x.2.1,(x.2.2.1,(x.2.2.2.1,(Bool.true,())))))) (
 opt.ask _ (p.cmp .lss x.2.1 (1:Int)) (
 opt.ret _ (x.1,(x.2.1,(x.2.2.1,(x.2.2.2.1,(Bool.true,())))))) (
 opt.ret _ (x.1,(x.2.1,(x.2.2.1,(x.2.2.2.1,((p.cmp .lss x.2.2.2.1 (1:Int)),())))))))))) fun a=>
 opt.ask _ a.2.2.2.2.1 (
 opt.ret _ (Bool.false,())) (
 opt.bnd T2 _ (
 it _ _ (y6v p) (a.1,(a.2.1,(a.2.2.1,(a.2.2.2.1,(Bool.false,())))))) fun b=>
 opt.ret _ (b.1,()))
def G35:=g35 it0
theorem ok35:CtrOk PG v6b (G35 std):=okF (a:=an35) (l:=la35) (gN) (by kernel_rfl) fun _ _=>by kernel_rfl
end Go.Am
end
noncomputable section
namespace Go.Am
def v6l:Ctr:=
 ⟨15,[],[],[(.ret,⟨[(0, .bool)],[],1⟩)]⟩
def la15:List LA:=
 []
def ja15:List JA:=
 [⟨15,[false,false,true,true,true,true,true,true,true,true,true,true,true,true],0,[(AX.normal,⟨[(1, .bptr 0 0),(3, .bptr 1 0),(4, .bptr 2 0),(5, .vec 3 2),(7, .bool),(9, .bptr 4 0),(15, .bptr 5 0),(17, .bptr 6 0),(19, .bptr 7 0),(21, .int .i64),(22, .int .i64),(127, .bool)],[.box [.full 8 2, .full 9 1], .box [.full 10 2, .nils], .box [.full 11 2, .nils], .row [ci,ci], .box [.int .i64, .int .i64], .box [.int .i64, .int .i64, .int .i64], .box [.int .i64, .int .i64, .int .i64], .box [.int .i64, .int .i64], .row [ci,ci], .row [(CK.list 2)], .row [ci,ci], .row [ci,ci]],170⟩)]⟩]
def u1x:List CF:=
 [⟨v58,G38⟩,⟨v6a,G36⟩,⟨v6i,G20⟩,⟨v1b,G27⟩,⟨v1c,G25⟩,⟨v59,G37⟩,⟨v6d,G32⟩,⟨v57,G39⟩,⟨v6g,G23⟩,⟨v6h,G21⟩,⟨v6k,G16⟩]
def an15:Anns:=
 ⟨u1x,ja15,[⟨15,[false,true,true],⟨[(1, .bptr 0 0),(2, .bptr 1 0),(3, .bptr 2 0),(4, .bptr 3 0)],[.box [.full 4 2, .full 5 1], .box [.full 6 2, .nils], .box [.full 7 2, .nils], .box [.full 8 2, .nils], .row [ci,ci], .row [(CK.list 2)], .row [ci,ci], .row [ci,ci], .row [ci,ci]],170⟩⟩]⟩
def g15 (it:It):(p:Prim)→Unit→Option T2:=
 fun p x=>
 opt.need _ (p.eqN 0 0)<|
 opt.need _ (p.eqN 3 (p.len k0k))<|
 opt.need _ (p.eqN 3 (p.len k0k))<|
 opt.need _ (p.eqN 0 0)<|
 opt.need _ (p.eqN 1 (p.len k1k))<|
 opt.need _ (p.eqN 1 (p.len k1k))<|
 opt.need _ (p.eqN 0 0)<|
 opt.need _ (p.eqN 1 (p.len [[k6k,k4k]]))<|
 opt.need _ (p.eqN 1 (p.len [[k6k,k4k]]))<|
 opt.need _ (p.eqN 0 0)<|
 opt.need _ (p.eqN 1 (p.len k2k))<|
 opt.need _ (p.eqN 1 (p.len k2k))<|
 opt.need _ (p.eqN 0 0)<|
 opt.need _ (p.eqN 1 (p.len k3k))<|
 opt.need _ (p.eqN 1 (p.len k3k))<|
 opt.need _ (p.and (p.and (p.leN (p.add 0 (p.len k0k)) (p.len k0k)) (p.and (p.leN (p.add 0 (p.len k1k)) (p.len k1k)) Bool.true)) Bool.true)<|
 opt.bnd ((LD×T1)) _ (g16 it p ((p.cut k0k 0 (p.len k0k)),((p.cut k1k 0 (p.len k1k)),()))) fun a=>
 opt.need _ (p.plain a.1)<|
 opt.need _ (p.and (p.and (p.leN (p.add 0 (p.len k0k)) (p.len k0k)) (p.and (p.leN (p.add 0 (p.len k1k)) (p.len k1k)) Bool.true)) (p.and Bool.true Bool.true))<|
 opt.bnd ((Bool×(Int×Unit))) _ (g21 it p ((p.cut k0k 0 (p.len k0k)),((p.cut k1k 0 (p.len k1k)),((3:Int),((2:Int),()))))) fun b=>
 opt.need _ (p.and (p.and (p.leN (p.add 0 (p.len k0k)) (p.len k0k)) (p.and (p.leN (p.add 0 (p.len k1k)) (p.len k1k)) Bool.true)) (p.and (p.leN (p.add 0 4) (p.len [[k4k,k4k],[k5k,k4k],[k5k,k5k],[k4k,k5k]])) Bool.true))<|
 opt.bnd T5 _ (g23 it p ((p.cut k0k 0 (p.len k0k)),((p.cut k1k 0 (p.len k1k)),((p.cut [[k4k,k4k],[k5k,k4k],[k5k,k5k],[k4k,k5k]] 0 4),())))) fun c=>
 opt.need _ (p.and (p.and (p.leN (p.add 0 (p.len k0k)) (p.len k0k)) (p.and (p.leN (p.add 0 (p.len k1k)) (p.len k1k)) Bool.true)) (p.and (p.and (p.leN (p.add 0 (p.len [[k6k,k4k]])) (p.len [[k6k,k4k]])) (p.and Bool.true Bool.true)) (p.and Bool.true Bool.true)))<|
 opt.bnd T0 _ (g39 it p ((p.cut k0k 0 (p.len k0k)),((p.cut k1k 0 (p.len k1k)),((p.cut [[k6k,k4k]] 0 (p.len [[k6k,k4k]])),([],((1:Int),((0:Int),((5:Int),())))))))) fun d=>
 opt.need _ (p.and (p.and (p.leN (p.add 0 (p.len k0k)) (p.len k0k)) (p.and (p.leN (p.add 0 (p.len k1k)) (p.len k1k)) Bool.true)) (p.and (p.and (p.leN (p.add 0 (p.len [[k6k,k4k]])) (p.len [[k6k,k4k]])) (p.and Bool.true Bool.true)) (p.and Bool.true Bool.true)))<|
 opt.bnd T0 _ (g39 it p ((p.cut k0k 0 (p.len k0k)),((p.cut k1k 0 (p.len k1k)),((p.cut [[k6k,k4k]] 0 (p.len [[k6k,k4k]])),([],((1:Int),((0:Int),((6:Int),())))))))) fun e=>
 opt.need _ (p.and (p.and (p.leN (p.add 0 (p.len k0k)) (p.len k0k)) (p.and (p.leN (p.add 0 (p.len k1k)) (p.len k1k)) Bool.true)) (p.and (p.and (p.leN (p.add 0 (p.len k3k)) (p.len k3k)) (p.and Bool.true Bool.true)) Bool.true))<|
 opt.bnd T8 _ (g32 it p ((p.cut k0k 0 (p.len k0k)),((p.cut k1k 0 (p.len k1k)),((p.cut k3k 0 (p.len k3k)),([],()))))) fun f=>
 opt.need _ (p.and (p.and (p.leN (p.add 0 (p.len k0k)) (p.len k0k)) (p.and (p.leN (p.add 0 (p.len k1k)) (p.len k1k)) Bool.true)) (p.and (p.and (p.leN (p.add 0 (p.len k2k)) (p.len k2k)) (p.and Bool.true Bool.true)) Bool.true))<|
 opt.bnd T8 _ (g32 it p ((p.cut k0k 0 (p.len k0k)),((p.cut k1k 0 (p.len k1k)),((p.cut k2k 0 (p.len k2k)),([],()))))) fun g=>
 opt.need _ (p.and (p.and (p.leN (p.add 0 (p.len k0k)) (p.len k0k)) (p.and (p.leN (p.add 0 (p.len k1k)) (p.len k1k)) Bool.true)) (p.and (p.and (p.leN (p.add 0 (p.len k3k)) (p.len k3k)) (p.and Bool.true Bool.true)) Bool.true))<|
 opt.bnd T8 _ (g37 it p ((p.cut k0k 0 (p.len k0k)),((p.cut k1k 0 (p.len k1k)),((p.cut k3k 0 (p.len k3k)),([],()))))) fun h=>
 opt.need _ (p.and (p.and (p.leN (p.add 0 (p.len k0k)) (p.len k0k)) (p.and (p.leN (p.add 0 (p.len k1k)) (p.len k1k)) Bool.true)) (p.and (p.and (p.leN (p.add 0 (p.len k2k)) (p.len k2k)) (p.and Bool.true Bool.true)) Bool.true))<|
 opt.bnd T5 _ (g25 it p ((p.cut k0k 0 (p.len k0k)),((p.cut k1k 0 (p.len k1k)),((p.cut k2k 0 (p.len k2k)),([],()))))) fun i=>
 opt.need _ (p.and (bif (bif (p.leN (p.add 0 (p.len k0k)) (p.len k0k)) then (bif (p.leN (p.add 0 (p.len k1k)) (p.len k1k)) then Bool.true else Bool.false) else Bool.false) then (bif (bif (p.leN (p.add 0 (p.len k2k)) (p.len k2k)) then Bool.true else Bool.false) then (bif (bif (p.leN (p.add 0 (p.len k3k)) (p.len k3k)) then Bool.true else Bool.false) then Bool.true else Bool.false) else Bool.false) else Bool.false) Bool.true)<|
 opt.bnd T5 _ (g27 it p ([[(D.list Bool.false 2 (p.cut k0k 0 (p.len k0k))),(D.list Bool.false 1 (p.cut k1k 0 (p.len k1k)))],[(D.list Bool.false 2 (p.cut k2k 0 (p.len k2k))),(D.list Bool.true 0 [])],[(D.list Bool.false 2 (p.cut k3k 0 (p.len k3k))),(D.list Bool.true 0 [])]],())) fun j=>
 opt.bnd ((LD×(LD×(LD×(LD×(LD×T84)))))) _ (
 opt.run ((LD×(LD×(LD×(LD×(LD×T84)))))) (
 opt.ask _ (p.cmp .neq a.2.1 (0:Int)) (
 opt.need _ (p.eqN 0 0)<|
 opt.need _ (p.eqN (p.len k0k) (p.len k0k))<|
 opt.need _ (p.eqN (p.len k0k) (p.len k0k))<|
 opt.need _ (p.eqN 0 0)<|
 opt.need _ (p.eqN (p.len k1k) (p.len k1k))<|
 opt.need _ (p.eqN (p.len k1k) (p.len k1k))<|
 opt.need _ (p.eqN 0 0)<|
 opt.need _ (p.eqN (p.len k2k) (p.len k2k))<|
 opt.need _ (p.eqN (p.len k2k) (p.len k2k))<|
 opt.need _ (p.eqN 0 0)<|
 opt.need _ (p.eqN (p.len k3k) (p.len k3k))<|
 opt.need _ (p.eqN (p.len k3k) (p.len k3k))<|
 opt.need _ (p.eqN 0 0)<|
 opt.need _ (p.eqN (p.len a.1) (p.len a.1))<|
 opt.ret _ (a.1,(k0k,(k1k,(k2k,(k3k,(c.1,(c.2.1,(g.1,(g.2.1,(g.2.2.1,(h.1,(h.2.1,(h.2.2.1,(i.1,(i.2.1,(b.1,(j.1,(j.2.1,(Bool.true,())))))))))))))))))))) (
 opt.ask _ (p.cmp .neq b.2.1 (0:Int)) (
 opt.need _ (p.eqN 0 0)<|
 opt.need _ (p.eqN (p.len k0k) (p.len k0k))<|
 opt.need _ (p.eqN (p.len k0k) (p.len k0k))<|
 opt.need _ (p.eqN 0 0)<|
 opt.need _ (p.eqN (p.len k1k) (p.len k1k))<|
 opt.need _ (p.eqN (p.len k1k) (p.len k1k))<|
 opt.need _ (p.eqN 0 0)<|
 opt.need _ (p.eqN (p.len k2k) (p.len k2k))<|
 opt.need _ (p.eqN (p.len k2k) (p.len k2k))<|
 opt.need _ (p.eqN 0 0)<|
 opt.need _ (p.eqN (p.len k3k) (p.len k3k))<|
 opt.need _ (p.eqN (p.len k3k) (p.len k3k))<|
 opt.need _ (p.eqN 0 0)<|
 opt.need _ (p.eqN (p.len a.1) (p.len a.1))<|
 opt.ret _ (a.1,(k0k,(k1k,(k2k,(k3k,(c.1,(c.2.1,(g.1,(g.2.1,(g.2.2.1,(h.1,(h.2.1,(h.2.2.1,(i.1,(i.2.1,(b.1,(j.1,(j.2.1,(Bool.true,())))))))))))))))))))) (
 opt.ask _ (p.cmp .neq c.2.2.1 (0:Int)) (
 opt.need _ (p.eqN 0 0)<|
 opt.need _ (p.eqN (p.len k0k) (p.len k0k))<|
 opt.need _ (p.eqN (p.len k0k) (p.len k0k))<|
 opt.need _ (p.eqN 0 0)<|
 opt.need _ (p.eqN (p.len k1k) (p.len k1k))<|
 opt.need _ (p.eqN (p.len k1k) (p.len k1k))<|
 opt.need _ (p.eqN 0 0)<|
 opt.need _ (p.eqN (p.len k2k) (p.len k2k))<|
 opt.need _ (p.eqN (p.len k2k) (p.len k2k))<|
 opt.need _ (p.eqN 0 0)<|
 opt.need _ (p.eqN (p.len k3k) (p.len k3k))<|
 opt.need _ (p.eqN (p.len k3k) (p.len k3k))<|
 opt.need _ (p.eqN 0 0)<|
 opt.need _ (p.eqN (p.len a.1) (p.len a.1))<|
 opt.ret _ (a.1,(k0k,(k1k,(k2k,(k3k,(c.1,(c.2.1,(g.1,(g.2.1,(g.2.2.1,(h.1,(h.2.1,(h.2.2.1,(i.1,(i.2.1,(b.1,(j.1,(j.2.1,(Bool.true,())))))))))))))))))))) (
 opt.ask _ (p.cmp .neq d.1 (0:Int)) (
 opt.need _ (p.eqN 0 0)<|
 opt.need _ (p.eqN (p.len k0k) (p.len k0k))<|
 opt.need _ (p.eqN (p.len k0k) (p.len k0k))<|
 opt.need _ (p.eqN 0 0)<|
 opt.need _ (p.eqN (p.len k1k) (p.len k1k))<|
 opt.need _ (p.eqN (p.len k1k) (p.len k1k))<|
 opt.need _ (p.eqN 0 0)<|
 opt.need _ (p.eqN (p.len k2k) (p.len k2k))<|
 opt.need _ (p.eqN (p.len k2k) (p.len k2k))<|
 opt.need _ (p.eqN 0 0)<|
 opt.need _ (p.eqN (p.len k3k) (p.len k3k))<|
 opt.need _ (p.eqN (p.len k3k) (p.len k3k))<|
 opt.need _ (p.eqN 0 0)<|
 opt.need _ (p.eqN (p.len a.1) (p.len a.1))<|
 opt.ret _ (a.1,(k0k,(k1k,(k2k,(k3k,(c.1,(c.2.1,(g.1,(g.2.1,(g.2.2.1,(h.1,(h.2.1,(h.2.2.1,(i.1,(i.2.1,(b.1,(j.1,(j.2.1,(Bool.true,())))))))))))))))))))) (
 opt.ask _ (p.cmp .neq e.1 (14:Int)) (
 opt.need _ (p.eqN 0 0)<|
 opt.need _ (p.eqN (p.len k0k) (p.len k0k))<|
 opt.need _ (p.eqN (p.len k0k) (p.len k0k))<|
 opt.need _ (p.eqN 0 0)<|
 opt.need _ (p.eqN (p.len k1k) (p.len k1k))<|
 opt.need _ (p.eqN (p.len k1k) (p.len k1k))<|
 opt.need _ (p.eqN 0 0)<|
 opt.need _ (p.eqN (p.len k2k) (p.len k2k))<|
 opt.need _ (p.eqN (p.len k2k) (p.len k2k))<|
 opt.need _ (p.eqN 0 0)<|
 opt.need _ (p.eqN (p.len k3k) (p.len k3k))<|
 opt.need _ (p.eqN (p.len k3k) (p.len k3k))<|
 opt.need _ (p.eqN 0 0)<|
 opt.need _ (p.eqN (p.len a.1) (p.len a.1))<|
 opt.ret _ (a.1,(k0k,(k1k,(k2k,(k3k,(c.1,(c.2.1,(g.1,(g.2.1,(g.2.2.1,(h.1,(h.2.1,(h.2.2.1,(i.1,(i.2.1,(b.1,(j.1,(j.2.1,(Bool.true,())))))))))))))))))))) (
 opt.ask _ (p.cmp .neq f.2.2.2.1 (21:Int)) (
 opt.need _ (p.eqN 0 0)<|
 opt.need _ (p.eqN (p.len k0k) (p.len k0k))<|
 opt.need _ (p.eqN (p.len k0k) (p.len k0k))<|
 opt.need _ (p.eqN 0 0)<|
 opt.need _ (p.eqN (p.len k1k) (p.len k1k))<|
 opt.need _ (p.eqN (p.len k1k) (p.len k1k))<|
 opt.need _ (p.eqN 0 0)<|
 opt.need _ (p.eqN (p.len k2k) (p.len k2k))<|
 opt.need _ (p.eqN (p.len k2k) (p.len k2k))<|
 opt.need _ (p.eqN 0 0)<|
 opt.need _ (p.eqN (p.len k3k) (p.len k3k))<|
 opt.need _ (p.eqN (p.len k3k) (p.len k3k))<|
 opt.need _ (p.eqN 0 0)<|
 opt.need _ (p.eqN (p.len a.1) (p.len a.1))<|
 opt.ret _ (a.1,(k0k,(k1k,(k2k,(k3k,(c.1,(c.2.1,(g.1,(g.2.1,(g.2.2.1,(h.1,(h.2.1,(h.2.2.1,(i.1,(i.2.1,(b.1,(j.1,(j.2.1,(Bool.true,())))))))))))))))))))) (
 opt.ask _ (p.cmp .neq g.2.2.2.1 (0:Int)) (
 opt.need _ (p.eqN 0 0)<|
 opt.need _ (p.eqN (p.len k0k) (p.len k0k))<|
 opt.need _ (p.eqN (p.len k0k) (p.len k0k))<|
 opt.need _ (p.eqN 0 0)<|
 opt.need _ (p.eqN (p.len k1k) (p.len k1k))<|
 opt.need _ (p.eqN (p.len k1k) (p.len k1k))<|
 opt.need _ (p.eqN 0 0)<|
 opt.need _ (p.eqN (p.len k2k) (p.len k2k))<|
 opt.need _ (p.eqN (p.len k2k) (p.len k2k))<|
 opt.need _ (p.eqN 0 0)<|
 opt.need _ (p.eqN (p.len k3k) (p.len k3k))<|
 opt.need _ (p.eqN (p.len k3k) (p.len k3k))<|
 opt.need _ (p.eqN 0 0)<|
 opt.need _ (p.eqN (p.len a.1) (p.len a.1))<|
 opt.ret _ (a.1,(k0k,(k1k,(k2k,(k3k,(c.1,(c.2.1,(g.1,(g.2.1,(g.2.2.1,(h.1,(h.2.1,(h.2.2.1,(i.1,(i.2.1,(b.1,(j.1,(j.2.1,(Bool.true,())))))))))))))))))))) (
 opt.ask _ (p.cmp .neq h.2.2.2.1 (0:Int)) (
 opt.need _ (p.eqN 0 0)<|
 opt.need _ (p.eqN (p.len k0k) (p.len k0k))<|
 opt.need _ (p.eqN (p.len k0k) (p.len k0k))<|
 opt.need _ (p.eqN 0 0)<|
 opt.need _ (p.eqN (p.len k1k) (p.len k1k))<|
 opt.need _ (p.eqN (p.len k1k) (p.len k1k))<|
 opt.need _ (p.eqN 0 0)<|
 opt.need _ (p.eqN (p.len k2k) (p.len k2k))<|
 opt.need _ (p.eqN (p.len k2k) (p.len k2k))<|
 opt.need _ (p.eqN 0 0)<|
 opt.need _ (p.eqN (p.len k3k) (p.len k3k))<|
 opt.need _ (p.eqN (p.len k3k) (p.len k3k))<|
 opt.need _ (p.eqN 0 0)<|
 opt.need _ (p.eqN (p.len a.1) (p.len a.1))<|
 opt.ret _ (a.1,(k0k,(k1k,(k2k,(k3k,(c.1,(c.2.1,(g.1,(g.2.1,(g.2.2.1,(h.1,(h.2.1,(h.2.2.1,(i.1,(i.2.1,(b.1,(j.1,(j.2.1,(Bool.true,())))))))))))))))))))) (
 opt.ask _ (p.cmp .neq i.2.2.1 (0:Int)) (
 opt.need _ (p.eqN 0 0)<|
 opt.need _ (p.eqN (p.len k0k) (p.len k0k))<|
 opt.need _ (p.eqN (p.len k0k) (p.len k0k))<|
 opt.need _ (p.eqN 0 0)<|
 opt.need _ (p.eqN (p.len k1k) (p.len k1k))<|
 opt.need _ (p.eqN (p.len k1k) (p.len k1k))<|
 opt.need _ (p.eqN 0 0)<|
 opt.need _ (p.eqN (p.len k2k) (p.len k2k))<|
 opt.need _ (p.eqN (p.len k2k) (p.len k2k))<|
 opt.need _ (p.eqN 0 0)<|
 opt.need _ (p.eqN (p.len k3k) (p.len k3k))<|
 opt.need _ (p.eqN (p.len k3k) (p.len k3k))<|
 opt.need _ (p.eqN 0 0)<|
 opt.need _ (p.eqN (p.len a.1) (p.len a.1))<|
 opt.ret _ (a.1,(k0k,(k1k,(k2k,(k3k,(c.1,(c.2.1,(g.1,(g.2.1,(g.2.2.1,(h.1,(h.2.1,(h.2.2.1,(i.1,(i.2.1,(b.1,(j.1,(j.2.1,(Bool.true,())))))))))))))))))))) (
 opt.need _ (p.eqN 0 0)<|
 opt.need _ (p.eqN (p.len k0k) (p.len k0k))<|
 opt.need _ (p.eqN (p.len k0k) (p.len k0k))<|
 opt.need _ (p.eqN 0 0)<|
 opt.need _ (p.eqN (p.len k1k) (p.len k1k))<|
 opt.need _ (p.eqN (p.len k1k) (p.len k1k))<|
 opt.need _ (p.eqN 0 0)<|
 opt.need _ (p.eqN (p.len k2k) (p.len k2k))<|
 opt.need _ (p.eqN (p.len k2k) (p.len k2k))<|
 opt.need _ (p.eqN 0 0)<|
 opt.need _ (p.eqN (p.len k3k) (p.len k3k))<|
 opt.need _ (p.eqN (p.len k3k) (p.len k3k))<|
 opt.need _ (p.eqN 0 0)<|
 opt.need _ (p.eqN (p.len a.1) (p.len a.1))<|
 opt.ret _ (a.1,(k0k,(k1k,(k2k,(k3k,(c.1,(c.2.1,(g.1,(g.2.1,(g.2.2.1,(h.1,(h.2.1,(h.2.2.1,(i.1,(i.2.1,(b.1,(j.1,(j.2.1,((p.cmp .neq j.2.2.1 (0:Int)),())))))))))))))))))))))))))))))) fun k=>
 opt.ask _ k.2.2.2.2.2.2.2.2.2.2.2.2.2.2.2.2.2.2.1 (
 opt.ret _ (Bool.false,())) (
 opt.need _ (p.and (p.leN (p.add 0 (p.len k.1)) (p.len k.1)) (p.and (p.leN (p.add 0 4) (p.len [[k4k,k4k],[(D.int .i64 (5:Int)),k4k],[(D.int .i64 (1:Int)),k5k],[k4k,k5k]])) Bool.true))<|
 opt.bnd T2 _ (g20 it p ((p.cut k.1 0 (p.len k.1)),((p.cut [[k4k,k4k],[(D.int .i64 (5:Int)),k4k],[(D.int .i64 (1:Int)),k5k],[k4k,k5k]] 0 4),()))) fun l=>
 opt.ask _ l.1 (
 opt.ask _ k.2.2.2.2.2.2.2.2.2.2.2.2.2.2.2.1 (
 opt.ask _ (bif (p.cmp .eql k.2.2.2.2.2.1 (5:Int)) then (bif (p.cmp .eql k.2.2.2.2.2.2.1 (0:Int)) then Bool.true else Bool.false) else Bool.false) (
 opt.need _ (p.and (p.and (p.leN (p.add 0 (p.len k.2.1)) (p.len k.2.1)) (p.and (p.leN (p.add 0 (p.len k.2.2.1)) (p.len k.2.2.1)) Bool.true)) (p.and (p.and (p.leN (p.add 0 (p.len k.2.2.2.1)) (p.len k.2.2.2.1)) (p.and Bool.true Bool.true)) (p.and Bool.true Bool.true)))<|
 opt.bnd T0 _ (g36 it p ((p.cut k.2.1 0 (p.len k.2.1)),((p.cut k.2.2.1 0 (p.len k.2.2.1)),((p.cut k.2.2.2.1 0 (p.len k.2.2.2.1)),([],(k.2.2.2.2.2.2.2.1,(k.2.2.2.2.2.2.2.2.1,(k.2.2.2.2.2.2.2.2.2.1,())))))))) fun m=>
 opt.ask _ (p.cmp .eql m.1 (0:Int)) (
 opt.need _ (p.and (p.and (p.leN (p.add 0 (p.len k.2.1)) (p.len k.2.1)) (p.and (p.leN (p.add 0 (p.len k.2.2.1)) (p.len k.2.2.1)) Bool.true)) (p.and (p.and (p.leN (p.add 0 (p.len k.2.2.2.2.1)) (p.len k.2.2.2.2.1)) (p.and Bool.true Bool.true)) (p.and Bool.true Bool.true)))<|
 opt.bnd T0 _ (g38 it p ((p.cut k.2.1 0 (p.len k.2.1)),((p.cut k.2.2.1 0 (p.len k.2.2.1)),((p.cut k.2.2.2.2.1 0 (p.len k.2.2.2.2.1)),([],(k.2.2.2.2.2.2.2.2.2.2.1,(k.2.2.2.2.2.2.2.2.2.2.2.1,(k.2.2.2.2.2.2.2.2.2.2.2.2.1,())))))))) fun n=>
 opt.ask _ (p.cmp .eql n.1 (0:Int)) (
 opt.ask _ (bif (p.cmp .eql k.2.2.2.2.2.2.2.2.2.2.2.2.2.1 (1:Int)) then (bif (p.cmp .eql k.2.2.2.2.2.2.2.2.2.2.2.2.2.2.1 (2:Int)) then Bool.true else Bool.false) else Bool.false) (
 opt.ask _ (p.cmp .eql k.2.2.2.2.2.2.2.2.2.2.2.2.2.2.2.2.1 (0:Int)) (
 opt.ret _ ((p.cmp .eql k.2.2.2.2.2.2.2.2.2.2.2.2.2.2.2.2.2.1 (2:Int)),())) (
 opt.ret _ (Bool.false,()))) (
 opt.ret _ (Bool.false,()))) (
 opt.ret _ (Bool.false,()))) (
 opt.ret _ (Bool.false,()))) (
 opt.ret _ (Bool.false,()))) (
 opt.ret _ (Bool.false,()))) (
 opt.ret _ (Bool.false,())))
def G15:=g15 it0
theorem ok15:CtrOk PG v6l (G15 std):=okF (a:=an15) (l:=la15) (gC ok38 (gC ok36 (gC ok20 (gC u3j (gC u3k (gC ok37 (gC ok32 (gC ok39 (gC ok23 (gC ok21 (gC ok16 (gN)))))))))))) (by kernel_rfl) fun _ _=>by kernel_rfl
end Go.Am
end
section
namespace Go.Am
theorem v9h {i j:It} (h:i.Le j):∀ s,le (v44 i std s) (v44 j std s):=fun _=>z07 (h _ _ _ _ _ (fun _=>le_refl _)) (fun _=>le_refl _) (fun _=>le_refl _)
theorem mg87 {i j:It} (h:i.Le j):∀ s,le (g87 i std s) (g87 j std s):=fun _=>z0f (le_refl _) (fun _=>z0f (le_refl _) (fun _=>z0b (z0f (v9h h _) (fun _=>le_refl _))))
theorem v3d {i j:It} (h:i.Le j):∀ s,le (x0b i std s) (x0b j std s):=fun _=>z1d (z0o (z0b (z0b (z0f (h _ _ _ _ _ (fun _=>le_refl _)) (fun _=>le_refl _)))) (le_refl _))
theorem u3m {i j:It} (h:i.Le j):∀ s,le (g99 i std s) (g99 j std s):=fun _=>z0f (h _ _ _ _ _ (v3d h)) (fun _=>le_refl _)
theorem v14 {i j:It} (h:i.Le j):∀ s,le (g53 i std s) (g53 j std s):=fun _=>z07 (h _ _ _ _ _ (fun _=>le_refl _)) (fun _=>le_refl _) (fun _=>le_refl _)
theorem v12 {i j:It} (h:i.Le j):∀ s,le (g60 i std s) (g60 j std s):=fun _=>z0b (z0b (z0b (z0b (z0f (h _ _ _ _ _ (fun _=>le_refl _)) (fun _=>le_refl _)))))
theorem mg20 {i j:It} (h:i.Le j):∀ s,le (g20 i std s) (g20 j std s):=fun _=>z0o (le_refl _) (z07 (h _ _ _ _ _ (fun _=>le_refl _)) (fun _=>le_refl _) (fun _=>le_refl _))
theorem v35 {i j:It} (h:i.Le j):∀ s,le (x9c i std s) (x9c j std s):=fun _=>z1d (z0o (z0b (z0b (z0f (v14 h _) (fun _=>le_refl _)))) (le_refl _))
theorem mg18 {i j:It} (h:i.Le j):∀ s,le (g18 i std s) (g18 j std s):=fun _=>z0f (z1d (z0f (le_refl _) (fun _=>z0o (le_refl _) (z0o (le_refl _) (z07 (h _ _ _ _ _ (fun _=>le_refl _)) (fun _=>le_refl _) (fun _=>le_refl _)))))) (fun _=>z0o (le_refl _) (z0f (z1d (z0f (v14 h _) (fun _=>z0o (le_refl _) (z07 (h _ _ _ _ _ (v35 h)) (fun _=>le_refl _) (fun _=>le_refl _))))) (fun _=>le_refl _)))
theorem v8j {i j:It} (h:i.Le j):∀ s,le (g57 i std s) (g57 j std s):=fun _=>z0o (le_refl _) (z07 (z1d (z07 (h _ _ _ _ _ (fun _=>le_refl _)) (fun _=>le_refl _) (fun _=>le_refl _))) (fun _=>le_refl _) (fun _=>le_refl _))
theorem v3e {i j:It} (h:i.Le j):∀ s,le (x85 i std s) (x85 j std s):=fun _=>z1d (z0o (z0b (z0b (z0f (le_refl _) (fun _=>z0f (h _ _ _ _ _ (fun _=>le_refl _)) (fun _=>le_refl _))))) (le_refl _))
theorem u3n {i j:It} (h:i.Le j):∀ s,le (g93 i std s) (g93 j std s):=fun _=>z0f (h _ _ _ _ _ (v3e h)) (fun _=>le_refl _)
theorem u3q {i j:It} (h:i.Le j):∀ s,le (g65 i std s) (g65 j std s):=fun _=>z0b (z0f (u3n h _) (fun _=>le_refl _))
theorem mg76 {i j:It} (h:i.Le j):∀ s,le (g76 i std s) (g76 j std s):=fun _=>z0f (le_refl _) (fun _=>z0f (le_refl _) (fun _=>z0o (le_refl _) (z0b (z0f (u3n h _) (fun _=>le_refl _)))))
theorem mg68 {i j:It} (h:i.Le j):∀ s,le (g68 i std s) (g68 j std s):=fun _=>z0f (le_refl _) (fun _=>z0o (le_refl _) (z0f (u3q h _) (fun _=>le_refl _)))
theorem u3p {i j:It} (h:i.Le j):∀ s,le (g78 i std s) (g78 j std s):=fun _=>z0b (z0f (h _ _ _ _ _ (fun _=>le_refl _)) (fun _=>le_refl _))
theorem mg92 {i j:It} (h:i.Le j):∀ s,le (g92 i std s) (g92 j std s):=fun _=>z0f (u3p h _) (fun _=>z0f (u3p h _) (fun _=>le_refl _))
theorem v3i {i j:It} (h:i.Le j):∀ s,le (x40 i std s) (x40 j std s):=fun _=>z1d (z0o (z0b (z0b (z0f (mg92 h _) (fun _=>le_refl _)))) (le_refl _))
theorem v3j {i j:It} (h:i.Le j):∀ s,le (y3r i std s) (y3r j std s):=fun _=>z1d (z0o (z0b (z0b (z0f (z1d (z0b (z0b (z0b (z0b (z0b (z07 (h _ _ _ _ _ (fun _=>le_refl _)) (fun _=>le_refl _) (fun _=>le_refl _)))))))) (fun _=>le_refl _)))) (le_refl _))
theorem v3k {i j:It} (h:i.Le j):∀ s,le (x41 i std s) (x41 j std s):=fun _=>z1d (z0o (z0b (z0b (z0b (z0b (z0f (h _ _ _ _ _ (fun _=>le_refl _)) (fun _=>le_refl _)))))) (le_refl _))
theorem v9e {i j:It} (h:i.Le j):∀ s,le (g63 i std s) (g63 j std s):=fun _=>z0f (h _ _ _ _ _ (v3k h)) (fun _=>z0b (z0b (z0b (z0b (z0b (z0f (h _ _ _ _ _ (v3j h)) (fun _=>z0b (z0b (z0f (h _ _ _ _ _ (v3i h)) (fun _=>le_refl _))))))))))
theorem w4t {i j:It} (h:i.Le j):∀ s,le (z7g i std s) (z7g j std s):=fun _=>z1d (z0o (z0b (z0b (z0b (z0b (z0f (mg87 h _) (fun _=>le_refl _)))))) (le_refl _))
theorem w4u {i j:It} (h:i.Le j):∀ s,le (z9l i std s) (z9l j std s):=fun _=>z1d (z0o (z0b (z0b (z0b (z0f (h _ _ _ _ _ (w4t h)) (fun _=>le_refl _))))) (le_refl _))
theorem v3a {i j:It} (h:i.Le j):∀ s,le (w1f i std s) (w1f j std s):=fun _=>z0b (z0b (z0b (z0f (h _ _ _ _ _ (w4u h)) (fun _=>le_refl _))))
theorem w4w {i j:It} (h:i.Le j):∀ s,le (y51 i std s) (y51 j std s):=fun _=>z1d (z0o (z0b (z0b (z0b (z0f (v3a h _) (fun _=>le_refl _))))) (le_refl _))
theorem v3c {i j:It} (h:i.Le j):∀ s,le (w1h i std s) (w1h j std s):=fun _=>z0b (z0b (z0b (z0f (h _ _ _ _ _ (w4w h)) (fun _=>le_refl _))))
theorem v28 {i j:It} (h:i.Le j):∀ s,le (w1d i std s) (w1d j std s):=fun _=>z0f (le_refl _) (fun _=>z0b (z0b (z0b (z0f (v3c h _) (fun _=>le_refl _)))))
theorem w4s {i j:It} (h:i.Le j):∀ s,le (z9k i std s) (z9k j std s):=fun _=>z1d (z0o (z0b (z0b (z0f (h _ _ _ _ _ (fun _=>le_refl _)) (fun _=>le_refl _)))) (le_refl _))
theorem v29 {i j:It} (h:i.Le j):∀ s,le (w1e i std s) (w1e j std s):=fun _=>z0b (z0b (z0f (h _ _ _ _ _ (w4s h)) (fun _=>le_refl _)))
theorem w4v {i j:It} (h:i.Le j):∀ s,le (y50 i std s) (y50 j std s):=fun _=>z1d (z0o (z0b (z0b (z0f (v29 h _) (fun _=>le_refl _)))) (le_refl _))
theorem v3b {i j:It} (h:i.Le j):∀ s,le (w1g i std s) (w1g j std s):=fun _=>z0b (z0b (z0f (h _ _ _ _ _ (w4v h)) (fun _=>le_refl _)))
theorem v27 {i j:It} (h:i.Le j):∀ s,le (x8h i std s) (x8h j std s):=fun _=>z0f (le_refl _) (fun _=>z0b (z0b (z0f (v3b h _) (fun _=>le_refl _))))
theorem v9d {i j:It} (h:i.Le j):∀ s,le (v42 i std s) (v42 j std s):=fun _=>w06 (v28 h _) (le_refl _)
theorem v9c {i j:It} (h:i.Le j):∀ s,le (v41 i std s) (v41 j std s):=fun _=>w06 (v27 h _) (le_refl _)
theorem v3f {i j:It} (h:i.Le j):∀ s,le (x86 i std s) (x86 j std s):=fun _=>z1d (z0o (z0b (z0b (z0f (h _ _ _ _ _ (fun _=>le_refl _)) (fun _=>le_refl _)))) (le_refl _))
theorem u3o {i j:It} (h:i.Le j):∀ s,le (g88 i std s) (g88 j std s):=fun _=>z0f (h _ _ _ _ _ (v3f h)) (fun _=>le_refl _)
theorem w9t {i j:It} (h:i.Le j):∀ s,le (y29 i std s) (y29 j std s):=fun _=>z1d (z0o (z0b (z0b (z0b (z0b (z0o (z0b (z0f (h _ _ _ _ _ (fun _=>le_refl _)) (fun _=>le_refl _))) (le_refl _)))))) (le_refl _))
theorem v9i {i j:It} (h:i.Le j):∀ s,le (v0l i std s) (v0l j std s):=fun _=>z0o (le_refl _) (z07 (h _ _ _ _ _ (w9t h)) (fun _=>le_refl _) (fun _=>le_refl _))
theorem mg86 {i j:It} (h:i.Le j):∀ s,le (g86 i std s) (g86 j std s):=fun _=>z0b (z0b (z0b (z0b (z0b (z0f (v9d h _) (fun _=>z0f (v9i h _) (fun _=>le_refl _)))))))
theorem mg89 {i j:It} (h:i.Le j):∀ s,le (g89 i std s) (g89 j std s):=fun _=>z0f (h _ _ _ _ _ (fun _=>le_refl _)) (fun _=>le_refl _)
theorem v13 {i j:It} (h:i.Le j):∀ s,le (g59 i std s) (g59 j std s):=fun _=>z0f (mg86 h _) (fun _=>z0o (le_refl _) (z0b (z0f (u3o h _) (fun _=>z0b (z0f (mg89 h _) (fun _=>z0b (z0f (u3o h _) (fun _=>le_refl _))))))))
theorem v3g {i j:It} (h:i.Le j):∀ s,le (x24 i std s) (x24 j std s):=fun _=>z1d (z0o (z0f (z1d (z0b (z0b (z0b (z0f (u3m h _) (fun _=>le_refl _)))))) (fun _=>le_refl _)) (le_refl _))
theorem v3h {i j:It} (h:i.Le j):∀ s,le (y3p i std s) (y3p j std s):=fun _=>z1d (z0o (z0b (z0b (z0f (z1d (z0b (z0b (z0b (z0b (z0b (z07 (h _ _ _ _ _ (fun _=>le_refl _)) (fun _=>le_refl _) (fun _=>le_refl _)))))))) (fun _=>le_refl _)))) (le_refl _))
theorem mg80 {i j:It} (h:i.Le j):∀ s,le (g80 i std s) (g80 j std s):=fun _=>z0b (z0b (z0b (z0f (h _ _ _ _ _ (v3h h)) (fun _=>z0b (z0b (z0f (v9c h _) (fun _=>z0b (z0b (z0b (z0f (u3m h _) (fun _=>z0b (z0b (z0b (z0b (z0b (z0f (h _ _ _ _ _ (v3g h)) (fun _=>le_refl _)))))))))))))))))
theorem v3p {i j:It} (h:i.Le j):∀ s,le (x44 i std s) (x44 j std s):=fun _=>z1d (z0o (z0b (z0b (z0f (v12 h _) (fun _=>z0f (v13 h _) (fun _=>z0f (mg80 h _) (fun _=>le_refl _)))))) (le_refl _))
theorem w9s {i j:It} (h:i.Le j):∀ s,le (g48 i std s) (g48 j std s):=fun _=>z0f (mg18 h _) (fun _=>z0o (le_refl _) (z0f (v12 h _) (fun _=>z0f (v13 h _) (fun _=>z0f (h _ _ _ _ _ (v3p h)) (fun _=>le_refl _)))))
theorem mg16 {i j:It} (h:i.Le j):∀ s,le (g16 i std s) (g16 j std s):=fun _=>z07 (w9s h _) (fun _=>le_refl _) (fun _=>z0f (le_refl _) (fun _=>z0o (le_refl _) (z0f (h _ _ _ _ _ (fun _=>le_refl _)) (fun _=>le_refl _))))
theorem v8i {i j:It} (h:i.Le j):∀ s,le (g62 i std s) (g62 j std s):=fun _=>z07 (w9s h _) (fun _=>z0o (le_refl _) (z07 (w9s h _) (fun _=>le_refl _) (fun _=>le_refl _))) (fun _=>z0f (le_refl _) (fun _=>z0o (le_refl _) (z07 (w9s h _) (fun _=>le_refl _) (fun _=>le_refl _))))
theorem mg21 {i j:It} (h:i.Le j):∀ s,le (g21 i std s) (g21 j std s):=fun _=>z07 (w9s h _) (fun _=>z0o (le_refl _) (z0b (z0f (v14 h _) (fun _=>le_refl _)))) (fun _=>z0f (le_refl _) (fun _=>z0o (le_refl _) (z0b (z0f (v14 h _) (fun _=>z0o (le_refl _) (z0f (v8j h _) (fun _=>le_refl _)))))))
theorem v32 {i j:It} (h:i.Le j):∀ s,le (v1m i std s) (v1m j std s):=fun _=>z1d (z0o (z0b (z0b (z0f (v8j h _) (fun _=>le_refl _)))) (le_refl _))
theorem v33 {i j:It} (h:i.Le j):∀ s,le (v1n i std s) (v1n j std s):=fun _=>z1d (z0o (z0b (z0b (z0f (v8j h _) (fun _=>le_refl _)))) (le_refl _))
theorem mg23 {i j:It} (h:i.Le j):∀ s,le (g23 i std s) (g23 j std s):=fun _=>z07 (w9s h _) (fun _=>z07 (z1d (z0o (le_refl _) (z0f (le_refl _) (fun _=>z07 (z1d (z0o (le_refl _) (z0f (v14 h _) (fun _=>le_refl _)))) (fun _=>le_refl _) (fun _=>le_refl _))))) (fun _=>le_refl _) (fun _=>z07 (le_refl _) (fun _=>z0f (v12 h _) (fun _=>z0f (v13 h _) (fun _=>le_refl _))) (fun _=>z0f (le_refl _) (fun _=>z0f (v12 h _) (fun _=>z0f (v13 h _) (fun _=>z07 (h _ _ _ _ _ (v33 h)) (fun _=>le_refl _) (fun _=>le_refl _))))))) (fun _=>z0f (le_refl _) (fun _=>z07 (z1d (z0o (le_refl _) (z0f (le_refl _) (fun _=>z07 (z1d (z0o (le_refl _) (z0f (v14 h _) (fun _=>le_refl _)))) (fun _=>le_refl _) (fun _=>le_refl _))))) (fun _=>le_refl _) (fun _=>z07 (le_refl _) (fun _=>z0f (v12 h _) (fun _=>z0f (v13 h _) (fun _=>le_refl _))) (fun _=>z0f (le_refl _) (fun _=>z0f (v12 h _) (fun _=>z0f (v13 h _) (fun _=>z07 (h _ _ _ _ _ (v32 h)) (fun _=>le_refl _) (fun _=>le_refl _))))))))
theorem u3u {i j:It} (h:i.Le j):∀ s,le (g32 i std s) (g32 j std s):=fun _=>z07 (v8i h _) (fun _=>le_refl _) (fun _=>z07 (le_refl _) (fun _=>le_refl _) (fun _=>z07 (le_refl _) (fun _=>le_refl _) (fun _=>z0f (le_refl _) (fun _=>z0o (le_refl _) (z0f (v9e h _) (fun _=>le_refl _))))))
theorem v3u {i j:It} (h:i.Le j):∀ s,le (x26 i std s) (x26 j std s):=fun _=>z1d (z0o (z0b (z0b (z07 (h _ _ _ _ _ (fun _=>le_refl _)) (fun _=>le_refl _) (fun _=>le_refl _)))) (le_refl _))
theorem v3v {i j:It} (h:i.Le j):∀ s,le (x27 i std s) (x27 j std s):=fun _=>z1d (z0o (z0b (z0b (z0f (v9e h _) (fun _=>le_refl _)))) (le_refl _))
theorem v3w {i j:It} (h:i.Le j):∀ s,le (x45 i std s) (x45 j std s):=fun _=>z1d (z0o (z0b (z0b (z0b (z0b (z0b (z0b (z0b (z0f (h _ _ _ _ _ (v3v h)) (fun _=>le_refl _))))))))) (le_refl _))
theorem v3x {i j:It} (h:i.Le j):∀ s,le (x28 i std s) (x28 j std s):=fun _=>z1d (z0o (z07 (z1d (z0b (z0b (z07 (w9s h _) (fun _=>le_refl _) (fun _=>le_refl _))))) (fun _=>le_refl _) (fun _=>le_refl _)) (le_refl _))
theorem mg27 {i j:It} (h:i.Le j):∀ s,le (g27 i std s) (g27 j std s):=fun _=>z0o (le_refl _) (z07 (h _ _ _ _ _ (v3x h)) (fun _=>le_refl _) (fun _=>z0f (le_refl _) (fun _=>z0b (z0b (z0b (z0b (z0f (h _ _ _ _ _ (v3w h)) (fun _=>z0b (z0b (z07 (h _ _ _ _ _ (v3u h)) (fun _=>le_refl _) (fun _=>le_refl _)))))))))))
theorem w9r {i j:It} (h:i.Le j):∀ s,le (v16 i std s) (v16 j std s):=fun _=>z0b (z0f (h _ _ _ _ _ (fun _=>le_refl _)) (fun _=>le_refl _))
theorem u3t {i j:It} (h:i.Le j):∀ s,le (g39 i std s) (g39 j std s):=fun _=>z07 (v8i h _) (fun _=>le_refl _) (fun _=>z07 (le_refl _) (fun _=>le_refl _) (fun _=>z07 (le_refl _) (fun _=>z07 (z1d (z0o (le_refl _) (z0o (le_refl _) (z0f (le_refl _) (fun _=>z0f (le_refl _) (fun _=>z0o (le_refl _) (z0f (le_refl _) (fun _=>z0o (le_refl _) (z0o (le_refl _) (z07 (z1d (z0o (le_refl _) (z0f (w9r h _) (fun _=>le_refl _)))) (fun _=>le_refl _) (fun _=>le_refl _))))))))))) (fun _=>le_refl _) (fun _=>le_refl _)) (fun _=>z0f (le_refl _) (fun _=>z07 (z1d (z0o (le_refl _) (z0o (le_refl _) (z0f (le_refl _) (fun _=>z0f (le_refl _) (fun _=>z0o (le_refl _) (z0f (le_refl _) (fun _=>z0o (le_refl _) (z0o (le_refl _) (z07 (z1d (z0o (le_refl _) (z0f (w9r h _) (fun _=>z0o (le_refl _) (z0f (w9r h _) (fun _=>le_refl _)))))) (fun _=>le_refl _) (fun _=>le_refl _))))))))))) (fun _=>le_refl _) (fun _=>le_refl _)))))
theorem v3q {i j:It} (h:i.Le j):∀ s,le (v1i i std s) (v1i j std s):=fun _=>z1d (z0o (z0b (z0b (z0b (z0b (z0b (z0o (le_refl _) (z0f (mg76 h _) (fun _=>le_refl _)))))))) (le_refl _))
theorem v3r {i j:It} (h:i.Le j):∀ s,le (v1j i std s) (v1j j std s):=fun _=>z1d (z0o (z0b (z0b (z0b (z0b (z0b (z0o (le_refl _) (z07 (z1d (z07 (h _ _ _ _ _ (v3q h)) (fun _=>le_refl _) (fun _=>le_refl _))) (fun _=>le_refl _) (fun _=>le_refl _)))))))) (le_refl _))
theorem v3s {i j:It} (h:i.Le j):∀ s,le (v1k i std s) (v1k j std s):=fun _=>z1d (z0o (z0b (z0b (z0f (v8j h _) (fun _=>le_refl _)))) (le_refl _))
theorem v3t {i j:It} (h:i.Le j):∀ s,le (v1l i std s) (v1l j std s):=fun _=>z1d (z0o (z0f (le_refl _) (fun _=>z07 (h _ _ _ _ _ (v3s h)) (fun _=>le_refl _) (fun _=>le_refl _))) (le_refl _))
theorem mg37 {i j:It} (h:i.Le j):∀ s,le (g37 i std s) (g37 j std s):=fun _=>z07 (v8i h _) (fun _=>le_refl _) (fun _=>z07 (le_refl _) (fun _=>le_refl _) (fun _=>z07 (le_refl _) (fun _=>le_refl _) (fun _=>z0f (le_refl _) (fun _=>z0o (le_refl _) (z07 (h _ _ _ _ _ (v3t h)) (fun _=>le_refl _) (fun _=>z0f (le_refl _) (fun _=>z07 (z1d (z07 (h _ _ _ _ _ (v3r h)) (fun _=>le_refl _) (fun _=>le_refl _))) (fun _=>le_refl _) (fun _=>le_refl _))))))))
theorem mg69 {i j:It} (h:i.Le j):∀ s,le (g69 i std s) (g69 j std s):=fun _=>z0o (le_refl _) (z0b (z0b (z0f (h _ _ _ _ _ (fun _=>le_refl _)) (fun _=>le_refl _))))
theorem v3y {i j:It} (h:i.Le j):∀ s,le (y6s i std s) (y6s j std s):=fun _=>z1d (z0o (z0b (z0b (z0b (z0b (z0b (z0o (le_refl _) (z0f (mg68 h _) (fun _=>le_refl _)))))))) (le_refl _))
theorem v3z {i j:It} (h:i.Le j):∀ s,le (x46 i std s) (x46 j std s):=fun _=>z1d (z0o (z0b (z0b (z0f (u3q h _) (fun _=>le_refl _)))) (le_refl _))
theorem v30 {i j:It} (h:i.Le j):∀ s,le (x29 i std s) (x29 j std s):=fun _=>z1d (z0o (z0b (z0b (z0f (h _ _ _ _ _ (v3z h)) (fun _=>z0f (z1d (z07 (h _ _ _ _ _ (v3y h)) (fun _=>le_refl _) (fun _=>le_refl _))) (fun _=>le_refl _))))) (le_refl _))
theorem v31 {i j:It} (h:i.Le j):∀ s,le (y6t i std s) (y6t j std s):=fun _=>z1d (z0o (z0f (le_refl _) (fun _=>z0f (h _ _ _ _ _ (v30 h)) (fun _=>le_refl _))) (le_refl _))
theorem mg25 {i j:It} (h:i.Le j):∀ s,le (g25 i std s) (g25 j std s):=fun _=>z07 (v8i h _) (fun _=>le_refl _) (fun _=>z07 (le_refl _) (fun _=>le_refl _) (fun _=>z07 (le_refl _) (fun _=>le_refl _) (fun _=>z0f (le_refl _) (fun _=>z0o (le_refl _) (z0f (v9e h _) (fun _=>z0o (le_refl _) (z0b (z0f (h _ _ _ _ _ (v31 h)) (fun _=>z0f (mg69 h _) (fun _=>le_refl _))))))))))
theorem u3r {i j:It} (h:i.Le j):∀ s,le (g56 i std s) (g56 j std s):=fun _=>z07 (h _ _ _ _ _ (fun _=>le_refl _)) (fun _=>le_refl _) (fun _=>le_refl _)
theorem v3l {i j:It} (h:i.Le j):∀ s,le (x42 i std s) (x42 j std s):=fun _=>z1d (z0b (z0b (z0f (h _ _ _ _ _ (fun _=>le_refl _)) (fun _=>le_refl _))))
theorem v9f {i j:It} (h:i.Le j):∀ s,le (g61 i std s) (g61 j std s):=fun _=>z0b (z0f (h _ _ _ _ _ (fun _=>le_refl _)) (fun _=>z0b (z0f (h _ _ _ _ _ (v3l h)) (fun _=>le_refl _))))
theorem v34 {i j:It} (h:i.Le j):∀ s,le (x9b i std s) (x9b j std s):=fun _=>z1d (z0o (z0b (z0b (z0f (u3r h _) (fun _=>le_refl _)))) (le_refl _))
theorem v9g {i j:It} (h:i.Le j):∀ s,le (g19 i std s) (g19 j std s):=fun _=>z0f (le_refl _) (fun _=>z0o (le_refl _) (z07 (h _ _ _ _ _ (fun _=>le_refl _)) (fun _=>le_refl _) (fun _=>z0f (le_refl _) (fun _=>z0f (u3r h _) (fun _=>z0o (le_refl _) (z07 (h _ _ _ _ _ (v34 h)) (fun _=>le_refl _) (fun _=>le_refl _)))))))
theorem u3s {i j:It} (h:i.Le j):∀ s,le (g43 i std s) (g43 j std s):=fun _=>z07 (h _ _ _ _ _ (fun _=>le_refl _)) (fun _=>le_refl _) (fun _=>le_refl _)
theorem v3m {i j:It} (h:i.Le j):∀ s,le (x43 i std s) (x43 j std s):=fun _=>z1d (z0o (z0b (z0b (z0b (z0b (z0b (z0f (h _ _ _ _ _ (fun _=>le_refl _)) (fun _=>le_refl _))))))) (le_refl _))
theorem v3n {i j:It} (h:i.Le j):∀ s,le (x25 i std s) (x25 j std s):=fun _=>z1d (z0o (z0b (z0b (z0b (z0f (h _ _ _ _ _ (v3m h)) (fun _=>le_refl _))))) (le_refl _))
theorem v3o {i j:It} (h:i.Le j):∀ s,le (x87 i std s) (x87 j std s):=fun _=>z1d (z0o (z0b (z0b (z0f (v9f h _) (fun _=>z0b (z0b (z0b (z0f (h _ _ _ _ _ (v3n h)) (fun _=>z0f (v9f h _) (fun _=>le_refl _))))))))) (le_refl _))
theorem v8k {i j:It} (h:i.Le j):∀ s,le (g49 i std s) (g49 j std s):=fun _=>z0f (v9f h _) (fun _=>z0f (h _ _ _ _ _ (v3o h)) (fun _=>le_refl _))
theorem v8h {i j:It} (h:i.Le j):∀ s,le (g72 i std s) (g72 j std s):=fun _=>z0f (v9g h _) (fun _=>z0o (z0f (v9g h _) (fun _=>le_refl _)) (z0f (v9g h _) (fun _=>le_refl _)))
theorem mg36 {i j:It} (h:i.Le j):∀ s,le (g36 i std s) (g36 j std s):=fun _=>z0f (v8h h _) (fun _=>z0o (z0f (v8h h _) (fun _=>le_refl _)) (z0f (le_refl _) (fun _=>z0o (le_refl _) (z0f (v8k h _) (fun _=>z0f (v8k h _) (fun _=>z07 (h _ _ _ _ _ (fun _=>le_refl _)) (fun _=>le_refl _) (fun _=>z0f (le_refl _) (fun _=>z07 (h _ _ _ _ _ (fun _=>le_refl _)) (fun _=>le_refl _) (fun _=>le_refl _)))))))))
theorem mg38 {i j:It} (h:i.Le j):∀ s,le (g38 i std s) (g38 j std s):=fun _=>z0f (v8h h _) (fun _=>z0o (z0f (v8h h _) (fun _=>le_refl _)) (z0f (le_refl _) (fun _=>z0o (le_refl _) (z0f (v8k h _) (fun _=>z0f (u3s h _) (fun _=>z0o (le_refl _) (z0f (v8k h _) (fun _=>z0f (u3s h _) (fun _=>le_refl _)))))))))
theorem mg15 {i j:It} (h:i.Le j):∀ s,le (g15 i std s) (g15 j std s):=fun _=>z0b (z0b (z0b (z0b (z0b (z0b (z0b (z0b (z0b (z0b (z0b (z0b (z0b (z0b (z0b (z0b (z0f (mg16 h _) (fun _=>z0b (z0b (z0f (mg21 h _) (fun _=>z0b (z0f (mg23 h _) (fun _=>z0b (z0f (u3t h _) (fun _=>z0b (z0f (u3t h _) (fun _=>z0b (z0f (u3u h _) (fun _=>z0b (z0f (u3u h _) (fun _=>z0b (z0f (mg37 h _) (fun _=>z0b (z0f (mg25 h _) (fun _=>z0b (z0f (mg27 h _) (fun _=>z0f (le_refl _) (fun _=>z0o (le_refl _) (z0b (z0f (mg20 h _) (fun _=>z0o (z0o (z0o (z0b (z0f (mg36 h _) (fun _=>z0o (z0b (z0f (mg38 h _) (fun _=>le_refl _))) (le_refl _)))) (le_refl _)) (le_refl _)) (le_refl _)))))))))))))))))))))))))))))))))))))))))
end Go.Am
end
section
namespace Go.Am
theorem v43:g15 (itN 200) std ()=some (true,()):=by kernel_rfl
theorem y8d:G15 std ()=some (true,()):=mg15 (v4t 200) () _ v43
end Go.Am
end
section
namespace Go.Am
open M06
def w5k (l:List Pt) (hs:List (List Pt)):Prop:=¬ z7w l hs∧z51 l hs=0
instance (l:List Pt) (hs:List (List Pt)):Decidable (w5k l hs):=by unfold w5k; infer_instance
theorem w1v {l:List Pt} {hs:List (List Pt)}:w5k l hs↔z5n l hs:=by
 unfold w5k
 rw [z5z]
 refine ⟨fun h=>h.2,fun h=>⟨?_,h⟩⟩
 rintro (k|k|⟨x,hx,k⟩)
 ·have:=h.many.2; omega
 ·have:=h.few; omega
 ·have:=(h.manyH x hx).2; omega
instance (l:List Pt) (hs:List (List Pt)):Decidable (z5n l hs):=decidable_of_iff _ w1v
theorem y5l {α:Type} {l:List α} {P:α→Bool} {d:α}:∀ {i:Nat},i<l.length→P (l.getD i d)=true→(∀ j,j<i→P (l.getD j d)=false)→l.find? P=some (l.getD i d):=by
 induction l with
 |nil=>intro i hi; simp at hi
 |cons a l ih=>
  intro i hi h hm
  cases i with
  |zero=>
   have h:P a=true:=by simpa using h
   rw [List.find?_cons_of_pos h]; simp
  |succ i=>
   have h0:P a=false:=by simpa using hm 0 (by omega)
   rw [List.find?_cons_of_neg (by rw [h0]; simp)]
   have:=ih (i:=i) (by simpa using hi) (by simpa using h) (fun j hj=>by simpa using hm (j+1) (by omega))
   simpa using this
theorem y5m {α:Type} {l:List α} {P:α→Bool} {d:α} (h:∀ i,i<l.length→P (l.getD i d)=false):l.find? P=none:=by
 rw [List.find?_eq_none]
 intro x hx
 obtain ⟨i,hi⟩:=List.getElem?_of_mem hx
 have:=h i (List.getElem?_eq_some_iff.1 hi).1
 rw [z4t hi] at this
 rw [this]; simp
theorem w63 {l:List Pt} {hs:List (List Pt)} (h:z51 l hs≠0) (m:List Pt) (ks:List (List Pt)):G62 std (z0d l,z1i hs,z0d m,z1i ks,())=some (.inl (z51 l hs,())):=by
 unfold G62
 have h48:g48 it0 std (z0d l,z1i hs,())=_:=x48 h
 simp only [g62,z0q,z0r,h48,h,not_false_eq_true]
theorem w62 {l:List Pt} {hs:List (List Pt)} (hf:z5n l hs) {m:List Pt} {ks:List (List Pt)} (h:z51 m ks≠0):
  G62 std (z0d l,z1i hs,z0d m,z1i ks,())=some (.inr (.inr (.inl (z0d l,z1i hs,z0d (z1k (z1y l hs)),z51 m ks,())))):=by
 unfold G62
 have h48:g48 it0 std (z0d l,z1i hs,())=_:=x7h hf
 have h48':g48 it0 std (z0d m,z1i ks,())=_:=x48 h
 simp only [g62,z0q,z0r,h48,h48',not_true]
theorem w8f {l:List Pt} {hs:List (List Pt)} (hf:z5n l hs) {m:List Pt} {ks:List (List Pt)} (hk:z5n m ks):
  G62 std (z0d l,z1i hs,z0d m,z1i ks,())=some (.inr (.inr (.inr (z0d l,z1i hs,z0d (z1k (z1y l hs)),z0d m,z1i ks,z0d (z1k (z1y m ks)),0,())))):=by
 unfold G62
 have h48:g48 it0 std (z0d l,z1i hs,())=_:=x7h hf
 have h48':g48 it0 std (z0d m,z1i ks,())=_:=x7h hk
 simp only [g62,z0q,z0r,h48,h48',not_true]
instance (p:Pt):Decidable (Big p):=by unfold Big; infer_instance
end Go.Am
end
section
namespace M06
def dif (a b:List Pt):List Pt:=a.flatMap fun p=>b.map fun q=>sb p q
theorem z3f {a b:List Pt} {z:Pt}:z∈dif a b↔∃ p∈a,∃ q∈b,z=sb p q:=by
 simp only [dif,List.mem_flatMap,List.mem_map]
 exact ⟨fun ⟨x,hx,y,hy,e⟩=>⟨x,hx,y,hy,e.symm⟩,fun ⟨x,hx,y,hy,e⟩=>⟨x,hx,y,hy,e.symm⟩⟩
theorem w50 (a b:List Pt):∀ z,z∈dif a b↔∃ x∈a,∃ y∈b.map ng,z=ad x y:=by
 intro z
 rw [z3f]
 constructor
 ·rintro ⟨p,hp,q,hq,rfl⟩
  exact ⟨p,hp,ng q,List.mem_map.2 ⟨q,hq,rfl⟩,by simp only [sb,ad,ng]; exact Prod.ext (by simp; omega) (by simp; omega)⟩
 ·rintro ⟨p,hp,y,hy,rfl⟩
  obtain ⟨q,hq,rfl⟩:=List.mem_map.1 hy
  exact ⟨p,hp,q,hq,by simp only [sb,ad,ng]; exact Prod.ext (by simp; omega) (by simp; omega)⟩
def y2t (a b:List Pt) (w:Pt):Prop:=∀ p∈a,∀ q∈b,dt w p<dt w q
def z5o (a b:List Pt):List Pt:=(a.flatMap fun p=>b.map fun q=>sb q p)++(wy a++wy b).flatMap fun w=>[(w.2, -w.1),(-w.2,w.1)]
theorem x1x {a b:List Pt} {w:Pt} (h:y2t a b w):¬ InH (dif a b) (0,0) 1:=by
 intro hi
 obtain ⟨x,hx,h0⟩:=hi (-w.2,w.1)
 obtain ⟨p,hp,q,hq,rfl⟩:=z3f.1 hx
 have:=h p hp q hq
 have e:crs (-w.2,w.1) (sb (0,0) (ml (sb p q) 1))=dt w q - dt w p→True:=fun _=>trivial
 have e2:crs (w.2, -w.1) (sb (0,0) (ml (sb p q) 1))=dt w q - dt w p:=by simp only [crs,dt,sb,ml]; grind
 have e3:crs (-w.2,w.1) (sb (0,0) (ml (sb p q) 1))= - (dt w q - dt w p):=by simp only [crs,dt,sb,ml]; grind
 rw [e3] at h0
 omega
theorem v0t {S:List Pt} {d a b:Pt} (h:y11 S (ng d) a b):y11 (S.map ng) d (ng a) (ng b):=by
 have e1:∀ u v:Pt,crs d (sb (ng u) (ng v))=crs (ng d) (sb u v):=by intros; simp only [crs,sb,ng]; grind
 have e2:∀ u v:Pt,dt d (sb (ng u) (ng v))=dt (ng d) (sb u v):=by intros; simp only [dt,sb,ng]; grind
 refine ⟨List.mem_map.2 ⟨a,h.ina,rfl⟩,List.mem_map.2 ⟨b,h.inb,rfl⟩,by rw [e1]; exact h.par,fun x hx=>?_,fun x hx h0=>?_⟩
 ·obtain ⟨y,hy,rfl⟩:=List.mem_map.1 hx
  rw [e1]; exact h.left y hy
 ·obtain ⟨y,hy,rfl⟩:=List.mem_map.1 hx
  rw [e1] at h0
  rw [e2,e2]; exact h.on y hy h0
theorem x5i {d:Pt} {l:List Pt} (h:z82 d l≠(0,0)):∃ w∈l,z6r d w:=by
 refine Classical.byContradiction fun hn=>h ?_
 exact x07 fun x hx hs=>hn ⟨x,hx,hs⟩
theorem y2y {u v x:Pt} (h:z6r u v):0<crs u x↔0<crs v x:=by
 have hm:=(h.mul x).1
 have a:=z01 h.ne
 have b:=h.2
 constructor
 ·intro k
  have:=Int.mul_pos b k
  refine Classical.byContradiction fun hc=>?_
  have:=Int.mul_nonneg (Int.le_of_lt a) (show 0≤ - crs v x by omega)
  rw [Int.mul_neg] at this; omega
 ·intro k
  have:=Int.mul_pos a k
  refine Classical.byContradiction fun hc=>?_
  have:=Int.mul_nonneg (Int.le_of_lt b) (show 0≤ - crs u x by omega)
  rw [Int.mul_neg] at this; omega
theorem w9j {d:Pt} (h:d≠(0,0)):ng d≠(0,0):=by
 intro e
 apply h
 rw [←x16 d,e]; rfl
theorem x12 {a b:List Pt} (ha:Cyc a a) (hb:Cyc b b) (h:¬ InH (dif a b) (0,0) 1):∃ w∈z5o a b,y2t a b w:=by
 obtain ⟨p0,hp0⟩:∃ p,p∈a:=by
  match a,ha with
  |p::r,_=>exact ⟨p,by simp⟩
 obtain ⟨q0,hq0⟩:∃ q,q∈b:=by
  match b,hb with
  |q::r,_=>exact ⟨q,by simp⟩
 have hne:dif a b≠[]:=by
  intro e
  have:=z3f.2 ⟨p0,hp0,q0,hq0,rfl⟩
  rw [e] at this; simp at this
 have hD:=z18 hne
 have hin:¬ inC (z1k (dif a b)) (0,0) 1=true:=fun hi=>h ((z9y hD (by omega)).2 ((y2h hD (by omega)).1 hi))
 have hDm:=z4b hD
 generalize z1k (dif a b)=D at hD hin hDm
 have first:∀ p∈a,∀ q∈b,sb q p∈z5o a b:=fun p hp q hq=>List.mem_append_left _ (List.mem_flatMap.2 ⟨p,hp,List.mem_map.2 ⟨q,hq,rfl⟩⟩)
 have hDn:1≤D.length:=by
  match D,hD with
  |x::r,_=>simp
 unfold inC at hin
 by_cases h1:D.length=1
 ·rw [if_pos h1] at hin
  obtain ⟨x,rfl,_,hall⟩:=y5y hD (by omega)
  have hx:x≠(0,0):=by
   intro e; apply hin; subst e; rfl
  have hx0:=hall _ (z3f.2 ⟨p0,hp0,q0,hq0,rfl⟩)
  refine ⟨sb q0 p0,first p0 hp0 q0 hq0,fun p hp q hq=>?_⟩
  have hx1:=hall _ (z3f.2 ⟨p,hp,q,hq,rfl⟩)
  have hpos:=z01 hx
  have e:dt (sb q0 p0) q - dt (sb q0 p0) p=dt (sb p0 q0) (sb p q):=by simp only [dt,sb]; grind
  rw [hx0,hx1] at e
  omega
 ·rw [if_neg h1] at hin
  have h2:2≤D.length:=by omega
  by_cases hex:∃ x y,x∈dif a b∧Nx (dif a b) x y∧crs (sb y x) (sb (0,0) (ml x 1))<0
  ·obtain ⟨x,y,hxm,hn,hc⟩:=hex
   have he:sb y x≠(0,0):=fun e=>hn.2.1 (z1g.1 e).symm
   have hface:=x4e hxm hn
   have hcx:0<crs (sb y x) x:=by
    have:crs (sb y x) (sb (0,0) (ml x 1))= - crs (sb y x) x:=by simp only [crs,sb,ml]; grind
    omega
   have hall:∀ p∈a,∀ q∈b,0<crs (sb y x) (sb p q):=by
    intro p hp q hq
    have:=hface.left _ (z3f.2 ⟨p,hp,q,hq,rfl⟩)
    have e:crs (sb y x) (sb (sb p q) x)=crs (sb y x) (sb p q) - crs (sb y x) x:=by rw [z6o]
    omega
   have f1:=z64 ha he
   have f2:=v0t (z64 hb (w9j he))
   have fs:=f1.sum (w50 a b) f2
   obtain ⟨u1,u2⟩:=hface.unique he fs
   have hor:z82 (sb y x) (wy a)≠(0,0)∨z82 (ng (sb y x)) (wy b)≠(0,0):=by
    refine Classical.byContradiction fun hno=>hn.2.1 ?_
    simp only [not_or,Classical.not_not] at hno
    rw [hno.1,hno.2,z1p,z1p] at u2
    exact u1.trans u2.symm
   rcases hor with hor|hor
   ·obtain ⟨w,hw,hsw⟩:=x5i hor
    refine ⟨(w.2, -w.1),List.mem_append_right _ (List.mem_flatMap.2 ⟨w,List.mem_append_left _ hw,by simp⟩),fun p hp q hq=>?_⟩
    have:=(y2y hsw).1 (hall p hp q hq)
    have e:dt (w.2, -w.1) q - dt (w.2, -w.1) p=crs w (sb p q):=by simp only [dt,crs,sb]; grind
    omega
   ·obtain ⟨w,hw,hsw⟩:=x5i hor
    refine ⟨(-w.2,w.1),List.mem_append_right _ (List.mem_flatMap.2 ⟨w,List.mem_append_right _ hw,by simp⟩),fun p hp q hq=>?_⟩
    have h3:=hall p hp q hq
    have h4:=(y2y (x:=ng (sb p q)) hsw).1 (by rw [crs_ng]; exact h3)
    have e:dt (-w.2,w.1) q - dt (-w.2,w.1) p=crs w (ng (sb p q)):=by simp only [dt,crs,sb,ng]; grind
    omega
  ·have hno:∀ {x y:Pt},x∈dif a b→Nx (dif a b) x y→0≤crs (sb y x) (sb (0,0) (ml x 1)):=fun {x y} h1 h2=>by
    refine Classical.byContradiction fun hc=>hex ⟨x,y,h1,h2,by omega⟩
   rw [List.all_eq_true] at hin
   have:∃ i,i<D.length∧¬ y65 D.length (D.getD i (0,0)) (D.getD ((i+1) % D.length) (0,0)) (0,0) 1=true:=by
    refine Classical.byContradiction fun hn=>hin fun i hi=>Classical.byContradiction fun hc=>hn ⟨i,List.mem_range.1 hi,hc⟩
   obtain ⟨i,hi,hs⟩:=this
   obtain ⟨x,hx⟩:∃ x,D[i]?=some x:=⟨_,List.getElem?_eq_getElem hi⟩
   obtain ⟨y,hy⟩:∃ y,D[(i+1) % D.length]?=some y:=⟨_,List.getElem?_eq_getElem (Nat.mod_lt _ (by omega))⟩
   rw [getD_some hx,getD_some hy,z7m] at hs
   have hn:=z8t hD h2 hx hy
   have hxm:=hDm x (List.mem_of_getElem? hx)
   have hym:=hDm y (List.mem_of_getElem? hy)
   have he:sb y x≠(0,0):=fun e=>hn.2.1 (z1g.1 e).symm
   have hface:=x4e hxm hn
   have hc:=hno hxm hn
   have hz:D.length=2∧dt (sb y x) (sb (0,0) (ml x 1))<0:=by
    refine Classical.byContradiction fun hno=>hs ⟨by omega,fun hl=>?_⟩
    refine Classical.byContradiction fun hd=>hno ⟨hl,by omega⟩
   obtain ⟨hl2,hd⟩:=hz
   have hn2:Nx (dif a b) y x:=by
    match D,hl2,hD,hx,hy with
    |[u,v],_,hD,hx,hy=>
     have g1:=z8t hD (by simp) (i:=0) (a:=u) (b:=v) rfl rfl
     have g2:=z8t hD (by simp) (i:=1) (a:=v) (b:=u) rfl (by simp)
     have hi2:i<2:=by simpa using hi
     have:i=0∨i=1:=by omega
     rcases this with rfl|rfl
     ·simp at hx hy; subst hx; subst hy; exact g2
     ·simp at hx hy; subst hx; subst hy; exact g1
   have hc2:=hno hym hn2
   have hc0:crs (sb y x) (sb (0,0) (ml x 1))=0:=by
    have e:crs (sb x y) (sb (0,0) (ml y 1))= - crs (sb y x) (sb (0,0) (ml x 1)):=by simp only [crs,sb,ml]; grind
    omega
   have e1:crs (sb y x) (sb (0,0) (ml x 1))= - crs (sb y x) x:=by simp only [crs,sb,ml]; grind
   have e2:dt (sb y x) (sb (0,0) (ml x 1))= - dt (sb y x) x:=by simp only [dt,sb,ml]; grind
   have hsame:z6r (sb y x) x:=⟨by omega,by omega⟩
   obtain ⟨p1,hp1,q1,hq1,hx1⟩:=z3f.1 hxm
   refine ⟨sb q1 p1,first p1 hp1 q1 hq1,fun p hp q hq=>?_⟩
   have hline:∀ z∈dif a b,crs (sb y x) (sb z x)=0:=by
    intro z hz
    have c1:=hface.left z hz
    have c2:=(hn2.2.2 z hz).1
    have e:cr y x z= - crs (sb y x) (sb z x):=by simp only [cr,crs,sb]; grind
    omega
   have hz:=z3f.2 ⟨p,hp,q,hq,rfl⟩
   have on:=(hface.on _ hz (hline _ hz)).1
   have e3:dt (sb y x) (sb (sb p q) x)=dt (sb y x) (sb p q) - dt (sb y x) x:=by rw [z91]
   have hpos:0<dt (sb y x) (sb p q):=by omega
   have hm:=(hsame.mul (sb p q)).2
   have hpos2:0<dt x (sb p q):=by
    have a1:=Int.mul_pos hsame.2 hpos
    refine Classical.byContradiction fun hc=>?_
    have:=Int.mul_nonneg (Int.le_of_lt (z01 he)) (show 0≤ - dt x (sb p q) by omega)
    rw [Int.mul_neg] at this; omega
   have e4:dt (sb q1 p1) q - dt (sb q1 p1) p=dt (sb p1 q1) (sb p q):=by simp only [dt,sb]; grind
   rw [←hx1] at e4
   omega
theorem w83 {a b:List Pt} (ha:Cyc a a) (hb:Cyc b b):(∃ w∈z5o a b,y2t a b w)↔¬ InH (dif a b) (0,0) 1:=
 ⟨fun ⟨_,_,h⟩=>x1x h,x12 ha hb⟩
end M06
end
section
namespace M06
theorem w5d {S c:List Pt} (hc:Cyc S c) {x y:Pt} {k m α β:Int} (hx:InH c x k) (hy:InH c y m) (hk:0≤k) (hm:0≤m) (ha:0≤α) (hb:0≤β):InH c (ad (ml x α) (ml y β)) (α*k+β*m):=by
 intro d
 obtain ⟨a,h1,h2⟩:=w18 (z2a hc) d
 refine ⟨a,h1,?_⟩
 obtain ⟨u,u1,u2⟩:=hx d
 obtain ⟨v,v1,v2⟩:=hy d
 have p1:0≤crs d (sb x (ml a k)):=by
  rw [w37 x u a k d]
  have:=Int.mul_nonneg hk (h2 u u1)
  omega
 have p2:0≤crs d (sb y (ml a m)):=by
  rw [w37 y v a m d]
  have:=Int.mul_nonneg hm (h2 v v1)
  omega
 have e:crs d (sb (ad (ml x α) (ml y β)) (ml a (α*k+β*m)))=α*crs d (sb x (ml a k))+β*crs d (sb y (ml a m)):=by simp only [crs,sb,ml,ad]; grind
 rw [e]
 have:=Int.mul_nonneg ha p1
 have:=Int.mul_nonneg hb p2
 omega
theorem v26 (x:Pt):ml x 1=x:=by simp [ml]
where
 InH.point' {S:List Pt} {p:Pt} (h:p∈S):InH S p 1:=fun d=>⟨p,h,by simp [crs,sb,ml]⟩
theorem w5c {S c:List Pt} (hc:Cyc S c) {d a b z:Pt} {k:Int} (hk:0≤k) (hd:d≠(0,0)) (hf:y11 c d a b) (hz:InH c z k) (h0:crs d (sb z (ml a k))=0):
  0≤dt d (sb z (ml a k))∧0≤dt d (sb (ml b k) z):=by
 obtain ⟨N,hN,hN2⟩:∃ N:Int,0≤N∧∀ x∈c, -N≤dt d (sb x a)∧ -N≤dt d (sb b x):=by
  have:∀ l:List Pt,∃ N:Int,0≤N∧∀ x∈l, -N≤dt d (sb x a)∧ -N≤dt d (sb b x):=by
   intro l
   induction l with
   |nil=>exact ⟨0,by omega,by simp⟩
   |cons x l ih=>
    obtain ⟨N,h1,h2⟩:=ih
    refine ⟨max N (max (- dt d (sb x a)) (- dt d (sb b x))),by omega,fun y hy=>?_⟩
    rcases List.mem_cons.1 hy with rfl|hy
    ·omega
    ·have:=h2 y hy; omega
  exact this c
 have pos1:∀ x∈c,0≤N*crs d (sb x a)+dt d (sb x a):=by
  intro x hx
  have c1:=hf.left x hx
  rcases Int.lt_or_eq_of_le c1 with h|h
  ·have:=Int.mul_le_mul_of_nonneg_left (show (1:Int)≤crs d (sb x a) by omega) hN
   have:=(hN2 x hx).1
   omega
  ·have:=(hf.on x hx h.symm).1
   rw [←h,Int.mul_zero]; omega
 have pos2:∀ x∈c,0≤N*crs d (sb x a)+dt d (sb b x):=by
  intro x hx
  have c1:=hf.left x hx
  rcases Int.lt_or_eq_of_le c1 with h|h
  ·have:=Int.mul_le_mul_of_nonneg_left (show (1:Int)≤crs d (sb x a) by omega) hN
   have:=(hN2 x hx).2
   omega
  ·have:=(hf.on x hx h.symm).2
   rw [←h,Int.mul_zero]; omega
 have hpar:=hf.par
 constructor
 ·
  obtain ⟨x,hx,hx0⟩:=hz (N*d.1+d.2,N*d.2 - d.1)
  have e:crs (N*d.1+d.2,N*d.2 - d.1) (sb z (ml x k))=N*crs d (sb z (ml a k))+dt d (sb z (ml a k)) - k*(N*crs d (sb x a)+dt d (sb x a)):=by simp only [crs,dt,sb,ml]; grind
  rw [e,h0,Int.mul_zero] at hx0
  have:=Int.mul_nonneg hk (pos1 x hx)
  omega
 ·obtain ⟨x,hx,hx0⟩:=hz (N*d.1 - d.2,N*d.2+d.1)
  have e:crs (N*d.1 - d.2,N*d.2+d.1) (sb z (ml x k))=N*crs d (sb z (ml a k))+dt d (sb (ml b k) z) - k*(N*crs d (sb x a)+dt d (sb b x)):=by simp only [crs,dt,sb,ml]; grind
  rw [e,h0,Int.mul_zero] at hx0
  have:=Int.mul_nonneg hk (pos2 x hx)
  omega
theorem u3x:∀ (F:List (Int×Int)),(∀ f∈F,0≤f.1)→(∃ f∈F,f.2<0)→∃ g∈F,g.2<0∧∀ f∈F,0≤g.1*f.2 - g.2*f.1
 |[],_,h=>by obtain ⟨f,hf,_⟩:=h; simp at hf
 |f::F,h0,h1=>by
  by_cases hF:∃ f∈F,f.2<0
  ·obtain ⟨g,g1,g2,g3⟩:=u3x F (fun x hx=>h0 x (List.mem_cons_of_mem _ hx)) hF
   have gp:=h0 g (List.mem_cons_of_mem _ g1)
   have fp:=h0 f (by simp)
   by_cases hf:0≤g.1*f.2 - g.2*f.1
   ·refine ⟨g,List.mem_cons_of_mem _ g1,g2,fun x hx=>?_⟩
    rcases List.mem_cons.1 hx with rfl|hx
    ·exact hf
    ·exact g3 x hx
   ·have hf2:f.2<0:=by
     refine Classical.byContradiction fun hc=>hf ?_
     have a1:=Int.mul_nonneg gp (show 0≤f.2 by omega)
     have a2:=Int.mul_nonneg (show 0≤ -g.2 by omega) fp
     rw [Int.neg_mul] at a2
     omega
    refine ⟨f,by simp,hf2,fun x hx=>?_⟩
    rcases List.mem_cons.1 hx with rfl|hx
    ·have:=Int.mul_comm x.1 x.2; omega
    ·have xp:=h0 x (List.mem_cons_of_mem _ hx)
     have gx:=g3 x hx
     by_cases hx2:0≤x.2
     ·have a1:=Int.mul_nonneg fp hx2
      have a2:=Int.mul_nonneg (show 0≤ -f.2 by omega) xp
      rw [Int.neg_mul] at a2
      omega
     ·
      have i1:(-g.2)*(f.1*x.2 - f.2*x.1)=(-f.2)*(g.1*x.2 - g.2*x.1)+(-x.2)*(g.1*f.2 - g.2*f.1)*(-1)*(-1)*(-1)+0:=by grind
      have a1:=Int.mul_nonneg (show 0≤ -f.2 by omega) gx
      have a2:=Int.mul_nonneg (show 0≤ -x.2 by omega) (show 0≤ -(g.1*f.2 - g.2*f.1) by omega)
      have i2:(-x.2)*(g.1*f.2 - g.2*f.1)*(-1)*(-1)*(-1)=(-x.2)*(-(g.1*f.2 - g.2*f.1)):=by grind
      rw [i2] at i1
      refine Classical.byContradiction fun hc=>?_
      have:=Int.mul_neg_of_pos_of_neg (show 0< -g.2 by omega) (Int.not_le.1 hc)
      omega
  ·obtain ⟨g,hg,g2⟩:=h1
   have hgf:g=f:=by
    rcases List.mem_cons.1 hg with h|h
    ·exact h
    ·exact absurd ⟨g,h,g2⟩ hF
   subst hgf
   have gp:=h0 g (by simp)
   refine ⟨g,by simp,g2,fun x hx=>?_⟩
   rcases List.mem_cons.1 hx with rfl|hx
   ·have:=Int.mul_comm x.1 x.2; omega
   ·have xp:=h0 x (List.mem_cons_of_mem _ hx)
    have hx2:0≤x.2:=Classical.byContradiction fun hc=>hF ⟨x,hx,by omega⟩
    have a1:=Int.mul_nonneg gp hx2
    have a2:=Int.mul_nonneg (show 0≤ -g.2 by omega) xp
    rw [Int.neg_mul] at a2
    omega
def x04 (c:List Pt):List (Pt×Pt):=(List.range c.length).map fun i=>(c.getD i (0,0),c.getD ((i+1) % c.length) (0,0))
theorem y5b {c:List Pt} (hc:Cyc c c) (h2:2≤c.length) {s:Pt×Pt}:s∈x04 c↔s.1∈c∧Nx c s.1 s.2:=by
 constructor
 ·intro hs
  obtain ⟨i,hi,rfl⟩:=List.mem_map.1 hs
  have hi:=List.mem_range.1 hi
  obtain ⟨x,hx⟩:∃ x,c[i]?=some x:=⟨_,List.getElem?_eq_getElem hi⟩
  obtain ⟨y,hy⟩:∃ y,c[(i+1) % c.length]?=some y:=⟨_,List.getElem?_eq_getElem (Nat.mod_lt _ (by omega))⟩
  simp only [getD_some hx,getD_some hy]
  exact ⟨List.mem_of_getElem? hx,z8t hc h2 hx hy⟩
 ·rintro ⟨h,hn⟩
  obtain ⟨i,hi,i1,i2⟩:=z65 hc h2 h hn
  refine List.mem_map.2 ⟨i,List.mem_range.2 hi,?_⟩
  rw [getD_some i1,getD_some i2]
theorem y5h {c:List Pt} (hc:Cyc c c) (h2:2≤c.length) {p:Pt} {k:Int}:inC c p k=true↔∀ s∈x04 c,0≤crs (sb s.2 s.1) (sb p (ml s.1 k))∧(c.length=2→0≤dt (sb s.2 s.1) (sb p (ml s.1 k))):=by
 unfold inC
 rw [if_neg (by omega),List.all_eq_true]
 constructor
 ·intro h s hs
  obtain ⟨i,hi,rfl⟩:=List.mem_map.1 hs
  exact z7m.1 (h i hi)
 ·intro h i hi
  exact z7m.2 (h _ (List.mem_map.2 ⟨i,hi,rfl⟩))
theorem rim {c:List Pt} (hc:Cyc c c) (h2:2≤c.length) {x u:Pt} {k:Int} (hk:0<k) (hx:InH c x k) (hu:¬ InH c u 1):
    ∃ (s:Pt×Pt) (α β:Int),s∈x04 c∧0≤α∧0<β∧InH c (ad (ml u (α*k)) (ml x β)) ((α+β)*k)∧
      ((crs (sb s.2 s.1) (sb (ad (ml u (α*k)) (ml x β)) (ml s.1 ((α+β)*k)))=0∧crs (sb s.2 s.1) (sb u s.1)<0)∨
       (ad (ml u (α*k)) (ml x β)=ml s.1 ((α+β)*k))):=by
  have hxC:=(y2h hc hk).2 hx
  have huC:¬ inC c u 1=true:=fun h=>hu ((y2h hc (by omega)).1 h)
  rw [y5h hc h2] at hxC huC
  let F:List (Int×Int):=(x04 c).flatMap fun s=>(crs (sb s.2 s.1) (sb x (ml s.1 k)),crs (sb s.2 s.1) (sb (ml u k) (ml s.1 k)))::(if c.length=2 then [(dt (sb s.2 s.1) (sb x (ml s.1 k)),dt (sb s.2 s.1) (sb (ml u k) (ml s.1 k)))] else [])
  have scC:∀ s:Pt×Pt,crs (sb s.2 s.1) (sb (ml u k) (ml s.1 k))=k*crs (sb s.2 s.1) (sb u (ml s.1 1)):=by intro s; simp only [crs,sb,ml]; grind
  have scD:∀ s:Pt×Pt,dt (sb s.2 s.1) (sb (ml u k) (ml s.1 k))=k*dt (sb s.2 s.1) (sb u (ml s.1 1)):=by intro s; simp only [dt,sb,ml]; grind
  have hF:∀ f∈F,0≤f.1:=by
    intro f hf
    obtain ⟨s,hs,hf⟩:=List.mem_flatMap.1 hf
    rcases List.mem_cons.1 hf with rfl|hf
    · exact (hxC s hs).1
    · by_cases hl:c.length=2
      · rw [if_pos hl] at hf
        simp at hf; subst hf
        exact (hxC s hs).2 hl
      · rw [if_neg hl] at hf; simp at hf
  have hneg:∃ f∈F,f.2<0:=by
    refine Classical.byContradiction fun hn=>huC fun s hs=>⟨?_,fun hl=>?_⟩
    · refine Classical.byContradiction fun hc=>hn ⟨_,List.mem_flatMap.2 ⟨s,hs,List.mem_cons_self ..⟩,?_⟩
      simp only
      rw [scC]
      exact Int.mul_neg_of_pos_of_neg hk (Int.not_le.1 hc)
    · refine Classical.byContradiction fun hc=>hn ⟨_,List.mem_flatMap.2 ⟨s,hs,List.mem_cons_of_mem _ (by rw [if_pos hl]; exact List.mem_singleton.2 rfl)⟩,?_⟩
      simp only
      rw [scD]
      exact Int.mul_neg_of_pos_of_neg hk (Int.not_le.1 hc)
  obtain ⟨g,g1,g2,g3⟩:=u3x F hF hneg
  have g0:=hF g g1
  obtain ⟨s,hs,hgs⟩:=List.mem_flatMap.1 g1
  have hsum:0<g.1+ -g.2:=by omega
  have lin:∀ (s:Pt×Pt),crs (sb s.2 s.1) (sb (ad (ml u (g.1*k)) (ml x (-g.2))) (ml s.1 ((g.1+ -g.2)*k)))=g.1*crs (sb s.2 s.1) (sb (ml u k) (ml s.1 k)) - g.2*crs (sb s.2 s.1) (sb x (ml s.1 k)):=by intro s; simp only [crs,sb,ml,ad]; grind
  have linD:∀ (s:Pt×Pt),dt (sb s.2 s.1) (sb (ad (ml u (g.1*k)) (ml x (-g.2))) (ml s.1 ((g.1+ -g.2)*k)))=g.1*dt (sb s.2 s.1) (sb (ml u k) (ml s.1 k)) - g.2*dt (sb s.2 s.1) (sb x (ml s.1 k)):=by intro s; simp only [dt,sb,ml,ad]; grind
  have hin:inC c (ad (ml u (g.1*k)) (ml x (-g.2))) ((g.1+ -g.2)*k)=true:=by
    rw [y5h hc h2]
    intro t ht
    refine ⟨?_,fun hl=>?_⟩
    · rw [lin]
      exact g3 _ (List.mem_flatMap.2 ⟨t,ht,List.mem_cons_self ..⟩)
    · rw [linD]
      exact g3 _ (List.mem_flatMap.2 ⟨t,ht,List.mem_cons_of_mem _ (by rw [if_pos hl]; exact List.mem_singleton.2 rfl)⟩)
  have hinH:=(y2h hc (Int.mul_pos hsum hk)).1 hin
  refine ⟨s,g.1, -g.2,hs,g0,by omega,hinH,?_⟩
  have hs':=(y5b hc h2).1 hs
  have he:sb s.2 s.1≠(0,0):=fun e=>hs'.2.2.1 (z1g.1 e).symm
  rcases List.mem_cons.1 hgs with hg|hg
  · left
    refine ⟨?_,?_⟩
    · rw [lin]
      have a1:crs (sb s.2 s.1) (sb (ml u k) (ml s.1 k))=g.2:=by rw [hg]
      have a2:crs (sb s.2 s.1) (sb x (ml s.1 k))=g.1:=by rw [hg]
      rw [a1,a2,Int.mul_comm]; omega
    · have a1:crs (sb s.2 s.1) (sb (ml u k) (ml s.1 k))=g.2:=by rw [hg]
      rw [scC,v26] at a1
      refine Classical.byContradiction fun hc=>?_
      have:=Int.mul_nonneg (Int.le_of_lt hk) (show 0≤crs (sb s.2 s.1) (sb u s.1) by omega)
      omega
  · right
    by_cases hl:c.length=2
    · rw [if_pos hl] at hg
      have hg:=List.mem_singleton.1 hg
      have a1:dt (sb s.2 s.1) (sb (ml u k) (ml s.1 k))=g.2:=by rw [hg]
      have a2:dt (sb s.2 s.1) (sb x (ml s.1 k))=g.1:=by rw [hg]
      have hd:dt (sb s.2 s.1) (sb (ad (ml u (g.1*k)) (ml x (-g.2))) (ml s.1 ((g.1+ -g.2)*k)))=0:=by
        rw [linD,a1,a2,Int.mul_comm]; omega
      have hcz:crs (sb s.2 s.1) (sb (ad (ml u (g.1*k)) (ml x (-g.2))) (ml s.1 ((g.1+ -g.2)*k)))=0:=by
        rw [y5h hc h2] at hin
        have q1:=(hin s hs).1
        have hback:(s.2,s.1)∈x04 c:=by
          match c,hl,hc,hs with
          |[a,b],_,hc,hs=>
            have:x04 [a,b]=[(a,b),(b,a)]:=by simp [x04,List.range_succ]
            rw [this] at hs⊢
            rcases List.mem_cons.1 hs with rfl|hs
            · simp
            · simp at hs; subst hs; simp
        have q2:=(hin _ hback).1
        simp only at q2
        have e:∀ z:Pt,∀ m:Int,crs (sb s.1 s.2) (sb z (ml s.2 m))= - crs (sb s.2 s.1) (sb z (ml s.1 m)):=by intros; simp only [crs,sb,ml]; grind
        rw [e] at q2
        omega
      exact z1g.1 (z71 he hcz hd)
    · rw [if_neg hl] at hg; simp at hg
end M06
end
section
namespace Go.Am
open M06
def mxd (l:List Pt) (w:Pt):Int:=l.foldl (fun m p=>max m (dt w p)) (dt w (l.getD 0 (0,0)))
theorem w1k (w:Pt):∀ (l:List Pt) (m:Int),m≤l.foldl (fun m p=>max m (dt w p)) m∧(∀ p∈l,dt w p≤l.foldl (fun m p=>max m (dt w p)) m)∧(l.foldl (fun m p=>max m (dt w p)) m=m∨∃ p∈l,l.foldl (fun m p=>max m (dt w p)) m=dt w p)
 |[],m=>⟨Int.le_refl _,by simp, .inl rfl⟩
 |p::l,m=>by
  obtain ⟨h1,h2,h3⟩:=w1k w l (max m (dt w p))
  simp only [List.foldl_cons]
  refine ⟨by omega,fun q hq=>?_,?_⟩
  ·rcases List.mem_cons.1 hq with rfl|hq
   ·omega
   ·exact h2 q hq
  ·rcases h3 with h|⟨q,hq,h⟩
   ·by_cases hm:dt w p≤m
    ·left; rw [h]; omega
    ·right; exact ⟨p,by simp,by rw [h]; omega⟩
   ·right; exact ⟨q,List.mem_cons_of_mem _ hq,h⟩
theorem y85 {l:List Pt} (hl:l≠[]) (w:Pt):(∀ p∈l,dt w p≤mxd l w)∧∃ p∈l,mxd l w=dt w p:=by
 obtain ⟨h1,h2,h3⟩:=w1k w l (dt w (l.getD 0 (0,0)))
 refine ⟨h2,?_⟩
 rcases h3 with h|h
 ·exact ⟨l.getD 0 (0,0),z8k _ (List.length_pos_iff.2 hl),h⟩
 ·exact h
theorem y5x {w p:Pt} (hw:z1f w) (hp:z0s (-10000) 10000 p):IntKind.i64.wrap (w.1*p.1)=w.1*p.1∧IntKind.i64.wrap (w.2*p.2)=w.2*p.2∧IntKind.i64.wrap (w.1*p.1+w.2*p.2)=dt w p∧ -20971520000≤dt w p∧dt w p≤20971520000:=by
 obtain ⟨w1,w2,w3,w4⟩:=hw
 obtain ⟨p1,p2,p3,p4⟩:=hp
 have m1:=z3a (A:=1048576) (B:=10000) (a:=w.1) (b:=p.1) (by omega) (by omega) (by omega) (by omega) (by omega)
 have m2:=z3a (A:=1048576) (B:=10000) (a:=w.2) (b:=p.2) (by omega) (by omega) (by omega) (by omega) (by omega)
 refine ⟨z09 _ (by omega) (by omega),z09 _ (by omega) (by omega),?_,by simp only [dt]; omega,by simp only [dt]; omega⟩
 rw [z09 _ (by omega) (by omega)]; rfl
theorem v7i {l:List Pt} (hl:l≠[]) (hn:l.length≤1000) {w:Pt} (hw:z1f w) (hb:∀ p∈l,z0s (-10000) 10000 p):G78 std (z0d l,w.1,w.2,())=some (mxd l w,()):=by
 have hl1:1≤l.length:=List.length_pos_iff.2 hl
 have key:=z3g (b:=w6m std) (fun (i:Nat)=>(w.1,w.2,(l.take i).foldl (fun m p=>max m (dt w p)) (dt w (l.getD 0 (0,0))),z0d l,(l.length:Int),(i:Int),())) (fun i=>i≤l.length) (fun i=>l.length - i) (fun _=>(mxd l w,())) (fun i hi=>by
  by_cases hlt:i<l.length
  ·left
   obtain ⟨p,hp⟩:=z0l hlt
   have gp:=z0x hp
   obtain ⟨d1,d2,d3,_⟩:=y5x hw (hb p (List.mem_of_getElem? hp))
   have c1:(i:Int)<(l.length:Int):=by omega
   have c2:(i:Int)≥0:=by omega
   have hwr:=z00 (i:=i) (by omega)
   refine ⟨i+1,?_,by omega,by omega,rfl⟩
   rw [z0m hp,List.foldl_append,List.foldl_cons,List.foldl_nil]
   simp only [w6m,z0q,z0r,z0g,z0u,z0t,z1b,z0i,z0c,z0a,z0z,hwr,c1,c2,gp,d1,d2,d3]
  ·right
   have:i=l.length:=by omega
   subst this
   have hn:¬ ((l.length:Int)<(l.length:Int)):=by omega
   rw [List.take_length]
   simp only [w6m,z0q,z0r,hn]
   rfl) 0 (Nat.zero_le _)
 obtain ⟨p,hp⟩:=z0l (l:=l) (i:=0) hl1
 have gp:=z0x hp
 obtain ⟨d1,d2,d3,_⟩:=y5x hw (hb p (List.mem_of_getElem? hp))
 have z0:(0:Int).toNat=0:=rfl
 have k0:((0:Nat):Int)=0:=rfl
 rw [List.take_zero,List.foldl_nil,k0,z4t hp] at key
 unfold G78
 simp only [g78,it0_eq,z0q,z0r,z0g,z0u,z0t,z1b,z0i,z0c,z0a,z0z,z0,gp,d1,d2,d3,key]
theorem w3f {l:List Pt} (hl:l≠[]) (hn:l.length≤1000) {w:Pt} (hw:z1f w) (hb:∀ p∈l,z0s (-10000) 10000 p):g78 it0 std (z0d l,w.1,w.2,())=some (mxd l w,()):=v7i hl hn hw hb
theorem w0x {w:Pt} (hw:z1f w):z1f (ng w)∧IntKind.i64.wrap (0 - w.1)=(ng w).1∧IntKind.i64.wrap (0 - w.2)=(ng w).2:=by
 obtain ⟨w1,w2,w3,w4⟩:=hw
 refine ⟨?_,?_,?_⟩
 ·simp only [z1f,ng]; omega
 ·rw [z09 _ (by omega) (by omega)]; simp only [ng]; omega
 ·rw [z09 _ (by omega) (by omega)]; simp only [ng]; omega
theorem w9m {l:List Pt} (hl:l≠[]) {w:Pt} (hw:z1f w) (hb:∀ p∈l,z0s (-10000) 10000 p): -20971520000≤mxd l w∧mxd l w≤20971520000:=by
 obtain ⟨p,hp,h⟩:=(y85 hl w).2
 have:=(y5x hw (hb p hp)).2.2.2
 omega
theorem w0m {a b:List Pt} (ha:a≠[]) (hb:b≠[]) (w:Pt):mxd a w< - mxd b (ng w)↔y2t a b w:=by
 obtain ⟨a1,p,hp,a2⟩:=y85 ha w
 obtain ⟨b1,q,hq,b2⟩:=y85 hb (ng w)
 have e:∀ x:Pt,dt (ng w) x= - dt w x:=fun x=>by simp only [dt,ng]; grind
 constructor
 ·intro h p' hp' q' hq'
  have:=a1 p' hp'
  have:=b1 q' hq'
  rw [e] at this
  omega
 ·intro h
  have:=h p hp q hq
  rw [e] at b2
  omega
instance (a b:List Pt) (w:Pt):Decidable (y2t a b w):=by unfold y2t; infer_instance
theorem v7e {a b:List Pt} (ha:a≠[]) (hb:b≠[]) (la:a.length≤1000) (lb:b.length≤1000) {w:Pt} (hw:z1f w) (ba:∀ p∈a,z0s (-10000) 10000 p) (bb:∀ p∈b,z0s (-10000) 10000 p):
  G92 std (z0d a,z0d b,w.1,w.2,())=some (mxd a w,decide (y2t a b w),()):=by
 obtain ⟨n1,n2,n3⟩:=w0x hw
 have h1:=w3f ha la hw ba
 have h2:=w3f hb lb n1 bb
 have hx:=w9m hb n1 bb
 have e:IntKind.i64.wrap (0 - mxd b (ng w))= - mxd b (ng w):=by rw [z09]<;>omega
 have e2:decide (mxd a w< - mxd b (ng w))=decide (y2t a b w):=by rw [decide_eq_decide]; exact w0m ha hb w
 unfold G92
 simp only [g92,z19,z20,z2t,z0h,n2,n3,h1,h2,Option.bind_some,e,z3z,e2,z4y,decide_true,if_true]
theorem x99 {a b:List Pt} {i:Nat} {p:Pt} (h:a[i]?=some p):(a.take (i+1)).flatMap (fun p=>b.map fun q=>sb q p)=(a.take i).flatMap (fun p=>b.map fun q=>sb q p)++b.map fun q=>sb q p:=by
 rw [z0m h]; simp
theorem y9h {a b:List Pt}:(a.flatMap fun p=>b.map fun q=>sb q p).length=a.length*b.length:=by
 induction a with
 |nil=>simp
 |cons p a ih=>rw [List.flatMap_cons,List.length_append,ih,List.length_map,List.length_cons,Nat.add_mul,Nat.one_mul,Nat.add_comm]
theorem w8r {a b:List Pt} {i:Nat} {p:Pt} (hp:z1f p) (hb:∀ x∈b,z1f x) (hbl:b.length≤100) (o:List Pt) (ho:o.length≤100000) (x y z n j:Int):
  z3w (w26 std) (z0d o,x,y,z,p.1,p.2,z0d a,z0d b,z0d a,n,j,z0d b,(b.length:Int),(0:Int),())=some (z0d (o++b.map fun q=>sb q p),x,y,z,z0d a,z0d b,z0d a,n,j,()):=by
 have key:=z3g (b:=w26 std) (fun (i:Nat)=>(z0d (o++(b.take i).map fun q=>sb q p),x,y,z,p.1,p.2,z0d a,z0d b,z0d a,n,j,z0d b,(b.length:Int),(i:Int),())) (fun i=>i≤b.length) (fun i=>b.length - i) (fun _=>(z0d (o++b.map fun q=>sb q p),x,y,z,z0d a,z0d b,z0d a,n,j,())) (fun i hi=>by
  by_cases hlt:i<b.length
  ·left
   obtain ⟨q,hq⟩:=z0l hlt
   have gq:=z0x hq
   obtain ⟨d1,d2⟩:=z3n (hb q (List.mem_of_getElem? hq)) hp
   have c1:(i:Int)<(b.length:Int):=by omega
   have c2:(i:Int)≥0:=by omega
   have hw:=z00 (i:=i) (by omega)
   have htk:(z0d (o++(b.take i).map fun q=>sb q p)).take (o++(b.take i).map fun q=>sb q p).length=z0d (o++(b.take i).map fun q=>sb q p):=by rw [List.take_of_length_le (by rw [z0c]; omega)]
   have hap:z0d (o++(b.take i).map fun q=>sb q p)++[eP (sb q p)]=z0d (o++(b.take (i+1)).map fun q=>sb q p):=by rw [z0m hq]; simp [z0d]
   have hal:(o++(b.take i).map fun q=>sb q p).length+1=(o++(b.take (i+1)).map fun q=>sb q p).length:=by simp; omega
   have hl1:(o++(b.take (i+1)).map fun q=>sb q p).length≤1000000:=by simp; omega
   refine ⟨i+1,?_,by omega,by omega,rfl⟩
   simp only [w26,z0q,z0r,z0g,z0u,z0t,z1b,z0i,z0c,z0a,z0h,hw,c1,c2,gq,d1,d2,htk,hap,hal,hl1,List.drop_zero,List.take_succ_cons,List.take_zero,Nat.le_refl]
  ·right
   have:i=b.length:=by omega
   subst this
   have hn:¬ ((b.length:Int)<(b.length:Int)):=by omega
   simp only [w26,z0q,z0r,hn,List.take_length]) 0 (Nat.zero_le _)
 simpa using key
theorem w30 {a b:List Pt} (ha:∀ x∈a,z1f x) (hb:∀ x∈b,z1f x) (hal:a.length≤100) (hbl:b.length≤100):
  z3w (x41 it0 std) ([],(0:Int),(0:Int),(0:Int),z0d a,z0d b,z0d a,(a.length:Int),(0:Int),())=some (z0d (a.flatMap fun p=>b.map fun q=>sb q p),(0:Int),(0:Int),(0:Int),z0d a,z0d b,()):=by
 have key:=z3g (b:=x41 it0 std) (fun (i:Nat)=>(z0d ((a.take i).flatMap fun p=>b.map fun q=>sb q p),(0:Int),(0:Int),(0:Int),z0d a,z0d b,z0d a,(a.length:Int),(i:Int),())) (fun i=>i≤a.length) (fun i=>a.length - i) (fun _=>(z0d (a.flatMap fun p=>b.map fun q=>sb q p),(0:Int),(0:Int),(0:Int),z0d a,z0d b,())) (fun i hi=>by
  by_cases hlt:i<a.length
  ·left
   obtain ⟨p,hp⟩:=z0l hlt
   have gp:=z0x hp
   have hfl:((a.take i).flatMap fun p=>b.map fun q=>sb q p).length≤100000:=by
    rw [y9h]
    have:=Nat.mul_le_mul (show (a.take i).length≤100 by simp; omega) hbl
    omega
   have hrow:=w8r (a:=a) (i:=i) (ha p (List.mem_of_getElem? hp)) hb hbl _ hfl 0 0 0 (a.length:Int) (i:Int)
   rw [←x99 hp] at hrow
   have c1:(i:Int)<(a.length:Int):=by omega
   have c2:(i:Int)≥0:=by omega
   have hw:=z00 (i:=i) (by omega)
   refine ⟨i+1,?_,by omega,by omega,rfl⟩
   simp only [x41,it0_eq,hrow,z0q,z0r,z0g,z0u,z0t,z1b,z0i,z0c,z0a,hw,c1,c2,gp,z0c]
  ·right
   have:i=a.length:=by omega
   subst this
   have hn:¬ ((a.length:Int)<(a.length:Int)):=by omega
   simp only [x41,z0q,z0r,hn,List.take_length]) 0 (Nat.zero_le _)
 simpa [z0d] using key
def ups (w:Pt):List Pt:=[(w.2, -w.1),(-w.2,w.1)]
theorem x5e {l:List Pt} {i:Nat} {w:Pt} (h:l[i]?=some w):(l.take (i+1)).flatMap ups=(l.take i).flatMap ups++ups w:=by
 rw [z0m h]; simp
theorem x3s (l:List Pt):(l.flatMap ups).length=2*l.length:=by
 induction l with
 |nil=>rfl
 |cons w l ih=>rw [List.flatMap_cons,List.length_append,ih,List.length_cons]; simp [ups]; omega
theorem x1o {S c:List Pt} (hc:Cyc S c) (hs:∀ x∈c,z0s (-5000) 5000 x) (hl:c.length≤1000) (o:List Pt) (ho:o.length≤100000) (Ls X Y:List (List D)) (x y z n i:Int):
  z3w (x3d std) (Ls,z0d o,x,y,z,z0d c,n,X,Y,i,z0d c,(c.length:Int),(0:Int),())=some (.inl (Ls,z0d (o++(wy c).flatMap ups),x,y,z,z0d c,n,X,Y,i,()))∨
  z3w (x3d std) (Ls,z0d o,x,y,z,z0d c,n,X,Y,i,z0d c,(c.length:Int),(0:Int),())=some (.inr (Ls,z0d (o++(wy c).flatMap ups),x,y,z,z0d c,n,X,Y,i,())):=by
 have hsm:∀ x∈c,z1f x:=fun x hx=>z1w (hs x hx)
 by_cases h2:2≤c.length
 ·right
  have hnz:=y72 hc h2
  have hwl:=w7c h2
  have hwb:=x0p hs
  have key:=z3g (b:=x3d std) (fun (j:Nat)=>(Ls,z0d (o++((wy c).take j).flatMap ups),x,y,z,z0d c,n,X,Y,i,z0d c,(c.length:Int),(j:Int),())) (fun j=>j≤c.length) (fun j=>c.length - j) (fun _=>Sum.inr (Ls,z0d (o++(wy c).flatMap ups),x,y,z,z0d c,n,X,Y,i,())) (fun j hj=>by
   by_cases hlt:j<c.length
   ·left
    obtain ⟨u,hx⟩:=z0l hlt
    obtain ⟨v,hy⟩:=z0l (l:=c) (i:=(j+1) % c.length) (Nat.mod_lt _ (by omega))
    have hw:=w7d h2 hx hy
    have hwm:=List.mem_of_getElem? hw
    have hne:=hnz _ hwm
    have hbw:=hwb _ hwm
    obtain ⟨m1,m2⟩:=y5a (i:=j) (n:=c.length) (by omega) (by omega)
    have gx:=z0x hx
    have gy:=z0x hy
    obtain ⟨d1,d2⟩:=z3n (hsm v (List.mem_of_getElem? hy)) (hsm u (List.mem_of_getElem? hx))
    have e1:IntKind.i64.wrap (0 - (sb v u).1)= -(sb v u).1:=by obtain ⟨q1,q2,q3,q4⟩:=hbw; rw [z09]<;>omega
    have e2:IntKind.i64.wrap (0 - (sb v u).2)= -(sb v u).2:=by obtain ⟨q1,q2,q3,q4⟩:=hbw; rw [z09]<;>omega
    have c1:(j:Int)<(c.length:Int):=by omega
    have c2:(j:Int)≥0:=by omega
    have c3:¬ (c.length:Int)=0:=by omega
    have c4:(((j+1) % c.length:Nat):Int)≥0:=by omega
    have c5:(((j+1) % c.length:Nat):Int)<(c.length:Int):=by have:=Nat.mod_lt (j+1) (show 0<c.length by omega); omega
    have hol2:(o++((wy c).take (j+1)).flatMap ups).length≤1000000:=by rw [List.length_append,x3s]; simp; omega
    have htk:(z0d (o++((wy c).take j).flatMap ups)).take (o++((wy c).take j).flatMap ups).length=z0d (o++((wy c).take j).flatMap ups):=by rw [List.take_of_length_le (by rw [z0c]; omega)]
    have hap:z0d (o++((wy c).take j).flatMap ups)++[[D.int IntKind.i64 (sb v u).2,D.int IntKind.i64 (-(sb v u).1)],[D.int IntKind.i64 (-(sb v u).2),D.int IntKind.i64 (sb v u).1]]=z0d (o++((wy c).take (j+1)).flatMap ups):=by
     rw [x5e hw]; simp [z0d,ups,eP]
    have hal:(o++((wy c).take j).flatMap ups).length+(1+1)=(o++((wy c).take (j+1)).flatMap ups).length:=by rw [x5e hw]; simp [ups]; omega
    have hne':¬ ((sb v u).1=0∧(sb v u).2=0):=fun e=>hne (Prod.ext e.1 e.2)
    have hz:(if (sb v u).1=0 then if (sb v u).2=0 then true else false else false)=false:=by
     by_cases q1:(sb v u).1=0
     ·rw [if_pos q1,if_neg (fun e=>hne (Prod.ext q1 e))]
     ·rw [if_neg q1]
    refine ⟨j+1,?_,by omega,by omega,rfl⟩
    simp only [x3d,z0q,z0r,z0g,z0u,z0t,z0c,z0a,z02,z0h,m1,m2,gx,gy,d1,d2,e1,e2,c1,c2,c3,c4,c5,hz,htk,hol2,List.drop_zero,List.take_succ_cons,List.take_zero,hap,hal,Nat.le_refl,not_false_eq_true,show (1:Nat)≤2 by decide]
   ·right
    have:j=c.length:=by omega
    subst this
    have hn:¬ ((c.length:Int)<(c.length:Int)):=by omega
    rw [←hwl,List.take_length,hwl]
    simp only [x3d,z0q,z0r,hn]) 0 (Nat.zero_le _)
  simpa using key
 ·left
  have hc1:∃ x,c=[x]:=by
   match c,hc,h2 with
   |[x],_,_=>exact ⟨x,rfl⟩
   |a::b::r,_,h2=>exact absurd (by simp) h2
  obtain ⟨u,rfl⟩:=hc1
  have gx:=z0x (l:=[u]) (i:=0) rfl
  obtain ⟨d1,d2⟩:=z3n (hsm u (by simp)) (hsm u (by simp))
  have z1:(sb u u).1=0:=by simp [sb]
  have z2:(sb u u).2=0:=by simp [sb]
  rw [z1] at d1
  rw [z2] at d2
  have w1:IntKind.i64.wrap 1=1:=by decide
  have t1:(1:Int).tmod 1=0:=by decide
  rw [z0j]
  have:x3d std (Ls,z0d o,x,y,z,z0d [u],n,X,Y,i,z0d [u],(([u]:List Pt).length:Int),(0:Int),())=some (.inr (.inl (Ls,z0d (o++(wy [u]).flatMap ups),x,y,z,z0d [u],n,X,Y,i,()))):=by
   have e:(wy [u]).flatMap ups=[]:=rfl
   rw [e,List.append_nil]
   have l1:((0+1:Nat):Int)=1:=rfl
   simp only [x3d,z0q,z0r,z0g,z0u,z0t,z1b,z0i,z0c,z0a,z02,z0h,l1,Int.zero_add,w1,t1,gx,d1,d2,Int.toNat_zero,ge_iff_le,Int.le_refl,show (0:Int)<1 by decide,show ¬ (1:Int)=0 by decide,not_false_eq_true]
  rw [this]
theorem x3t {a b:List Pt} (ha:∀ x∈a,z0s (-5000) 5000 x) (hb:∀ x∈b,z0s (-5000) 5000 x):∀ w∈z5o a b,z0s (-10000) 10000 w:=by
 intro w hw
 rcases List.mem_append.1 hw with h|h
 ·obtain ⟨p,hp,h⟩:=List.mem_flatMap.1 h
  obtain ⟨q,hq,rfl⟩:=List.mem_map.1 h
  exact z8b (hb q hq) (ha p hp)
 ·obtain ⟨v,hv,h⟩:=List.mem_flatMap.1 h
  have bv:z0s (-10000) 10000 v:=by
   rcases List.mem_append.1 hv with h|h
   ·exact x0p ha v h
   ·exact x0p hb v h
  simp only [z0s] at*
  simp at h
  rcases h with rfl|rfl<;>simp only<;>omega
def y5d (a b:List Pt):(Int×Int×Int)×Bool:=match (z5o a b).find? (fun w=>decide (y2t a b w)) with
 |some w=>((w.1,w.2,mxd a w),true)
 |none=>((0,0,0),false)
theorem x9v {a b:List Pt} (la:a.length≤60) (lb:b.length≤60):(z5o a b).length≤10000:=by
 unfold z5o
 have h1:=y9h (a:=a) (b:=b)
 have h2:=x3s (wy a++wy b)
 have:=z7i a
 have:=z7i b
 have:=Nat.mul_le_mul la lb
 have e:((wy a++wy b).flatMap fun w=>[(w.2, -w.1),(-w.2,w.1)])=(wy a++wy b).flatMap ups:=rfl
 rw [e,List.length_append,h1,h2,List.length_append]
 omega
theorem v7p {A B a b:List Pt} (hA:Cyc A a) (hB:Cyc B b) (ka:∀ x∈a,z0s (-5000) 5000 x) (kb:∀ x∈b,z0s (-5000) 5000 x) (la:a.length≤60) (lb:b.length≤60):
  G63 std (z0d a,z0d b,())=some ((y5d a b).1.1,(y5d a b).1.2.1,(y5d a b).1.2.2,(y5d a b).2,()):=by
 have sa:∀ x∈a,z1f x:=fun x hx=>z1w (ka x hx)
 have sb':∀ x∈b,z1f x:=fun x hx=>z1w (kb x hx)
 have ane:=z8z (z2a hA)
 have bne:=z8z (z2a hB)
 have h1:=w30 sa sb' (by omega) (by omega)
 generalize ho:(a.flatMap fun p=>b.map fun q=>sb q p)=o at h1
 have hol:o.length≤3600:=by rw [←ho,y9h]; exact Nat.mul_le_mul la lb
 have ht:z5o a b=o++(wy a).flatMap ups++(wy b).flatMap ups:=by
  unfold z5o
  rw [ho,List.append_assoc, ←List.flatMap_append]; rfl
 have hways:z3w (y3r it0 std) ([[D.list false 2 (z0d a)],[D.list false 2 (z0d b)]],z0d o,(0:Int),(0:Int),(0:Int),z0d a,z0d b,(2:Int),(0:Int),())=some (z0d (z5o a b),(0:Int),(0:Int),(0:Int),z0d a,z0d b,()):=by
  generalize hL:[[D.list false 2 (z0d a)],[D.list false 2 (z0d b)]]=L
  have r0:std.rdL L 0 0=z0d a:=by subst hL; rfl
  have r1:std.rdL L 1 0=z0d b:=by subst hL; rfl
  have k0:std.rowOk L 0 [CK.list 2]=true:=by subst hL; rfl
  have k1:std.rowOk L 1 [CK.list 2]=true:=by subst hL; rfl
  have hl2:L.length=2:=by subst hL; rfl
  have e1:(0:Int).toNat=0:=rfl
  have e2:(1:Int).toNat=1:=rfl
  have v1:IntKind.i64.wrap ((0:Int)+1)=1:=by decide
  have v2:IntKind.i64.wrap ((1:Int)+1)=2:=by decide
  have v1':IntKind.i64.wrap 1=1:=by decide
  have v2':IntKind.i64.wrap 2=2:=by decide
  have t0:y3r it0 std (L,z0d o,(0:Int),(0:Int),(0:Int),z0d a,z0d b,(2:Int),(0:Int),())=some (.inl (L,z0d (o++(wy a).flatMap ups),(0:Int),(0:Int),(0:Int),z0d a,z0d b,(2:Int),(1:Int),())):=by
   have hw:=x1o hA ka (by omega) o (by omega) L (z0d b) (z0d a) 0 0 0 2 0
   rcases hw with hw|hw
   ·simp only [y3r,it0_eq,z19,z34,z2t,z20,z31,z6p,z3z,z4h,z5q,z8f,z2p,z1j,e1,Nat.zero_add,r0,k0,hl2,z0c,hw,Option.bind_some,Sum.elim_inl,Sum.elim_inr,z0a,v1,z4y,z5k]
    simp [v1']
   ·simp only [y3r,it0_eq,z19,z34,z2t,z20,z31,z6p,z3z,z4h,z5q,z8f,z2p,z1j,e1,Nat.zero_add,r0,k0,hl2,z0c,hw,Option.bind_some,Sum.elim_inl,Sum.elim_inr,z0a,v1,z4y,z5k]
    simp [v1']
  have t1:y3r it0 std (L,z0d (o++(wy a).flatMap ups),(0:Int),(0:Int),(0:Int),z0d a,z0d b,(2:Int),(1:Int),())=some (.inl (L,z0d (z5o a b),(0:Int),(0:Int),(0:Int),z0d a,z0d b,(2:Int),(2:Int),())):=by
   have hw:=x1o hB kb (by omega) (o++(wy a).flatMap ups) (by rw [List.length_append,x3s]; have:=z7i a; omega) L (z0d b) (z0d a) 0 0 0 2 1
   rw [←ht] at hw
   rcases hw with hw|hw
   ·simp only [y3r,it0_eq,z19,z34,z2t,z20,z31,z6p,z3z,z4h,z5q,z8f,z2p,z1j,e2,Nat.zero_add,r1,k1,hl2,z0c,hw,Option.bind_some,Sum.elim_inl,Sum.elim_inr,z0a,v2,z4y,z5k]
    simp [v2']
   ·simp only [y3r,it0_eq,z19,z34,z2t,z20,z31,z6p,z3z,z4h,z5q,z8f,z2p,z1j,e2,Nat.zero_add,r1,k1,hl2,z0c,hw,Option.bind_some,Sum.elim_inl,Sum.elim_inr,z0a,v2,z4y,z5k]
    simp [v2']
  have t2:y3r it0 std (L,z0d (z5o a b),(0:Int),(0:Int),(0:Int),z0d a,z0d b,(2:Int),(2:Int),())=some (.inr (z0d (z5o a b),(0:Int),(0:Int),(0:Int),z0d a,z0d b,())):=by
   have c1:¬ (2:Int)<2:=by omega
   simp only [y3r,z0q,z0r,c1]
  rw [z0j,t0]
  simp only
  rw [z0j,t1]
  simp only
  rw [z0j,t2]
 have htl:=x9v la lb
 have hts:=x3t ka kb
 have key:=z3d (b:=x40 it0 std) (z5o a b).length (fun i=>(z0d (z5o a b),(0:Int),(0:Int),(0:Int),(0:Int),(0:Int),(0:Int),z0d a,z0d b,false,((z5o a b).length:Int),(i:Int),())) (fun i=>decide (y2t a b ((z5o a b).getD i (0,0))))
  (fun i=>((0:Int),(0:Int),(0:Int),((z5o a b).getD i (0,0)).1,((z5o a b).getD i (0,0)).2,mxd a ((z5o a b).getD i (0,0)),true,())) ((0:Int),(0:Int),(0:Int),(0:Int),(0:Int),(0:Int),false,()) (fun i hi=>by
  obtain ⟨w,hw⟩:=z0l hi
  have gw:=z0x hw
  rw [z4t hw]
  have hwb:=hts w (List.mem_of_getElem? hw)
  have hws:z1f w:=by simp only [z0s,z1f] at*; omega
  have h92:g92 it0 std (z0d a,z0d b,w.1,w.2,())=_:=v7e ane bne (by omega) (by omega) hws (fun x hx=>by have:=ka x hx; simp only [z0s] at*; omega) (fun x hx=>by have:=kb x hx; simp only [z0s] at*; omega)
  have c1:(i:Int)<((z5o a b).length:Int):=by omega
  have c2:(i:Int)≥0:=by omega
  have hwr:=z00 (i:=i) (by omega)
  by_cases hp:y2t a b w
  ·simp only [x40,z0q,z0r,z0g,z0u,z0t,z1b,z0i,z0c,z0a,hwr,c1,c2,gw,h92,hp]
  ·simp only [x40,z0q,z0r,z0g,z0u,z0t,z1b,z0i,z0c,z0a,hwr,c1,c2,gw,h92,hp]) (by
  have hn:¬ (((z5o a b).length:Int)<((z5o a b).length:Int)):=by omega
  simp only [x40,z0q,z0r,hn])
 have e0:((0:Nat):Int)=0:=rfl
 rw [e0] at key
 have e2:std.ofNat 2=(2:Int):=rfl
 unfold G63 y5d
 rcases key with ⟨i,i1,i2,i3,i4⟩|⟨i1,i2⟩
 ·rw [y5l (d:=(0,0)) i1 i2 i3]
  simp only [g63,it0_eq,e2,hways,h1,i4,z0q,z0r,z0c]
 ·rw [y5m (d:=(0,0)) i1]
  simp only [g63,it0_eq,e2,hways,h1,i2,z0q,z0r,z0c]
theorem x0l {l:List Pt} {hs:List (List Pt)} (hf:z5n l hs) {m:List Pt} {ks:List (List Pt)} (hk:z5n m ks):
  g63 it0 std (z0d (z1k (z1y l hs)),z0d (z1k (z1y m ks)),())=some ((y5d (z1k (z1y l hs)) (z1k (z1y m ks))).1.1,(y5d (z1k (z1y l hs)) (z1k (z1y m ks))).1.2.1,(y5d (z1k (z1y l hs)) (z1k (z1y m ks))).1.2.2,(y5d (z1k (z1y l hs)) (z1k (z1y m ks))).2,()):=
 v7p hf.cyc hk.cyc hf.cbox hk.cbox (z3x hf) (z3x hk)
end Go.Am
end
section
namespace Go.Am
open M06
def amt (n:Int):Int:=max n (IntKind.i64.wrap (0 - n))
theorem v7j (n:Int):G77 std (n,())=some (amt n,()):=by
 unfold G77 amt
 simp only [z2t,x5m,z0h]
theorem v68 {n:Int} (h1: -9223372036854775808≤n) (h2:n≤9223372036854775807):(n= -9223372036854775808∧amt n=n)∨(n≠ -9223372036854775808∧amt n=max n (-n)):=by
 by_cases h:n= -9223372036854775808
 ·left
  subst h
  exact ⟨rfl,by unfold amt; decide⟩
 ·right
  refine ⟨h,?_⟩
  unfold amt
  rw [z09 _ (by omega) (by omega)]
  omega
def v4u (A B C:Int):Prop:=¬ (A=0∧B=0)∧ -1048576≤A∧A≤1048576∧ -1048576≤B∧B≤1048576∧ -1099511627776≤C∧C≤1099511627776
instance (A B C:Int):Decidable (v4u A B C):=by unfold v4u; infer_instance
def okL (a b:List Pt) (A B C:Int):Prop:=(∀ p∈a,dt (A,B) p≤C)∧∀ q∈b,C<dt (A,B) q
instance (a b:List Pt) (A B C:Int):Decidable (okL a b A B C):=by unfold okL; infer_instance
theorem w8d (l:List Pt) (hs:List (List Pt)) (m:List Pt) (ks:List (List Pt)):G72 std (z0d l,z1i hs,z0d m,z1i ks,())=some (if z51 l hs≠0 then z51 l hs else z51 m ks,()):=by
 unfold G72
 have h1:g19 it0 std (z0d l,z1i hs,())=some (z51 l hs,()):=w3j l hs
 have h2:g19 it0 std (z0d m,z1i ks,())=some (z51 m ks,()):=w3j m ks
 by_cases h:z51 l hs=0
 ·simp only [g72,z0q,z0r,h1,h2,h,not_true,ne_eq]
 ·simp only [g72,z0q,z0r,h1,h2,h,not_false_eq_true,ne_eq]
end Go.Am
end
section
namespace Go.Am
open M06
theorem w5z {a b:List Pt} {i:Nat} {p:Pt} (h:a[i]?=some p):dif (a.take (i+1)) b=dif (a.take i) b++b.map fun q=>sb p q:=by
 unfold dif
 rw [z0m h]; simp
theorem y9r (a b:List Pt):(dif a b).length=a.length*b.length:=by
 unfold dif
 induction a with
 |nil=>simp
 |cons p a ih=>rw [List.flatMap_cons,List.length_append,ih,List.length_map,List.length_cons,Nat.add_mul,Nat.one_mul,Nat.add_comm]
theorem v0v {a b:List Pt} {i:Nat} {p:Pt} (hp:a[i]?=some p) (hps:z1f p) (hb:∀ x∈b,z1f x) (hi:i≤1000) (hbl:b.length≤100) (o:List Pt) (ho:o.length≤100000):
  z3w (w24 std) (z0d o,z0d a,z0d b,(i:Int),(0:Int),())=some (z0d (o++b.map fun q=>sb p q),z0d a,z0d b,(i:Int),()):=by
 have key:=z3g (b:=w24 std) (fun (j:Nat)=>(z0d (o++(b.take j).map fun q=>sb p q),z0d a,z0d b,(i:Int),(j:Int),())) (fun j=>j≤b.length) (fun j=>b.length - j) (fun _=>(z0d (o++b.map fun q=>sb p q),z0d a,z0d b,(i:Int),())) (fun j hj=>by
  by_cases hlt:j<b.length
  ·left
   obtain ⟨q,hq⟩:=z0l hlt
   have gq:=z0x hq
   have gp:=z0x hp
   obtain ⟨d1,d2⟩:=z3n hps (hb q (List.mem_of_getElem? hq))
   have c1:(j:Int)<(b.length:Int):=by omega
   have c2:(j:Int)≥0:=by omega
   have c3:(i:Int)≥0:=by omega
   have hw:=z00 (i:=j) (by omega)
   have htk:(z0d (o++(b.take j).map fun q=>sb p q)).take (o++(b.take j).map fun q=>sb p q).length=z0d (o++(b.take j).map fun q=>sb p q):=by rw [List.take_of_length_le (by rw [z0c]; omega)]
   have hap:z0d (o++(b.take j).map fun q=>sb p q)++[eP (sb p q)]=z0d (o++(b.take (j+1)).map fun q=>sb p q):=by rw [z0m hq]; simp [z0d]
   have hal:(o++(b.take j).map fun q=>sb p q).length+1=(o++(b.take (j+1)).map fun q=>sb p q).length:=by simp; omega
   have hl1:(o++(b.take (j+1)).map fun q=>sb p q).length≤1000000:=by simp; omega
   refine ⟨j+1,?_,by omega,by omega,rfl⟩
   simp only [w24,z0q,z0r,z0g,z0u,z0t,z1b,z0i,z0c,z0a,z0h,hw,c1,c2,c3,gq,gp,d1,d2,htk,hap,hal,hl1,List.drop_zero,List.take_succ_cons,List.take_zero,Nat.le_refl]
  ·right
   have:j=b.length:=by omega
   subst this
   have hn:¬ ((b.length:Int)<(b.length:Int)):=by omega
   simp only [w24,z0q,z0r,z0c,hn,List.take_length]) 0 (Nat.zero_le _)
 simpa using key
theorem w51 {a b:List Pt} (ha:∀ x∈a,z1f x) (hb:∀ x∈b,z1f x) (hal:a.length≤100) (hbl:b.length≤100):
  z3w (w2z it0 std) ([],z0d a,z0d b,(0:Int),())=some (z0d (dif a b),()):=by
 have key:=z3g (b:=w2z it0 std) (fun (i:Nat)=>(z0d (dif (a.take i) b),z0d a,z0d b,(i:Int),())) (fun i=>i≤a.length) (fun i=>a.length - i) (fun _=>(z0d (dif a b),())) (fun i hi=>by
  by_cases hlt:i<a.length
  ·left
   obtain ⟨p,hp⟩:=z0l hlt
   have hfl:(dif (a.take i) b).length≤100000:=by
    rw [y9r]
    have:=Nat.mul_le_mul (show (a.take i).length≤100 by simp; omega) hbl
    omega
   have hrow:=v0v hp (ha p (List.mem_of_getElem? hp)) hb (by omega) hbl _ hfl
   rw [←w5z hp] at hrow
   have c1:(i:Int)<(a.length:Int):=by omega
   have c2:(i:Int)≥0:=by omega
   have hw:=z00 (i:=i) (by omega)
   refine ⟨i+1,?_,by omega,by omega,rfl⟩
   simp only [w2z,it0_eq,hrow,z0q,z0r,z0c,z0a,hw,c1,c2]
  ·right
   have:i=a.length:=by omega
   subst this
   have hn:¬ ((a.length:Int)<(a.length:Int)):=by omega
   simp only [w2z,z0q,z0r,z0c,hn,List.take_length]) 0 (Nat.zero_le _)
 simpa [dif,z0d] using key
theorem y9s {a b:List Pt} (ha:∀ x∈a,z0s (-5000) 5000 x) (hb:∀ x∈b,z0s (-5000) 5000 x):∀ x∈dif a b,z0s (-10000) 10000 x:=by
 intro x hx
 obtain ⟨p,hp,q,hq,rfl⟩:=z3f.1 hx
 exact z8b (ha p hp) (hb q hq)
theorem y1r {a b:List Pt} (ha:a≠[]) (hb:b≠[]):dif a b≠[]:=by
 match a,b,ha,hb with
 |p::a,q::b,_,_=>intro e; have:=(z3f (a:=p::a) (b:=q::b)).2 ⟨p,by simp,q,by simp,rfl⟩; rw [e] at this; simp at this
theorem w8a {l:List Pt} {hs:List (List Pt)} (hf:z5n l hs) {m:List Pt} {ks:List (List Pt)} (hk:z5n m ks):
  G95 std (z0d l,z1i hs,z0d m,z1i ks,())=some (z0d (z1k (dif (z1k (z1y l hs)) (z1k (z1y m ks)))),()):=by
 have a49:g49 it0 std (z0d l,z1i hs,())=_:=w8k hf
 have b49:g49 it0 std (z0d m,z1i ks,())=_:=w8k hk
 have la:=z3x hf
 have lb:=z3x hk
 have hd:=w51 (a:=z1k (z1y l hs)) (b:=z1k (z1y m ks)) (fun x hx=>z1w (hf.cbox x hx)) (fun x hx=>z1w (hk.cbox x hx)) (by omega) (by omega)
 have hbx:=y9s hf.cbox hk.cbox
 have hne:=y1r (z3h hf.allNe) (z3h hk.allNe)
 have hlen:(dif (z1k (z1y l hs)) (z1k (z1y m ks))).length≤3600:=by rw [y9r]; exact Nat.mul_le_mul la lb
 have h61:g61 it0 std (z0d (dif (z1k (z1y l hs)) (z1k (z1y m ks))),())=_:=x7e (by omega) hne (fun x hx=>z54 (k:=10000) (by omega) (hbx x hx))
 have htk:(z0d (dif (z1k (z1y l hs)) (z1k (z1y m ks)))).take (dif (z1k (z1y l hs)) (z1k (z1y m ks))).length=z0d (dif (z1k (z1y l hs)) (z1k (z1y m ks))):=by rw [List.take_of_length_le (by rw [z0c]; omega)]
 unfold G95
 simp only [g95,it0_eq,z0q,z0r,a49,b49,hd,z0c,Nat.le_refl,List.drop_zero,htk,h61]
noncomputable def z4o (l:List Pt) (hs:List (List Pt)) (m:List Pt) (ks:List (List Pt)):Bool:=inC (z1k (dif (z1k (z1y l hs)) (z1k (z1y m ks)))) (0,0) 1
theorem v7k {l:List Pt} {hs:List (List Pt)} (hf:z5n l hs) {m:List Pt} {ks:List (List Pt)} (hk:z5n m ks):
  G74 std (z0d l,z1i hs,z0d m,z1i ks,())=some (z4o l hs m ks,()):=by
 have h95:g95 it0 std (z0d l,z1i hs,z0d m,z1i ks,())=_:=w8a hf hk
 have hbx:=y9s hf.cbox hk.cbox
 have hne:=y1r (z3h hf.allNe) (z3h hk.allNe)
 have hD:=z18 hne
 have la:=z3x hf
 have lb:=z3x hk
 have hlen:(dif (z1k (z1y l hs)) (z1k (z1y m ks))).length≤3600:=by rw [y9r]; exact Nat.mul_le_mul la lb
 have h43:g43 it0 std (z0d (z1k (dif (z1k (z1y l hs)) (z1k (z1y m ks)))),0,0,1,())=_:=w8l hD (fun x hx=>hbx x (z4b hD x hx)) (by have:=y2n hD; omega) (p:=(0,0)) (by simp [Big,z0s]) (by omega) (by omega)
 unfold G74 z4o
 simp only [g74,g58,z0q,z0r,h95,h43]
theorem y2o {l:List Pt} {hs:List (List Pt)} (hf:z5n l hs) {m:List Pt} {ks:List (List Pt)} (hk:z5n m ks):
  (y5d (z1k (z1y l hs)) (z1k (z1y m ks))).2=!z4o l hs m ks:=by
 have ha:=z2a hf.cyc
 have hb:=z2a hk.cyc
 have hne:=y1r (z3h hf.allNe) (z3h hk.allNe)
 have hD:=z18 hne
 have hiff:=w83 ha hb
 have hin:z4o l hs m ks=true↔InH (dif (z1k (z1y l hs)) (z1k (z1y m ks))) (0,0) 1:=(y2h hD (by omega)).trans (z9y hD (by omega)).symm
 unfold y5d
 cases hc:z4o l hs m ks with
 |true=>
  have hno:¬ ∃ w∈z5o (z1k (z1y l hs)) (z1k (z1y m ks)),y2t (z1k (z1y l hs)) (z1k (z1y m ks)) w:=fun h=>hiff.1 h (hin.1 hc)
  rw [List.find?_eq_none.2 (fun w hw=>by simp only [decide_eq_true_eq]; exact fun hp=>hno ⟨w,hw,hp⟩)]
  rfl
 |false=>
  have hyes:=hiff.2 (fun h=>by rw [hin.2 h] at hc; cases hc)
  obtain ⟨w,hw,hp⟩:=hyes
  cases hfd:(z5o (z1k (z1y l hs)) (z1k (z1y m ks))).find? (fun w=>decide (y2t (z1k (z1y l hs)) (z1k (z1y m ks)) w)) with
  |none=>have:=List.find?_eq_none.1 hfd w hw; simp [hp] at this
  |some v=>rfl
end Go.Am
end
section
namespace Go.Am
open M06
def y3k (l:List Int):List (List D):=l.map fun n=>[D.int IntKind.i64 n]
theorem w0b {l:List Int} {i:Nat} {n:Int} (h:l[i]?=some n):(y3k l)[i]?=some [D.int IntKind.i64 n]:=by simp [y3k,h]
theorem x1t (l:List Int):(y3k l).length=l.length:=by simp [y3k]
def w96 (l:List Int):Nat:=l.foldl (fun g x=>Nat.gcd g x.natAbs) 0
theorem w5f (L:List (List D)) (u v:Int):∀ (n g:Nat),n<4611686018427387904→g<4611686018427387904→
  z3w (x9d std) ((g:Int),(n:Int),L,u,v,())=some ((Nat.gcd g n:Int),L,u,v,()):=by
 intro n
 induction n using Nat.strongRecOn with
 |_ n ih=>
  intro g hn hg
  rw [z0j]
  by_cases h:n=0
  ·subst h
   have:x9d std ((g:Int),((0:Nat):Int),L,u,v,())=some (.inr ((g:Int),L,u,v,())):=by
    have c1:((0:Nat):Int)=0:=rfl
    simp only [x9d,z0q,z0r,c1,not_true]
   rw [this,Nat.gcd_zero_right]
  ·have c1:¬ (n:Int)=0:=by omega
   have hr:((g:Int)).tmod (n:Int)=((g % n:Nat):Int):=by rw [Int.tmod_eq_emod_of_nonneg (by omega)]; rfl
   have:x9d std ((g:Int),(n:Int),L,u,v,())=some (.inl ((n:Int),((g % n:Nat):Int),L,u,v,())):=by
    simp only [x9d,z0q,z0r,c1,z02,hr,not_false_eq_true]
   rw [this]
   have hlt:=Nat.mod_lt g (show 0<n by omega)
   have:=ih (g % n) hlt n (by omega) hn
   simp only [this]
   rw [Nat.gcd_comm g n,Nat.gcd_rec n g,Nat.gcd_comm]
theorem v1r {n:Int} (h1: -4611686018427387904<n) (h2:n<4611686018427387904):amt n=(n.natAbs:Int):=by
 have:=v68 (n:=n) (by omega) (by omega)
 omega
theorem v4v {g n:Nat} (h1:g<4611686018427387904) (h2:n<4611686018427387904):Nat.gcd g n<4611686018427387904:=by
 rcases Nat.eq_zero_or_pos n with h|h
 ·subst h; rw [Nat.gcd_zero_right]; exact h1
 ·exact Nat.lt_of_le_of_lt (Nat.gcd_le_right g h) h2
theorem v7d {l:List Int} (hl:l.length≤1000) (hb:∀ n∈l, -4611686018427387904<n∧n<4611686018427387904):G93 std (y3k l,())=some ((w96 l:Int),()):=by
 have key:=z2c (b:=x85 it0 std) l.length (fun (g:Nat) (i:Nat)=>((g:Int),y3k l,(l.length:Int),(i:Int),())) (fun g i=>g=w96 (l.take i)∧g<4611686018427387904) (fun r=>r=((w96 l:Int),())) (fun g i hi ⟨h1,h2⟩=>by
  left
  obtain ⟨n,hn⟩:=z0l hi
  have gn:=w0b hn
  have hbn:=hb n (List.mem_of_getElem? hn)
  have c1:(i:Int)<(l.length:Int):=by omega
  have c2:(i:Int)≥0:=by omega
  have hw:=z00 (i:=i) (by omega)
  have h77:=v7j n
  rw [v1r hbn.1 hbn.2] at h77
  have hlp:=w5f (y3k l) (l.length:Int) (i:Int) n.natAbs g (by omega) h2
  refine ⟨Nat.gcd g n.natAbs,?_,?_,v4v h2 (by omega)⟩
  ·have cc:z2y [CK.int IntKind.i64] [D.int IntKind.i64 n]=true:=rfl
   have cd:dI (([D.int IntKind.i64 n]:List D)[0]?.getD D.nilp)=n:=rfl
   simp only [x85,it0_eq,z0q,z0r,x1t,z0a,hw,c1,c2,gn,cc,cd,h77,hlp]
  ·rw [h1,w96,w96,z0m hn,List.foldl_append]; rfl) (fun g ⟨h1,h2⟩=>by
  have hn':¬ ((l.length:Int)<(l.length:Int)):=by omega
  rw [List.take_length] at h1
  exact ⟨((g:Int),()),by simp only [x85,z0q,z0r,hn'],by rw [h1]⟩) 0 0 (Nat.zero_le _) ⟨rfl,by omega⟩
 obtain ⟨r,h1,rfl⟩:=key
 have e0:((0:Nat):Int)=0:=rfl
 rw [e0] at h1
 unfold G93
 simp only [g93,it0_eq,z0q,z0r,x1t,h1]
def v7c (P e Q f:Pt):Prop:=
 (0<crs e f∧0≤crs (sb Q P) f∧crs (sb Q P) f≤crs e f∧0≤crs (sb Q P) e∧crs (sb Q P) e≤crs e f)∨
 (0< - crs e f∧0≤ - crs (sb Q P) f∧ - crs (sb Q P) f≤ - crs e f∧0≤ - crs (sb Q P) e∧ - crs (sb Q P) e≤ - crs e f)
instance (P e Q f:Pt):Decidable (v7c P e Q f):=by unfold v7c; infer_instance
theorem v1e {e f:Pt} {A B:Int} (hA:0≤A) (he:z0s (-A) A e) (hf:z0s (-B) B f): -(2*(A*B))≤crs e f∧crs e f≤2*(A*B)∧(-(A*B)≤e.1*f.2∧e.1*f.2≤A*B)∧(-(A*B)≤e.2*f.1∧e.2*f.1≤A*B):=by
 obtain ⟨e1,e2,e3,e4⟩:=he
 obtain ⟨f1,f2,f3,f4⟩:=hf
 have m1:=z3a hA e1 e2 f3 f4
 have m2:=z3a hA e3 e4 f1 f2
 simp only [crs]
 omega
theorem y1u {e f:Pt} (he:z0s (-10000) 10000 e) (hf:z0s (-10000) 10000 f):IntKind.i64.wrap (e.1*f.2)=e.1*f.2∧IntKind.i64.wrap (e.2*f.1)=e.2*f.1∧IntKind.i64.wrap (e.1*f.2 - e.2*f.1)=crs e f∧ -200000000≤crs e f∧crs e f≤200000000:=by
 obtain ⟨h1,h2,h3,h4⟩:=v1e (A:=10000) (by omega) he hf
 exact ⟨z09 _ (by omega) (by omega),z09 _ (by omega) (by omega),by rw [z09 _ (by omega) (by omega)]; rfl,by omega,by omega⟩
end Go.Am
end
section
namespace Go.Am
open M06
def fr (n d:Nat):Pt:=(((n / Nat.gcd n d:Nat):Int),((d / Nat.gcd n d:Nat):Int))
theorem w1i (u v:Int) (x y:Int):∀ (n g:Nat),n<9223372036854775808→g<9223372036854775808→
  z3w (x9e std) (u,v,x,y,(g:Int),(n:Int),())=some (u,v,x,y,(Nat.gcd g n:Int),()):=by
 intro n
 induction n using Nat.strongRecOn with
 |_ n ih=>
  intro g hn hg
  rw [z0j]
  by_cases h:n=0
  ·subst h
   have:x9e std (u,v,x,y,(g:Int),((0:Nat):Int),())=some (.inr (u,v,x,y,(g:Int),())):=by
    have c1:((0:Nat):Int)=0:=rfl
    simp only [x9e,z0q,z0r,c1,not_true]
   rw [this,Nat.gcd_zero_right]
  ·have c1:¬ (n:Int)=0:=by omega
   have hr:((g:Int)).tmod (n:Int)=((g % n:Nat):Int):=by rw [Int.tmod_eq_emod_of_nonneg (by omega)]; rfl
   have:x9e std (u,v,x,y,(g:Int),(n:Int),())=some (.inl (u,v,x,y,(n:Int),((g % n:Nat):Int),())):=by
    simp only [x9e,z0q,z0r,c1,z02,hr,not_false_eq_true]
   rw [this]
   have hlt:=Nat.mod_lt g (show 0<n by omega)
   have:=ih (g % n) hlt n (by omega) hn
   simp only [this]
   rw [Nat.gcd_comm g n,Nat.gcd_rec n g,Nat.gcd_comm]
theorem y40 {n g:Nat} (hn:n<9223372036854775808):IntKind.i64.wrap ((n:Int).tdiv (g:Int))=((n / g:Nat):Int):=by
 have e:(n:Int).tdiv (g:Int)=((n / g:Nat):Int):=by rw [Int.tdiv_eq_ediv_of_nonneg (by omega)]; rfl
 have:=Nat.div_le_self n g
 rw [e]
 generalize n / g=k at*
 exact z09 _ (by omega) (by omega)
theorem v7r {n d:Nat} (hn:n<9223372036854775808) (hd:d<9223372036854775808) (h0:0<d):G34 std ((n:Int),(d:Int),())=some ((fr n d).1,(fr n d).2,()):=by
 unfold G34
 have hl:=w1i 0 0 n d d n hd hn
 have hg:=Nat.gcd_pos_of_pos_right n h0
 have c1:¬ ((Nat.gcd n d:Nat):Int)=0:=by omega
 have q1:=y40 (g:=Nat.gcd n d) hn
 have q2:=y40 (g:=Nat.gcd n d) hd
 simp only [g34,it0_eq,z0q,z0r,hl,c1,z2v,q1,q2,fr,not_false_eq_true]
theorem w8e {n d:Nat} (hn:n<4611686018427387904) (hd:d<4611686018427387904) (h0:0<d):G65 std ((n:Int),(d:Int),())=some ((fr n d).1,(fr n d).2,()):=by
 unfold G65
 have h93:g93 it0 std (y3k [(n:Int),(d:Int)],())=_:=v7d (l:=[(n:Int),(d:Int)]) (by simp) (fun x hx=>by simp at hx; rcases hx with rfl|rfl<;>omega)
 have e:w96 [(n:Int),(d:Int)]=Nat.gcd n d:=by simp [w96]
 rw [e] at h93
 have er:([[D.int IntKind.i64 (n:Int)],[D.int IntKind.i64 (d:Int)]]:List (List D))=y3k [(n:Int),(d:Int)]:=rfl
 have hg:=Nat.gcd_pos_of_pos_right n h0
 have c1:¬ ((Nat.gcd n d:Nat):Int)=0:=by omega
 have q1:=y40 (n:=n) (g:=Nat.gcd n d) (by omega)
 have q2:=y40 (n:=d) (g:=Nat.gcd n d) (by omega)
 have tk:(y3k [(n:Int),(d:Int)]).take 2=y3k [(n:Int),(d:Int)]:=rfl
 have ln:(y3k [(n:Int),(d:Int)]).length=2:=rfl
 simp only [g65,z0q,z0r,er,List.drop_zero,tk,ln,h93,c1,z2v,q1,q2,fr,not_false_eq_true,Nat.le_refl]
theorem y5j {n d:Nat} (h:0<d):0≤(fr n d).1∧1≤(fr n d).2:=by
 have hg:=Nat.gcd_pos_of_pos_right n h
 have:=Nat.div_pos (Nat.le_of_dvd h (Nat.gcd_dvd_right n d)) hg
 unfold fr
 generalize n / Nat.gcd n d=x at*
 generalize d / Nat.gcd n d=y at*
 exact ⟨by simp only; omega,by simp only; omega⟩
theorem x6o (n d:Nat):(fr n d).1*(Nat.gcd n d:Int)=n∧(fr n d).2*(Nat.gcd n d:Int)=d:=by
 have h1:=Nat.div_mul_cancel (Nat.gcd_dvd_left n d)
 have h2:=Nat.div_mul_cancel (Nat.gcd_dvd_right n d)
 constructor
 ·show ((n / Nat.gcd n d:Nat):Int)*_=_
  rw [←Int.natCast_mul,h1]
 ·show ((d / Nat.gcd n d:Nat):Int)*_=_
  rw [←Int.natCast_mul,h2]
theorem w7s {n d m e:Nat} (hd:0<d) (he:0<e):(fr n d).1*(fr m e).2≤(fr m e).1*(fr n d).2↔(n:Int)*e≤(m:Int)*d:=by
 obtain ⟨a1,a2⟩:=x6o n d
 obtain ⟨b1,b2⟩:=x6o m e
 have g1:=Nat.gcd_pos_of_pos_right n hd
 have g2:=Nat.gcd_pos_of_pos_right m he
 rw [←a1, ←a2, ←b1, ←b2]
 generalize (fr n d).1=x
 generalize (fr n d).2=y
 generalize (fr m e).1=z
 generalize (fr m e).2=w
 have hg:(0:Int)<(Nat.gcd n d:Int)*(Nat.gcd m e:Int):=Int.mul_pos (by omega) (by omega)
 have e1:x*(Nat.gcd n d:Int)*(w*(Nat.gcd m e:Int))=((Nat.gcd n d:Int)*(Nat.gcd m e:Int))*(x*w):=by grind
 have e2:z*(Nat.gcd m e:Int)*(y*(Nat.gcd n d:Int))=((Nat.gcd n d:Int)*(Nat.gcd m e:Int))*(z*y):=by grind
 rw [e1,e2]
 exact ⟨fun h=>Int.mul_le_mul_of_nonneg_left h (by omega),fun h=>Int.le_of_mul_le_mul_left h hg⟩
theorem v47 {n d m e:Nat} (hd:0<d) (he:0<e) (h:(n:Int)*e=(m:Int)*d):fr n d=fr m e:=by
 have h':n*e=m*d:=by exact_mod_cast h
 have hc:∀ {n d:Nat},0<d→Nat.Coprime (n / Nat.gcd n d) (d / Nat.gcd n d):=fun h=>Nat.coprime_div_gcd_div_gcd (Nat.gcd_pos_of_pos_right _ h)
 have g1:=Nat.gcd_pos_of_pos_right n hd
 have g2:=Nat.gcd_pos_of_pos_right m he
 have k1:=hc (n:=n) hd
 have k2:=hc (n:=m) he
 have a1:=Nat.div_mul_cancel (Nat.gcd_dvd_left n d)
 have a2:=Nat.div_mul_cancel (Nat.gcd_dvd_right n d)
 have b1:=Nat.div_mul_cancel (Nat.gcd_dvd_left m e)
 have b2:=Nat.div_mul_cancel (Nat.gcd_dvd_right m e)
 unfold fr
 generalize n / Nat.gcd n d=x at*
 generalize d / Nat.gcd n d=y at*
 generalize m / Nat.gcd m e=z at*
 generalize e / Nat.gcd m e=w at*
 have hx:x*w=z*y:=by
  have:(Nat.gcd n d*Nat.gcd m e)*(x*w)=(Nat.gcd n d*Nat.gcd m e)*(z*y):=by
   have e1:(Nat.gcd n d*Nat.gcd m e)*(x*w)=(x*Nat.gcd n d)*(w*Nat.gcd m e):=by grind
   have e2:(Nat.gcd n d*Nat.gcd m e)*(z*y)=(z*Nat.gcd m e)*(y*Nat.gcd n d):=by grind
   rw [e1,e2,a1,a2,b1,b2,h']
  exact Nat.eq_of_mul_eq_mul_left (Nat.mul_pos g1 g2) this
 have d1:x ∣ z:=k1.dvd_of_dvd_mul_right (by rw [←hx]; exact Nat.dvd_mul_right _ _)
 have d2:z ∣ x:=k2.dvd_of_dvd_mul_right (by rw [hx]; exact Nat.dvd_mul_right _ _)
 have d3:y ∣ w:=k1.symm.dvd_of_dvd_mul_left (by rw [hx]; exact Nat.dvd_mul_left _ _)
 have d4:w ∣ y:=k2.symm.dvd_of_dvd_mul_left (by rw [←hx]; exact Nat.dvd_mul_left _ _)
 rw [Nat.dvd_antisymm d1 d2,Nat.dvd_antisymm d3 d4]
end Go.Am
end
section
namespace Go.Am
open M06
theorem x67 {a1 a2 b1 b2:Nat} (ha:0<a2) (hb:0<b2) (h:a1 / a2<b1 / b2):a1*b2<b1*a2:=by
 have h1:=(Nat.div_lt_iff_lt_mul ha).1 h
 have h2:=Nat.div_mul_le_self b1 b2
 have h3:=Nat.mul_lt_mul_of_pos_right h1 hb
 have h4:=Nat.mul_le_mul_right a2 h2
 have e:b1 / b2*a2*b2=b1 / b2*b2*a2:=by grind
 omega
theorem w72 {a1 a2 b1 b2:Nat} (h:a1 / a2=b1 / b2):(a1*b2<b1*a2↔(a1 % a2)*b2<(b1 % b2)*a2)∧(a1*b2=b1*a2↔(a1 % a2)*b2=(b1 % b2)*a2):=by
 have h1:=Nat.div_add_mod a1 a2
 have h2:=Nat.div_add_mod b1 b2
 rw [h] at h1
 generalize b1 / b2=p at*
 generalize a1 % a2=u at*
 generalize b1 % b2=v at*
 have e1:a1*b2=a2*p*b2+u*b2:=by rw [←h1]; grind
 have e2:b1*a2=a2*p*b2+v*a2:=by rw [←h2]; grind
 omega
theorem y1e {a d:Nat} (ha:a<9223372036854775808) (hd:0<d):IntKind.i64.wrap ((a:Int).tdiv (d:Int))=((a / d:Nat):Int)∧IntKind.i64.wrap (((a / d:Nat):Int)*(d:Int))=((a / d*d:Nat):Int)∧IntKind.i64.wrap ((a:Int) - ((a / d*d:Nat):Int))=((a % d:Nat):Int)∧(a:Int).tmod (d:Int)=((a % d:Nat):Int):=by
 have h1:=y40 (g:=d) ha
 have h2:=Nat.div_mul_le_self a d
 have h3:=Nat.div_add_mod a d
 have h4:d*(a / d)=a / d*d:=Nat.mul_comm _ _
 refine ⟨h1,?_,?_,by rw [Int.tmod_eq_emod_of_nonneg (by omega)]; rfl⟩
 ·rw [←Int.natCast_mul]
  generalize a / d*d=x at*
  exact z09 _ (by omega) (by omega)
 ·generalize a / d*d=x at*
  generalize a % d=y at*
  rw [z09 _ (by omega) (by omega)]
  omega
def y9a (a1 a2 b1 b2:Nat) (t:Bool):Bool:=if a1*b2=b1*a2 then false else (decide (a1*b2<b1*a2) !=t)
theorem w03:∀ (a2 a1 b1 b2:Nat) (t:Bool),0<a2→0<b2→a1<9223372036854775808→a2<9223372036854775808→b1<9223372036854775808→b2<9223372036854775808→
  z3w (y6v std) ((a1:Int),(a2:Int),(b1:Int),(b2:Int),t,())=some (y9a a1 a2 b1 b2 t,()):=by
 intro a2
 induction a2 using Nat.strongRecOn with
 |_ a2 ih=>
  intro a1 b1 b2 t ha hb k1 k2 k3 k4
  rw [z0j]
  obtain ⟨q1,q2,q3,_⟩:=y1e k1 ha
  obtain ⟨r1,r2,r3,_⟩:=y1e k3 hb
  have z1:¬ (a2:Int)=0:=by omega
  have z2:¬ (b2:Int)=0:=by omega
  have hbe:∀ x y:Bool,std.bEq x y=(x==y):=fun _ _=>rfl
  by_cases hpq:a1 / a2=b1 / b2
  case neg=>
   have d1:¬ ((a1 / a2:Nat):Int)=((b1 / b2:Nat):Int):=by
    generalize a1 / a2=x at*
    generalize b1 / b2=y at*
    omega
   have hstep:y6v std ((a1:Int),(a2:Int),(b1:Int),(b2:Int),t,())=some (.inr (y9a a1 a2 b1 b2 t,())):=by
    have hv:y9a a1 a2 b1 b2 t=(decide ((a1 / a2:Nat)<(b1 / b2:Nat)) !=t):=by
     unfold y9a
     rcases Nat.lt_or_ge (a1 / a2) (b1 / b2) with h|h
     ·have:=x67 ha hb h
      rw [if_neg (by omega),decide_eq_true this,decide_eq_true h]
     ·have h':b1 / b2<a1 / a2:=by omega
      have:=x67 hb ha h'
      rw [if_neg (by omega),decide_eq_false (by omega),decide_eq_false (by omega)]
    have e1:decide (((a1 / a2:Nat):Int)<((b1 / b2:Nat):Int))=decide ((a1 / a2:Nat)<(b1 / b2:Nat)):=by
     rw [decide_eq_decide]; exact Int.ofNat_lt
    rw [hv]
    simp only [y6v,z0q,z0r,z1,z2,z2v,q1,r1,d1,hbe,e1,not_false_eq_true]
    cases t<;>cases decide (a1 / a2<b1 / b2)<;>rfl
   rw [hstep]
  have d1:((a1 / a2:Nat):Int)=((b1 / b2:Nat):Int):=by rw [hpq]
  obtain ⟨c1,c2⟩:=w72 hpq
  have hu:=Nat.mod_lt a1 ha
  have hv:=Nat.mod_lt b1 hb
  have hL:y9a a1 a2 b1 b2 t=if (a1 % a2)*b2=(b1 % b2)*a2 then false else (decide ((a1 % a2)*b2<(b1 % b2)*a2) !=t):=by
   unfold y9a
   by_cases h:a1*b2=b1*a2
   ·rw [if_pos h,if_pos (c2.1 h)]
   ·rw [if_neg h,if_neg (fun k=>h (c2.2 k))]
    congr 1
    rw [decide_eq_decide]; exact c1
  rw [hL]
  rw [hpq] at q1 q2 q3
  clear d1 c1 c2 hL
  generalize a1 % a2=u at*
  generalize b1 % b2=v at*
  by_cases hz:u=0∨v=0
  ·have hstep:y6v std ((a1:Int),(a2:Int),(b1:Int),(b2:Int),t,())=some (.inr ((if u*b2=v*a2 then false else (decide (u*b2<v*a2) !=t)),())):=by
    by_cases h0:u=0
    ·subst h0
     have e0:((0:Nat):Int)=0:=rfl
     by_cases h1:v=0
     ·subst h1
      simp only [y6v,z0q,z0r,z1,z2,z2v,z0z,z0h,q1,r1,q2,r2,q3,r3,hbe,e0,not_false_eq_true,not_true,Nat.zero_mul]
     ·have y1:¬ (0:Int)=(v:Int):=by omega
      have y2:0<v*a2:=Nat.mul_pos (by omega) ha
      have y3:¬ 0=v*a2:=by omega
      simp only [y6v,z0q,z0r,z1,z2,z2v,z0z,z0h,q1,r1,q2,r2,q3,r3,hbe,e0,y1,y2,y3,not_false_eq_true,not_true,Nat.zero_mul]
      cases t<;>rfl
    ·have h1:v=0:=by omega
     subst h1
     have e0:((0:Nat):Int)=0:=rfl
     have y1:¬ (u:Int)=0:=by omega
     have y2:0<u*b2:=Nat.mul_pos (by omega) hb
     have y3:¬ u*b2=0:=by omega
     have y4:¬ u*b2<0:=by omega
     simp only [y6v,z0q,z0r,z1,z2,z2v,z0z,z0h,q1,r1,q2,r2,q3,r3,hbe,e0,y1,y3,y4,not_false_eq_true,not_true,Nat.zero_mul]
     cases t<;>rfl
   rw [hstep]
  ·have y1:¬ (u:Int)=0:=by omega
   have y2:¬ (v:Int)=0:=by omega
   have hstep:y6v std ((a1:Int),(a2:Int),(b1:Int),(b2:Int),t,())=some (.inl ((a2:Int),(u:Int),(b2:Int),(v:Int),!t,())):=by
    simp only [y6v,z0q,z0r,z1,z2,z2v,z0z,z0h,q1,r1,q2,r2,q3,r3,hbe,y1,y2,not_false_eq_true,not_true]
    cases t<;>rfl
   rw [hstep]
   have:=ih u hu a2 b2 v (!t) (by omega) (by omega) k2 (by omega) k4 (by omega)
   simp only [this,Option.some.injEq,Prod.mk.injEq,and_true]
   unfold y9a
   have e1:a2*v=v*a2:=Nat.mul_comm _ _
   have e2:b2*u=u*b2:=Nat.mul_comm _ _
   rw [e1,e2]
   rcases Nat.lt_trichotomy (u*b2) (v*a2) with k|k|k
   ·rw [if_neg (by omega),if_neg (by omega),decide_eq_true k,decide_eq_false (show ¬ v*a2<u*b2 by omega)]; cases t<;>simp
   ·rw [if_pos k.symm,if_pos k]; simp
   ·rw [if_neg (by omega),if_neg (by omega),decide_eq_true k,decide_eq_false (show ¬ u*b2<v*a2 by omega)]; cases t<;>simp
theorem v7q {a1 a2 b1 b2:Nat} (ha:0<a2) (hb:0<b2) (k1:a1<9223372036854775808) (k2:a2<9223372036854775808) (k3:b1<9223372036854775808) (k4:b2<9223372036854775808):
  G35 std ((a1:Int),(a2:Int),(b1:Int),(b2:Int),())=some (decide (a1*b2<b1*a2),()):=by
 unfold G35
 have hl:=w03 a2 a1 b1 b2 false ha hb k1 k2 k3 k4
 have c1:¬ (a1:Int)<0:=by omega
 have c2:¬ (b1:Int)<0:=by omega
 have c3:¬ (a2:Int)<1:=by omega
 have c4:¬ (b2:Int)<1:=by omega
 have e:y9a a1 a2 b1 b2 false=decide (a1*b2<b1*a2):=by
  unfold y9a
  split
  ·rw [decide_eq_false (by omega)]
  ·cases decide (a1*b2<b1*a2)<;>rfl
 rw [e] at hl
 simp only [g35,it0_eq,z0q,z0r,c1,c2,c3,c4,hl]
theorem x7d (R:Prim→(Int×Int×Int×Int×Unit)→Option (Bool×Unit)) {a1 a2 b1 b2:Nat} (ha:0<a2) (hb:0<b2) (k1:a1<9223372036854775808) (k3:b1<9223372036854775808)
  (hR:a1 / a2=b1 / b2→0<a1 % a2→0<b1 % b2→R std ((b2:Int),((b1 % b2:Nat):Int),(a2:Int),((a1 % a2:Nat):Int),())=some (decide (b2*(a1 % a2)<a2*(b1 % b2)),())):
  G71 R std ((a1:Int),(a2:Int),(b1:Int),(b2:Int),())=some (decide (a1*b2<b1*a2),()):=by
 obtain ⟨q1,_,_,q4⟩:=y1e k1 ha
 obtain ⟨r1,_,_,r4⟩:=y1e k3 hb
 have z1:¬ (a2:Int)=0:=by omega
 have z2:¬ (b2:Int)=0:=by omega
 by_cases hpq:a1 / a2=b1 / b2
 case neg=>
  have d1:¬ ((a1 / a2:Nat):Int)=((b1 / b2:Nat):Int):=by
   generalize a1 / a2=x at*
   generalize b1 / b2=y at*
   omega
  have e1:decide (((a1 / a2:Nat):Int)<((b1 / b2:Nat):Int))=decide (a1*b2<b1*a2):=by
   rw [decide_eq_decide]
   rcases Nat.lt_or_ge (a1 / a2) (b1 / b2) with h|h
   ·have:=x67 ha hb h
    exact ⟨fun _=>this,fun _=>Int.ofNat_lt.2 h⟩
   ·have h':b1 / b2<a1 / a2:=by omega
    have:=x67 hb ha h'
    exact ⟨fun k=>absurd (Int.ofNat_lt.1 k) (by omega),fun k=>by omega⟩
  simp only [G71,z0q,z0r,z1,z2,z2v,q1,r1,d1,e1,not_false_eq_true]
 have d1:((a1 / a2:Nat):Int)=((b1 / b2:Nat):Int):=by rw [hpq]
 obtain ⟨c1,c2⟩:=w72 hpq
 have hu:=Nat.mod_lt a1 ha
 have hv:=Nat.mod_lt b1 hb
 have hR':=hR hpq
 have hL:decide (a1*b2<b1*a2)=decide ((a1 % a2)*b2<(b1 % b2)*a2):=by rw [decide_eq_decide]; exact c1
 rw [hL]
 clear hR hL c1 c2 d1
 rw [hpq] at q1
 generalize a1 % a2=u at*
 generalize b1 % b2=v at*
 by_cases hz:u=0∨v=0
 ·have e1:decide ((u:Int)<(v:Int))=decide (u*b2<v*a2):=by
   rw [decide_eq_decide]
   rcases hz with rfl|rfl
   ·rw [Nat.zero_mul]
    constructor
    ·intro h; exact Nat.mul_pos (by omega) ha
    ·intro h
     have:v≠0:=by rintro rfl; simp at h
     omega
   ·rw [Nat.zero_mul]
    exact ⟨fun h=>by omega,fun h=>by omega⟩
  have e2:(u:Int)=0∨(v:Int)=0:=by omega
  by_cases h0:(u:Int)=0
  ·rw [h0] at e1
   simp only [G71,z0q,z0r,z1,z2,z2v,z02,q1,r1,q4,r4,h0,e1,not_false_eq_true,not_true]
  ·have h1:(v:Int)=0:=by omega
   rw [h1] at e1
   simp only [G71,z0q,z0r,z1,z2,z2v,z02,q1,r1,q4,r4,h0,h1,e1,not_false_eq_true,not_true]
 ·have y1:¬ (u:Int)=0:=by omega
  have y2:¬ (v:Int)=0:=by omega
  have hR'':=hR' (by omega) (by omega)
  have e1:decide (b2*u<a2*v)=decide (u*b2<v*a2):=by rw [Nat.mul_comm b2 u,Nat.mul_comm a2 v]
  rw [e1] at hR''
  simp only [G71,z0q,z0r,z1,z2,z2v,z02,q1,r1,q4,r4,y1,y2,not_false_eq_true,not_true]
  exact (congrArg (fun z:Option (Bool×Unit)=>z.bind fun y=>some (y.1,())) hR'').trans rfl
theorem w3n:∀ (k n a1 a2 b1 b2:Nat),2*k≤n→b2<2 ^ k→0<a2→0<b2→a1<9223372036854775808→a2<9223372036854775808→b1<9223372036854775808→b2<9223372036854775808→
  v2a n std ((a1:Int),(a2:Int),(b1:Int),(b2:Int),())=some (decide (a1*b2<b1*a2),())
 |0,n,a1,a2,b1,b2,_,h,_,h0,_,_,_,_=>by simp at h; omega
 |k+1,n,a1,a2,b1,b2,hn,hb,ha0,hb0,k1,k2,k3,k4=>by
  obtain ⟨m,rfl⟩:∃ m,n=m+2:=⟨n - 2,by omega⟩
  show G71 (v2a (m+1)) std ((a1:Int),(a2:Int),(b1:Int),(b2:Int),())=_
  have hu:=Nat.mod_lt a1 ha0
  have hv:=Nat.mod_lt b1 hb0
  refine x7d _ ha0 hb0 k1 k3 fun h1 u0 v0=>?_
  show G71 (v2a m) std _=_
  refine x7d _ v0 u0 k4 k2 fun h2 u1 v1=>?_
  have w1:=Nat.mod_lt b2 v0
  have w2:=Nat.mod_lt a2 u0
  have hhalf:b2 % (b1 % b2)<2 ^ k:=by
   have hd:=Nat.div_add_mod b2 (b1 % b2)
   have hge:1≤b2 / (b1 % b2):=Nat.div_pos (by omega) v0
   have:=Nat.mul_le_mul_left (b1 % b2) hge
   rw [Nat.pow_succ] at hb
   omega
  have:=w3n k m (a1 % a2) (a2 % (a1 % a2)) (b1 % b2) (b2 % (b1 % b2)) (by omega) hhalf v1 u1 (by omega) (by omega) (by omega) (by omega)
  exact this
theorem v7y {a1 a2 b1 b2:Nat} (ha:0<a2) (hb:0<b2) (k1:a1<9223372036854775808) (k2:a2<9223372036854775808) (k3:b1<9223372036854775808) (k4:b2<1125899906842624):
  F71 std ((a1:Int),(a2:Int),(b1:Int),(b2:Int),())=some (decide (a1*b2<b1*a2),()):=by
 have h:(2:Nat) ^ 50=1125899906842624:=by decide
 exact w3n 50 100 a1 a2 b1 b2 (by omega) (by omega) ha hb k1 k2 k3 (by omega)
end Go.Am
end
section
namespace Go.Am
open M06
theorem y1p {e f:Pt} (he:z0s (-10000) 10000 e) (hf:z0s (-10000) 10000 f):IntKind.i64.wrap (e.1*f.1)=e.1*f.1∧IntKind.i64.wrap (e.2*f.2)=e.2*f.2∧IntKind.i64.wrap (e.1*f.1+e.2*f.2)=dt e f∧ -200000000≤dt e f∧dt e f≤200000000:=by
 obtain ⟨e1,e2,e3,e4⟩:=he
 obtain ⟨f1,f2,f3,f4⟩:=hf
 have m1:=z3a (A:=10000) (by omega) e1 e2 f1 f2
 have m2:=z3a (A:=10000) (by omega) e3 e4 f3 f4
 simp only [dt]
 exact ⟨z09 _ (by omega) (by omega),z09 _ (by omega) (by omega),z09 _ (by omega) (by omega),by omega,by omega⟩
def x5g (p f w:Pt):Option Pt:=if dt w (sb p f)≤0∨dt w w≤dt w (sb p f) then none else some (fr (crs w (sb p f)*crs w (sb p f)).toNat (dt w w).toNat)
theorem y8q {c:Int} (h1: -200000000≤c) (h2:c≤200000000):IntKind.i64.wrap (c*c)=c*c∧0≤c*c∧c*c≤40000000000000000:=by
 have m:=z3a (A:=200000000) (B:=200000000) (by omega) h1 h2 h1 h2
 have h0:0≤c*c:=by
  rcases Int.le_total 0 c with h|h
  ·exact Int.mul_nonneg h h
  ·exact Int.mul_nonneg_of_nonpos_of_nonpos h h
 exact ⟨z09 _ (by omega) (by omega),h0,by omega⟩
theorem v7o {p f w:Pt} (hp:z0s (-5000) 5000 p) (hf:z0s (-5000) 5000 f) (hw:z0s (-10000) 10000 w):
  g68 it0 std (p.1,p.2,f.1,f.2,w.1,w.2,())=some (match x5g p f w with|some x=>(x.1,x.2,true,())|none=>(0,0,false,())):=by
 obtain ⟨d1,d2⟩:=z3n (z1w hp) (z1w hf)
 have hb:=z8b hp hf
 obtain ⟨a1,a2,a3,a4,a5⟩:=y1p hw hb
 obtain ⟨b1,b2,b3,b4,b5⟩:=y1p hw hw
 obtain ⟨c1,c2,c3,c4,c5⟩:=y1u hw hb
 obtain ⟨s1,s2,s3⟩:=y8q c4 c5
 unfold x5g
 by_cases h1:dt w (sb p f)≤0
 ·rw [if_pos (.inl h1)]
  simp only [g68,z0q,z0r,z0h,z0z,z0a,d1,d2,a1,a2,a3,b1,b2,b3,h1]
 by_cases h2:dt w w≤dt w (sb p f)
 ·rw [if_pos (.inr h2)]
  simp only [g68,z0q,z0r,z0h,z0z,z0a,d1,d2,a1,a2,a3,b1,b2,b3,h1,h2,ge_iff_le]
 rw [if_neg (by omega)]
 have e1:(((crs w (sb p f)*crs w (sb p f)).toNat:Nat):Int)=crs w (sb p f)*crs w (sb p f):=Int.toNat_of_nonneg s2
 have e2:(((dt w w).toNat:Nat):Int)=dt w w:=Int.toNat_of_nonneg (by omega)
 have h65:g65 it0 std ((((crs w (sb p f)*crs w (sb p f)).toNat:Nat):Int),(((dt w w).toNat:Nat):Int),())=_:=w8e (by omega) (by omega) (by omega)
 rw [e1,e2] at h65
 simp only [g68,z0q,z0r,z0h,z0z,z0a,d1,d2,a1,a2,a3,b1,b2,b3,c1,c2,c3,s1,h1,h2,h65,ge_iff_le]
def Frc (x:Pt):Prop:=∃ n d:Nat,0<d∧n≤1152921504606846976∧d<1125899906842624∧x=fr n d
theorem Frc.nat {x:Pt} (h:Frc x):∃ n d:Nat,0<d∧n≤1152921504606846976∧d<1125899906842624∧x=((n:Int),(d:Int)):=by
 obtain ⟨n,d,h1,h2,h3,rfl⟩:=h
 have hg:=Nat.gcd_pos_of_pos_right n h1
 have h4:=Nat.div_pos (Nat.le_of_dvd h1 (Nat.gcd_dvd_right n d)) hg
 have h5:=Nat.div_le_self n (Nat.gcd n d)
 have h6:=Nat.div_le_self d (Nat.gcd n d)
 exact ⟨n / Nat.gcd n d,d / Nat.gcd n d,h4,by omega,by omega,rfl⟩
def x3l (L:List Pt) (m:Pt):Prop:=m∈L∧∀ x∈L,m.1*x.2≤x.1*m.2
theorem Frc.den {x:Pt} (h:Frc x):0<x.2:=by
 obtain ⟨n,d,h1,_,_,rfl⟩:=h.nat
 simp only; omega
theorem z4a {x y z:Pt} (hx:0<x.2) (hy:0<y.2) (hz:0<z.2) (h1:x.1*y.2≤y.1*x.2) (h2:y.1*z.2≤z.1*y.2):x.1*z.2≤z.1*x.2:=by
 have a:=Int.mul_le_mul_of_nonneg_right h1 (Int.le_of_lt hz)
 have b:=Int.mul_le_mul_of_nonneg_right h2 (Int.le_of_lt hx)
 have e1:y.1*x.2*z.2=y.1*z.2*x.2:=by grind
 have c:(x.1*z.2)*y.2≤(z.1*x.2)*y.2:=by
  have e2:x.1*y.2*z.2=x.1*z.2*y.2:=by grind
  have e3:z.1*y.2*x.2=z.1*x.2*y.2:=by grind
  omega
 exact Int.le_of_mul_le_mul_right c hy
theorem w48 {L M:List Pt} (hL:∀ x∈L,Frc x) (hM:∀ x∈M,Frc x) (h1:∀ x∈L,∃ y∈M,y.1*x.2≤x.1*y.2) (h2:∀ y∈M,∃ x∈L,x.1*y.2≤y.1*x.2) {m n:Pt} (hm:x3l L m) (hn:x3l M n):m=n:=by
 obtain ⟨y,y1,y2⟩:=h1 m hm.1
 obtain ⟨x,x1,x2⟩:=h2 n hn.1
 have d1:=(hL m hm.1).den
 have d2:=(hM n hn.1).den
 have a:=z4a d2 (hM y y1).den d1 (hn.2 y y1) y2
 have b:=z4a d1 (hL x x1).den d2 (hm.2 x x1) x2
 obtain ⟨n1,e1,p1,_,_,q1⟩:=hL m hm.1
 obtain ⟨n2,e2,p2,_,_,q2⟩:=hM n hn.1
 rw [q1,q2] at a b⊢
 exact v47 p1 p2 (by have:=(w7s p1 p2).1 b; have:=(w7s p2 p1).1 a; omega)
theorem v7m {x y:Pt} (hx:Frc x) (hy:Frc y):G70 std (x.1,x.2,y.1,y.2,())=some (if x.1*y.2<y.1*x.2 then -1 else 1,()):=by
 obtain ⟨a,b,h1,h2,h3,rfl⟩:=hx.nat
 obtain ⟨c,d,k1,k2,k3,rfl⟩:=hy.nat
 have h71:=v7y h1 k1 (show a<9223372036854775808 by omega) (by omega) (show c<9223372036854775808 by omega) k3
 have e:(a*d<c*b)↔((a:Int)*(d:Int)<(c:Int)*(b:Int)):=by rw [←Int.natCast_mul, ←Int.natCast_mul]; exact Int.ofNat_lt.symm
 unfold G70
 simp only
 refine (congrArg (fun z:Option (Bool×Unit)=>z.bind fun y143=>opt.ask (Int×Unit) y143.1 (opt.ret _ (-1,())) (opt.ret _ (1,()))) h71).trans ?_
 by_cases h:a*d<c*b
 ·rw [if_pos (e.1 h),decide_eq_true h]; rfl
 ·rw [if_neg (fun k=>h (e.2 k)),decide_eq_false h]; rfl
theorem v7n {L:List Pt} (h0:L≠[]) (hl:L.length≤1000000) (hv:∀ x∈L,Frc x):∃ m,x3l L m∧G69 std (z0d L,0,L.length,())=some (z0d L,m.1,m.2,()):=by
 have hpos:0<L.length:=by
  match L,h0 with
  |a::l,_=>simp
 obtain ⟨x0,hx0⟩:=z0l hpos
 have key:=z2c (b:=w25 std) L.length (fun (m:Pt) i=>(z0d L,(0:Int),(0:Int),m.1,m.2,(0:Nat),L.length,(i:Int),())) (fun m i=>1≤i∧m∈L∧∀ x∈L.take i,m.1*x.2≤x.1*m.2) (fun r=>∃ m,x3l L m∧r=(z0d L,(0:Int),(0:Int),m.1,m.2,())) (fun m i hi ⟨h1,h2,h3⟩=>by
  left
  obtain ⟨x,hx⟩:=z0l hi
  have gx:=z0x hx
  have hxL:=List.mem_of_getElem? hx
  have h70:=v7m (hv x hxL) (hv m h2)
  have c1:(i:Int)<(L.length:Int):=by omega
  have c2:(i:Int)≥0:=by omega
  have hw:=z00 (i:=i) (by omega)
  have htk:L.take (i+1)=L.take i++[x]:=z0m hx
  by_cases h:x.1*m.2<m.1*x.2
  ·refine ⟨x,?_,by omega,hxL,fun y hy=>?_⟩
   ·rw [if_pos h] at h70
    simp only [w25,z0q,z0r,z0g,z0u,z0t,z1b,z0i,z0c,Nat.zero_add,gx,c1,c2,h70,z0a,hw,show (-1:Int)<0 by decide]
   ·rw [htk] at hy
    rcases List.mem_append.1 hy with hy|hy
    ·exact z4a (hv x hxL).den (hv m h2).den (hv y (List.mem_of_mem_take hy)).den (Int.le_of_lt h) (h3 y hy)
    ·simp only [List.mem_singleton] at hy; subst hy; exact Int.le_refl _
  ·refine ⟨m,?_,by omega,h2,fun y hy=>?_⟩
   ·rw [if_neg h] at h70
    simp only [w25,z0q,z0r,z0g,z0u,z0t,z1b,z0i,z0c,Nat.zero_add,gx,c1,c2,h70,z0a,hw,show ¬ (1:Int)<0 by decide]
   ·rw [htk] at hy
    rcases List.mem_append.1 hy with hy|hy
    ·exact h3 y hy
    ·simp only [List.mem_singleton] at hy; subst hy; omega) (fun m ⟨_,h2,h3⟩=>by
  rw [List.take_length] at h3
  exact ⟨_,by simp only [w25,z0q,z0r,Int.lt_irrefl],m,⟨h2,h3⟩,rfl⟩) x0 1 hpos ⟨Nat.le_refl _,List.mem_of_getElem? hx0,fun y hy=>by
   have:L.take 1=[x0]:=by
    have:=z0m hx0
    simpa using this
   rw [this] at hy; simp only [List.mem_singleton] at hy; subst hy; exact Int.le_refl _⟩
 obtain ⟨r,h1,m,h2,rfl⟩:=key
 refine ⟨m,h2,?_⟩
 have gx:=z0x hx0
 have c1:¬ (L.length:Int)<1:=by omega
 have c2:(0:Int)<(L.length:Int):=by omega
 have e1:((1:Nat):Int)=1:=rfl
 rw [e1] at h1
 unfold G69
 simp only [g69,it0_eq,z0q,z0r,z0g,z0u,z0t,z1b,z0i,z0c,c1,c2,gx,h1,Int.toNat_zero,Nat.zero_add,Nat.add_zero,ge_iff_le,Int.le_refl]
end Go.Am
end
section
namespace Go.Am
open M06
def sdP (B:List Pt) (t:Nat):Pt:=B.getD t (0,0)
def sdW (B:List Pt) (t:Nat):Pt:=sb (B.getD ((t+1) % B.length) (0,0)) (B.getD t (0,0))
def y1z (p:Pt) (B:List Pt) (n:Nat):List Pt:=(List.range n).filterMap fun t=>x5g p (sdP B t) (sdW B t)
def frd (p q:Pt):Pt:=fr (dt (sb q p) (sb q p)).toNat 1
def y2z (B:List Pt) (p:Pt):List Pt:=(B.map fun q=>frd p q)++y1z p B B.length
def y6b (a b:List Pt):List Pt:=a.flatMap (y2z b)++b.flatMap (y2z a)
theorem z27 (x:Int):0≤x*x:=by
 rcases Int.le_total 0 x with h|h
 ·exact Int.mul_nonneg h h
 ·exact Int.mul_nonneg_of_nonpos_of_nonpos h h
theorem x0x (p:Pt) (B:List Pt) (n:Nat):y1z p B (n+1)=y1z p B n++(match x5g p (sdP B n) (sdW B n) with|some x=>[x]|none=>[]):=by
 unfold y1z
 rw [List.range_succ,List.filterMap_append]
 congr 1
 rw [List.filterMap_cons]
 cases x5g p (sdP B n) (sdW B n)<;>rfl
theorem x5f (p:Pt) (B:List Pt) (n:Nat):(y1z p B n).length≤n:=by
 unfold y1z
 have:=List.length_filterMap_le (fun t=>x5g p (sdP B t) (sdW B t)) (List.range n)
 rw [List.length_range] at this; exact this
theorem w3y {S B:List Pt} (hB:Cyc S B) (kb:∀ x∈B,z0s (-5000) 5000 x) (lb:B.length≤60) {p:Pt} (hp:z0s (-5000) 5000 p) (o:List Pt) (ho:o.length≤100000) (A' L11 L12 L13 L14 L15:List (List D)) (n10 n16 n17:Int):
    ∃ r,z3w (y6s it0 std) (z0d o,(0:Int),(0:Int),(0:Nat),o.length,A',z0d B,p.1,p.2,z0d B,n10,L11,L12,L13,L14,L15,n16,n17,z0d B,(B.length:Int),(0:Int),())=some r∧
      (r= .inl (z0d (o++y1z p B B.length),(0:Int),(0:Int),(0:Nat),(o++y1z p B B.length).length,A',z0d B,p.1,p.2,z0d B,n10,L11,L12,L13,L14,L15,n16,n17,())∨
       r= .inr (z0d (o++y1z p B B.length),(0:Int),(0:Int),(0:Nat),(o++y1z p B B.length).length,A',z0d B,p.1,p.2,z0d B,n10,L11,L12,L13,L14,L15,n16,n17,())):=by
  have hbn:1≤B.length:=by
    match B,hB with
    |q::r,_=>simp
  by_cases h1:B.length=1
  · obtain ⟨q,rfl⟩:∃ q,B=[q]:=by
      match B,h1 with
      |[q],_=>exact ⟨q,rfl⟩
    have gx:=z0x (l:=[q]) (i:=0) rfl
    obtain ⟨d1,d2⟩:=z3n (z1w (kb q (by simp))) (z1w (kb q (by simp)))
    have q1:(sb q q).1=0:=by simp [sb]
    have q2:(sb q q).2=0:=by simp [sb]
    rw [q1] at d1
    rw [q2] at d2
    have w1:IntKind.i64.wrap 1=1:=by decide
    have t1:(1:Int).tmod 1=0:=by decide
    have hu:y1z p [q] ([q]:List Pt).length=[]:=by
      have h0:sdW [q] 0=(0,0):=by simp [sdW,sb]
      have h2:x5g p (sdP [q] 0) (sdW [q] 0)=none:=by rw [h0]; unfold x5g; rw [if_pos (.inl (by simp [dt]))]
      show y1z p [q] (0+1)=[]
      rw [x0x,h2]; rfl
    rw [hu,List.append_nil]
    refine ⟨_,?_, .inl rfl⟩
    rw [z0j]
    have:y6s it0 std (z0d o,(0:Int),(0:Int),(0:Nat),o.length,A',z0d [q],p.1,p.2,z0d [q],n10,L11,L12,L13,L14,L15,n16,n17,z0d [q],(([q]:List Pt).length:Int),(0:Int),())=some (.inr (.inl (z0d o,(0:Int),(0:Int),(0:Nat),o.length,A',z0d [q],p.1,p.2,z0d [q],n10,L11,L12,L13,L14,L15,n16,n17,()))):=by
      have l1:((0+1:Nat):Int)=1:=rfl
      simp only [y6s,z0q,z0r,z0g,z0u,z0t,z1b,z0i,z0c,z0a,z02,z0h,l1,Int.zero_add,w1,t1,gx,d1,d2,Int.toNat_zero,ge_iff_le,Int.le_refl,show (0:Int)<1 by decide,show ¬ (1:Int)=0 by decide,not_false_eq_true]
    rw [this]
  have h2:2≤B.length:=by omega
  have key:=z3g (b:=y6s it0 std) (fun (j:Nat)=>(z0d (o++y1z p B j),(0:Int),(0:Int),(0:Nat),(o++y1z p B j).length,A',z0d B,p.1,p.2,z0d B,n10,L11,L12,L13,L14,L15,n16,n17,z0d B,(B.length:Int),(j:Int),())) (fun j=>j≤B.length) (fun j=>B.length - j)
    (fun _=> .inr (z0d (o++y1z p B B.length),(0:Int),(0:Int),(0:Nat),(o++y1z p B B.length).length,A',z0d B,p.1,p.2,z0d B,n10,L11,L12,L13,L14,L15,n16,n17,())) (fun j hj=>by
    by_cases hlt:j<B.length
    · left
      obtain ⟨u,hu⟩:=z0l hlt
      obtain ⟨v,hv⟩:=z0l (l:=B) (i:=(j+1) % B.length) (Nat.mod_lt _ (by omega))
      have gu:=z0x hu
      have gv:=z0x hv
      have hne:=x4v hB h2 hu hv
      have hsP:sdP B j=u:=z4t hu
      have hsW:sdW B j=sb v u:=by unfold sdW; rw [z4t hu,z4t hv]
      have bu:=kb u (List.mem_of_getElem? hu)
      have bv:=kb v (List.mem_of_getElem? hv)
      obtain ⟨d1,d2⟩:=z3n (z1w bv) (z1w bu)
      obtain ⟨m1,m2⟩:=y5a (i:=j) (n:=B.length) (by omega) (by omega)
      have c2:(j:Int)<(B.length:Int):=by omega
      have c3:(j:Int)≥0:=by omega
      have c4:¬ (B.length:Int)=0:=by omega
      have c5:(((j+1) % B.length:Nat):Int)≥0:=by omega
      have hz:(if (sb v u).1=0 then if (sb v u).2=0 then true else false else false)=false:=by
        by_cases e1:(sb v u).1=0
        · rw [if_pos e1,if_neg]
          intro e2
          exact hne (Prod.ext e1 e2)
        · rw [if_neg e1]
      have h68:=v7o hp bu (z8b bv bu)
      have hul:=x5f p B j
      have htk:(z0d (o++y1z p B j)).take (o++y1z p B j).length=z0d (o++y1z p B j):=by rw [List.take_of_length_le (by rw [z0c]; omega)]
      have hl0:(o++y1z p B j).length≤100060:=by rw [List.length_append]; omega
      have hs:=x0x p B j
      rw [hsP,hsW] at hs
      refine ⟨j+1,?_,by omega,by omega,rfl⟩
      cases hup:x5g p u (sb v u) with
      |none=>
        rw [hup] at h68 hs
        simp only at h68 hs
        rw [List.append_nil] at hs
        rw [hs]
        simp only [y6s,z0q,z0r,z0g,z0u,z0t,z1b,z0i,z0c,z0a,z02,z0h,m1,m2,c2,c3,c4,c5,gu,gv,d1,d2,hz,h68,not_false_eq_true]
      |some x=>
        rw [hup] at h68 hs
        simp only at h68 hs
        have hap:z0d (o++y1z p B j)++[eP x]=z0d (o++y1z p B (j+1)):=by rw [hs]; simp [z0d]
        have hal:(o++y1z p B j).length+1=(o++y1z p B (j+1)).length:=by rw [hs]; simp; omega
        have hl1:(o++y1z p B (j+1)).length≤1000000:=by omega
        simp only [y6s,z0q,z0r,z0g,z0u,z0t,z1b,z0i,z0c,z0a,z02,z0h,m1,m2,c2,c3,c4,c5,gu,gv,d1,d2,hz,h68,htk,hap,hal,hl1,List.drop_zero,List.take_succ_cons,List.take_zero,Nat.le_refl,Nat.zero_add,not_false_eq_true]
    · right
      have:j=B.length:=by omega
      subst this
      have hn:¬ ((B.length:Int)<(B.length:Int)):=by omega
      simp only [y6s,z0q,z0r,z0c,hn]) 0 (Nat.zero_le _)
  have e0:y1z p B 0=[]:=rfl
  rw [e0,List.append_nil] at key
  exact ⟨_,key, .inr rfl⟩
theorem w5o {B:List Pt} (kb:∀ x∈B,z0s (-5000) 5000 x) (lb:B.length≤60) {p:Pt} (hp:z0s (-5000) 5000 p) (o:List Pt) (ho:o.length≤100000) (A' L9 L10 L11 L12 L14:List (List D)) (n13 n15 n16:Int):
  z3w (x46 it0 std) (z0d o,(0:Int),(0:Int),(0:Nat),o.length,A',z0d B,p.1,p.2,L9,L10,L11,L12,n13,L14,n15,n16,z0d B,(B.length:Int),(0:Int),())=
   some (z0d (o++B.map fun q=>frd p q),(0:Int),(0:Int),(0:Nat),(o++B.map fun q=>frd p q).length,A',z0d B,p.1,p.2,L9,L10,L11,L12,n13,L14,n15,n16,()):=by
 have key:=z3g (b:=x46 it0 std) (fun (j:Nat)=>(z0d (o++(B.take j).map fun q=>frd p q),(0:Int),(0:Int),(0:Nat),(o++(B.take j).map fun q=>frd p q).length,A',z0d B,p.1,p.2,L9,L10,L11,L12,n13,L14,n15,n16,z0d B,(B.length:Int),(j:Int),())) (fun j=>j≤B.length) (fun j=>B.length - j)
  (fun _=>(z0d (o++B.map fun q=>frd p q),(0:Int),(0:Int),(0:Nat),(o++B.map fun q=>frd p q).length,A',z0d B,p.1,p.2,L9,L10,L11,L12,n13,L14,n15,n16,())) (fun j hj=>by
  by_cases hlt:j<B.length
  ·left
   obtain ⟨q,hq⟩:=z0l hlt
   have gq:=z0x hq
   have hqb:=kb q (List.mem_of_getElem? hq)
   obtain ⟨d1,d2⟩:=z3n (z1w hqb) (z1w hp)
   have hb:=z8b hqb hp
   obtain ⟨a1,a2,a3,a4,a5⟩:=y1p hb hb
   have hnn:0≤dt (sb q p) (sb q p):=by
    simp only [dt]
    have:=z27 (sb q p).1
    have:=z27 (sb q p).2
    omega
   have e1:(((dt (sb q p) (sb q p)).toNat:Nat):Int)=dt (sb q p) (sb q p):=Int.toNat_of_nonneg hnn
   have h65:g65 it0 std ((((dt (sb q p) (sb q p)).toNat:Nat):Int),((1:Nat):Int),())=some ((frd p q).1,(frd p q).2,()):=w8e (by omega) (by omega) (by omega)
   have e0:((1:Nat):Int)=1:=rfl
   rw [e1,e0] at h65
   have c1:(j:Int)<(B.length:Int):=by omega
   have c2:(j:Int)≥0:=by omega
   have hw:=z00 (i:=j) (by omega)
   have htk:(z0d (o++(B.take j).map fun q=>frd p q)).take (o++(B.take j).map fun q=>frd p q).length=z0d (o++(B.take j).map fun q=>frd p q):=by rw [List.take_of_length_le (by rw [z0c]; omega)]
   have hap:z0d (o++(B.take j).map fun q=>frd p q)++[eP (frd p q)]=z0d (o++(B.take (j+1)).map fun q=>frd p q):=by rw [z0m hq]; simp [z0d]
   have hal:(o++(B.take j).map fun q=>frd p q).length+1=(o++(B.take (j+1)).map fun q=>frd p q).length:=by simp; omega
   have hl1:(o++(B.take (j+1)).map fun q=>frd p q).length≤1000000:=by simp; omega
   refine ⟨j+1,?_,by omega,by omega,rfl⟩
   simp only [x46,z0q,z0r,z0g,z0u,z0t,z1b,z0i,z0c,z0a,z0h,z0z,hw,c1,c2,gq,d1,d2,a1,a2,a3,h65,htk,hap,hal,hl1,List.drop_zero,List.take_succ_cons,List.take_zero,Nat.le_refl,Nat.zero_add]
  ·right
   have:j=B.length:=by omega
   subst this
   have hn:¬ ((B.length:Int)<(B.length:Int)):=by omega
   simp only [x46,z0q,z0r,z0c,hn,List.take_length]) 0 (Nat.zero_le _)
 rw [List.take_zero,List.map_nil,List.append_nil] at key
 exact key
theorem w4c (B:List Pt) (p:Pt):(y2z B p).length≤2*B.length:=by
 unfold y2z
 have:=x5f p B B.length
 rw [List.length_append,List.length_map]; omega
theorem y1b {B:List Pt} (lb:B.length≤60):∀ (A:List Pt),(A.flatMap (y2z B)).length≤120*A.length
 |[]=>by simp
 |p::A=>by
  have:=y1b lb A
  have:=w4c B p
  rw [List.flatMap_cons,List.length_append,List.length_cons]; omega
theorem x6m {S A B:List Pt} (hB:Cyc S B) (ka:∀ x∈A,z0s (-5000) 5000 x) (kb:∀ x∈B,z0s (-5000) 5000 x) (la:A.length≤60) (lb:B.length≤60) (o:List Pt) (ho:o.length≤20000) (L7 L8 L9 L10:List (List D)) (n11:Int):
  z3w (x29 it0 std) (z0d o,(0:Int),(0:Int),(0:Nat),o.length,z0d A,z0d B,L7,L8,L9,L10,n11,z0d A,(A.length:Int),(0:Int),())=
   some (z0d (o++A.flatMap (y2z B)),(0:Int),(0:Int),(0:Nat),(o++A.flatMap (y2z B)).length,L7,L8,L9,L10,n11,()):=by
 have key:=z3g (b:=x29 it0 std) (fun (j:Nat)=>(z0d (o++(A.take j).flatMap (y2z B)),(0:Int),(0:Int),(0:Nat),(o++(A.take j).flatMap (y2z B)).length,z0d A,z0d B,L7,L8,L9,L10,n11,z0d A,(A.length:Int),(j:Int),())) (fun j=>j≤A.length) (fun j=>A.length - j)
  (fun _=>(z0d (o++A.flatMap (y2z B)),(0:Int),(0:Int),(0:Nat),(o++A.flatMap (y2z B)).length,L7,L8,L9,L10,n11,())) (fun j hj=>by
  by_cases hlt:j<A.length
  ·left
   obtain ⟨p,hp⟩:=z0l hlt
   have gp:=z0x hp
   have hpb:=ka p (List.mem_of_getElem? hp)
   have hrl:=y1b lb (A.take j)
   have htl:(A.take j).length≤60:=by rw [List.length_take]; omega
   have ho1:(o++(A.take j).flatMap (y2z B)).length≤100000:=by rw [List.length_append]; omega
   have hfl:=w5o kb lb hpb _ ho1 (z0d A) L7 L8 L9 L10 (z0d A) n11 (A.length:Int) (j:Int)
   have ho2:(o++(A.take j).flatMap (y2z B)++B.map fun q=>frd p q).length≤100000:=by simp only [List.length_append,List.length_map] at ho1⊢; omega
   obtain ⟨r,hr,hr2⟩:=w3y hB kb lb hpb _ ho2 (z0d A) (z0d A) L7 L8 L9 L10 (A.length:Int) n11 (j:Int)
   have hcat:o++(A.take j).flatMap (y2z B)++(B.map fun q=>frd p q)++y1z p B B.length=o++(A.take (j+1)).flatMap (y2z B):=by
    rw [z0m hp,List.flatMap_append]; simp [y2z]
   rw [hcat] at hr2
   have c2:(j:Int)<(A.length:Int):=by omega
   have c3:(j:Int)≥0:=by omega
   have hw:=z00 (i:=j) (by omega)
   refine ⟨j+1,?_,by omega,by omega,rfl⟩
   rcases hr2 with rfl|rfl
   ·simp only [x29,it0_eq,z0q,z0r,z0g,z0u,z0t,z1b,z0i,z0c,z0a,hw,c2,c3,gp,hfl,hr]
   ·simp only [x29,it0_eq,z0q,z0r,z0g,z0u,z0t,z1b,z0i,z0c,z0a,hw,c2,c3,gp,hfl,hr]
  ·right
   have:j=A.length:=by omega
   subst this
   have hn:¬ ((A.length:Int)<(A.length:Int)):=by omega
   simp only [x29,z0q,z0r,z0c,hn,List.take_length]) 0 (Nat.zero_le _)
 rw [List.take_zero,List.flatMap_nil,List.append_nil] at key
 exact key
theorem w5h {S T a b:List Pt} (ha:Cyc T a) (hb:Cyc S b) (ka:∀ x∈a,z0s (-5000) 5000 x) (kb:∀ x∈b,z0s (-5000) 5000 x) (la:a.length≤60) (lb:b.length≤60):
  z3w (y6t it0 std) ([],(0:Int),(0:Int),(0:Nat),(0:Nat),z0d a,z0d b,z0d b,z0d a,(0:Int),())=some (z0d (y6b a b),(0:Int),(0:Int),(0:Nat),(y6b a b).length,()):=by
 have w1:IntKind.i64.wrap (0+1)=1:=by decide
 have w2:IntKind.i64.wrap (1+1)=2:=by decide
 have h1:=x6m hb ka kb la lb [] (by simp) (z0d a) (z0d b) (z0d b) (z0d a) 0
 have hl:=y1b lb a
 have h2:=x6m ha kb ka lb la (a.flatMap (y2z b)) (by omega) (z0d a) (z0d b) (z0d b) (z0d a) 1
 rw [List.nil_append] at h1
 have e0:z0d ([]:List Pt)=[]:=rfl
 have e1:([]:List Pt).length=0:=rfl
 rw [e0,e1] at h1
 have t0:y6t it0 std ([],(0:Int),(0:Int),(0:Nat),(0:Nat),z0d a,z0d b,z0d b,z0d a,(0:Int),())=some (.inl (z0d (a.flatMap (y2z b)),(0:Int),(0:Int),(0:Nat),(a.flatMap (y2z b)).length,z0d a,z0d b,z0d b,z0d a,(1:Int),())):=by
  simp only [y6t,it0_eq,z0q,z0r,z0c,h1,z0a,w1,show (0:Int)<2 by decide,ge_iff_le,Int.le_refl,show (0:Int)<((2:Nat):Int) by decide]
 have t1:y6t it0 std (z0d (a.flatMap (y2z b)),(0:Int),(0:Int),(0:Nat),(a.flatMap (y2z b)).length,z0d a,z0d b,z0d b,z0d a,(1:Int),())=some (.inl (z0d (y6b a b),(0:Int),(0:Int),(0:Nat),(y6b a b).length,z0d a,z0d b,z0d b,z0d a,(2:Int),())):=by
  simp only [y6t,it0_eq,z0q,z0r,z0c,h2,z0a,w2,show (1:Int)<2 by decide,show ¬ (1:Int)=0 by decide,ge_iff_le,show (0:Int)≤1 by decide,show (1:Int)<((2:Nat):Int) by decide,y6b]
 have t2:y6t it0 std (z0d (y6b a b),(0:Int),(0:Int),(0:Nat),(y6b a b).length,z0d a,z0d b,z0d b,z0d a,(2:Int),())=some (.inr (z0d (y6b a b),(0:Int),(0:Int),(0:Nat),(y6b a b).length,())):=by
  simp only [y6t,z0q,z0r,show ¬ (2:Int)<2 by decide]
 rw [z0j,t0]
 simp only
 rw [z0j,t1]
 simp only
 rw [z0j,t2]
theorem v0n {p q:Pt} (hp:z0s (-5000) 5000 p) (hq:z0s (-5000) 5000 q):Frc (frd p q):=by
 have hb:=z8b hq hp
 obtain ⟨_,_,_,a4,a5⟩:=y1p hb hb
 exact ⟨_,1,by omega,by omega,by omega,rfl⟩
theorem w3z {p f w x:Pt} (hp:z0s (-5000) 5000 p) (hf:z0s (-5000) 5000 f) (hw:z0s (-10000) 10000 w) (h:x5g p f w=some x):Frc x:=by
 have hb:=z8b hp hf
 obtain ⟨_,_,_,b4,b5⟩:=y1p hw hw
 obtain ⟨_,_,_,c4,c5⟩:=y1u hw hb
 obtain ⟨_,s2,s3⟩:=y8q c4 c5
 unfold x5g at h
 split at h
 ·cases h
 ·rename_i hn
  cases h
  exact ⟨_,_,by omega,by omega,by omega,rfl⟩
theorem w7g {S B:List Pt} (hB:Cyc S B) {t:Nat} (ht:t<B.length):sdP B t∈B∧∃ v∈B,sdW B t=sb v (sdP B t):=by
 obtain ⟨u,hu⟩:=z0l ht
 obtain ⟨v,hv⟩:=z0l (l:=B) (i:=(t+1) % B.length) (Nat.mod_lt _ (by omega))
 have h1:sdP B t=u:=z4t hu
 refine ⟨by rw [h1]; exact List.mem_of_getElem? hu,v,List.mem_of_getElem? hv,?_⟩
 unfold sdW; rw [z4t hu,z4t hv,h1]
theorem z9v {B:List Pt} {p x:Pt}:x∈y2z B p↔(∃ q∈B,x=frd p q)∨∃ t,t<B.length∧x5g p (sdP B t) (sdW B t)=some x:=by
 unfold y2z y1z
 simp only [List.mem_append,List.mem_map,List.mem_filterMap,List.mem_range]
 constructor
 ·rintro (⟨q,h1,rfl⟩|h)
  ·exact .inl ⟨q,h1,rfl⟩
  ·exact .inr h
 ·rintro (⟨q,h1,rfl⟩|h)
  ·exact .inl ⟨q,h1,rfl⟩
  ·exact .inr h
theorem x5q {S B:List Pt} (hB:Cyc S B) (kb:∀ x∈B,z0s (-5000) 5000 x) {p:Pt} (hp:z0s (-5000) 5000 p):∀ x∈y2z B p,Frc x:=by
 intro x hx
 rcases z9v.1 hx with ⟨q,hq,rfl⟩|⟨t,ht,hu⟩
 ·exact v0n hp (kb q hq)
 ·obtain ⟨h1,v,h2,h3⟩:=w7g hB ht
  rw [h3] at hu
  exact w3z hp (kb _ h1) (z8b (kb v h2) (kb _ h1)) hu
theorem y9g {S T a b:List Pt} (ha:Cyc T a) (hb:Cyc S b) (ka:∀ x∈a,z0s (-5000) 5000 x) (kb:∀ x∈b,z0s (-5000) 5000 x):∀ x∈y6b a b,Frc x:=by
 intro x hx
 unfold y6b at hx
 rcases List.mem_append.1 hx with hx|hx
 ·obtain ⟨p,hp,h⟩:=List.mem_flatMap.1 hx
  exact x5q hb kb (ka p hp) x h
 ·obtain ⟨p,hp,h⟩:=List.mem_flatMap.1 hx
  exact x5q ha ka (kb p hp) x h
theorem w5i {a b:List Pt} (la:a.length≤60) (lb:b.length≤60):(y6b a b).length≤14400:=by
 have h1:=y1b lb a
 have h2:=y1b la b
 unfold y6b
 rw [List.length_append]; omega
theorem w99 {a b:List Pt} (ha:a≠[]) (hb:b≠[]):y6b a b≠[]:=by
 match a,b,ha,hb with
 |p::a,q::b,_,_=>
  intro h
  have:frd p q∈y6b (p::a) (q::b):=List.mem_append.2 (.inl (List.mem_flatMap.2 ⟨p,by simp,z9v.2 (.inl ⟨q,by simp,rfl⟩)⟩))
  rw [h] at this; simp at this
theorem w66 {l:List Pt} {hs:List (List Pt)} (h:z51 l hs≠0) (m:List Pt) (ks:List (List Pt)):G25 std (z0d l,z1i hs,z0d m,z1i ks,())=some (0,0,z51 l hs,()):=by
 unfold G25
 have h62:g62 it0 std (z0d l,z1i hs,z0d m,z1i ks,())=_:=w63 h m ks
 simp only [g25,z0q,z0r,h62,h,not_false_eq_true]
theorem w65 {l:List Pt} {hs:List (List Pt)} (hf:z5n l hs) {m:List Pt} {ks:List (List Pt)} (h:z51 m ks≠0):G25 std (z0d l,z1i hs,z0d m,z1i ks,())=some (0,0,z51 m ks,()):=by
 unfold G25
 have h62:g62 it0 std (z0d l,z1i hs,z0d m,z1i ks,())=_:=w62 hf h
 simp only [g25,z0q,z0r,h62,h,not_false_eq_true]
theorem w3i {l:List Pt} {hs:List (List Pt)} (hf:z5n l hs) {m:List Pt} {ks:List (List Pt)} (hk:z5n m ks) (hc:z4o l hs m ks=true):G25 std (z0d l,z1i hs,z0d m,z1i ks,())=some (0,1,0,()):=by
 unfold G25
 have h62:g62 it0 std (z0d l,z1i hs,z0d m,z1i ks,())=_:=w8f hf hk
 have h63:=x0l hf hk
 rw [y2o hf hk,hc] at h63
 simp only [g25,z0q,z0r,h62,h63,not_true]
theorem v7t {l:List Pt} {hs:List (List Pt)} (hf:z5n l hs) {m:List Pt} {ks:List (List Pt)} (hk:z5n m ks) (hc:z4o l hs m ks=false):
  ∃ v,x3l (y6b (z1k (z1y l hs)) (z1k (z1y m ks))) v∧G25 std (z0d l,z1i hs,z0d m,z1i ks,())=some (v.1,v.2,0,()):=by
 have h62:g62 it0 std (z0d l,z1i hs,z0d m,z1i ks,())=_:=w8f hf hk
 have h63:=x0l hf hk
 rw [y2o hf hk,hc] at h63
 have hgb:=w5h hf.cyc hk.cyc hf.cbox hk.cbox (z3x hf) (z3x hk)
 have hlen:=w5i (z3x hf) (z3x hk)
 obtain ⟨v,h1,h2⟩:=v7n (w99 (z3h hf.allNe) (z3h hk.allNe)) (by omega) (y9g hf.cyc hk.cyc hf.cbox hk.cbox)
 have h69:g69 it0 std (z0d (y6b (z1k (z1y l hs)) (z1k (z1y m ks))),0,(y6b (z1k (z1y l hs)) (z1k (z1y m ks))).length,())=_:=h2
 refine ⟨v,h1,?_⟩
 unfold G25
 simp only [g25,it0_eq,z0q,z0r,h62,h63,hgb,h69,not_true,Nat.le_refl,Nat.add_zero]
end Go.Am
end
noncomputable section
namespace Go.Am
def v5y:Ctr:=
 ⟨73,[.agg [.list 2, .list 1], .agg [.list 2, .list 1]],[],[(.ret,⟨[(0, .agg [.int .i64, .int .i64])],[],1⟩)]⟩
def la73:List LA:=
 [⟨73,[false,true,false,true,true,true,true,true],0,⟨⟨[(4, .bptr 0 0),(5, .list 2),(6, .bptr 1 0),(7, .bptr 2 0),(8, .int .i64)],[.box [.int .i64, .int .i64], .box [.int .i64, .int .i64], .box [.int .i64, .int .i64]],107⟩,[((AX.exit 0),⟨[(4, .bptr 0 0),(7, .bptr 1 0)],[.box [.int .i64, .int .i64], .box [.int .i64, .int .i64]],107⟩)]⟩⟩]
def ja73:List JA:=
 [⟨73,[true,true,true,false,true,true,true,true,false,false,true,false,false,true,false,true,true,true,true,true],0,[(AX.normal,⟨[(4, .bptr 0 0),(5, .list 2),(6, .bptr 1 0),(7, .bptr 2 0),(8, .int .i64)],[.box [.int .i64, .int .i64], .box [.int .i64, .int .i64], .box [.int .i64, .int .i64]],107⟩)]⟩,
 ⟨73,[false,true,true,true,false,false,true,false,false,true,false,true,true,true,true,true],0,[(AX.normal,⟨[(4, .bptr 0 0),(5, .list 2),(6, .bptr 1 0),(7, .bptr 2 0),(8, .int .i64),(9, .bptr 3 0),(10, .bptr 4 0),(83, .bool)],[.box [.int .i64, .int .i64], .box [.int .i64, .int .i64], .box [.int .i64, .int .i64], .box [.int .i64, .int .i64], .box [.int .i64, .int .i64]],107⟩)]⟩,
 ⟨73,[true,true,true,true,false,false,true,false,false,true,false,true,true,true,true,true],0,[(AX.normal,⟨[(4, .bptr 0 0),(5, .list 2),(6, .bptr 1 0),(7, .bptr 2 0),(8, .int .i64)],[.box [.int .i64, .int .i64], .box [.int .i64, .int .i64], .box [.int .i64, .int .i64]],107⟩)]⟩,
 ⟨73,[true,true,false,true,false,false,true,false,false,true,false,true,true,true,true,true],0,[(AX.normal,⟨[(4, .bptr 0 0),(5, .list 2),(6, .bptr 1 0),(7, .bptr 2 0),(8, .int .i64),(9, .bptr 3 0),(10, .bptr 4 0)],[.box [.int .i64, .int .i64], .box [.int .i64, .int .i64], .box [.int .i64, .int .i64], .box [.int .i64, .int .i64], .box [.int .i64, .int .i64]],107⟩)]⟩]
def u0m:List CF:=
 [⟨v6b,G35⟩,⟨v6c,G34⟩,⟨v02,G91⟩,⟨v08,G58⟩,⟨v00,G95⟩]
def an73:Anns:=
 ⟨u0m,ja73,[]⟩
def y3q (it:It) (p:Prim):(Int×(Int×(Int×(Int×(Int×(Int×(LD×(Int×Unit))))))))→Option ((Int×(Int×(Int×(Int×(Int×(Int×(LD×(Int×Unit))))))))⊕(Int×(Int×(Int×(Int×Unit))))):=
 fun a=>opt.run _ (
 opt.ask _ (p.cmp .lss a.2.2.2.2.2.2.2.1 (p.ofNat (p.len a.2.2.2.2.2.2.1))) (
 opt.need _ (p.rowOk a.2.2.2.2.2.2.1 (p.nat a.2.2.2.2.2.2.2.1) [ci,ci])<|
 opt.need _ (p.cmp .geq a.2.2.2.2.2.2.2.1 (0:Int))<|
 opt.need _ (p.cmp .neq (p.ofNat (p.len a.2.2.2.2.2.2.1)) (0:Int))<|
 opt.need _ (p.rowOk a.2.2.2.2.2.2.1 (p.nat (p.ar .rem .i64 (p.ar .add .i64 a.2.2.2.2.2.2.2.1 (1:Int)) (p.ofNat (p.len a.2.2.2.2.2.2.1)))) [ci,ci])<|
 opt.need _ (p.cmp .geq (p.ar .rem .i64 (p.ar .add .i64 a.2.2.2.2.2.2.2.1 (1:Int)) (p.ofNat (p.len a.2.2.2.2.2.2.1))) (0:Int))<|
 opt.bnd T0 _ (G91 p ((p.rdI a.2.2.2.2.2.2.1 (p.nat a.2.2.2.2.2.2.2.1) 0),((p.rdI a.2.2.2.2.2.2.1 (p.nat a.2.2.2.2.2.2.2.1) 1),(a.2.2.1,(a.2.2.2.1,()))))) fun b=>
 opt.bnd T4 _ (g34 it p (b.1,((1:Int),()))) fun c=>
 opt.bnd T2 _ (g35 it p (c.1,(c.2.1,(a.2.2.2.2.1,(a.2.2.2.2.2.1,()))))) fun d=>
 opt.bnd T85 _ (
 opt.run T85 (
 opt.ask _ d.1 (
 opt.ret _ (a.1,(a.2.1,(a.2.2.1,(a.2.2.2.1,(c.1,(c.2.1,((p.rdI a.2.2.2.2.2.2.1 (p.nat a.2.2.2.2.2.2.2.1) 0),((p.rdI a.2.2.2.2.2.2.1 (p.nat a.2.2.2.2.2.2.2.1) 1),((p.rdI a.2.2.2.2.2.2.1 (p.nat (p.ar .rem .i64 (p.ar .add .i64 a.2.2.2.2.2.2.2.1 (1:Int)) (p.ofNat (p.len a.2.2.2.2.2.2.1)))) 0),((p.rdI a.2.2.2.2.2.2.1 (p.nat (p.ar .rem .i64 (p.ar .add .i64 a.2.2.2.2.2.2.2.1 (1:Int)) (p.ofNat (p.len a.2.2.2.2.2.2.1)))) 1),(a.2.2.2.2.2.2.1,(a.2.2.2.2.2.2.2.1,()))))))))))))) (
 opt.ret _ (a.1,(a.2.1,(a.2.2.1,(a.2.2.2.1,(a.2.2.2.2.1,(a.2.2.2.2.2.1,((p.rdI a.2.2.2.2.2.2.1 (p.nat a.2.2.2.2.2.2.2.1) 0),((p.rdI a.2.2.2.2.2.2.1 (p.nat a.2.2.2.2.2.2.2.1) 1),((p.rdI a.2.2.2.2.2.2.1 (p.nat (p.ar .rem .i64 (p.ar .add .i64 a.2.2.2.2.2.2.2.1 (1:Int)) (p.ofNat (p.len a.2.2.2.2.2.2.1)))) 0),((p.rdI a.2.2.2.2.2.2.1 (p.nat (p.ar .rem .i64 (p.ar .add .i64 a.2.2.2.2.2.2.2.1 (1:Int)) (p.ofNat (p.len a.2.2.2.2.2.2.1)))) 1),(a.2.2.2.2.2.2.1,(a.2.2.2.2.2.2.2.1,()))))))))))))))) fun e=>
 opt.bnd T86 _ (
 opt.run T86 (
 opt.ask _ (p.cmp .lss (p.ar .add .i64 (p.ar .mul .i64 e.2.2.2.2.2.2.1 (p.ar .sub .i64 e.2.2.2.2.2.2.2.2.1 e.2.2.2.2.2.2.1)) (p.ar .mul .i64 e.2.2.2.2.2.2.2.1 (p.ar .sub .i64 e.2.2.2.2.2.2.2.2.2.1 e.2.2.2.2.2.2.2.1))) (0:Int)) (
 opt.ret _ (e.1,(e.2.1,(e.2.2.1,(e.2.2.2.1,(e.2.2.2.2.1,(e.2.2.2.2.2.1,(e.2.2.2.2.2.2.1,(e.2.2.2.2.2.2.2.1,(e.2.2.2.2.2.2.2.2.1,(e.2.2.2.2.2.2.2.2.2.1,(e.2.2.2.2.2.2.2.2.2.2.1,(e.2.2.2.2.2.2.2.2.2.2.2.1,((p.cmp .gtr (p.ar .add .i64 (p.ar .mul .i64 e.2.2.2.2.2.2.2.2.1 (p.ar .sub .i64 e.2.2.2.2.2.2.2.2.1 e.2.2.2.2.2.2.1)) (p.ar .mul .i64 e.2.2.2.2.2.2.2.2.2.1 (p.ar .sub .i64 e.2.2.2.2.2.2.2.2.2.1 e.2.2.2.2.2.2.2.1))) (0:Int)),())))))))))))))) (
 opt.ret _ (e.1,(e.2.1,(e.2.2.1,(e.2.2.2.1,(e.2.2.2.2.1,(e.2.2.2.2.2.1,(e.2.2.2.2.2.2.1,(e.2.2.2.2.2.2.2.1,(e.2.2.2.2.2.2.2.2.1,(e.2.2.2.2.2.2.2.2.2.1,(e.2.2.2.2.2.2.2.2.2.2.1,(e.2.2.2.2.2.2.2.2.2.2.2.1,(Bool.false,())))))))))))))))) fun f=>
 opt.bnd T44 _ (
 opt.run T44 (
 opt.ask _ f.2.2.2.2.2.2.2.2.2.2.2.2.1 (
 opt.bnd T0 _ (G91 p (f.2.2.2.2.2.2.1,(f.2.2.2.2.2.2.2.1,(f.2.2.2.2.2.2.2.2.1,(f.2.2.2.2.2.2.2.2.2.1,()))))) fun g=>
 opt.bnd T4 _ (g34 it p ((p.ar .mul .i64 (p.ar .sub .i64 (p.ar .mul .i64 f.2.2.2.2.2.2.1 f.2.2.2.2.2.2.2.2.2.1) (p.ar .mul .i64 f.2.2.2.2.2.2.2.1 f.2.2.2.2.2.2.2.2.1)) (p.ar .sub .i64 (p.ar .mul .i64 f.2.2.2.2.2.2.1 f.2.2.2.2.2.2.2.2.2.1) (p.ar .mul .i64 f.2.2.2.2.2.2.2.1 f.2.2.2.2.2.2.2.2.1))),(g.1,()))) fun h=>
 opt.bnd T2 _ (g35 it p (h.1,(h.2.1,(f.2.2.2.2.1,(f.2.2.2.2.2.1,()))))) fun i=>
 opt.bnd T44 _ (
 opt.run T44 (
 opt.ask _ i.1 (
 opt.ret _ (f.1,(f.2.1,(f.2.2.1,(f.2.2.2.1,(h.1,(h.2.1,(f.2.2.2.2.2.2.2.2.2.2.1,(f.2.2.2.2.2.2.2.2.2.2.2.1,()))))))))) (
 opt.ret _ (f.1,(f.2.1,(f.2.2.1,(f.2.2.2.1,(f.2.2.2.2.1,(f.2.2.2.2.2.1,(f.2.2.2.2.2.2.2.2.2.2.1,(f.2.2.2.2.2.2.2.2.2.2.2.1,()))))))))))) fun j=>
 opt.ret _ (j.1,(j.2.1,(j.2.2.1,(j.2.2.2.1,(j.2.2.2.2.1,(j.2.2.2.2.2.1,(j.2.2.2.2.2.2.1,(j.2.2.2.2.2.2.2.1,()))))))))) (
 opt.ret _ (f.1,(f.2.1,(f.2.2.1,(f.2.2.2.1,(f.2.2.2.2.1,(f.2.2.2.2.2.1,(f.2.2.2.2.2.2.2.2.2.2.1,(f.2.2.2.2.2.2.2.2.2.2.2.1,()))))))))))) fun k=>
 opt.ret _ (Sum.inl (k.1,(k.2.1,(k.2.2.1,(k.2.2.2.1,(k.2.2.2.2.1,(k.2.2.2.2.2.1,(k.2.2.2.2.2.2.1,((p.ar .add .i64 k.2.2.2.2.2.2.2.1 (1:Int)),())))))))))) (
 opt.ret _ (Sum.inr (a.1,(a.2.1,(a.2.2.2.2.1,(a.2.2.2.2.2.1,())))))))
def g73 (it:It):(p:Prim)→(LD×(LD×(LD×(LD×Unit))))→Option T4:=
 fun p x=>
 opt.bnd ((LD×Unit)) _ (g95 it p (x.1,(x.2.1,(x.2.2.1,(x.2.2.2.1,()))))) fun a=>
 opt.bnd T2 _ (g58 it p (a.1,((0:Int),((0:Int),())))) fun b=>
 opt.ask _ b.1 (
 opt.ret _ ((0:Int),((1:Int),()))) (
 opt.need _ (p.rowOk a.1 (p.nat (0:Int)) [ci,ci])<|
 opt.bnd T0 _ (G91 p ((p.rdI a.1 (p.nat (0:Int)) 0),((p.rdI a.1 (p.nat (0:Int)) 1),((0:Int),((0:Int),()))))) fun c=>
 opt.bnd T4 _ (g34 it p (c.1,((1:Int),()))) fun d=>
 opt.bnd T8 _ (
 it _ _ (y3q it p) ((0:Int),((0:Int),((0:Int),((0:Int),(d.1,(d.2.1,(a.1,((0:Int),()))))))))) fun e=>
 opt.ret _ (e.2.2.1,(e.2.2.2.1,())))
def G73:=g73 it0
theorem ok73:CtrOk PG v5y (G73 std):=okF (a:=an73) (l:=la73) (gC ok35 (gC ok34 (gC u2z (gC u3g (gC u2x (gN)))))) (by kernel_rfl) fun _ _=>by kernel_rfl
def v6f:Ctr:=
 ⟨26,[.agg [.list 2, .list 1], .agg [.list 2, .list 1]],[],[(.ret,⟨[(0, .tuple [.agg [.int .i64, .int .i64], .int .i64])],[],1⟩)]⟩
def la26:List LA:=
 []
def ja26:List JA:=
 []
def u1p:List CF:=
 [⟨v5y,G73⟩,⟨w53,G72⟩]
def an26:Anns:=
 ⟨u1p,ja26,[]⟩
def g26 (it:It):(p:Prim)→(LD×(LD×(LD×(LD×Unit))))→Option T5:=
 fun p x=>
 opt.bnd T0 _ (g72 it p (x.1,(x.2.1,(x.2.2.1,(x.2.2.2.1,()))))) fun a=>
 opt.ask _ (p.cmp .neq a.1 (0:Int)) (
 opt.bnd T0 _ (g72 it p (x.1,(x.2.1,(x.2.2.1,(x.2.2.2.1,()))))) fun b=>
 opt.ret _ ((0:Int),((0:Int),(b.1,())))) (
 opt.bnd T4 _ (g73 it p (x.1,(x.2.1,(x.2.2.1,(x.2.2.2.1,()))))) fun c=>
 opt.ret _ (c.1,(c.2.1,((0:Int),()))))
def G26:=g26 it0
theorem ok26:CtrOk PG v6f (G26 std):=okF (a:=an26) (l:=la26) (gC ok73 (gC v8y (gN))) (by kernel_rfl) fun _ _=>by kernel_rfl
end Go.Am
end
