/- Texts of this claim. -/
import Derived.Test.YtolfgnbldofcjaaT4
import Derived.Test.YtolfgnbldofcjaaProg
import Derived.KernelRfl
set_option linter.unusedVariables false
set_option linter.unusedSimpArgs false
set_option linter.unusedSectionVars false
set_option maxRecDepth 100000
set_option maxHeartbeats 0
noncomputable section
namespace Go.Am
def w44:Ctr:=
 ⟨57,[.list 2, .agg [.int .i64, .int .i64], .int .i64],[],[(.ret,⟨[(0, .bool)],[],1⟩)]⟩
def la57:List LA:=
 [⟨94,[false,true],7,⟨⟨[(0, .yld 6),(1, .bptr 5 0),(6, .list 2),(7, .int .i64),(8, .int .i64)],[.box [.list 2], .box [.int .i64, .int .i64], .box [.int .i64], .box [.bool], .box [.clo 84 [] [.bptr 2 0]], .box [.list 2], .loop Go.LoopState.ready Option.none 57 [Bool.false,Bool.true,Bool.false,Bool.true,Bool.true,Bool.true] 47 [(22, .clo 94 [] [.bptr 5 0]),(4, .bptr 1 0),(3, .bptr 0 0),(7, .bptr 4 0),(6, .bptr 3 0)]],33⟩,[(AX.ret,⟨[],[.box [.list 2], .box [.int .i64, .int .i64], .box [.int .i64], .box [.bool], .box [.clo 84 [] [.bptr 2 0]], .box [.list 2], .loop Go.LoopState.ready Option.none 57 [Bool.false,Bool.true,Bool.false,Bool.true,Bool.true,Bool.true] 47 [(22, .clo 94 [] [.bptr 5 0]),(4, .bptr 1 0),(3, .bptr 0 0),(7, .bptr 4 0),(6, .bptr 3 0)]],33⟩),(AX.ret,⟨[],[.box [.list 2], .box [.int .i64, .int .i64], .box [.int .i64], .box [.bool], .box [.clo 84 [] [.bptr 2 0]], .box [.list 2], .loop Go.LoopState.done (Option.some Go.Code.ret) 57 [Bool.false,Bool.true,Bool.false,Bool.true,Bool.true,Bool.true] 47 [(22, .clo 94 [] [.bptr 5 0]),(4, .bptr 1 0),(3, .bptr 0 0),(7, .bptr 4 0),(6, .bptr 3 0)]],33⟩),((AX.exit 0),⟨[],[.box [.list 2], .box [.int .i64, .int .i64], .box [.int .i64], .box [.bool], .box [.clo 84 [] [.bptr 2 0]], .box [.list 2], .loop Go.LoopState.ready Option.none 57 [Bool.false,Bool.true,Bool.false,Bool.true,Bool.true,Bool.true] 47 [(22, .clo 94 [] [.bptr 5 0]),(4, .bptr 1 0),(3, .bptr 0 0),(7, .bptr 4 0),(6, .bptr 3 0)]],33⟩)]⟩⟩]
def ja57:List JA:=
 [⟨57,[true,false,true,true,true],0,[(AX.normal,⟨[(6, .bptr 0 0)],[.box [.bool]],47⟩),(AX.ret,⟨[(6, .bptr 0 0)],[.box [.bool]],47⟩)]⟩,
 ⟨57,[false,true,false,true,false,true,false,true,true,true],19,[(AX.normal,⟨[(3, .bptr 0 0),(4, .bptr 1 0),(6, .bptr 3 0),(7, .bptr 4 0),(46, .bool)],[.box [.list 2], .box [.int .i64, .int .i64], .box [.int .i64], .box [.bool], .box [.clo 84 [] [.bptr 2 0]], .box [.list 2], .dead, .box [.int .i64, .int .i64], .dead, .dead, .dead, .dead, .dead, .dead, .dead, .dead, .dead, .dead, .box [.int .i64, .int .i64]],47⟩)]⟩]
def v9q:List CF:=
 []
def an57:Anns:=
 ⟨v9q,ja57,[]⟩
def u0q (p:Prim):(LD×T62)→Option ((LD×T62)⊕((LD×T13)⊕((LD×T13)⊕(LD×T13)))):=
 fun a=>opt.run _ (
 opt.ask _ (p.cmp .lss a.2.2.2.2.2.2.2.2.1 a.2.2.2.2.2.2.2.1) (
 opt.need _ (p.rowOk a.2.2.2.2.2.2.1 (p.nat a.2.2.2.2.2.2.2.2.1) [ci,ci])<|
 opt.need _ (p.cmp .geq a.2.2.2.2.2.2.2.2.1 (0:Int))<|
 opt.need _ (p.cmp .neq (p.ofNat (p.len a.2.2.2.2.2.1)) (0:Int))<|
 opt.need _ (p.rowOk a.2.2.2.2.2.1 (p.nat (p.ar .rem .i64 (p.ar .add .i64 a.2.2.2.2.2.2.2.2.1 (1:Int)) (p.ofNat (p.len a.2.2.2.2.2.1)))) [ci,ci])<|
 opt.need _ (p.cmp .geq (p.ar .rem .i64 (p.ar .add .i64 a.2.2.2.2.2.2.2.2.1 (1:Int)) (p.ofNat (p.len a.2.2.2.2.2.1))) (0:Int))<|
 opt.ask _ (bif (p.cmp .eql (p.ar .sub .i64 (p.rdI a.2.2.2.2.2.1 (p.nat (p.ar .rem .i64 (p.ar .add .i64 a.2.2.2.2.2.2.2.2.1 (1:Int)) (p.ofNat (p.len a.2.2.2.2.2.1)))) 0) (p.rdI a.2.2.2.2.2.2.1 (p.nat a.2.2.2.2.2.2.2.2.1) 0)) (0:Int)) then (bif (p.cmp .eql (p.ar .sub .i64 (p.rdI a.2.2.2.2.2.1 (p.nat (p.ar .rem .i64 (p.ar .add .i64 a.2.2.2.2.2.2.2.2.1 (1:Int)) (p.ofNat (p.len a.2.2.2.2.2.1)))) 1) (p.rdI a.2.2.2.2.2.2.1 (p.nat a.2.2.2.2.2.2.2.2.1) 1)) (0:Int)) then Bool.true else Bool.false) else Bool.false) (
 opt.ret _ (Sum.inr (Sum.inl (a.1,(a.2.1,(a.2.2.1,(a.2.2.2.1,(a.2.2.2.2.1,(a.2.2.2.2.2.1,()))))))))) (
 opt.need _ (p.and Bool.true (p.and Bool.true Bool.true))<|
 opt.bnd ((LD×T63)) _ (
 opt.run ((LD×T63)) (
 opt.ask _ (p.cmp .lss (p.ar .sub .i64 (p.ar .mul .i64 (p.ar .sub .i64 (p.rdI a.2.2.2.2.2.1 (p.nat (p.ar .rem .i64 (p.ar .add .i64 a.2.2.2.2.2.2.2.2.1 (1:Int)) (p.ofNat (p.len a.2.2.2.2.2.1)))) 0) (p.rdI a.2.2.2.2.2.2.1 (p.nat a.2.2.2.2.2.2.2.2.1) 0)) (p.ar .sub .i64 a.2.2.1 (p.ar .mul .i64 (p.rdI a.2.2.2.2.2.2.1 (p.nat a.2.2.2.2.2.2.2.2.1) 1) a.2.2.2.1))) (p.ar .mul .i64 (p.ar .sub .i64 (p.rdI a.2.2.2.2.2.1 (p.nat (p.ar .rem .i64 (p.ar .add .i64 a.2.2.2.2.2.2.2.2.1 (1:Int)) (p.ofNat (p.len a.2.2.2.2.2.1)))) 1) (p.rdI a.2.2.2.2.2.2.1 (p.nat a.2.2.2.2.2.2.2.2.1) 1)) (p.ar .sub .i64 a.2.1 (p.ar .mul .i64 (p.rdI a.2.2.2.2.2.2.1 (p.nat a.2.2.2.2.2.2.2.2.1) 0) a.2.2.2.1)))) (0:Int)) (
 opt.ret _ (a.1,(a.2.1,(a.2.2.1,(a.2.2.2.1,(a.2.2.2.2.1,(a.2.2.2.2.2.1,((p.rdI a.2.2.2.2.2.2.1 (p.nat a.2.2.2.2.2.2.2.2.1) 0),((p.rdI a.2.2.2.2.2.2.1 (p.nat a.2.2.2.2.2.2.2.2.1) 1),((p.ar .sub .i64 (p.rdI a.2.2.2.2.2.1 (p.nat (p.ar .rem .i64 (p.ar .add .i64 a.2.2.2.2.2.2.2.2.1 (1:Int)) (p.ofNat (p.len a.2.2.2.2.2.1)))) 0) (p.rdI a.2.2.2.2.2.2.1 (p.nat a.2.2.2.2.2.2.2.2.1) 0)),((p.ar .sub .i64 (p.rdI a.2.2.2.2.2.1 (p.nat (p.ar .rem .i64 (p.ar .add .i64 a.2.2.2.2.2.2.2.2.1 (1:Int)) (p.ofNat (p.len a.2.2.2.2.2.1)))) 1) (p.rdI a.2.2.2.2.2.2.1 (p.nat a.2.2.2.2.2.2.2.2.1) 1)),(Bool.true,())))))))))))) (
 opt.ask _ (p.cmp .eql (p.ofNat (p.len a.1)) (2:Int)) (
 opt.ret _ (a.1,(a.2.1,(a.2.2.1,(a.2.2.2.1,(a.2.2.2.2.1,(a.2.2.2.2.2.1,((p.rdI a.2.2.2.2.2.2.1 (p.nat a.2.2.2.2.2.2.2.2.1) 0),((p.rdI a.2.2.2.2.2.2.1 (p.nat a.2.2.2.2.2.2.2.2.1) 1),((p.ar .sub .i64 (p.rdI a.2.2.2.2.2.1 (p.nat (p.ar .rem .i64 (p.ar .add .i64 a.2.2.2.2.2.2.2.2.1 (1:Int)) (p.ofNat (p.len a.2.2.2.2.2.1)))) 0) (p.rdI a.2.2.2.2.2.2.1 (p.nat a.2.2.2.2.2.2.2.2.1) 0)),((p.ar .sub .i64 (p.rdI a.2.2.2.2.2.1 (p.nat (p.ar .rem .i64 (p.ar .add .i64 a.2.2.2.2.2.2.2.2.1 (1:Int)) (p.ofNat (p.len a.2.2.2.2.2.1)))) 1) (p.rdI a.2.2.2.2.2.2.1 (p.nat a.2.2.2.2.2.2.2.2.1) 1)),((p.cmp .lss (p.ar .add .i64 (p.ar .mul .i64 (p.ar .sub .i64 (p.rdI a.2.2.2.2.2.1 (p.nat (p.ar .rem .i64 (p.ar .add .i64 a.2.2.2.2.2.2.2.2.1 (1:Int)) (p.ofNat (p.len a.2.2.2.2.2.1)))) 0) (p.rdI a.2.2.2.2.2.2.1 (p.nat a.2.2.2.2.2.2.2.2.1) 0)) (p.ar .sub .i64 a.2.1 (p.ar .mul .i64 (p.rdI a.2.2.2.2.2.2.1 (p.nat a.2.2.2.2.2.2.2.2.1) 0) a.2.2.2.1))) (p.ar .mul .i64 (p.ar .sub .i64 (p.rdI a.2.2.2.2.2.1 (p.nat (p.ar .rem .i64 (p.ar .add .i64 a.2.2.2.2.2.2.2.2.1 (1:Int)) (p.ofNat (p.len a.2.2.2.2.2.1)))) 1) (p.rdI a.2.2.2.2.2.2.1 (p.nat a.2.2.2.2.2.2.2.2.1) 1)) (p.ar .sub .i64 a.2.2.1 (p.ar .mul .i64 (p.rdI a.2.2.2.2.2.2.1 (p.nat a.2.2.2.2.2.2.2.2.1) 1) a.2.2.2.1)))) (0:Int)),())))))))))))) (
 opt.ret _ (a.1,(a.2.1,(a.2.2.1,(a.2.2.2.1,(a.2.2.2.2.1,(a.2.2.2.2.2.1,((p.rdI a.2.2.2.2.2.2.1 (p.nat a.2.2.2.2.2.2.2.2.1) 0),((p.rdI a.2.2.2.2.2.2.1 (p.nat a.2.2.2.2.2.2.2.2.1) 1),((p.ar .sub .i64 (p.rdI a.2.2.2.2.2.1 (p.nat (p.ar .rem .i64 (p.ar .add .i64 a.2.2.2.2.2.2.2.2.1 (1:Int)) (p.ofNat (p.len a.2.2.2.2.2.1)))) 0) (p.rdI a.2.2.2.2.2.2.1 (p.nat a.2.2.2.2.2.2.2.2.1) 0)),((p.ar .sub .i64 (p.rdI a.2.2.2.2.2.1 (p.nat (p.ar .rem .i64 (p.ar .add .i64 a.2.2.2.2.2.2.2.2.1 (1:Int)) (p.ofNat (p.len a.2.2.2.2.2.1)))) 1) (p.rdI a.2.2.2.2.2.2.1 (p.nat a.2.2.2.2.2.2.2.2.1) 1)),(Bool.false,()))))))))))))))) fun b=>
 opt.ask _ b.2.2.2.2.2.2.2.2.2.2.1 (
 opt.ret _ (Sum.inr (Sum.inr (Sum.inl (b.1,(b.2.1,(b.2.2.1,(b.2.2.2.1,(Bool.false,(b.2.2.2.2.2.1,())))))))))) (
 opt.ret _ (Sum.inl (b.1,(b.2.1,(b.2.2.1,(b.2.2.2.1,(b.2.2.2.2.1,(b.2.2.2.2.2.1,(a.2.2.2.2.2.2.1,(a.2.2.2.2.2.2.2.1,((p.ar .add .i64 a.2.2.2.2.2.2.2.2.1 (1:Int)),()))))))))))))) (
 opt.ret _ (Sum.inr (Sum.inr (Sum.inr (a.1,(a.2.1,(a.2.2.1,(a.2.2.2.1,(a.2.2.2.2.1,(a.2.2.2.2.2.1,())))))))))))
def g57 (it:It):(p:Prim)→(LD×T7)→Option T2:=
 fun p x=>
 opt.ask _ (p.cmp .eql (p.ofNat (p.len x.1)) (1:Int)) (
 opt.need _ (p.rowOk x.1 (p.nat (0:Int)) [ci,ci])<|
 opt.need _ (p.and Bool.true (p.and Bool.true Bool.true))<|
 opt.ret _ ((bif (p.cmp .eql x.2.1 (p.ar .mul .i64 (p.rdI x.1 (p.nat (0:Int)) 0) x.2.2.2.1)) then (bif (p.cmp .eql x.2.2.1 (p.ar .mul .i64 (p.rdI x.1 (p.nat (0:Int)) 1) x.2.2.2.1)) then Bool.true else Bool.false) else Bool.false),())) (
 opt.alt T2 T2 _ (
 opt.run (((Bool×Unit)⊕(Bool×Unit))) (
 opt.alt ((LD×T13)) (((LD×T13)⊕(LD×T13))) _ (
 it _ _ (u0q p) (x.1,(x.2.1,(x.2.2.1,(x.2.2.2.1,(Bool.false,(x.1,(x.1,((p.ofNat (p.len x.1)),((0:Int),())))))))))) (fun a=>
 opt.ret _ (Sum.inl (a.2.2.2.2.1,()))) (fun b=>
 opt.alt ((LD×T13)) ((LD×T13)) _ (some b) (fun c=>
 opt.ret _ (Sum.inr (c.2.2.2.2.1,()))) (fun d=>
 opt.bnd ((LD×T13)) _ (some d) fun e=>
 opt.ret _ (Sum.inl (e.2.2.2.2.1,())))))) (fun f=>
 opt.ret _ (Bool.true,())) (fun g=>
 opt.bnd T2 _ (some g) fun h=>
 opt.ret _ (h.1,())))
def G57:=g57 it0
theorem v7t:CtrOk PG w44 (G57 std):=okF (a:=an57) (l:=la57) (gN) (by kernel_rfl) fun _ _=>by kernel_rfl
def w90:Ctr:=
 ⟨77,[.int .i64],[],[(.ret,⟨[(0, .int .i64)],[],1⟩)]⟩
def la77:List LA:=
 []
def ja77:List JA:=
 []
def v9d:List CF:=
 []
def an77:Anns:=
 ⟨v9d,ja77,[]⟩
def G77:(p:Prim)→T1→Option T0:=
 fun p x=>
 opt.ret _ ((p.mm .gtr x.1 (p.ar .sub .i64 (0:Int) x.1)),())
theorem u1i:CtrOk PG w90 (G77 std):=okF (a:=an77) (l:=la77) (gN) (by kernel_rfl) fun _ _=>by kernel_rfl
def w9z:Ctr:=
 ⟨93,[.list 1],[],[(.ret,⟨[(0, .int .i64)],[],1⟩)]⟩
def la93:List LA:=
 [⟨93,[false,true,false,true,true],0,⟨⟨[(3, .int .i64),(6, .list 1),(7, .int .i64),(8, .int .i64)],[],22⟩,[((AX.exit 0),⟨[(3, .int .i64)],[],22⟩)]⟩⟩,
 ⟨93,[false,true,true,false,false,true,true,false,false,true,false,true,true],0,⟨⟨[(3, .int .i64),(5, .int .i64),(6, .list 1),(7, .int .i64),(8, .int .i64)],[],22⟩,[((AX.exit 2),⟨[(3, .int .i64),(6, .list 1),(7, .int .i64),(8, .int .i64)],[],22⟩)]⟩⟩]
def ja93:List JA:=
 []
def v83:List CF:=
 [⟨w90,G77⟩]
def an93:Anns:=
 ⟨v83,ja93,[]⟩
def x8l (p:Prim):T26→Option ((Int×(Int×(LD×(Int×(Int×Unit)))))⊕(Int×(LD×(Int×(Int×Unit))))):=
 fun a=>opt.run _ (
 opt.ask _ (p.cmp .neq a.2.1 (0:Int)) (
 opt.need _ (p.cmp .neq a.2.1 (0:Int))<|
 opt.ret _ (Sum.inl (a.2.1,((p.ar .rem .i64 a.1 a.2.1),(a.2.2.1,(a.2.2.2.1,(a.2.2.2.2.1,()))))))) (
 opt.ret _ (Sum.inr (a.1,(a.2.2.1,(a.2.2.2.1,(a.2.2.2.2.1,())))))))
def x8g (it:It) (p:Prim):T50→Option ((Int×(LD×(Int×(Int×Unit))))⊕(Int×Unit)):=
 fun a=>opt.run _ (
 opt.ask _ (p.cmp .lss a.2.2.2.1 a.2.2.1) (
 opt.need _ (p.rowOk a.2.1 (p.nat a.2.2.2.1) [ci])<|
 opt.need _ (p.cmp .geq a.2.2.2.1 (0:Int))<|
 opt.bnd T0 _ (G77 p ((p.rdI a.2.1 (p.nat a.2.2.2.1) 0),())) fun b=>
 opt.bnd ((Int×(LD×(Int×(Int×Unit))))) _ (
 it _ _ (x8l p) (a.1,(b.1,(a.2.1,(a.2.2.1,(a.2.2.2.1,())))))) fun c=>
 opt.ret _ (Sum.inl (c.1,(c.2.1,(c.2.2.1,((p.ar .add .i64 c.2.2.2.1 (1:Int)),())))))) (
 opt.ret _ (Sum.inr (a.1,()))))
def g93 (it:It):(p:Prim)→(LD×Unit)→Option T0:=
 fun p x=>
 opt.bnd T0 _ (
 it _ _ (x8g it p) ((0:Int),(x.1,((p.ofNat (p.len x.1)),((0:Int),()))))) fun a=>
 opt.ret _ (a.1,())
def G93:=g93 it0
theorem u1g:CtrOk PG w9z (G93 std):=okF (a:=an93) (l:=la93) (gC u1i (gN)) (by kernel_rfl) fun _ _=>by kernel_rfl
def w92:Ctr:=
 ⟨65,[.int .i64, .int .i64],[],[(.ret,⟨[(0, .agg [.int .i64, .int .i64])],[],1⟩)]⟩
def la65:List LA:=
 []
def ja65:List JA:=
 []
def v9k:List CF:=
 [⟨w9z,G93⟩]
def an65:Anns:=
 ⟨v9k,ja65,[]⟩
def g65 (it:It):(p:Prim)→T3→Option T4:=
 fun p x=>
 opt.need _ (p.and (p.leN (p.add 0 2) (p.len [[(D.int .i64 x.1)],[(D.int .i64 x.2.1)]])) Bool.true)<|
 opt.bnd T0 _ (g93 it p ((p.cut [[(D.int .i64 x.1)],[(D.int .i64 x.2.1)]] 0 2),())) fun a=>
 opt.need _ (p.cmp .neq a.1 (0:Int))<|
 opt.need _ (p.cmp .neq a.1 (0:Int))<|
 opt.ret _ ((p.ar .quo .i64 x.1 a.1),((p.ar .quo .i64 x.2.1 a.1),()))
def G65:=g65 it0
theorem u1k:CtrOk PG w92 (G65 std):=okF (a:=an65) (l:=la65) (gC u1g (gN)) (by kernel_rfl) fun _ _=>by kernel_rfl
def z40:Ctr:=
 ⟨71,[.agg [.int .i64, .int .i64], .agg [.int .i64, .int .i64]],[],[(.ret,⟨[(0, .bool)],[],1⟩)]⟩
def la71:List LA:=
 []
def ja71:List JA:=
 [⟨71,[false,false,true,true,true,true],0,[(AX.normal,⟨[(2, .bptr 0 0),(3, .bptr 1 0),(7, .int .i64),(8, .int .i64),(40, .bool)],[.box [.int .i64, .int .i64], .box [.int .i64, .int .i64]],53⟩)]⟩]
def w9a:(Prim→Tup (z40).scs→Option (STup (scss (z40).outs)))→List CF:=
 fun R=>[⟨z40,R⟩]
def an71:(Prim→Tup (z40).scs→Option (STup (scss (z40).outs)))→Anns:=
 fun R=>⟨w9a R,ja71,[]⟩
def G71:(Prim→Tup (z40).scs→Option (STup (scss (z40).outs)))→(p:Prim)→T10→Option T2:=
 fun R=>fun p x=>
 opt.need _ (p.cmp .neq x.2.1 (0:Int))<|
 opt.need _ (p.cmp .neq x.2.2.2.1 (0:Int))<|
 opt.ask _ (p.cmp .neq (p.ar .quo .i64 x.1 x.2.1) (p.ar .quo .i64 x.2.2.1 x.2.2.2.1)) (
 opt.ret _ ((p.cmp .lss (p.ar .quo .i64 x.1 x.2.1) (p.ar .quo .i64 x.2.2.1 x.2.2.2.1)),())) (
 opt.need _ (p.cmp .neq x.2.1 (0:Int))<|
 opt.need _ (p.cmp .neq x.2.2.2.1 (0:Int))<|
 opt.bnd T48 _ (
 opt.run T48 (
 opt.ask _ (p.cmp .eql (p.ar .rem .i64 x.1 x.2.1) (0:Int)) (
 opt.ret _ (x.1,(x.2.1,(x.2.2.1,(x.2.2.2.1,((p.ar .rem .i64 x.1 x.2.1),((p.ar .rem .i64 x.2.2.1 x.2.2.2.1),(Bool.true,())))))))) (
 opt.ret _ (x.1,(x.2.1,(x.2.2.1,(x.2.2.2.1,((p.ar .rem .i64 x.1 x.2.1),((p.ar .rem .i64 x.2.2.1 x.2.2.2.1),((p.cmp .eql (p.ar .rem .i64 x.2.2.1 x.2.2.2.1) (0:Int)),())))))))))) fun a=>
 opt.ask _ a.2.2.2.2.2.2.1 (
 opt.ret _ ((p.cmp .lss a.2.2.2.2.1 a.2.2.2.2.2.1),())) (
 opt.bnd T2 _ (R p (a.2.2.2.1,(a.2.2.2.2.2.1,(a.2.1,(a.2.2.2.2.1,()))))) fun b=>
 opt.ret _ (b.1,())))
def v1b:Nat→Prim→Tup (z40).scs→Option (STup (scss (z40).outs)):=
 fun n=>Nat.rec (motive:=fun _=>(Prim→Tup (z40).scs→Option (STup (scss (z40).outs)))) (fun _ _=>none) (fun _ f p x=>G71 f p x) n
def F71:Prim→Tup (z40).scs→Option (STup (scss (z40).outs)):=
 v1b 100
theorem eq71 (R:(Prim→Tup (z40).scs→Option (STup (scss (z40).outs)))) (p:Prim) (x:Tup (z40).scs):bodyRun opt p (autoEnv Go.Proofs.Try.prog) (mkOrc opt p (autoEnv Go.Proofs.Try.prog) 400 (an71 R) la71) 400 z40 x=G71 R p x:=by kernel_rfl
theorem v8z (R:(Prim→Tup (z40).scs→Option (STup (scss (z40).outs)))) (hR:CtrOk Go.Proofs.Try.prog z40 (R std)):GamOk Go.Proofs.Try.prog (w9a R):=by
 intro cf h
 simp only [w9a,List.mem_cons,List.not_mem_nil,or_false] at h
 rcases h with rfl
 ·exact hR
theorem x54:z3e Go.Proofs.Try.prog 71:=enters_auto (b:=_) rfl (by kernel_rfl)
theorem x9z (R:(Prim→Tup (z40).scs→Option (STup (scss (z40).outs)))) (hR:CtrOk Go.Proofs.Try.prog z40 (R std)):CtrOk Go.Proofs.Try.prog z40 (fun x=>G71 R std x):=ctr_of_body (autoEnv_ok follows_mixed) (mkOrc_ok (autoEnv_ok follows_mixed) (v8z R hR) _) x54 (fun x=>eq71 R std x)
theorem w6h:∀ n,CtrOk Go.Proofs.Try.prog z40 (v1b n std)
 |0=>⟨x54,fun x y h=>nomatch h⟩
 |n+1=>x9z (v1b n) (w6h n)
theorem ok71:CtrOk Go.Proofs.Try.prog z40 (F71 std):=w6h 100
def v4s:Ctr:=
 ⟨76,[.agg [.int .i64, .int .i64, .int .i64, .int .i64], .agg [.int .i64, .int .i64, .int .i64, .int .i64]],[],[(.ret,⟨[(0, .tuple [.agg [.int .i64, .int .i64, .int .i64], .bool])],[],1⟩)]⟩
def la76:List LA:=
 []
def ja76:List JA:=
 [⟨76,[true,false,true,true,true,true],0,[(AX.normal,⟨[(2, .bptr 0 0),(4, .bptr 1 0),(6, .int .i64),(8, .int .i64),(9, .int .i64)],[.box [.int .i64, .int .i64, .int .i64, .int .i64], .box [.int .i64, .int .i64, .int .i64]],101⟩)]⟩,
 ⟨76,[false,false,true,true,true,true,true],0,[(AX.normal,⟨[(2, .bptr 0 0),(4, .bptr 1 0),(6, .int .i64),(8, .int .i64),(57, .bool)],[.box [.int .i64, .int .i64, .int .i64, .int .i64], .box [.int .i64, .int .i64, .int .i64]],101⟩)]⟩]
def v9e:List CF:=
 [⟨w9z,G93⟩]
def an76:Anns:=
 ⟨v9e,ja76,[]⟩
def g76 (it:It):(p:Prim)→(Int×(Int×(Int×(Int×(Int×(Int×(Int×(Int×Unit))))))))→Option T21:=
 fun p x=>
 opt.bnd T64 _ (
 opt.run T64 (
 opt.ask _ (p.cmp .lss (p.ar .sub .i64 (p.ar .mul .i64 x.2.2.1 x.2.2.2.2.2.2.2.1) (p.ar .mul .i64 x.2.2.2.1 x.2.2.2.2.2.2.1)) (0:Int)) (
 opt.ret _ (x.1,(x.2.1,(x.2.2.1,(x.2.2.2.1,((0:Int),((0:Int),((0:Int),((p.ar .sub .i64 (0:Int) (p.ar .sub .i64 (p.ar .mul .i64 x.2.2.1 x.2.2.2.2.2.2.2.1) (p.ar .mul .i64 x.2.2.2.1 x.2.2.2.2.2.2.1))),((p.ar .sub .i64 (0:Int) (p.ar .sub .i64 (p.ar .mul .i64 (p.ar .sub .i64 x.2.2.2.2.1 x.1) x.2.2.2.2.2.2.2.1) (p.ar .mul .i64 (p.ar .sub .i64 x.2.2.2.2.2.1 x.2.1) x.2.2.2.2.2.2.1))),((p.ar .sub .i64 (0:Int) (p.ar .sub .i64 (p.ar .mul .i64 (p.ar .sub .i64 x.2.2.2.2.1 x.1) x.2.2.2.1) (p.ar .mul .i64 (p.ar .sub .i64 x.2.2.2.2.2.1 x.2.1) x.2.2.1))),()))))))))))) (
 opt.ret _ (x.1,(x.2.1,(x.2.2.1,(x.2.2.2.1,((0:Int),((0:Int),((0:Int),((p.ar .sub .i64 (p.ar .mul .i64 x.2.2.1 x.2.2.2.2.2.2.2.1) (p.ar .mul .i64 x.2.2.2.1 x.2.2.2.2.2.2.1)),((p.ar .sub .i64 (p.ar .mul .i64 (p.ar .sub .i64 x.2.2.2.2.1 x.1) x.2.2.2.2.2.2.2.1) (p.ar .mul .i64 (p.ar .sub .i64 x.2.2.2.2.2.1 x.2.1) x.2.2.2.2.2.2.1)),((p.ar .sub .i64 (p.ar .mul .i64 (p.ar .sub .i64 x.2.2.2.2.1 x.1) x.2.2.2.1) (p.ar .mul .i64 (p.ar .sub .i64 x.2.2.2.2.2.1 x.2.1) x.2.2.1)),()))))))))))))) fun a=>
 opt.bnd T33 _ (
 opt.run T33 (
 opt.ask _ (p.cmp .eql a.2.2.2.2.2.2.2.1 (0:Int)) (
 opt.ret _ (a.1,(a.2.1,(a.2.2.1,(a.2.2.2.1,(a.2.2.2.2.1,(a.2.2.2.2.2.1,(a.2.2.2.2.2.2.1,(a.2.2.2.2.2.2.2.1,(a.2.2.2.2.2.2.2.2.1,(Bool.true,()))))))))))) (
 opt.ask _ (p.cmp .lss a.2.2.2.2.2.2.2.2.1 (0:Int)) (
 opt.ret _ (a.1,(a.2.1,(a.2.2.1,(a.2.2.2.1,(a.2.2.2.2.1,(a.2.2.2.2.2.1,(a.2.2.2.2.2.2.1,(a.2.2.2.2.2.2.2.1,(a.2.2.2.2.2.2.2.2.1,(Bool.true,()))))))))))) (
 opt.ask _ (p.cmp .gtr a.2.2.2.2.2.2.2.2.1 a.2.2.2.2.2.2.2.1) (
 opt.ret _ (a.1,(a.2.1,(a.2.2.1,(a.2.2.2.1,(a.2.2.2.2.1,(a.2.2.2.2.2.1,(a.2.2.2.2.2.2.1,(a.2.2.2.2.2.2.2.1,(a.2.2.2.2.2.2.2.2.1,(Bool.true,()))))))))))) (
 opt.ask _ (p.cmp .lss a.2.2.2.2.2.2.2.2.2.1 (0:Int)) (
 opt.ret _ (a.1,(a.2.1,(a.2.2.1,(a.2.2.2.1,(a.2.2.2.2.1,(a.2.2.2.2.2.1,(a.2.2.2.2.2.2.1,(a.2.2.2.2.2.2.2.1,(a.2.2.2.2.2.2.2.2.1,(Bool.true,()))))))))))) (
 opt.ret _ (a.1,(a.2.1,(a.2.2.1,(a.2.2.2.1,(a.2.2.2.2.1,(a.2.2.2.2.2.1,(a.2.2.2.2.2.2.1,(a.2.2.2.2.2.2.2.1,(a.2.2.2.2.2.2.2.2.1,((p.cmp .gtr a.2.2.2.2.2.2.2.2.2.1 a.2.2.2.2.2.2.2.1),())))))))))))))))) fun b=>
 opt.ask _ b.2.2.2.2.2.2.2.2.2.1 (
 opt.ret _ ((0:Int),((0:Int),((0:Int),(Bool.false,()))))) (
 opt.need _ (p.and (p.leN (p.add 0 3) (p.len [[(D.int .i64 (p.ar .add .i64 (p.ar .mul .i64 b.1 b.2.2.2.2.2.2.2.1) (p.ar .mul .i64 b.2.2.1 b.2.2.2.2.2.2.2.2.1)))],[(D.int .i64 (p.ar .add .i64 (p.ar .mul .i64 b.2.1 b.2.2.2.2.2.2.2.1) (p.ar .mul .i64 b.2.2.2.1 b.2.2.2.2.2.2.2.2.1)))],[(D.int .i64 b.2.2.2.2.2.2.2.1)]])) Bool.true)<|
 opt.bnd T0 _ (g93 it p ((p.cut [[(D.int .i64 (p.ar .add .i64 (p.ar .mul .i64 b.1 b.2.2.2.2.2.2.2.1) (p.ar .mul .i64 b.2.2.1 b.2.2.2.2.2.2.2.2.1)))],[(D.int .i64 (p.ar .add .i64 (p.ar .mul .i64 b.2.1 b.2.2.2.2.2.2.2.1) (p.ar .mul .i64 b.2.2.2.1 b.2.2.2.2.2.2.2.2.1)))],[(D.int .i64 b.2.2.2.2.2.2.2.1)]] 0 3),())) fun c=>
 opt.need _ (p.cmp .neq c.1 (0:Int))<|
 opt.need _ (p.cmp .neq c.1 (0:Int))<|
 opt.need _ (p.cmp .neq c.1 (0:Int))<|
 opt.ret _ ((p.ar .quo .i64 (p.ar .add .i64 (p.ar .mul .i64 b.1 b.2.2.2.2.2.2.2.1) (p.ar .mul .i64 b.2.2.1 b.2.2.2.2.2.2.2.2.1)) c.1),((p.ar .quo .i64 (p.ar .add .i64 (p.ar .mul .i64 b.2.1 b.2.2.2.2.2.2.2.1) (p.ar .mul .i64 b.2.2.2.1 b.2.2.2.2.2.2.2.2.1)) c.1),((p.ar .quo .i64 b.2.2.2.2.2.2.2.1 c.1),(Bool.true,())))))
def G76:=g76 it0
theorem ok76:CtrOk PG v4s (G76 std):=okF (a:=an76) (l:=la76) (gC u1g (gN)) (by kernel_rfl) fun _ _=>by kernel_rfl
def v4w:Ctr:=
 ⟨68,[.agg [.int .i64, .int .i64], .agg [.int .i64, .int .i64, .int .i64, .int .i64]],[],[(.ret,⟨[(0, .tuple [.agg [.int .i64, .int .i64], .bool])],[],1⟩)]⟩
def la68:List LA:=
 []
def ja68:List JA:=
 [⟨68,[false,false,true,true,true],0,[(AX.normal,⟨[(3, .bptr 0 0),(4, .bptr 1 0),(6, .bptr 2 0),(8, .int .i64),(29, .bool)],[.box [.int .i64, .int .i64, .int .i64, .int .i64], .box [.int .i64, .int .i64], .box [.int .i64, .int .i64]],40⟩)]⟩]
def v9j:List CF:=
 [⟨w92,G65⟩]
def an68:Anns:=
 ⟨v9j,ja68,[]⟩
def g68 (it:It):(p:Prim)→T27→Option T18:=
 fun p x=>
 opt.bnd T33 _ (
 opt.run T33 (
 opt.ask _ (p.cmp .leq (p.ar .add .i64 (p.ar .mul .i64 x.2.2.2.2.1 (p.ar .sub .i64 x.1 x.2.2.1)) (p.ar .mul .i64 x.2.2.2.2.2.1 (p.ar .sub .i64 x.2.1 x.2.2.2.1))) (0:Int)) (
 opt.ret _ (x.2.2.1,(x.2.2.2.1,(x.2.2.2.2.1,(x.2.2.2.2.2.1,((0:Int),((0:Int),((p.ar .sub .i64 x.1 x.2.2.1),((p.ar .sub .i64 x.2.1 x.2.2.2.1),((p.ar .add .i64 (p.ar .mul .i64 x.2.2.2.2.1 x.2.2.2.2.1) (p.ar .mul .i64 x.2.2.2.2.2.1 x.2.2.2.2.2.1)),(Bool.true,()))))))))))) (
 opt.ret _ (x.2.2.1,(x.2.2.2.1,(x.2.2.2.2.1,(x.2.2.2.2.2.1,((0:Int),((0:Int),((p.ar .sub .i64 x.1 x.2.2.1),((p.ar .sub .i64 x.2.1 x.2.2.2.1),((p.ar .add .i64 (p.ar .mul .i64 x.2.2.2.2.1 x.2.2.2.2.1) (p.ar .mul .i64 x.2.2.2.2.2.1 x.2.2.2.2.2.1)),((p.cmp .geq (p.ar .add .i64 (p.ar .mul .i64 x.2.2.2.2.1 (p.ar .sub .i64 x.1 x.2.2.1)) (p.ar .mul .i64 x.2.2.2.2.2.1 (p.ar .sub .i64 x.2.1 x.2.2.2.1))) (p.ar .add .i64 (p.ar .mul .i64 x.2.2.2.2.1 x.2.2.2.2.1) (p.ar .mul .i64 x.2.2.2.2.2.1 x.2.2.2.2.2.1))),()))))))))))))) fun a=>
 opt.ask _ a.2.2.2.2.2.2.2.2.2.1 (
 opt.ret _ ((0:Int),((0:Int),(Bool.false,())))) (
 opt.bnd T4 _ (g65 it p ((p.ar .mul .i64 (p.ar .sub .i64 (p.ar .mul .i64 a.2.2.1 a.2.2.2.2.2.2.2.1) (p.ar .mul .i64 a.2.2.2.1 a.2.2.2.2.2.2.1)) (p.ar .sub .i64 (p.ar .mul .i64 a.2.2.1 a.2.2.2.2.2.2.2.1) (p.ar .mul .i64 a.2.2.2.1 a.2.2.2.2.2.2.1))),(a.2.2.2.2.2.2.2.2.1,()))) fun b=>
 opt.ret _ (b.1,(b.2.1,(Bool.true,()))))
def G68:=g68 it0
theorem ok68:CtrOk PG v4w (G68 std):=okF (a:=an68) (l:=la68) (gC u1k (gN)) (by kernel_rfl) fun _ _=>by kernel_rfl
end Go.Am
end
noncomputable section
namespace Go.Am
def v5c:Ctr:=
 ⟨21,[.agg [.list 2, .list 1], .agg [.int .i64, .int .i64]],[],[(.ret,⟨[(0, .tuple [.bool, .int .i64])],[],1⟩)]⟩
def la21:List LA:=
 []
def ja21:List JA:=
 []
def u0a:List CF:=
 [⟨w44,G57⟩,⟨w45,G53⟩,⟨x75,G48⟩]
def an21:Anns:=
 ⟨u0a,ja21,[]⟩
def g21 (it:It):(p:Prim)→(LD×(LD×T3))→Option ((Bool×(Int×Unit))):=
 fun p x=>
 opt.alt T0 ((LD×(LD×(LD×T1)))) _ (g48 it p (x.1,(x.2.1,()))) (fun a=>
 opt.ask _ (p.cmp .neq a.1 (0:Int)) (
 opt.ret _ (Bool.false,(a.1,()))) (
 opt.need _ (p.and Bool.true (p.and Bool.true (p.and (p.leN (p.add 0 1) (p.len [[(D.int .i64 x.2.2.1),(D.int .i64 x.2.2.2.1)]])) Bool.true)))<|
 opt.bnd T2 _ (g53 it p ((-1099511627776:Int),((1099511627776:Int),((p.cut [[(D.int .i64 x.2.2.1),(D.int .i64 x.2.2.2.1)]] 0 1),())))) fun b=>
 opt.ask _ (bif b.1 then Bool.false else Bool.true) (
 opt.ret _ (Bool.false,((3:Int),()))) (
 opt.no _ 41))) (fun c=>
 opt.bnd ((LD×(LD×(LD×T1)))) _ (some c) fun d=>
 opt.ask _ (p.cmp .neq d.2.2.2.1 (0:Int)) (
 opt.ret _ (Bool.false,(d.2.2.2.1,()))) (
 opt.need _ (p.and Bool.true (p.and Bool.true (p.and (p.leN (p.add 0 1) (p.len [[(D.int .i64 x.2.2.1),(D.int .i64 x.2.2.2.1)]])) Bool.true)))<|
 opt.bnd T2 _ (g53 it p ((-1099511627776:Int),((1099511627776:Int),((p.cut [[(D.int .i64 x.2.2.1),(D.int .i64 x.2.2.2.1)]] 0 1),())))) fun e=>
 opt.ask _ (bif e.1 then Bool.false else Bool.true) (
 opt.ret _ (Bool.false,((3:Int),()))) (
 opt.bnd T2 _ (g57 it p (d.2.2.1,(x.2.2.1,(x.2.2.2.1,((1:Int),()))))) fun f=>
 opt.ret _ (f.1,((0:Int),())))))
def G21:=g21 it0
theorem ok21:CtrOk PG v5c (G21 std):=okF (a:=an21) (l:=la21) (gC v7t (gC v7u (gC v1p (gN)))) (by kernel_rfl) fun _ _=>by kernel_rfl
def v5b:Ctr:=
 ⟨23,[.agg [.list 2, .list 1], .list 2],[],[(.ret,⟨[(0, .tuple [.agg [.int .i64, .int .i64], .int .i64])],[],1⟩)]⟩
def la23:List LA:=
 [⟨23,[false,true,false,true,true,true,true],0,⟨⟨[(4, .bptr 0 0),(8, .list 2),(37, .list 2),(38, .int .i64),(39, .int .i64)],[.box [.int .i64, .int .i64]],54⟩,[(AX.ret,⟨[(4, .bptr 0 0),(5, .int .i64)],[.box [.int .i64, .int .i64]],54⟩),((AX.exit 1),⟨[(4, .bptr 0 0)],[.box [.int .i64, .int .i64]],54⟩)]⟩⟩]
def ja23:List JA:=
 [⟨23,[true,true,true,false,false,true,true],0,[(AX.ret,⟨[(4, .bptr 0 0),(5, .int .i64)],[.box [.int .i64, .int .i64]],54⟩),(AX.normal,⟨[(1, .list 2),(4, .bptr 0 0),(6, .nilp)],[.box [.int .i64, .int .i64]],54⟩),(AX.normal,⟨[(1, .list 2),(4, .bptr 0 0),(6, .bptr 1 0)],[.box [.int .i64, .int .i64], .box [.list 2, .list 1, .list 2]],54⟩)]⟩,
 ⟨23,[true,false,false,true,true],0,[(AX.ret,⟨[(4, .bptr 0 0),(5, .int .i64)],[.box [.int .i64, .int .i64]],54⟩),(AX.normal,⟨[(1, .list 2),(4, .bptr 0 0),(6, .nilp)],[.box [.int .i64, .int .i64]],54⟩),(AX.normal,⟨[(1, .list 2),(4, .bptr 0 0),(6, .bptr 1 0)],[.box [.int .i64, .int .i64], .box [.list 2, .list 1, .list 2]],54⟩)]⟩]
def v99:List CF:=
 [⟨w44,G57⟩,⟨w94,G59⟩,⟨w93,G60⟩,⟨w45,G53⟩,⟨w95,G50⟩,⟨x75,G48⟩]
def an23:Anns:=
 ⟨v99,ja23,[]⟩
def v0m (it:It) (p:Prim):T65→Option T66:=
 fun a=>opt.run _ (
 opt.ask _ (p.cmp .lss a.2.2.2.2.2.1 a.2.2.2.2.1) (
 opt.need _ (p.rowOk a.2.2.2.1 (p.nat a.2.2.2.2.2.1) [ci,ci])<|
 opt.need _ (p.cmp .geq a.2.2.2.2.2.1 (0:Int))<|
 opt.bnd T2 _ (g57 it p (a.2.2.1,((p.rdI a.2.2.2.1 (p.nat a.2.2.2.2.2.1) 0),((p.rdI a.2.2.2.1 (p.nat a.2.2.2.2.2.1) 1),((1:Int),()))))) fun b=>
 opt.ask _ (bif b.1 then Bool.false else Bool.true) (
 opt.ret _ (Sum.inr (Sum.inl ((p.rdI a.2.2.2.1 (p.nat a.2.2.2.2.2.1) 0),((p.rdI a.2.2.2.1 (p.nat a.2.2.2.2.2.1) 1),((0:Int),())))))) (
 opt.ret _ (Sum.inl (a.1,(a.2.1,(a.2.2.1,(a.2.2.2.1,(a.2.2.2.2.1,((p.ar .add .i64 a.2.2.2.2.2.1 (1:Int)),()))))))))) (
 opt.ret _ (Sum.inr (Sum.inr (a.1,(a.2.1,()))))))
def v0n (it:It) (p:Prim):T65→Option T66:=
 fun a=>opt.run _ (
 opt.ask _ (p.cmp .lss a.2.2.2.2.2.1 a.2.2.2.2.1) (
 opt.need _ (p.rowOk a.2.2.2.1 (p.nat a.2.2.2.2.2.1) [ci,ci])<|
 opt.need _ (p.cmp .geq a.2.2.2.2.2.1 (0:Int))<|
 opt.bnd T2 _ (g57 it p (a.2.2.1,((p.rdI a.2.2.2.1 (p.nat a.2.2.2.2.2.1) 0),((p.rdI a.2.2.2.1 (p.nat a.2.2.2.2.2.1) 1),((1:Int),()))))) fun b=>
 opt.ask _ (bif b.1 then Bool.false else Bool.true) (
 opt.ret _ (Sum.inr (Sum.inl ((p.rdI a.2.2.2.1 (p.nat a.2.2.2.2.2.1) 0),((p.rdI a.2.2.2.1 (p.nat a.2.2.2.2.2.1) 1),((0:Int),())))))) (
 opt.ret _ (Sum.inl (a.1,(a.2.1,(a.2.2.1,(a.2.2.2.1,(a.2.2.2.2.1,((p.ar .add .i64 a.2.2.2.2.2.1 (1:Int)),()))))))))) (
 opt.ret _ (Sum.inr (Sum.inr (a.1,(a.2.1,()))))))
def g23 (it:It):(p:Prim)→(LD×(LD×(LD×Unit)))→Option T6:=
 fun p x=>
 opt.alt T0 ((LD×(LD×(LD×T1)))) _ (g48 it p (x.1,(x.2.1,()))) (fun a=>
 opt.alt T6 T34 _ (
 opt.run T35 (
 opt.ask _ (p.cmp .neq a.1 (0:Int)) (
 opt.ret _ (Sum.inl ((0:Int),((0:Int),(a.1,()))))) (
 opt.bnd T2 _ (G50 p (x.2.2.1,())) fun b=>
 opt.alt T6 T34 _ (
 opt.run T35 (
 opt.ask _ (bif b.1 then Bool.false else Bool.true) (
 opt.ret _ (Sum.inl ((0:Int),((0:Int),((6:Int),()))))) (
 opt.bnd T2 _ (g53 it p ((-10000:Int),((10000:Int),(x.2.2.1,())))) fun c=>
 opt.ask _ (bif c.1 then Bool.false else Bool.true) (
 opt.ret _ (Sum.inl ((0:Int),((0:Int),((3:Int),()))))) (
 opt.ret _ (Sum.inr (Sum.inl ((0:Int),((0:Int),(x.2.2.1,()))))))))) (fun d=>
 opt.ret _ (Sum.inl (d.1,(d.2.1,(d.2.2.1,()))))) (fun e=>
 opt.alt T22 T15 _ (some e) (fun f=>
 opt.ret _ (Sum.inr (Sum.inl (f.1,(f.2.1,(f.2.2.1,())))))) (fun g=>
 opt.bnd T15 _ (some g) fun h=>
 opt.ret _ (Sum.inr (Sum.inr (h.1,(h.2.1,(h.2.2.1,(h.2.2.2.1,(h.2.2.2.2.1,(h.2.2.2.2.2.1,()))))))))))))) (fun i=>
 opt.ret _ (i.1,(i.2.1,(i.2.2.1,())))) (fun j=>
 opt.alt T22 T15 _ (some j) (fun k=>
 opt.bnd ((LD×Unit)) _ (g60 it p (k.2.2.1,())) fun l=>
 opt.bnd ((LD×Unit)) _ (g59 it p (l.1,())) fun m=>
 opt.no _ 41) (fun n=>
 opt.bnd T15 _ (some n) fun o=>
 opt.bnd ((LD×Unit)) _ (g60 it p (o.2.2.2.2.2.1,())) fun q=>
 opt.bnd ((LD×Unit)) _ (g59 it p (q.1,())) fun r=>
 opt.alt T6 T4 _ (
 it _ _ (v0n it p) (o.1,(o.2.1,(r.1,(o.2.2.2.2.1,((p.ofNat (p.len o.2.2.2.2.1)),((0:Int),()))))))) (fun t=>
 opt.ret _ (t.1,(t.2.1,(t.2.2.1,())))) (fun u=>
 opt.bnd T4 _ (some u) fun v=>
 opt.ret _ ((0:Int),((0:Int),((5:Int),()))))))) (fun w=>
 opt.bnd ((LD×(LD×(LD×T1)))) _ (some w) fun z=>
 opt.alt T6 T34 _ (
 opt.run T35 (
 opt.ask _ (p.cmp .neq z.2.2.2.1 (0:Int)) (
 opt.ret _ (Sum.inl ((0:Int),((0:Int),(z.2.2.2.1,()))))) (
 opt.bnd T2 _ (G50 p (x.2.2.1,())) fun a1=>
 opt.alt T6 T34 _ (
 opt.run T35 (
 opt.ask _ (bif a1.1 then Bool.false else Bool.true) (
 opt.ret _ (Sum.inl ((0:Int),((0:Int),((6:Int),()))))) (
 opt.bnd T2 _ (g53 it p ((-10000:Int),((10000:Int),(x.2.2.1,())))) fun b1=>
 opt.ask _ (bif b1.1 then Bool.false else Bool.true) (
 opt.ret _ (Sum.inl ((0:Int),((0:Int),((3:Int),()))))) (
 opt.ret _ (Sum.inr (Sum.inr ((0:Int),((0:Int),(z.1,(z.2.1,(z.2.2.1,(x.2.2.1,())))))))))))) (fun c1=>
 opt.ret _ (Sum.inl (c1.1,(c1.2.1,(c1.2.2.1,()))))) (fun d1=>
 opt.alt T22 T15 _ (some d1) (fun e1=>
 opt.ret _ (Sum.inr (Sum.inl (e1.1,(e1.2.1,(e1.2.2.1,())))))) (fun f1=>
 opt.bnd T15 _ (some f1) fun g1=>
 opt.ret _ (Sum.inr (Sum.inr (g1.1,(g1.2.1,(g1.2.2.1,(g1.2.2.2.1,(g1.2.2.2.2.1,(g1.2.2.2.2.2.1,()))))))))))))) (fun h1=>
 opt.ret _ (h1.1,(h1.2.1,(h1.2.2.1,())))) (fun i1=>
 opt.alt T22 T15 _ (some i1) (fun j1=>
 opt.bnd ((LD×Unit)) _ (g60 it p (j1.2.2.1,())) fun k1=>
 opt.bnd ((LD×Unit)) _ (g59 it p (k1.1,())) fun l1=>
 opt.no _ 41) (fun m1=>
 opt.bnd T15 _ (some m1) fun n1=>
 opt.bnd ((LD×Unit)) _ (g60 it p (n1.2.2.2.2.2.1,())) fun o1=>
 opt.bnd ((LD×Unit)) _ (g59 it p (o1.1,())) fun q1=>
 opt.alt T6 T4 _ (
 it _ _ (v0m it p) (n1.1,(n1.2.1,(q1.1,(n1.2.2.2.2.1,((p.ofNat (p.len n1.2.2.2.2.1)),((0:Int),()))))))) (fun r1=>
 opt.ret _ (r1.1,(r1.2.1,(r1.2.2.1,())))) (fun t1=>
 opt.bnd T4 _ (some t1) fun u1=>
 opt.ret _ ((0:Int),((0:Int),((5:Int),())))))))
def G23:=g23 it0
theorem ok23:CtrOk PG v5b (G23 std):=okF (a:=an23) (l:=la23) (gC v7t (gC u1m (gC u1l (gC v7u (gC u1n (gC v1p (gN))))))) (by kernel_rfl) fun _ _=>by kernel_rfl
end Go.Am
end
section
namespace M06
def ml (a:Pt) (den:Int):Pt:=(a.1*den,a.2*den)
def x40 (n:Nat) (a b p:Pt) (den:Int):Bool:=if crs (sb b a) (sb p (ml a den))<0 then false else if n=2 then !decide (dt (sb b a) (sb p (ml a den))<0) else true
def inC (c:List Pt) (p:Pt) (den:Int):Bool:=
 if c.length=1 then decide (p=ml (c.getD 0 (0,0)) den) else (List.range c.length).all fun i=>x40 c.length (c.getD i (0,0)) (c.getD ((i+1) % c.length) (0,0)) p den
def InH (S:List Pt) (p:Pt) (den:Int):Prop:=∀ d:Pt,∃ x∈S,0≤crs d (sb p (ml x den))
theorem x9h (p a b:Pt) (k:Int) (d:Pt):crs d (sb p (ml b k))=crs d (sb p (ml a k))+k*crs d (sb a b):=by simp only [crs,sb,ml]; grind
theorem InH.sub {S T:List Pt} {p:Pt} {k:Int} (h:InH S p k) (hs:∀ x∈S,x∈T):InH T p k:=fun d=>by
 obtain ⟨x,hx,h0⟩:=h d
 exact ⟨x,hs x hx,h0⟩
theorem x4b {S c:List Pt} (h:Cyc S c) (d:Pt):∃ a∈c,∀ x∈S,0≤crs d (sb x a):=by
 by_cases hd:d=(0,0)
 ·subst hd
  match c,h with
  |a::r,_=>exact ⟨a,by simp,fun x _=>by simp [crs]⟩
 ·have h1:=z64 h hd
  have h2:=z64 (z1w h) hd
  exact ⟨_,h2.ina,h1.left⟩
theorem z47 {S c:List Pt} (h:Cyc S c) {p:Pt} {k:Int} (hk:0≤k):InH S p k↔InH c p k:=by
 refine ⟨fun hp d=>?_,fun hp=>hp.sub (z4z h)⟩
 obtain ⟨x,hx,h0⟩:=hp d
 obtain ⟨a,ha,hall⟩:=x4b h d
 refine ⟨a,ha,?_⟩
 rw [x9h p x a k d]
 have:=Int.mul_nonneg hk (hall x hx)
 omega
theorem x32 {S:List Pt} {q a b:Pt} (hq:q∈S) (h1:Nx S q a) (h2:Nx S a b) (h0:crs (sb a q) (sb b a)=0):q=b:=by
 have z1:cr q a b=0:=by
  have e:cr q a b=crs (sb a q) (sb b a):=by simp only [cr,crs,sb]; grind
  omega
 have z2:cr a b q=0:=by
  have e:cr a b q=crs (sb a q) (sb b a):=by simp only [cr,crs,sb]; grind
  omega
 have d1:=((h1.2.2 b h2.1).2 z1).1
 refine x90 h2 hq z2 ?_
 have hu:=z0x (u:=sb a q) (fun e=>h1.2.1 (z1a.1 e).symm)
 have hl:=lag (sb a q) (sb b a)
 rw [h0] at hl
 have e1:far a q=dt (sb a q) (sb a q):=by simp only [far,dt,sb]
 have e2:far a b=dt (sb b a) (sb b a):=by simp only [far,dt,sb]; grind
 have e3:dt (sb a q) (sb b q)=dt (sb a q) (sb a q)+dt (sb a q) (sb b a):=by simp only [dt,sb]; grind
 have d2:=((h2.2.2 q hq).2 z2).1
 have e4:dt (sb b a) (sb q a)= - dt (sb a q) (sb b a):=by simp only [dt,sb]; grind
 rw [e1,e2]
 generalize dt (sb a q) (sb a q)=n at*
 generalize dt (sb b a) (sb b a)=m at*
 generalize dt (sb a q) (sb b a)=t at*
 have hm:(-t)*(-t)≤n*n:=Int.mul_le_mul (by omega) (by omega) (by omega) (by omega)
 rw [Int.neg_mul_neg] at hm
 have hnm:n*m≤n*n:=by omega
 refine Classical.byContradiction fun hc=>?_
 have:=Int.mul_lt_mul_of_pos_left (show n<m by omega) hu
 omega
theorem getD_some {α:Type} {l:List α} {i:Nat} {a d:α} (h:l[i]?=some a):l.getD i d=a:=by simp [List.getD_eq_getElem?_getD,h]
theorem z65 {c:List Pt} (h:Cyc c c) (h2:2≤c.length) {a b:Pt} (ha:a∈c) (hn:Nx c a b):∃ i,i<c.length∧c[i]?=some a∧c[(i+1) % c.length]?=some b:=by
 obtain ⟨i,hi⟩:=List.getElem?_of_mem ha
 have hil:=(List.getElem?_eq_some_iff.1 hi).1
 have hx:∃ y,c[(i+1) % c.length]?=some y:=⟨_,List.getElem?_eq_getElem (Nat.mod_lt _ (by omega))⟩
 obtain ⟨y,hy⟩:=hx
 have:=y1i hn (z7h h h2 hi hy)
 subst this
 exact ⟨i,hil,hi,hy⟩
theorem y1j {α:Type} {l:List α} (h:l.Nodup) {i j:Nat} {a:α} (hi:l[i]?=some a) (hj:l[j]?=some a):i=j:=by
 obtain ⟨i1,i2⟩:=List.getElem?_eq_some_iff.1 hi
 obtain ⟨j1,j2⟩:=List.getElem?_eq_some_iff.1 hj
 have hp:=List.pairwise_iff_getElem.1 h
 rcases Nat.lt_trichotomy i j with k|k|k
 ·exact absurd (i2.trans j2.symm) (hp i j i1 j1 k)
 ·exact k
 ·exact absurd (j2.trans i2.symm) (hp j i j1 i1 k)
theorem z7o {n:Nat} {a b p:Pt} {k:Int}:x40 n a b p k=true↔0≤crs (sb b a) (sb p (ml a k))∧(n=2→0≤dt (sb b a) (sb p (ml a k))):=by
 unfold x40
 split
 ·rename_i h
  exact ⟨fun h=>by simp at h,fun h'=>by omega⟩
 ·rename_i h
  split
  ·rename_i h2
   rw [Bool.not_eq_true',decide_eq_false_iff_not]
   exact ⟨fun h'=>⟨by omega,fun _=>by omega⟩,fun h'=>by have:=h'.2 h2; omega⟩
  ·rename_i h2
   exact ⟨fun _=>⟨by omega,fun e=>absurd e h2⟩,fun _=>rfl⟩
theorem z9a {S c:List Pt} (h:Cyc S c) {p:Pt} {k:Int} (hk:0<k):inC c p k=true↔InH c p k:=by
 have hc:=z1w h
 have hne:1≤c.length:=by
  match c,h with
  |a::r,_=>simp
 unfold inC
 by_cases h1:c.length=1
 ·rw [if_pos h1]
  obtain ⟨a,rfl⟩:∃ a,c=[a]:=by
   match c,h1 with
   |[a],_=>exact ⟨a,rfl⟩
  show decide (p=ml a k)=true↔_
  rw [decide_eq_true_eq]
  constructor
  ·rintro rfl d
   exact ⟨a,by simp,by simp [crs,sb]⟩
  ·intro hp
   have q:∀ d:Pt,0≤crs d (sb p (ml a k)):=fun d=>by
    obtain ⟨x,hx,h0⟩:=hp d
    simp at hx; subst hx; exact h0
   have q1:=q (1,0)
   have q2:=q (-1,0)
   have q3:=q (0,1)
   have q4:=q (0, -1)
   simp only [crs,sb] at q1 q2 q3 q4
   exact Prod.ext (by omega) (by omega)
 ·have h2:2≤c.length:=by omega
  rw [if_neg h1,List.all_eq_true]
  constructor
  ·intro hall
   have side:∀ {a b:Pt},a∈c→Nx c a b→0≤crs (sb b a) (sb p (ml a k))∧(c.length=2→0≤dt (sb b a) (sb p (ml a k))):=by
    intro a b ha hn
    obtain ⟨i,hi,i1,i2⟩:=z65 hc h2 ha hn
    have:=hall i (List.mem_range.2 hi)
    rw [getD_some i1,getD_some i2] at this
    exact z7o.1 this
   intro d
   by_cases hd:d=(0,0)
   ·subst hd
    obtain ⟨a,ha⟩:∃ a,a∈c:=by
     match c,hne with
     |a::r,_=>exact ⟨a,by simp⟩
    exact ⟨a,ha,by simp [crs]⟩
   ·obtain ⟨α,a1,_,a3⟩:∃ α,α∈c∧True∧((∃ β,Nx c α β∧z6r d (sb β α))∨∃ q β,q∈c∧Nx c q α∧Nx c α β∧0<crs (sb α q) d∧0<crs d (sb β α)):=by
     match c,hc,h2 with
     |a::b::r,hc,_=>
      obtain ⟨α,k1,k2,k3⟩:=w1g hc hd
      exact ⟨α,k1,trivial,k3.imp (fun ⟨β,x,y,_⟩=>⟨β,x,y⟩) (fun ⟨_,x⟩=>x)⟩
    refine ⟨α,a1,?_⟩
    rcases a3 with ⟨β,b1,b2⟩|⟨q,β,b1,b2,b3,b4,b5⟩
    ·have hs:=(side a1 b1).1
     have hm:=(b2.symm.mul (sb p (ml α k))).1
     exact (z8h (z0x b2.symm.ne) b2.symm.2 hm).1.2 hs
    ·have s1:=(side b1 b2).1
     have s2:=side a1 b3
     have e1:crs (sb α q) (sb p (ml q k))=crs (sb α q) (sb p (ml α k)):=by simp only [crs,sb,ml]; grind
     rw [e1] at s1
     have hD:0≤crs (sb α q) (sb β α):=by
      have:=(b2.2.2 β b3.1).1
      have e:cr q α β=crs (sb α q) (sb β α):=by simp only [cr,crs,sb]; grind
      omega
     have hflat:crs (sb α q) (sb β α)=0→c.length=2:=by
      intro h0
      have hqb:=x32 b1 b2 b3 h0
      subst hqb
      obtain ⟨i,i0,i1,i2⟩:=z65 hc h2 a1 b3
      obtain ⟨j,j0,j1,j2⟩:=z65 hc h2 b1 b2
      have hnd:=y1z hc
      have x1:=y1j hnd i1 j2
      have x2:=y1j hnd i2 j1
      by_cases w1:i+1<c.length
      ·rw [Nat.mod_eq_of_lt w1] at x2
       by_cases w2:j+1<c.length
       ·rw [Nat.mod_eq_of_lt w2] at x1; omega
       ·have:j+1=c.length:=by omega
        rw [this,Nat.mod_self] at x1; omega
      ·have:i+1=c.length:=by omega
       rw [this,Nat.mod_self] at x2
       by_cases w2:j+1<c.length
       ·rw [Nat.mod_eq_of_lt w2] at x1; omega
       ·omega
     have hn:sb β α≠(0,0):=fun e=>b3.2.1 (z1a.1 e).symm
     generalize sb α q=u at*
     generalize sb β α=n at*
     generalize sb p (ml α k)=v at*
     have id1:crs u n*crs d v=crs d n*crs u v+crs u d*crs n v:=by simp only [crs]; grind
     have m1:=Int.mul_nonneg (Int.le_of_lt b5) s1
     have m2:=Int.mul_nonneg (Int.le_of_lt b4) s2.1
     rcases Int.lt_or_eq_of_le hD with hD|hD
     ·refine Classical.byContradiction fun hc=>?_
      have:=Int.mul_neg_of_pos_of_neg hD (Int.not_le.1 hc)
      omega
     ·have hdt:=s2.2 (hflat hD.symm)
      rw [←hD,Int.zero_mul] at id1
      have z2:crs u d*crs n v=0:=by omega
      have z2:crs n v=0:=by rcases Int.mul_eq_zero.1 z2 with h|h<;>omega
      have id2:dt n n*crs d v=dt n v*crs d n+crs n v*dt n d:=by simp only [crs,dt]; grind
      rw [z2,Int.zero_mul,Int.add_zero] at id2
      have m3:=Int.mul_nonneg hdt (Int.le_of_lt b5)
      refine Classical.byContradiction fun hc=>?_
      have:=Int.mul_neg_of_pos_of_neg (z0x hn) (Int.not_le.1 hc)
      omega
  ·intro hp i hi
   have hi:=List.mem_range.1 hi
   obtain ⟨a,ha⟩:∃ a,c[i]?=some a:=⟨_,List.getElem?_eq_getElem hi⟩
   obtain ⟨b,hb⟩:∃ b,c[(i+1) % c.length]?=some b:=⟨_,List.getElem?_eq_getElem (Nat.mod_lt _ (by omega))⟩
   rw [getD_some ha,getD_some hb,z7o]
   have hn:=z7h hc h2 ha hb
   refine ⟨?_,fun hl=>?_⟩
   ·obtain ⟨x,hx,h0⟩:=hp (sb b a)
    have:=(hn.2.2 x hx).1
    have e:cr a b x=crs (sb b a) (sb x a):=rfl
    rw [x9h p x a k]
    have:=Int.mul_nonneg (Int.le_of_lt hk) (show 0≤crs (sb b a) (sb x a) by omega)
    omega
   ·
    obtain ⟨x,hx,h0⟩:=hp ((sb b a).2, -(sb b a).1)
    have hab:x=a∨x=b:=by
     match c,hl,ha,hb,hx with
     |[u,v],_,ha,hb,hx=>
      have hi2:i<2:=by simpa using hi
      have:i=0∨i=1:=by omega
      rcases this with rfl|rfl
      ·simp at ha hb hx; subst ha; subst hb; exact hx
      ·simp at ha hb hx; subst ha; subst hb; exact hx.symm
    have e:∀ v:Pt,crs ((sb b a).2, -(sb b a).1) v=dt (sb b a) v:=fun v=>by simp only [crs,dt]; grind
    rw [e] at h0
    rcases hab with rfl|rfl
    ·exact h0
    ·have e2:dt (sb x a) (sb p (ml a k))=dt (sb x a) (sb p (ml x k))+k*dt (sb x a) (sb x a):=by simp only [dt,sb,ml]; grind
     rw [e2]
     have:=Int.mul_nonneg (Int.le_of_lt hk) (z12 (sb x a))
     omega
end M06
end
section
namespace Go.Am
open M06
def Big (p:Pt):Prop:=z0m (-1099511627776) 1099511627776 p
theorem z4j {a b A B:Int} (hA:0≤A) (h1: -A≤a) (h2:a≤A) (h3: -B≤b) (h4:b≤B): -(A*B)≤a*b∧a*b≤A*B:=by
 have e1:=Int.mul_nonneg (show 0≤A - a by omega) (show 0≤B - b by omega)
 have e2:=Int.mul_nonneg (show 0≤A+a by omega) (show 0≤B+b by omega)
 have e3:=Int.mul_nonneg (show 0≤A - a by omega) (show 0≤B+b by omega)
 have e4:=Int.mul_nonneg (show 0≤A+a by omega) (show 0≤B - b by omega)
 simp only [Int.sub_mul,Int.add_mul,Int.mul_sub,Int.mul_add] at e1 e2 e3 e4
 omega
theorem x4a {S c:List Pt} (h:Cyc S c) (h2:2≤c.length) {i:Nat} {a b:Pt} (ha:c[i]?=some a) (hb:c[(i+1) % c.length]?=some b):sb b a≠(0,0):=fun e=>(z7h h h2 ha hb).2.1 (z1a.1 e).symm
end Go.Am
end
noncomputable section
namespace Go.Am
def v4r:Ctr:=
 ⟨78,[.list 2, .clo 66 [.agg [.int .i64, .int .i64]] []],[],[(.ret,⟨[(0, .int .i64)],[],1⟩)]⟩
def la78:List LA:=
 [⟨78,[false,true,false,true,true],0,⟨⟨[(1, .clo 66 [.agg [.int .i64, .int .i64]] []),(5, .int .i64),(13, .list 2),(14, .int .i64),(15, .int .i64)],[],26⟩,[((AX.exit 0),⟨[(5, .int .i64)],[],26⟩)]⟩⟩]
def ja78:List JA:=
 []
def v9c:List CF:=
 []
def an78:Anns:=
 ⟨v9c,ja78,[]⟩
def w5m (p:Prim):T47→Option T67:=
 fun a=>opt.run _ (
 opt.ask _ (p.cmp .lss a.2.2.2.2.2.1 a.2.2.2.2.1) (
 opt.need _ (p.rowOk a.2.2.2.1 (p.nat a.2.2.2.2.2.1) [ci,ci])<|
 opt.need _ (p.cmp .geq a.2.2.2.2.2.1 (0:Int))<|
 opt.ret _ (Sum.inl (a.1,(a.2.1,((p.mm .gtr a.2.2.1 (p.ar .add .i64 (p.ar .mul .i64 a.1 (p.rdI a.2.2.2.1 (p.nat a.2.2.2.2.2.1) 0)) (p.ar .mul .i64 a.2.1 (p.rdI a.2.2.2.1 (p.nat a.2.2.2.2.2.1) 1)))),(a.2.2.2.1,(a.2.2.2.2.1,((p.ar .add .i64 a.2.2.2.2.2.1 (1:Int)),())))))))) (
 opt.ret _ (Sum.inr (a.2.2.1,()))))
def g78 (it:It):(p:Prim)→(LD×T3)→Option T0:=
 fun p x=>
 opt.need _ (p.rowOk x.1 (p.nat (0:Int)) [ci,ci])<|
 opt.bnd T0 _ (
 it _ _ (w5m p) (x.2.1,(x.2.2.1,((p.ar .add .i64 (p.ar .mul .i64 x.2.1 (p.rdI x.1 (p.nat (0:Int)) 0)) (p.ar .mul .i64 x.2.2.1 (p.rdI x.1 (p.nat (0:Int)) 1))),(x.1,((p.ofNat (p.len x.1)),((0:Int),()))))))) fun a=>
 opt.ret _ (a.1,())
def G78:=g78 it0
theorem ok78:CtrOk PG v4r (G78 std):=okF (a:=an78) (l:=la78) (gN) (by kernel_rfl) fun _ _=>by kernel_rfl
def v4j:Ctr:=
 ⟨92,[.list 2, .list 2, .agg [.int .i64, .int .i64]],[],[(.ret,⟨[(0, .tuple [.int .i64, .bool])],[],1⟩)]⟩
def la92:List LA:=
 []
def ja92:List JA:=
 []
def v84:List CF:=
 [⟨v4r,G78⟩]
def an92:Anns:=
 ⟨v84,ja92,[]⟩
def g92 (it:It):(p:Prim)→(LD×(LD×T3))→Option ((Int×(Bool×Unit))):=
 fun p x=>
 opt.bnd T0 _ (g78 it p (x.1,(x.2.2.1,(x.2.2.2.1,())))) fun a=>
 opt.bnd T0 _ (g78 it p (x.2.1,((p.ar .sub .i64 (0:Int) x.2.2.1),((p.ar .sub .i64 (0:Int) x.2.2.2.1),())))) fun b=>
 opt.ret _ (a.1,((p.cmp .lss a.1 (p.ar .sub .i64 (0:Int) b.1)),()))
def G92:=g92 it0
theorem ok92:CtrOk PG v4j (G92 std):=okF (a:=an92) (l:=la92) (gC ok78 (gN)) (by kernel_rfl) fun _ _=>by kernel_rfl
def w43:Ctr:=
 ⟨63,[.list 2, .list 2],[],[(.ret,⟨[(0, .tuple [.agg [.int .i64, .int .i64, .int .i64], .bool])],[],1⟩)]⟩
def la63:List LA:=
 [⟨63,[false,true,false,true,false,true],0,⟨⟨[(0, .list 2),(1, .list 2),(4, .bptr 0 0),(6, .bptr 1 0),(20, .list 2),(21, .int .i64),(22, .int .i64)],[.box [.int .i64, .int .i64, .int .i64], .box [.vec 2 2], .row [ci,ci]],94⟩,[((AX.exit 0),⟨[(0, .list 2),(1, .list 2),(4, .bptr 0 0),(6, .bptr 1 0)],[.box [.int .i64, .int .i64, .int .i64], .box [.vec 2 2], .row [ci,ci]],94⟩)]⟩⟩,
 ⟨63,[false,true,true,false,false,true,true,false,false,true,false,true,false,true],0,⟨⟨[(0, .list 2),(1, .list 2),(4, .bptr 0 0),(6, .bptr 1 0),(8, .bptr 2 0),(20, .list 2),(21, .int .i64),(22, .int .i64),(26, .list 2),(27, .int .i64),(28, .int .i64)],[.box [.int .i64, .int .i64, .int .i64], .box [.vec 3 2], .box [.int .i64, .int .i64], .row [ci,ci]],94⟩,[((AX.exit 2),⟨[(0, .list 2),(1, .list 2),(4, .bptr 0 0),(6, .bptr 1 0),(20, .list 2),(21, .int .i64),(22, .int .i64)],[.box [.int .i64, .int .i64, .int .i64], .box [.vec 2 2], .row [ci,ci]],94⟩)]⟩⟩,
 ⟨63,[false,true,false,true,true,false,true],0,⟨⟨[(0, .list 2),(1, .list 2),(4, .bptr 0 0),(6, .bptr 1 0),(42, .full 2 1),(43, .int .i64),(44, .int .i64)],[.box [.int .i64, .int .i64, .int .i64], .box [.vec 3 2], .row [(CK.list 2)], .row [ci,ci]],94⟩,[((AX.exit 4),⟨[(0, .list 2),(1, .list 2),(4, .bptr 0 0),(6, .bptr 1 0)],[.box [.int .i64, .int .i64, .int .i64], .box [.vec 2 2], .row [ci,ci]],94⟩)]⟩⟩,
 ⟨94,[false,true],6,⟨⟨[(0, .yld 5),(1, .bptr 4 0),(6, .list 2),(7, .int .i64),(8, .int .i64)],[.box [.int .i64, .int .i64, .int .i64], .box [.vec 6 2], .row [(CK.list 2)], .dead, .box [.list 2], .loop Go.LoopState.ready Option.none 63 [Bool.false,Bool.true,Bool.true,Bool.false,Bool.false,Bool.true,Bool.true,Bool.false,Bool.false,Bool.true,Bool.false,Bool.true,Bool.true,Bool.false,Bool.true] 94 [(49, .clo 94 [] [.bptr 4 0]),(43, .int .i64),(42, .full 2 1),(6, .bptr 1 0),(1, .list 2),(4, .bptr 0 0),(0, .list 2),(44, .int .i64)], .row [ci,ci]],33⟩,[(AX.ret,⟨[],[.box [.int .i64, .int .i64, .int .i64], .box [.vec 6 2], .row [(CK.list 2)], .dead, .box [.list 2], .loop Go.LoopState.ready Option.none 63 [Bool.false,Bool.true,Bool.true,Bool.false,Bool.false,Bool.true,Bool.true,Bool.false,Bool.false,Bool.true,Bool.false,Bool.true,Bool.true,Bool.false,Bool.true] 94 [(49, .clo 94 [] [.bptr 4 0]),(43, .int .i64),(42, .full 2 1),(6, .bptr 1 0),(1, .list 2),(4, .bptr 0 0),(0, .list 2),(44, .int .i64)], .row [ci,ci]],33⟩),((AX.exit 0),⟨[],[.box [.int .i64, .int .i64, .int .i64], .box [.vec 6 2], .row [(CK.list 2)], .dead, .box [.list 2], .loop Go.LoopState.ready Option.none 63 [Bool.false,Bool.true,Bool.true,Bool.false,Bool.false,Bool.true,Bool.true,Bool.false,Bool.false,Bool.true,Bool.false,Bool.true,Bool.true,Bool.false,Bool.true] 94 [(49, .clo 94 [] [.bptr 4 0]),(43, .int .i64),(42, .full 2 1),(6, .bptr 1 0),(1, .list 2),(4, .bptr 0 0),(0, .list 2),(44, .int .i64)], .row [ci,ci]],33⟩)]⟩⟩,
 ⟨63,[false,true,false,true,true,true,true,true,true,false,true],0,⟨⟨[(0, .list 2),(1, .list 2),(4, .bptr 0 0),(14, .bool),(15, .bptr 1 0),(71, .vec 2 2),(72, .int .i64),(73, .int .i64)],[.box [.int .i64, .int .i64, .int .i64], .box [.int .i64, .int .i64, .int .i64], .row [ci,ci]],94⟩,[((AX.exit 8),⟨[(4, .bptr 0 0),(14, .bool),(15, .bptr 1 0)],[.box [.int .i64, .int .i64, .int .i64], .box [.int .i64, .int .i64, .int .i64]],94⟩)]⟩⟩]
def ja63:List JA:=
 [⟨63,[true,true,false,false,true,true,false,false,true,false,true,true,false,true],0,[(AX.normal,⟨[(0, .list 2),(1, .list 2),(4, .bptr 0 0),(6, .bptr 1 0),(42, .full 2 1),(43, .int .i64),(44, .int .i64)],[.box [.int .i64, .int .i64, .int .i64], .box [.vec 3 2], .row [(CK.list 2)], .row [ci,ci]],94⟩)]⟩]
def v9l:List CF:=
 [⟨v4j,G92⟩]
def an63:Anns:=
 ⟨v9l,ja63,[]⟩
def x4g (it:It) (p:Prim):(LD×T68)→Option ((LD×T68)⊕(Int×(Int×(Int×(Int×(Int×(Int×(Bool×Unit)))))))):=
 fun a=>opt.run _ (
 opt.ask _ (p.cmp .lss a.2.2.2.2.2.2.2.2.2.2.2.1 a.2.2.2.2.2.2.2.2.2.2.1) (
 opt.need _ (bif (p.cmp .geq a.2.2.2.2.2.2.2.2.2.2.2.1 (0:Int)) then (p.cmp .lss a.2.2.2.2.2.2.2.2.2.2.2.1 (p.ofNat (p.len a.1))) else Bool.false)<|
 opt.need _ (p.rowOk a.1 (p.add 0 (p.nat a.2.2.2.2.2.2.2.2.2.2.2.1)) [ci,ci])<|
 opt.bnd ((Int×(Bool×Unit))) _ (g92 it p (a.2.2.2.2.2.2.2.1,(a.2.2.2.2.2.2.2.2.1,((p.rdI a.1 (p.add 0 (p.nat a.2.2.2.2.2.2.2.2.2.2.2.1)) 0),((p.rdI a.1 (p.add 0 (p.nat a.2.2.2.2.2.2.2.2.2.2.2.1)) 1),()))))) fun b=>
 opt.ask _ b.2.1 (
 opt.ret _ (Sum.inr (a.2.1,(a.2.2.1,(a.2.2.2.1,((p.rdI a.1 (p.add 0 (p.nat a.2.2.2.2.2.2.2.2.2.2.2.1)) 0),((p.rdI a.1 (p.add 0 (p.nat a.2.2.2.2.2.2.2.2.2.2.2.1)) 1),(b.1,(Bool.true,()))))))))) (
 opt.need _ (p.eqN 0 0)<|
 opt.need _ (p.eqN (p.len a.1) (p.len a.1))<|
 opt.ret _ (Sum.inl (a.1,(a.2.1,(a.2.2.1,(a.2.2.2.1,(a.2.2.2.2.1,(a.2.2.2.2.2.1,(a.2.2.2.2.2.2.1,(a.2.2.2.2.2.2.2.1,(a.2.2.2.2.2.2.2.2.1,(a.2.2.2.2.2.2.2.2.2.1,(a.2.2.2.2.2.2.2.2.2.2.1,((p.ar .add .i64 a.2.2.2.2.2.2.2.2.2.2.2.1 (1:Int)),()))))))))))))))) (
 opt.ret _ (Sum.inr (a.2.1,(a.2.2.1,(a.2.2.2.1,(a.2.2.2.2.1,(a.2.2.2.2.2.1,(a.2.2.2.2.2.2.1,(a.2.2.2.2.2.2.2.2.2.1,()))))))))))
def x2r (p:Prim):(LD×(LD×T69))→Option ((LD×(LD×T69))⊕((LD×(LD×T24))⊕(LD×(LD×T24)))):=
 fun a=>opt.run _ (
 opt.ask _ (p.cmp .lss a.2.2.2.2.2.2.2.2.2.2.2.2.1 a.2.2.2.2.2.2.2.2.2.2.2.1) (
 opt.need _ (p.rowOk a.2.2.2.2.2.2.2.2.2.2.1 (p.nat a.2.2.2.2.2.2.2.2.2.2.2.2.1) [ci,ci])<|
 opt.need _ (p.cmp .geq a.2.2.2.2.2.2.2.2.2.2.2.2.1 (0:Int))<|
 opt.need _ (p.cmp .neq (p.ofNat (p.len a.2.2.2.2.2.1)) (0:Int))<|
 opt.need _ (p.rowOk a.2.2.2.2.2.1 (p.nat (p.ar .rem .i64 (p.ar .add .i64 a.2.2.2.2.2.2.2.2.2.2.2.2.1 (1:Int)) (p.ofNat (p.len a.2.2.2.2.2.1)))) [ci,ci])<|
 opt.need _ (p.cmp .geq (p.ar .rem .i64 (p.ar .add .i64 a.2.2.2.2.2.2.2.2.2.2.2.2.1 (1:Int)) (p.ofNat (p.len a.2.2.2.2.2.1))) (0:Int))<|
 opt.ask _ (bif (p.cmp .eql (p.ar .sub .i64 (p.rdI a.2.2.2.2.2.1 (p.nat (p.ar .rem .i64 (p.ar .add .i64 a.2.2.2.2.2.2.2.2.2.2.2.2.1 (1:Int)) (p.ofNat (p.len a.2.2.2.2.2.1)))) 0) (p.rdI a.2.2.2.2.2.2.2.2.2.2.1 (p.nat a.2.2.2.2.2.2.2.2.2.2.2.2.1) 0)) (0:Int)) then (bif (p.cmp .eql (p.ar .sub .i64 (p.rdI a.2.2.2.2.2.1 (p.nat (p.ar .rem .i64 (p.ar .add .i64 a.2.2.2.2.2.2.2.2.2.2.2.2.1 (1:Int)) (p.ofNat (p.len a.2.2.2.2.2.1)))) 1) (p.rdI a.2.2.2.2.2.2.2.2.2.2.1 (p.nat a.2.2.2.2.2.2.2.2.2.2.2.2.1) 1)) (0:Int)) then Bool.true else Bool.false) else Bool.false) (
 opt.need _ (p.eqN 0 0)<|
 opt.need _ (p.eqN (p.len a.2.1) (p.len a.2.1))<|
 opt.need _ (p.eqN 0 0)<|
 opt.need _ (p.eqN (p.len a.1) (p.len a.1))<|
 opt.need _ (p.eqN (p.len a.1) (p.len a.1))<|
 opt.ret _ (Sum.inr (Sum.inl (a.1,(a.2.1,(a.2.2.1,(a.2.2.2.1,(a.2.2.2.2.1,(a.2.2.2.2.2.1,(a.2.2.2.2.2.2.1,(a.2.2.2.2.2.2.2.1,(a.2.2.2.2.2.2.2.2.1,(a.2.2.2.2.2.2.2.2.2.1,()))))))))))))) (
 opt.need _ (p.and (p.leN (p.add 0 2) (p.len [[(D.int .i64 (p.ar .sub .i64 (p.rdI a.2.2.2.2.2.1 (p.nat (p.ar .rem .i64 (p.ar .add .i64 a.2.2.2.2.2.2.2.2.2.2.2.2.1 (1:Int)) (p.ofNat (p.len a.2.2.2.2.2.1)))) 1) (p.rdI a.2.2.2.2.2.2.2.2.2.2.1 (p.nat a.2.2.2.2.2.2.2.2.2.2.2.2.1) 1))),(D.int .i64 (p.ar .sub .i64 (0:Int) (p.ar .sub .i64 (p.rdI a.2.2.2.2.2.1 (p.nat (p.ar .rem .i64 (p.ar .add .i64 a.2.2.2.2.2.2.2.2.2.2.2.2.1 (1:Int)) (p.ofNat (p.len a.2.2.2.2.2.1)))) 0) (p.rdI a.2.2.2.2.2.2.2.2.2.2.1 (p.nat a.2.2.2.2.2.2.2.2.2.2.2.2.1) 0))))],[(D.int .i64 (p.ar .sub .i64 (0:Int) (p.ar .sub .i64 (p.rdI a.2.2.2.2.2.1 (p.nat (p.ar .rem .i64 (p.ar .add .i64 a.2.2.2.2.2.2.2.2.2.2.2.2.1 (1:Int)) (p.ofNat (p.len a.2.2.2.2.2.1)))) 1) (p.rdI a.2.2.2.2.2.2.2.2.2.2.1 (p.nat a.2.2.2.2.2.2.2.2.2.2.2.2.1) 1)))),(D.int .i64 (p.ar .sub .i64 (p.rdI a.2.2.2.2.2.1 (p.nat (p.ar .rem .i64 (p.ar .add .i64 a.2.2.2.2.2.2.2.2.2.2.2.2.1 (1:Int)) (p.ofNat (p.len a.2.2.2.2.2.1)))) 0) (p.rdI a.2.2.2.2.2.2.2.2.2.2.1 (p.nat a.2.2.2.2.2.2.2.2.2.2.2.2.1) 0)))]])) (p.and (p.leN (p.add 0 (p.len a.2.1)) (p.len a.2.1)) (p.and (p.leN 1 2) (p.leN (p.add (p.len a.2.1) 2) 1000000))))<|
 opt.need _ (p.eqN 0 0)<|
 opt.need _ (p.eqN (p.add (p.len a.2.1) 2) (p.len (p.app (p.cut a.2.1 0 (p.len a.2.1)) (p.cut [[(D.int .i64 (p.ar .sub .i64 (p.rdI a.2.2.2.2.2.1 (p.nat (p.ar .rem .i64 (p.ar .add .i64 a.2.2.2.2.2.2.2.2.2.2.2.2.1 (1:Int)) (p.ofNat (p.len a.2.2.2.2.2.1)))) 1) (p.rdI a.2.2.2.2.2.2.2.2.2.2.1 (p.nat a.2.2.2.2.2.2.2.2.2.2.2.2.1) 1))),(D.int .i64 (p.ar .sub .i64 (0:Int) (p.ar .sub .i64 (p.rdI a.2.2.2.2.2.1 (p.nat (p.ar .rem .i64 (p.ar .add .i64 a.2.2.2.2.2.2.2.2.2.2.2.2.1 (1:Int)) (p.ofNat (p.len a.2.2.2.2.2.1)))) 0) (p.rdI a.2.2.2.2.2.2.2.2.2.2.1 (p.nat a.2.2.2.2.2.2.2.2.2.2.2.2.1) 0))))],[(D.int .i64 (p.ar .sub .i64 (0:Int) (p.ar .sub .i64 (p.rdI a.2.2.2.2.2.1 (p.nat (p.ar .rem .i64 (p.ar .add .i64 a.2.2.2.2.2.2.2.2.2.2.2.2.1 (1:Int)) (p.ofNat (p.len a.2.2.2.2.2.1)))) 1) (p.rdI a.2.2.2.2.2.2.2.2.2.2.1 (p.nat a.2.2.2.2.2.2.2.2.2.2.2.2.1) 1)))),(D.int .i64 (p.ar .sub .i64 (p.rdI a.2.2.2.2.2.1 (p.nat (p.ar .rem .i64 (p.ar .add .i64 a.2.2.2.2.2.2.2.2.2.2.2.2.1 (1:Int)) (p.ofNat (p.len a.2.2.2.2.2.1)))) 0) (p.rdI a.2.2.2.2.2.2.2.2.2.2.1 (p.nat a.2.2.2.2.2.2.2.2.2.2.2.2.1) 0)))]] 0 2))))<|
 opt.need _ (p.eqN 0 0)<|
 opt.need _ (p.eqN (p.len a.1) (p.len a.1))<|
 opt.need _ (p.eqN (p.len a.1) (p.len a.1))<|
 opt.ret _ (Sum.inl (a.1,((p.app (p.cut a.2.1 0 (p.len a.2.1)) (p.cut [[(D.int .i64 (p.ar .sub .i64 (p.rdI a.2.2.2.2.2.1 (p.nat (p.ar .rem .i64 (p.ar .add .i64 a.2.2.2.2.2.2.2.2.2.2.2.2.1 (1:Int)) (p.ofNat (p.len a.2.2.2.2.2.1)))) 1) (p.rdI a.2.2.2.2.2.2.2.2.2.2.1 (p.nat a.2.2.2.2.2.2.2.2.2.2.2.2.1) 1))),(D.int .i64 (p.ar .sub .i64 (0:Int) (p.ar .sub .i64 (p.rdI a.2.2.2.2.2.1 (p.nat (p.ar .rem .i64 (p.ar .add .i64 a.2.2.2.2.2.2.2.2.2.2.2.2.1 (1:Int)) (p.ofNat (p.len a.2.2.2.2.2.1)))) 0) (p.rdI a.2.2.2.2.2.2.2.2.2.2.1 (p.nat a.2.2.2.2.2.2.2.2.2.2.2.2.1) 0))))],[(D.int .i64 (p.ar .sub .i64 (0:Int) (p.ar .sub .i64 (p.rdI a.2.2.2.2.2.1 (p.nat (p.ar .rem .i64 (p.ar .add .i64 a.2.2.2.2.2.2.2.2.2.2.2.2.1 (1:Int)) (p.ofNat (p.len a.2.2.2.2.2.1)))) 1) (p.rdI a.2.2.2.2.2.2.2.2.2.2.1 (p.nat a.2.2.2.2.2.2.2.2.2.2.2.2.1) 1)))),(D.int .i64 (p.ar .sub .i64 (p.rdI a.2.2.2.2.2.1 (p.nat (p.ar .rem .i64 (p.ar .add .i64 a.2.2.2.2.2.2.2.2.2.2.2.2.1 (1:Int)) (p.ofNat (p.len a.2.2.2.2.2.1)))) 0) (p.rdI a.2.2.2.2.2.2.2.2.2.2.1 (p.nat a.2.2.2.2.2.2.2.2.2.2.2.2.1) 0)))]] 0 2)),(a.2.2.1,(a.2.2.2.1,(a.2.2.2.2.1,(a.2.2.2.2.2.1,(a.2.2.2.2.2.2.1,(a.2.2.2.2.2.2.2.1,(a.2.2.2.2.2.2.2.2.1,(a.2.2.2.2.2.2.2.2.2.1,(a.2.2.2.2.2.2.2.2.2.2.1,(a.2.2.2.2.2.2.2.2.2.2.2.1,((p.ar .add .i64 a.2.2.2.2.2.2.2.2.2.2.2.2.1 (1:Int)),())))))))))))))))) (
 opt.need _ (p.eqN 0 0)<|
 opt.need _ (p.eqN (p.len a.2.1) (p.len a.2.1))<|
 opt.need _ (p.eqN 0 0)<|
 opt.need _ (p.eqN (p.len a.1) (p.len a.1))<|
 opt.need _ (p.eqN (p.len a.1) (p.len a.1))<|
 opt.ret _ (Sum.inr (Sum.inr (a.1,(a.2.1,(a.2.2.1,(a.2.2.2.1,(a.2.2.2.2.1,(a.2.2.2.2.2.1,(a.2.2.2.2.2.2.1,(a.2.2.2.2.2.2.2.1,(a.2.2.2.2.2.2.2.2.1,(a.2.2.2.2.2.2.2.2.2.1,()))))))))))))))
def y3p (it:It) (p:Prim):(LD×(LD×T36))→Option ((LD×(LD×T36))⊕(LD×T37)):=
 fun a=>opt.run _ (
 opt.ask _ (p.cmp .lss a.2.2.2.2.2.2.2.2.1 a.2.2.2.2.2.2.2.1) (
 opt.need _ (bif (p.cmp .geq a.2.2.2.2.2.2.2.2.1 (0:Int)) then (p.cmp .lss a.2.2.2.2.2.2.2.2.1 (p.ofNat (p.len a.1))) else Bool.false)<|
 opt.need _ (p.rowOk a.1 (p.add 0 (p.nat a.2.2.2.2.2.2.2.2.1)) [(CK.list 2)])<|
 opt.bnd ((LD×(LD×T36))) _ (
 opt.run ((LD×(LD×T36))) (
 opt.need _ (p.eqN 0 0)<|
 opt.need _ (p.eqN (p.len a.2.1) (p.len a.2.1))<|
 opt.need _ (p.eqN 0 0)<|
 opt.need _ (p.eqN (p.len a.1) (p.len a.1))<|
 opt.need _ (p.eqN (p.len a.1) (p.len a.1))<|
 opt.alt ((LD×(LD×T24))) ((LD×(LD×T24))) _ (
 it _ _ (x2r p) (a.1,(a.2.1,(a.2.2.1,(a.2.2.2.1,(a.2.2.2.2.1,((p.rdL a.1 (p.add 0 (p.nat a.2.2.2.2.2.2.2.2.1)) 0),(a.2.2.2.2.2.2.2.1,(a.2.2.2.2.2.2.1,(a.2.2.2.2.2.1,(a.2.2.2.2.2.2.2.2.1,((p.rdL a.1 (p.add 0 (p.nat a.2.2.2.2.2.2.2.2.1)) 0),((p.ofNat (p.len (p.rdL a.1 (p.add 0 (p.nat a.2.2.2.2.2.2.2.2.1)) 0))),((0:Int),())))))))))))))) (fun b=>
 opt.need _ (p.eqN 0 0)<|
 opt.need _ (p.eqN (p.len b.2.1) (p.len b.2.1))<|
 opt.need _ (p.eqN 0 0)<|
 opt.need _ (p.eqN (p.len a.1) (p.len b.1))<|
 opt.need _ (p.eqN (p.len a.1) (p.len b.1))<|
 opt.ret _ (b.1,(b.2.1,(b.2.2.1,(b.2.2.2.1,(b.2.2.2.2.1,(a.2.2.2.2.2.1,(a.2.2.2.2.2.2.1,(a.2.2.2.2.2.2.2.1,(a.2.2.2.2.2.2.2.2.1,())))))))))) (fun c=>
 opt.bnd ((LD×(LD×T24))) _ (some c) fun d=>
 opt.need _ (p.eqN 0 0)<|
 opt.need _ (p.eqN (p.len d.2.1) (p.len d.2.1))<|
 opt.need _ (p.eqN 0 0)<|
 opt.need _ (p.eqN (p.len a.1) (p.len d.1))<|
 opt.need _ (p.eqN (p.len a.1) (p.len d.1))<|
 opt.ret _ (d.1,(d.2.1,(d.2.2.1,(d.2.2.2.1,(d.2.2.2.2.1,(a.2.2.2.2.2.1,(a.2.2.2.2.2.2.1,(a.2.2.2.2.2.2.2.1,(a.2.2.2.2.2.2.2.2.1,())))))))))))) fun e=>
 opt.need _ (p.eqN 0 0)<|
 opt.need _ (p.eqN (p.len e.2.1) (p.len e.2.1))<|
 opt.need _ (p.eqN 0 0)<|
 opt.need _ (p.eqN (p.len e.1) (p.len e.1))<|
 opt.need _ (p.eqN (p.len e.1) (p.len e.1))<|
 opt.ret _ (Sum.inl (e.1,(e.2.1,(e.2.2.1,(e.2.2.2.1,(e.2.2.2.2.1,(e.2.2.2.2.2.1,(e.2.2.2.2.2.2.1,(e.2.2.2.2.2.2.2.1,((p.ar .add .i64 e.2.2.2.2.2.2.2.2.1 (1:Int)),()))))))))))) (
 opt.need _ (p.eqN 0 0)<|
 opt.need _ (p.eqN (p.len a.2.1) (p.len a.2.1))<|
 opt.ret _ (Sum.inr (a.2.1,(a.2.2.1,(a.2.2.2.1,(a.2.2.2.2.1,(a.2.2.2.2.2.1,(a.2.2.2.2.2.2.1,())))))))))
def w2b (p:Prim):(LD×T70)→Option ((LD×T70)⊕(LD×T38)):=
 fun a=>opt.run _ (
 opt.ask _ (p.cmp .lss a.2.2.2.2.2.2.2.2.2.2.2.2.2.1 a.2.2.2.2.2.2.2.2.2.2.2.2.1) (
 opt.need _ (p.rowOk a.2.2.2.2.2.2.2.2.2.2.2.1 (p.nat a.2.2.2.2.2.2.2.2.2.2.2.2.2.1) [ci,ci])<|
 opt.need _ (p.cmp .geq a.2.2.2.2.2.2.2.2.2.2.2.2.2.1 (0:Int))<|
 opt.need _ (p.and (p.leN (p.add 0 1) (p.len [[(D.int .i64 (p.ar .sub .i64 (p.rdI a.2.2.2.2.2.2.2.2.2.2.2.1 (p.nat a.2.2.2.2.2.2.2.2.2.2.2.2.2.1) 0) a.2.2.2.2.1)),(D.int .i64 (p.ar .sub .i64 (p.rdI a.2.2.2.2.2.2.2.2.2.2.2.1 (p.nat a.2.2.2.2.2.2.2.2.2.2.2.2.2.1) 1) a.2.2.2.2.2.1))]])) (p.and (p.leN (p.add 0 (p.len a.1)) (p.len a.1)) (p.and (p.leN 1 1) (p.leN (p.add (p.len a.1) 1) 1000000))))<|
 opt.need _ (p.eqN 0 0)<|
 opt.need _ (p.eqN (p.add (p.len a.1) 1) (p.len (p.app (p.cut a.1 0 (p.len a.1)) (p.cut [[(D.int .i64 (p.ar .sub .i64 (p.rdI a.2.2.2.2.2.2.2.2.2.2.2.1 (p.nat a.2.2.2.2.2.2.2.2.2.2.2.2.2.1) 0) a.2.2.2.2.1)),(D.int .i64 (p.ar .sub .i64 (p.rdI a.2.2.2.2.2.2.2.2.2.2.2.1 (p.nat a.2.2.2.2.2.2.2.2.2.2.2.2.2.1) 1) a.2.2.2.2.2.1))]] 0 1))))<|
 opt.ret _ (Sum.inl ((p.app (p.cut a.1 0 (p.len a.1)) (p.cut [[(D.int .i64 (p.ar .sub .i64 (p.rdI a.2.2.2.2.2.2.2.2.2.2.2.1 (p.nat a.2.2.2.2.2.2.2.2.2.2.2.2.2.1) 0) a.2.2.2.2.1)),(D.int .i64 (p.ar .sub .i64 (p.rdI a.2.2.2.2.2.2.2.2.2.2.2.1 (p.nat a.2.2.2.2.2.2.2.2.2.2.2.2.2.1) 1) a.2.2.2.2.2.1))]] 0 1)),(a.2.1,(a.2.2.1,(a.2.2.2.1,(a.2.2.2.2.1,(a.2.2.2.2.2.1,(a.2.2.2.2.2.2.1,(a.2.2.2.2.2.2.2.1,(a.2.2.2.2.2.2.2.2.1,(a.2.2.2.2.2.2.2.2.2.1,(a.2.2.2.2.2.2.2.2.2.2.1,(a.2.2.2.2.2.2.2.2.2.2.2.1,(a.2.2.2.2.2.2.2.2.2.2.2.2.1,((p.ar .add .i64 a.2.2.2.2.2.2.2.2.2.2.2.2.2.1 (1:Int)),())))))))))))))))) (
 opt.need _ (p.eqN 0 0)<|
 opt.need _ (p.eqN (p.len a.1) (p.len a.1))<|
 opt.ret _ (Sum.inr (a.1,(a.2.1,(a.2.2.1,(a.2.2.2.1,(a.2.2.2.2.2.2.1,(a.2.2.2.2.2.2.2.1,(a.2.2.2.2.2.2.2.2.1,(a.2.2.2.2.2.2.2.2.2.1,(a.2.2.2.2.2.2.2.2.2.2.1,()))))))))))))
def x4h (it:It) (p:Prim):(LD×T38)→Option ((LD×T38)⊕(LD×T37)):=
 fun a=>opt.run _ (
 opt.ask _ (p.cmp .lss a.2.2.2.2.2.2.2.2.1 a.2.2.2.2.2.2.2.1) (
 opt.need _ (p.rowOk a.2.2.2.2.2.2.1 (p.nat a.2.2.2.2.2.2.2.2.1) [ci,ci])<|
 opt.need _ (p.cmp .geq a.2.2.2.2.2.2.2.2.1 (0:Int))<|
 opt.need _ (p.eqN 0 0)<|
 opt.need _ (p.eqN (p.len a.1) (p.len a.1))<|
 opt.bnd ((LD×T38)) _ (
 it _ _ (w2b p) (a.1,(a.2.1,(a.2.2.1,(a.2.2.2.1,((p.rdI a.2.2.2.2.2.2.1 (p.nat a.2.2.2.2.2.2.2.2.1) 0),((p.rdI a.2.2.2.2.2.2.1 (p.nat a.2.2.2.2.2.2.2.2.1) 1),(a.2.2.2.2.1,(a.2.2.2.2.2.1,(a.2.2.2.2.2.2.1,(a.2.2.2.2.2.2.2.1,(a.2.2.2.2.2.2.2.2.1,(a.2.2.2.2.2.1,((p.ofNat (p.len a.2.2.2.2.2.1)),((0:Int),()))))))))))))))) fun b=>
 opt.need _ (p.eqN 0 0)<|
 opt.need _ (p.eqN (p.len b.1) (p.len b.1))<|
 opt.ret _ (Sum.inl (b.1,(b.2.1,(b.2.2.1,(b.2.2.2.1,(b.2.2.2.2.1,(b.2.2.2.2.2.1,(b.2.2.2.2.2.2.1,(b.2.2.2.2.2.2.2.1,((p.ar .add .i64 b.2.2.2.2.2.2.2.2.1 (1:Int)),()))))))))))) (
 opt.need _ (p.eqN 0 0)<|
 opt.need _ (p.eqN (p.len a.1) (p.len a.1))<|
 opt.ret _ (Sum.inr (a.1,(a.2.1,(a.2.2.1,(a.2.2.2.1,(a.2.2.2.2.1,(a.2.2.2.2.2.1,())))))))))
def g63 (it:It):(p:Prim)→(LD×(LD×Unit))→Option T21:=
 fun p x=>
 opt.bnd ((LD×T37)) _ (
 it _ _ (x4h it p) ([],((0:Int),((0:Int),((0:Int),(x.1,(x.2.1,(x.1,((p.ofNat (p.len x.1)),((0:Int),())))))))))) fun a=>
 opt.need _ (p.eqN 0 0)<|
 opt.need _ (p.eqN (p.len a.1) (p.len a.1))<|
 opt.need _ (p.eqN 0 0)<|
 opt.need _ (p.eqN 2 (p.len [[(D.list Bool.false 2 a.2.2.2.2.1)],[(D.list Bool.false 2 a.2.2.2.2.2.1)]]))<|
 opt.need _ (p.eqN 2 (p.len [[(D.list Bool.false 2 a.2.2.2.2.1)],[(D.list Bool.false 2 a.2.2.2.2.2.1)]]))<|
 opt.bnd ((LD×T37)) _ (
 it _ _ (y3p it p) ([[(D.list Bool.false 2 a.2.2.2.2.1)],[(D.list Bool.false 2 a.2.2.2.2.2.1)]],(a.1,(a.2.1,(a.2.2.1,(a.2.2.2.1,(a.2.2.2.2.1,(a.2.2.2.2.2.1,((p.ofNat 2),((0:Int),())))))))))) fun b=>
 opt.need _ (p.eqN 0 0)<|
 opt.need _ (p.eqN (p.len b.1) (p.len b.1))<|
 opt.bnd T48 _ (
 it _ _ (x4g it p) (b.1,(b.2.1,(b.2.2.1,(b.2.2.2.1,((0:Int),((0:Int),((0:Int),(b.2.2.2.2.1,(b.2.2.2.2.2.1,(Bool.false,((p.ofNat (p.len b.1)),((0:Int),()))))))))))))) fun c=>
 opt.ret _ (c.2.2.2.1,(c.2.2.2.2.1,(c.2.2.2.2.2.1,(c.2.2.2.2.2.2.1,()))))
def G63:=g63 it0
theorem v7s:CtrOk PG w43 (G63 std):=okF (a:=an63) (l:=la63) (gC ok92 (gN)) (by kernel_rfl) fun _ _=>by kernel_rfl
end Go.Am
end
noncomputable section
namespace Go.Am
def w98:Ctr:=
 ⟨32,[.agg [.list 2, .list 1], .agg [.list 2, .list 1]],[],[(.ret,⟨[(0, .tuple [.agg [.int .i64, .int .i64, .int .i64], .int .i64])],[],1⟩)]⟩
def la32:List LA:=
 []
def ja32:List JA:=
 []
def v95:List CF:=
 [⟨w43,G63⟩,⟨w1j,G62⟩]
def an32:Anns:=
 ⟨v95,ja32,[]⟩
def g32 (it:It):(p:Prim)→(LD×(LD×(LD×(LD×Unit))))→Option T8:=
 fun p x=>
 opt.alt T0 (((LD×(LD×(LD×T1)))⊕((LD×(LD×(LD×T1)))⊕(LD×(LD×(LD×(LD×(LD×(LD×T1))))))))) _ (g62 it p (x.1,(x.2.1,(x.2.2.1,(x.2.2.2.1,()))))) (fun a=>
 opt.ask _ (p.cmp .neq a.1 (0:Int)) (
 opt.ret _ ((0:Int),((0:Int),((0:Int),(a.1,()))))) (
 opt.no _ 41)) (fun b=>
 opt.alt ((LD×(LD×(LD×T1)))) (((LD×(LD×(LD×T1)))⊕(LD×(LD×(LD×(LD×(LD×(LD×T1)))))))) _ (some b) (fun c=>
 opt.ask _ (p.cmp .neq c.2.2.2.1 (0:Int)) (
 opt.ret _ ((0:Int),((0:Int),((0:Int),(c.2.2.2.1,()))))) (
 opt.no _ 41)) (fun d=>
 opt.alt ((LD×(LD×(LD×T1)))) ((LD×(LD×(LD×(LD×(LD×(LD×T1))))))) _ (some d) (fun e=>
 opt.ask _ (p.cmp .neq e.2.2.2.1 (0:Int)) (
 opt.ret _ ((0:Int),((0:Int),((0:Int),(e.2.2.2.1,()))))) (
 opt.no _ 41)) (fun f=>
 opt.bnd ((LD×(LD×(LD×(LD×(LD×(LD×T1))))))) _ (some f) fun g=>
 opt.ask _ (p.cmp .neq g.2.2.2.2.2.2.1 (0:Int)) (
 opt.ret _ ((0:Int),((0:Int),((0:Int),(g.2.2.2.2.2.2.1,()))))) (
 opt.bnd T21 _ (g63 it p (g.2.2.1,(g.2.2.2.2.2.1,()))) fun h=>
 opt.ask _ (bif h.2.2.2.1 then Bool.false else Bool.true) (
 opt.ret _ ((0:Int),((0:Int),((0:Int),((21:Int),()))))) (
 opt.ret _ (h.1,(h.2.1,(h.2.2.1,((0:Int),())))))))))
def G32:=g32 it0
theorem u1q:CtrOk PG w98 (G32 std):=okF (a:=an32) (l:=la32) (gC v7s (gC v69 (gN))) (by kernel_rfl) fun _ _=>by kernel_rfl
end Go.Am
end
noncomputable section
namespace Go.Am
def w6u:Ctr:=
 ⟨78,[.list 2, .clo 66 [.agg [.int .i64, .int .i64]] []],[],[(.ret,⟨[(0, .int .i64)],[],1⟩)]⟩
def v8g:List LA:=
 [⟨78,[false,true,false,true,true],0,⟨⟨[(1, .clo 66 [.agg [.int .i64, .int .i64]] []),(5, .int .i64),(13, .list 2),(14, .int .i64),(15, .int .i64)],[],26⟩,[((AX.exit 0),⟨[(5, .int .i64)],[],26⟩)]⟩⟩]
def v8m:List JA:=
 []
def v3u:List CF:=
 []
def u0v:Anns:=
 ⟨v3u,v8m,[]⟩
def v5s (p:Prim):T47→Option T67:=
 fun a=>opt.run _ (
 opt.ask _ (p.cmp .lss a.2.2.2.2.2.1 a.2.2.2.2.1) (
 opt.need _ (p.rowOk a.2.2.2.1 (p.nat a.2.2.2.2.2.1) [ci,ci])<|
 opt.need _ (p.cmp .geq a.2.2.2.2.2.1 (0:Int))<|
 opt.ret _ (Sum.inl (a.1,(a.2.1,((p.mm .gtr a.2.2.1 (p.ar .add .i64 (p.ar .mul .i64 a.1 (p.rdI a.2.2.2.1 (p.nat a.2.2.2.2.2.1) 0)) (p.ar .mul .i64 a.2.1 (p.rdI a.2.2.2.1 (p.nat a.2.2.2.2.2.1) 1)))),(a.2.2.2.1,(a.2.2.2.2.1,((p.ar .add .i64 a.2.2.2.2.2.1 (1:Int)),())))))))) (
 opt.ret _ (Sum.inr (a.2.2.1,()))))
def v08 (it:It):(p:Prim)→(LD×T3)→Option T0:=
 fun p x=>
 opt.need _ (p.rowOk x.1 (p.nat (0:Int)) [ci,ci])<|
 opt.bnd T0 _ (
 it _ _ (v5s p) (x.2.1,(x.2.2.1,((p.ar .add .i64 (p.ar .mul .i64 x.2.1 (p.rdI x.1 (p.nat (0:Int)) 0)) (p.ar .mul .i64 x.2.2.1 (p.rdI x.1 (p.nat (0:Int)) 1))),(x.1,((p.ofNat (p.len x.1)),((0:Int),()))))))) fun a=>
 opt.ret _ (a.1,())
def u2k:=v08 it0
theorem v7r:CtrOk PG w6u (u2k std):=okF (a:=u0v) (l:=v8g) (gN) (by kernel_rfl) fun _ _=>by kernel_rfl
def v41:Ctr:=
 ⟨39,[.agg [.list 2, .list 1], .agg [.list 2, .list 1], .agg [.int .i64, .int .i64, .int .i64]],[],[(.ret,⟨[(0, .int .i64)],[],1⟩)]⟩
def la39:List LA:=
 []
def ja39:List JA:=
 [⟨39,[true,true,true,false,false,true,true,true],0,[(AX.ret,⟨[(6, .int .i64)],[],90⟩),(AX.normal,⟨[],[],90⟩)]⟩,
 ⟨39,[true,false,false,true,true,true],0,[(AX.ret,⟨[(6, .int .i64)],[],90⟩),(AX.normal,⟨[],[],90⟩)]⟩]
def v9y:List CF:=
 [⟨w6u,u2k⟩,⟨w90,G77⟩,⟨w1j,G62⟩]
def an39:Anns:=
 ⟨v9y,ja39,[]⟩
def g39 (it:It):(p:Prim)→(LD×(LD×(LD×(LD×T7))))→Option T0:=
 fun p x=>
 opt.alt T0 (((LD×(LD×(LD×T1)))⊕((LD×(LD×(LD×T1)))⊕(LD×(LD×(LD×(LD×(LD×(LD×T1))))))))) _ (g62 it p (x.1,(x.2.1,(x.2.2.1,(x.2.2.2.1,()))))) (fun a=>
 opt.alt T0 (Unit) _ (
 opt.run T5 (
 opt.ask _ (p.cmp .neq a.1 (0:Int)) (
 opt.ret _ (Sum.inl (a.1,()))) (
 opt.ask _ (bif (p.cmp .eql x.2.2.2.2.1 (0:Int)) then (bif (p.cmp .eql x.2.2.2.2.2.1 (0:Int)) then Bool.true else Bool.false) else Bool.false) (
 opt.alt T0 (Unit) _ (
 opt.run T5 (
 opt.ret _ (Sum.inl ((2:Int),())))) (fun b=>
 opt.ret _ (Sum.inl (b.1,()))) (fun c=>
 opt.bnd (Unit) _ (some c) fun d=>
 opt.ret _ (Sum.inr ()))) (
 opt.bnd T0 _ (G77 p (x.2.2.2.2.1,())) fun e=>
 opt.bnd T0 _ (G77 p (x.2.2.2.2.2.1,())) fun f=>
 opt.ask _ (p.cmp .gtr (p.mm .gtr e.1 f.1) (1048576:Int)) (
 opt.alt T0 (Unit) _ (
 opt.run T5 (
 opt.ret _ (Sum.inl ((2:Int),())))) (fun g=>
 opt.ret _ (Sum.inl (g.1,()))) (fun h=>
 opt.bnd (Unit) _ (some h) fun i=>
 opt.ret _ (Sum.inr ()))) (
 opt.bnd T0 _ (G77 p (x.2.2.2.2.2.2.1,())) fun j=>
 opt.ask _ (p.cmp .gtr j.1 (1099511627776:Int)) (
 opt.alt T0 (Unit) _ (
 opt.run T5 (
 opt.ret _ (Sum.inl ((2:Int),())))) (fun k=>
 opt.ret _ (Sum.inl (k.1,()))) (fun l=>
 opt.bnd (Unit) _ (some l) fun m=>
 opt.ret _ (Sum.inr ()))) (
 opt.ask _ (p.cmp .lss (p.mm .lss x.2.2.2.2.1 x.2.2.2.2.2.1) (-1048576:Int)) (
 opt.alt T0 (Unit) _ (
 opt.run T5 (
 opt.ret _ (Sum.inl ((2:Int),())))) (fun n=>
 opt.ret _ (Sum.inl (n.1,()))) (fun o=>
 opt.bnd (Unit) _ (some o) fun q=>
 opt.ret _ (Sum.inr ()))) (
 opt.alt T0 (Unit) _ (
 opt.run T5 (
 opt.ask _ (p.cmp .lss x.2.2.2.2.2.2.1 (-1099511627776:Int)) (
 opt.ret _ (Sum.inl ((2:Int),()))) (
 opt.no _ 41))) (fun r=>
 opt.ret _ (Sum.inl (r.1,()))) (fun t=>
 opt.bnd (Unit) _ (some t) fun u=>
 opt.ret _ (Sum.inr ()))))))))) (fun v=>
 opt.ret _ (v.1,())) (fun w=>
 opt.bnd (Unit) _ (some w) fun z=>
 opt.ret _ ((0:Int),()))) (fun a1=>
 opt.alt ((LD×(LD×(LD×T1)))) (((LD×(LD×(LD×T1)))⊕(LD×(LD×(LD×(LD×(LD×(LD×T1)))))))) _ (some a1) (fun b1=>
 opt.alt T0 (Unit) _ (
 opt.run T5 (
 opt.ask _ (p.cmp .neq b1.2.2.2.1 (0:Int)) (
 opt.ret _ (Sum.inl (b1.2.2.2.1,()))) (
 opt.ask _ (bif (p.cmp .eql x.2.2.2.2.1 (0:Int)) then (bif (p.cmp .eql x.2.2.2.2.2.1 (0:Int)) then Bool.true else Bool.false) else Bool.false) (
 opt.alt T0 (Unit) _ (
 opt.run T5 (
 opt.ret _ (Sum.inl ((2:Int),())))) (fun c1=>
 opt.ret _ (Sum.inl (c1.1,()))) (fun d1=>
 opt.bnd (Unit) _ (some d1) fun e1=>
 opt.ret _ (Sum.inr ()))) (
 opt.bnd T0 _ (G77 p (x.2.2.2.2.1,())) fun f1=>
 opt.bnd T0 _ (G77 p (x.2.2.2.2.2.1,())) fun g1=>
 opt.ask _ (p.cmp .gtr (p.mm .gtr f1.1 g1.1) (1048576:Int)) (
 opt.alt T0 (Unit) _ (
 opt.run T5 (
 opt.ret _ (Sum.inl ((2:Int),())))) (fun h1=>
 opt.ret _ (Sum.inl (h1.1,()))) (fun i1=>
 opt.bnd (Unit) _ (some i1) fun j1=>
 opt.ret _ (Sum.inr ()))) (
 opt.bnd T0 _ (G77 p (x.2.2.2.2.2.2.1,())) fun k1=>
 opt.ask _ (p.cmp .gtr k1.1 (1099511627776:Int)) (
 opt.alt T0 (Unit) _ (
 opt.run T5 (
 opt.ret _ (Sum.inl ((2:Int),())))) (fun l1=>
 opt.ret _ (Sum.inl (l1.1,()))) (fun m1=>
 opt.bnd (Unit) _ (some m1) fun n1=>
 opt.ret _ (Sum.inr ()))) (
 opt.ask _ (p.cmp .lss (p.mm .lss x.2.2.2.2.1 x.2.2.2.2.2.1) (-1048576:Int)) (
 opt.alt T0 (Unit) _ (
 opt.run T5 (
 opt.ret _ (Sum.inl ((2:Int),())))) (fun o1=>
 opt.ret _ (Sum.inl (o1.1,()))) (fun q1=>
 opt.bnd (Unit) _ (some q1) fun r1=>
 opt.ret _ (Sum.inr ()))) (
 opt.alt T0 (Unit) _ (
 opt.run T5 (
 opt.ask _ (p.cmp .lss x.2.2.2.2.2.2.1 (-1099511627776:Int)) (
 opt.ret _ (Sum.inl ((2:Int),()))) (
 opt.no _ 41))) (fun t1=>
 opt.ret _ (Sum.inl (t1.1,()))) (fun u1=>
 opt.bnd (Unit) _ (some u1) fun v1=>
 opt.ret _ (Sum.inr ()))))))))) (fun w1=>
 opt.ret _ (w1.1,())) (fun z1=>
 opt.bnd (Unit) _ (some z1) fun a2=>
 opt.ret _ ((0:Int),()))) (fun b2=>
 opt.alt ((LD×(LD×(LD×T1)))) ((LD×(LD×(LD×(LD×(LD×(LD×T1))))))) _ (some b2) (fun c2=>
 opt.alt T0 (Unit) _ (
 opt.run T5 (
 opt.ask _ (p.cmp .neq c2.2.2.2.1 (0:Int)) (
 opt.ret _ (Sum.inl (c2.2.2.2.1,()))) (
 opt.ask _ (bif (p.cmp .eql x.2.2.2.2.1 (0:Int)) then (bif (p.cmp .eql x.2.2.2.2.2.1 (0:Int)) then Bool.true else Bool.false) else Bool.false) (
 opt.alt T0 (Unit) _ (
 opt.run T5 (
 opt.ret _ (Sum.inl ((2:Int),())))) (fun d2=>
 opt.ret _ (Sum.inl (d2.1,()))) (fun e2=>
 opt.bnd (Unit) _ (some e2) fun f2=>
 opt.ret _ (Sum.inr ()))) (
 opt.bnd T0 _ (G77 p (x.2.2.2.2.1,())) fun g2=>
 opt.bnd T0 _ (G77 p (x.2.2.2.2.2.1,())) fun h2=>
 opt.ask _ (p.cmp .gtr (p.mm .gtr g2.1 h2.1) (1048576:Int)) (
 opt.alt T0 (Unit) _ (
 opt.run T5 (
 opt.ret _ (Sum.inl ((2:Int),())))) (fun i2=>
 opt.ret _ (Sum.inl (i2.1,()))) (fun j2=>
 opt.bnd (Unit) _ (some j2) fun k2=>
 opt.ret _ (Sum.inr ()))) (
 opt.bnd T0 _ (G77 p (x.2.2.2.2.2.2.1,())) fun l2=>
 opt.ask _ (p.cmp .gtr l2.1 (1099511627776:Int)) (
 opt.alt T0 (Unit) _ (
 opt.run T5 (
 opt.ret _ (Sum.inl ((2:Int),())))) (fun m2=>
 opt.ret _ (Sum.inl (m2.1,()))) (fun n2=>
 opt.bnd (Unit) _ (some n2) fun o2=>
 opt.ret _ (Sum.inr ()))) (
 opt.ask _ (p.cmp .lss (p.mm .lss x.2.2.2.2.1 x.2.2.2.2.2.1) (-1048576:Int)) (
 opt.alt T0 (Unit) _ (
 opt.run T5 (
 opt.ret _ (Sum.inl ((2:Int),())))) (fun q2=>
 opt.ret _ (Sum.inl (q2.1,()))) (fun r2=>
 opt.bnd (Unit) _ (some r2) fun t2=>
 opt.ret _ (Sum.inr ()))) (
 opt.alt T0 (Unit) _ (
 opt.run T5 (
 opt.ask _ (p.cmp .lss x.2.2.2.2.2.2.1 (-1099511627776:Int)) (
 opt.ret _ (Sum.inl ((2:Int),()))) (
 opt.bnd T0 _ (v08 it p (c2.2.2.1,(x.2.2.2.2.1,(x.2.2.2.2.2.1,())))) fun u2=>
 opt.ask _ (p.cmp .gtr u2.1 x.2.2.2.2.2.2.1) (
 opt.ret _ (Sum.inl ((14:Int),()))) (
 opt.no _ 41)))) (fun v2=>
 opt.ret _ (Sum.inl (v2.1,()))) (fun w2=>
 opt.bnd (Unit) _ (some w2) fun z2=>
 opt.ret _ (Sum.inr ()))))))))) (fun a3=>
 opt.ret _ (a3.1,())) (fun b3=>
 opt.bnd (Unit) _ (some b3) fun c3=>
 opt.ret _ ((0:Int),()))) (fun d3=>
 opt.bnd ((LD×(LD×(LD×(LD×(LD×(LD×T1))))))) _ (some d3) fun e3=>
 opt.alt T0 (Unit) _ (
 opt.run T5 (
 opt.ask _ (p.cmp .neq e3.2.2.2.2.2.2.1 (0:Int)) (
 opt.ret _ (Sum.inl (e3.2.2.2.2.2.2.1,()))) (
 opt.ask _ (bif (p.cmp .eql x.2.2.2.2.1 (0:Int)) then (bif (p.cmp .eql x.2.2.2.2.2.1 (0:Int)) then Bool.true else Bool.false) else Bool.false) (
 opt.alt T0 (Unit) _ (
 opt.run T5 (
 opt.ret _ (Sum.inl ((2:Int),())))) (fun f3=>
 opt.ret _ (Sum.inl (f3.1,()))) (fun g3=>
 opt.bnd (Unit) _ (some g3) fun h3=>
 opt.ret _ (Sum.inr ()))) (
 opt.bnd T0 _ (G77 p (x.2.2.2.2.1,())) fun i3=>
 opt.bnd T0 _ (G77 p (x.2.2.2.2.2.1,())) fun j3=>
 opt.ask _ (p.cmp .gtr (p.mm .gtr i3.1 j3.1) (1048576:Int)) (
 opt.alt T0 (Unit) _ (
 opt.run T5 (
 opt.ret _ (Sum.inl ((2:Int),())))) (fun k3=>
 opt.ret _ (Sum.inl (k3.1,()))) (fun l3=>
 opt.bnd (Unit) _ (some l3) fun m3=>
 opt.ret _ (Sum.inr ()))) (
 opt.bnd T0 _ (G77 p (x.2.2.2.2.2.2.1,())) fun n3=>
 opt.ask _ (p.cmp .gtr n3.1 (1099511627776:Int)) (
 opt.alt T0 (Unit) _ (
 opt.run T5 (
 opt.ret _ (Sum.inl ((2:Int),())))) (fun o3=>
 opt.ret _ (Sum.inl (o3.1,()))) (fun q3=>
 opt.bnd (Unit) _ (some q3) fun r3=>
 opt.ret _ (Sum.inr ()))) (
 opt.ask _ (p.cmp .lss (p.mm .lss x.2.2.2.2.1 x.2.2.2.2.2.1) (-1048576:Int)) (
 opt.alt T0 (Unit) _ (
 opt.run T5 (
 opt.ret _ (Sum.inl ((2:Int),())))) (fun t3=>
 opt.ret _ (Sum.inl (t3.1,()))) (fun u3=>
 opt.bnd (Unit) _ (some u3) fun v3=>
 opt.ret _ (Sum.inr ()))) (
 opt.alt T0 (Unit) _ (
 opt.run T5 (
 opt.ask _ (p.cmp .lss x.2.2.2.2.2.2.1 (-1099511627776:Int)) (
 opt.ret _ (Sum.inl ((2:Int),()))) (
 opt.bnd T0 _ (v08 it p (e3.2.2.1,(x.2.2.2.2.1,(x.2.2.2.2.2.1,())))) fun w3=>
 opt.ask _ (p.cmp .gtr w3.1 x.2.2.2.2.2.2.1) (
 opt.ret _ (Sum.inl ((14:Int),()))) (
 opt.bnd T0 _ (v08 it p (e3.2.2.2.2.2.1,((p.ar .sub .i64 (0:Int) x.2.2.2.2.1),((p.ar .sub .i64 (0:Int) x.2.2.2.2.2.1),())))) fun z3=>
 opt.ask _ (p.cmp .leq (p.ar .sub .i64 (0:Int) z3.1) x.2.2.2.2.2.2.1) (
 opt.ret _ (Sum.inl ((14:Int),()))) (
 opt.ret _ (Sum.inr ())))))) (fun a4=>
 opt.ret _ (Sum.inl (a4.1,()))) (fun b4=>
 opt.bnd (Unit) _ (some b4) fun c4=>
 opt.ret _ (Sum.inr ()))))))))) (fun d4=>
 opt.ret _ (d4.1,())) (fun e4=>
 opt.bnd (Unit) _ (some e4) fun f4=>
 opt.ret _ ((0:Int),())))))
def G39:=g39 it0
theorem ok39:CtrOk PG v41 (G39 std):=okF (a:=an39) (l:=la39) (gC v7r (gC u1i (gC v69 (gN)))) (by kernel_rfl) fun _ _=>by kernel_rfl
end Go.Am
end
noncomputable section
namespace Go.Am
def v43:Ctr:=
 ⟨37,[.agg [.list 2, .list 1], .agg [.list 2, .list 1]],[],[(.ret,⟨[(0, .tuple [.agg [.int .i64, .int .i64, .int .i64], .int .i64])],[],1⟩)]⟩
def la37:List LA:=
 [⟨37,[false,true,false,true,true,true],0,⟨⟨[(4, .bptr 0 0),(5, .bptr 1 0),(6, .bptr 2 0),(7, .bptr 3 0),(46, .agg [.list 2, .list 2, .list 2, .list 2]),(47, .int .i64)],[.box [.int .i64, .int .i64, .int .i64], .box [.int .i64], .box [.list 2, .list 1, .list 2], .box [.bptr 4 0], .box [.list 2, .list 1, .list 2]],89⟩,[(AX.ret,⟨[(4, .bptr 0 0),(5, .bptr 1 0)],[.box [.int .i64, .int .i64, .int .i64], .box [.int .i64]],89⟩),((AX.exit 0),⟨[(4, .bptr 0 0),(5, .bptr 1 0),(6, .bptr 2 0),(7, .bptr 3 0)],[.box [.int .i64, .int .i64, .int .i64], .box [.int .i64], .box [.list 2, .list 1, .list 2], .box [.bptr 4 0], .box [.list 2, .list 1, .list 2]],89⟩)]⟩⟩,
 ⟨37,[false,true,true,false,false,true,true,false,false,true,false,true,true,true],0,⟨⟨[(4, .bptr 0 0),(5, .bptr 1 0),(6, .bptr 2 0),(7, .bptr 3 0),(10, .bptr 4 0),(46, .agg [.list 2, .list 2, .list 2, .list 2]),(47, .int .i64),(51, .list 2),(52, .int .i64),(53, .int .i64)],[.box [.int .i64, .int .i64, .int .i64], .box [.int .i64], .box [.list 2, .list 1, .list 2], .box [.bptr 5 0], .box [.list 2, .list 2], .box [.list 2, .list 1, .list 2]],89⟩,[(AX.ret,⟨[(4, .bptr 0 0),(5, .bptr 1 0)],[.box [.int .i64, .int .i64, .int .i64], .box [.int .i64]],89⟩),((AX.exit 2),⟨[(4, .bptr 0 0),(5, .bptr 1 0),(6, .bptr 2 0),(7, .bptr 3 0),(46, .agg [.list 2, .list 2, .list 2, .list 2]),(47, .int .i64)],[.box [.int .i64, .int .i64, .int .i64], .box [.int .i64], .box [.list 2, .list 1, .list 2], .box [.bptr 4 0], .box [.list 2, .list 1, .list 2]],89⟩)]⟩⟩,
 ⟨94,[false,true],7,⟨⟨[(0, .yld 6),(1, .bptr 5 0),(6, .list 2),(7, .int .i64),(8, .int .i64)],[.box [.int .i64, .int .i64, .int .i64], .box [.int .i64], .box [.list 2, .list 1, .list 2], .box [.bptr 4 0], .box [.list 2, .list 1, .list 2], .box [.list 2], .loop Go.LoopState.ready Option.none 37 [Bool.false,Bool.true,Bool.false,Bool.true,Bool.true,Bool.true,Bool.true] 89 [(72, .clo 94 [] [.bptr 5 0]),(7, .bptr 3 0),(4, .bptr 0 0),(5, .bptr 1 0)]],33⟩,[(AX.ret,⟨[],[.box [.int .i64, .int .i64, .int .i64], .box [.int .i64], .box [.list 2, .list 1, .list 2], .box [.bptr 4 0], .box [.list 2, .list 1, .list 2], .box [.list 2], .loop Go.LoopState.ready Option.none 37 [Bool.false,Bool.true,Bool.false,Bool.true,Bool.true,Bool.true,Bool.true] 89 [(72, .clo 94 [] [.bptr 5 0]),(7, .bptr 3 0),(4, .bptr 0 0),(5, .bptr 1 0)]],33⟩),(AX.ret,⟨[],[.box [.int .i64, .int .i64, .int .i64], .box [.int .i64], .box [.list 2, .list 1, .list 2], .box [.bptr 4 0], .box [.list 2, .list 1, .list 2], .box [.list 2], .loop Go.LoopState.done (Option.some Go.Code.ret) 37 [Bool.false,Bool.true,Bool.false,Bool.true,Bool.true,Bool.true,Bool.true] 89 [(72, .clo 94 [] [.bptr 5 0]),(7, .bptr 3 0),(4, .bptr 0 0),(5, .bptr 1 0)]],33⟩),((AX.exit 0),⟨[],[.box [.int .i64, .int .i64, .int .i64], .box [.int .i64], .box [.list 2, .list 1, .list 2], .box [.bptr 4 0], .box [.list 2, .list 1, .list 2], .box [.list 2], .loop Go.LoopState.ready Option.none 37 [Bool.false,Bool.true,Bool.false,Bool.true,Bool.true,Bool.true,Bool.true] 89 [(72, .clo 94 [] [.bptr 5 0]),(7, .bptr 3 0),(4, .bptr 0 0),(5, .bptr 1 0)]],33⟩)]⟩⟩,
 ⟨94,[false,true],22,⟨⟨[(0, .yld 21),(1, .bptr 20 0),(6, .list 2),(7, .int .i64),(8, .int .i64)],[.box [.int .i64, .int .i64, .int .i64], .box [.int .i64], .box [.list 2, .list 1, .list 2], .box [.bptr 4 0], .box [.list 2, .list 1, .list 2], .box [.list 2], .dead, .box [.int .i64, .int .i64], .dead, .dead, .dead, .dead, .dead, .dead, .dead, .dead, .dead, .dead, .box [.int .i64, .int .i64], .box [.int .i64, .int .i64, .int .i64, .int .i64], .box [.list 2], .loop Go.LoopState.ready Option.none 37 [Bool.false,Bool.true,Bool.false,Bool.true,Bool.false,Bool.true,Bool.false,Bool.true,Bool.true,Bool.true,Bool.true] 89 [(78, .clo 94 [] [.bptr 20 0]),(13, .bptr 19 0),(7, .bptr 3 0),(4, .bptr 0 0),(5, .bptr 1 0)]],33⟩,[(AX.ret,⟨[],[.box [.int .i64, .int .i64, .int .i64], .box [.int .i64], .box [.list 2, .list 1, .list 2], .box [.bptr 4 0], .box [.list 2, .list 1, .list 2], .box [.list 2], .dead, .box [.int .i64, .int .i64], .dead, .dead, .dead, .dead, .dead, .dead, .dead, .dead, .dead, .dead, .box [.int .i64, .int .i64], .box [.int .i64, .int .i64, .int .i64, .int .i64], .box [.list 2], .loop Go.LoopState.ready Option.none 37 [Bool.false,Bool.true,Bool.false,Bool.true,Bool.false,Bool.true,Bool.false,Bool.true,Bool.true,Bool.true,Bool.true] 89 [(78, .clo 94 [] [.bptr 20 0]),(13, .bptr 19 0),(7, .bptr 3 0),(4, .bptr 0 0),(5, .bptr 1 0)]],33⟩),(AX.ret,⟨[],[.box [.int .i64, .int .i64, .int .i64], .box [.int .i64], .box [.list 2, .list 1, .list 2], .box [.bptr 4 0], .box [.list 2, .list 1, .list 2], .box [.list 2], .dead, .box [.int .i64, .int .i64], .dead, .dead, .dead, .dead, .dead, .dead, .dead, .dead, .dead, .dead, .box [.int .i64, .int .i64], .box [.int .i64, .int .i64, .int .i64, .int .i64], .box [.list 2], .loop Go.LoopState.done (Option.some Go.Code.ret) 37 [Bool.false,Bool.true,Bool.false,Bool.true,Bool.false,Bool.true,Bool.false,Bool.true,Bool.true,Bool.true,Bool.true] 89 [(78, .clo 94 [] [.bptr 20 0]),(13, .bptr 19 0),(7, .bptr 3 0),(4, .bptr 0 0),(5, .bptr 1 0)]],33⟩),((AX.exit 0),⟨[],[.box [.int .i64, .int .i64, .int .i64], .box [.int .i64], .box [.list 2, .list 1, .list 2], .box [.bptr 4 0], .box [.list 2, .list 1, .list 2], .box [.list 2], .dead, .box [.int .i64, .int .i64], .dead, .dead, .dead, .dead, .dead, .dead, .dead, .dead, .dead, .dead, .box [.int .i64, .int .i64], .box [.int .i64, .int .i64, .int .i64, .int .i64], .box [.list 2], .loop Go.LoopState.ready Option.none 37 [Bool.false,Bool.true,Bool.false,Bool.true,Bool.false,Bool.true,Bool.false,Bool.true,Bool.true,Bool.true,Bool.true] 89 [(78, .clo 94 [] [.bptr 20 0]),(13, .bptr 19 0),(7, .bptr 3 0),(4, .bptr 0 0),(5, .bptr 1 0)]],33⟩)]⟩⟩]
def ja37:List JA:=
 [⟨37,[true,false,true,false,true,false,true,true,true,true],19,[(AX.normal,⟨[(4, .bptr 0 0),(5, .bptr 1 0),(7, .bptr 3 0)],[.box [.int .i64, .int .i64, .int .i64], .box [.int .i64], .box [.list 2, .list 1, .list 2], .box [.bptr 4 0], .box [.list 2, .list 1, .list 2], .box [.list 2], .dead, .box [.int .i64, .int .i64], .dead, .dead, .dead, .dead, .dead, .dead, .dead, .dead, .dead, .dead, .box [.int .i64, .int .i64]],89⟩),(AX.ret,⟨[(4, .bptr 0 0),(5, .bptr 1 0)],[.box [.int .i64, .int .i64, .int .i64], .box [.int .i64], .box [.list 2, .list 1, .list 2], .box [.bptr 4 0], .box [.list 2, .list 1, .list 2], .box [.list 2], .dead, .box [.int .i64, .int .i64], .dead, .dead, .dead, .dead, .dead, .dead, .dead, .dead, .dead, .dead, .box [.int .i64, .int .i64]],89⟩)]⟩,
 ⟨37,[false,false,false,true,true,false,false,true,false,true,true,true],0,[(AX.normal,⟨[(4, .bptr 0 0),(5, .bptr 1 0),(6, .bptr 2 0),(7, .bptr 3 0),(10, .bptr 4 0),(46, .agg [.list 2, .list 2, .list 2, .list 2]),(47, .int .i64)],[.box [.int .i64, .int .i64, .int .i64], .box [.int .i64], .box [.list 2, .list 1, .list 2], .box [.bptr 5 0], .box [.list 2, .list 2], .box [.list 2, .list 1, .list 2]],89⟩)]⟩,
 ⟨37,[true,false,true,true,true,true],0,[(AX.normal,⟨[(4, .bptr 0 0),(5, .bptr 1 0)],[.box [.int .i64, .int .i64, .int .i64], .box [.int .i64]],89⟩),(AX.ret,⟨[(4, .bptr 0 0),(5, .bptr 1 0)],[.box [.int .i64, .int .i64, .int .i64], .box [.int .i64]],89⟩)]⟩]
def v90:List CF:=
 [⟨v4s,G76⟩,⟨w44,G57⟩,⟨w1j,G62⟩]
def an37:Anns:=
 ⟨v90,ja37,[]⟩
def v0e (it:It) (p:Prim):(Int×(Int×(Int×(Int×(LD×(LD×(LD×(LD×(LD×(LD×(LD×(Int×(Int×(Int×(Int×(Int×(Int×(Int×(Int×(LD×(LD×(Int×(Int×Unit)))))))))))))))))))))))→Option ((Int×(Int×(Int×(Int×(LD×(LD×(LD×(LD×(LD×(LD×(LD×(Int×(Int×(Int×(Int×(Int×(Int×(Int×(Int×(LD×(LD×(Int×(Int×Unit)))))))))))))))))))))))⊕((Int×(Int×(Int×(Int×(LD×(LD×(LD×(LD×(LD×(LD×(LD×(Int×(Int×(Int×(Int×(Int×(Int×(Int×(Int×(LD×Unit))))))))))))))))))))⊕((Int×(Int×(Int×(Int×(LD×(LD×(LD×(LD×(LD×(LD×(LD×(Int×(Int×(Int×(Int×(Int×(Int×(Int×(Int×(LD×Unit))))))))))))))))))))⊕(Int×(Int×(Int×(Int×(LD×(LD×(LD×(LD×(LD×(LD×(LD×(Int×(Int×(Int×(Int×(Int×(Int×(Int×(Int×(LD×Unit))))))))))))))))))))))):=
 fun a=>opt.run _ (
 opt.ask _ (p.cmp .lss a.2.2.2.2.2.2.2.2.2.2.2.2.2.2.2.2.2.2.2.2.2.2.1 a.2.2.2.2.2.2.2.2.2.2.2.2.2.2.2.2.2.2.2.2.2.1) (
 opt.need _ (p.rowOk a.2.2.2.2.2.2.2.2.2.2.2.2.2.2.2.2.2.2.2.2.1 (p.nat a.2.2.2.2.2.2.2.2.2.2.2.2.2.2.2.2.2.2.2.2.2.2.1) [ci,ci])<|
 opt.need _ (p.cmp .geq a.2.2.2.2.2.2.2.2.2.2.2.2.2.2.2.2.2.2.2.2.2.2.1 (0:Int))<|
 opt.need _ (p.cmp .neq (p.ofNat (p.len a.2.2.2.2.2.2.2.2.2.2.2.2.2.2.2.2.2.2.2.1)) (0:Int))<|
 opt.need _ (p.rowOk a.2.2.2.2.2.2.2.2.2.2.2.2.2.2.2.2.2.2.2.1 (p.nat (p.ar .rem .i64 (p.ar .add .i64 a.2.2.2.2.2.2.2.2.2.2.2.2.2.2.2.2.2.2.2.2.2.2.1 (1:Int)) (p.ofNat (p.len a.2.2.2.2.2.2.2.2.2.2.2.2.2.2.2.2.2.2.2.1)))) [ci,ci])<|
 opt.need _ (p.cmp .geq (p.ar .rem .i64 (p.ar .add .i64 a.2.2.2.2.2.2.2.2.2.2.2.2.2.2.2.2.2.2.2.2.2.2.1 (1:Int)) (p.ofNat (p.len a.2.2.2.2.2.2.2.2.2.2.2.2.2.2.2.2.2.2.2.1))) (0:Int))<|
 opt.ask _ (bif (p.cmp .eql (p.ar .sub .i64 (p.rdI a.2.2.2.2.2.2.2.2.2.2.2.2.2.2.2.2.2.2.2.1 (p.nat (p.ar .rem .i64 (p.ar .add .i64 a.2.2.2.2.2.2.2.2.2.2.2.2.2.2.2.2.2.2.2.2.2.2.1 (1:Int)) (p.ofNat (p.len a.2.2.2.2.2.2.2.2.2.2.2.2.2.2.2.2.2.2.2.1)))) 0) (p.rdI a.2.2.2.2.2.2.2.2.2.2.2.2.2.2.2.2.2.2.2.2.1 (p.nat a.2.2.2.2.2.2.2.2.2.2.2.2.2.2.2.2.2.2.2.2.2.2.1) 0)) (0:Int)) then (bif (p.cmp .eql (p.ar .sub .i64 (p.rdI a.2.2.2.2.2.2.2.2.2.2.2.2.2.2.2.2.2.2.2.1 (p.nat (p.ar .rem .i64 (p.ar .add .i64 a.2.2.2.2.2.2.2.2.2.2.2.2.2.2.2.2.2.2.2.2.2.2.1 (1:Int)) (p.ofNat (p.len a.2.2.2.2.2.2.2.2.2.2.2.2.2.2.2.2.2.2.2.1)))) 1) (p.rdI a.2.2.2.2.2.2.2.2.2.2.2.2.2.2.2.2.2.2.2.2.1 (p.nat a.2.2.2.2.2.2.2.2.2.2.2.2.2.2.2.2.2.2.2.2.2.2.1) 1)) (0:Int)) then Bool.true else Bool.false) else Bool.false) (
 opt.ret _ (Sum.inr (Sum.inl (a.1,(a.2.1,(a.2.2.1,(a.2.2.2.1,(a.2.2.2.2.1,(a.2.2.2.2.2.1,(a.2.2.2.2.2.2.1,(a.2.2.2.2.2.2.2.1,(a.2.2.2.2.2.2.2.2.1,(a.2.2.2.2.2.2.2.2.2.1,(a.2.2.2.2.2.2.2.2.2.2.1,(a.2.2.2.2.2.2.2.2.2.2.2.1,(a.2.2.2.2.2.2.2.2.2.2.2.2.1,(a.2.2.2.2.2.2.2.2.2.2.2.2.2.1,(a.2.2.2.2.2.2.2.2.2.2.2.2.2.2.1,(a.2.2.2.2.2.2.2.2.2.2.2.2.2.2.2.1,(a.2.2.2.2.2.2.2.2.2.2.2.2.2.2.2.2.1,(a.2.2.2.2.2.2.2.2.2.2.2.2.2.2.2.2.2.1,(a.2.2.2.2.2.2.2.2.2.2.2.2.2.2.2.2.2.2.1,(a.2.2.2.2.2.2.2.2.2.2.2.2.2.2.2.2.2.2.2.1,()))))))))))))))))))))))) (
 opt.bnd T21 _ (g76 it p (a.2.2.2.2.2.2.2.2.2.2.2.2.2.2.2.1,(a.2.2.2.2.2.2.2.2.2.2.2.2.2.2.2.2.1,(a.2.2.2.2.2.2.2.2.2.2.2.2.2.2.2.2.2.1,(a.2.2.2.2.2.2.2.2.2.2.2.2.2.2.2.2.2.2.1,((p.rdI a.2.2.2.2.2.2.2.2.2.2.2.2.2.2.2.2.2.2.2.2.1 (p.nat a.2.2.2.2.2.2.2.2.2.2.2.2.2.2.2.2.2.2.2.2.2.2.1) 0),((p.rdI a.2.2.2.2.2.2.2.2.2.2.2.2.2.2.2.2.2.2.2.2.1 (p.nat a.2.2.2.2.2.2.2.2.2.2.2.2.2.2.2.2.2.2.2.2.2.2.1) 1),((p.ar .sub .i64 (p.rdI a.2.2.2.2.2.2.2.2.2.2.2.2.2.2.2.2.2.2.2.1 (p.nat (p.ar .rem .i64 (p.ar .add .i64 a.2.2.2.2.2.2.2.2.2.2.2.2.2.2.2.2.2.2.2.2.2.2.1 (1:Int)) (p.ofNat (p.len a.2.2.2.2.2.2.2.2.2.2.2.2.2.2.2.2.2.2.2.1)))) 0) (p.rdI a.2.2.2.2.2.2.2.2.2.2.2.2.2.2.2.2.2.2.2.2.1 (p.nat a.2.2.2.2.2.2.2.2.2.2.2.2.2.2.2.2.2.2.2.2.2.2.1) 0)),((p.ar .sub .i64 (p.rdI a.2.2.2.2.2.2.2.2.2.2.2.2.2.2.2.2.2.2.2.1 (p.nat (p.ar .rem .i64 (p.ar .add .i64 a.2.2.2.2.2.2.2.2.2.2.2.2.2.2.2.2.2.2.2.2.2.2.1 (1:Int)) (p.ofNat (p.len a.2.2.2.2.2.2.2.2.2.2.2.2.2.2.2.2.2.2.2.1)))) 1) (p.rdI a.2.2.2.2.2.2.2.2.2.2.2.2.2.2.2.2.2.2.2.2.1 (p.nat a.2.2.2.2.2.2.2.2.2.2.2.2.2.2.2.2.2.2.2.2.2.2.1) 1)),()))))))))) fun b=>
 opt.ask _ b.2.2.2.1 (
 opt.ret _ (Sum.inr (Sum.inr (Sum.inl (b.1,(b.2.1,(b.2.2.1,((0:Int),(a.2.2.2.2.1,(a.2.2.2.2.2.1,(a.2.2.2.2.2.2.1,(a.2.2.2.2.2.2.2.1,(a.2.2.2.2.2.2.2.2.1,(a.2.2.2.2.2.2.2.2.2.1,(a.2.2.2.2.2.2.2.2.2.2.1,(a.2.2.2.2.2.2.2.2.2.2.2.1,(a.2.2.2.2.2.2.2.2.2.2.2.2.1,(a.2.2.2.2.2.2.2.2.2.2.2.2.2.1,(a.2.2.2.2.2.2.2.2.2.2.2.2.2.2.1,(a.2.2.2.2.2.2.2.2.2.2.2.2.2.2.2.1,(a.2.2.2.2.2.2.2.2.2.2.2.2.2.2.2.2.1,(a.2.2.2.2.2.2.2.2.2.2.2.2.2.2.2.2.2.1,(a.2.2.2.2.2.2.2.2.2.2.2.2.2.2.2.2.2.2.1,(a.2.2.2.2.2.2.2.2.2.2.2.2.2.2.2.2.2.2.2.1,())))))))))))))))))))))))) (
 opt.ret _ (Sum.inl (a.1,(a.2.1,(a.2.2.1,(a.2.2.2.1,(a.2.2.2.2.1,(a.2.2.2.2.2.1,(a.2.2.2.2.2.2.1,(a.2.2.2.2.2.2.2.1,(a.2.2.2.2.2.2.2.2.1,(a.2.2.2.2.2.2.2.2.2.1,(a.2.2.2.2.2.2.2.2.2.2.1,(a.2.2.2.2.2.2.2.2.2.2.2.1,(a.2.2.2.2.2.2.2.2.2.2.2.2.1,(a.2.2.2.2.2.2.2.2.2.2.2.2.2.1,(a.2.2.2.2.2.2.2.2.2.2.2.2.2.2.1,(a.2.2.2.2.2.2.2.2.2.2.2.2.2.2.2.1,(a.2.2.2.2.2.2.2.2.2.2.2.2.2.2.2.2.1,(a.2.2.2.2.2.2.2.2.2.2.2.2.2.2.2.2.2.1,(a.2.2.2.2.2.2.2.2.2.2.2.2.2.2.2.2.2.2.1,(a.2.2.2.2.2.2.2.2.2.2.2.2.2.2.2.2.2.2.2.1,(a.2.2.2.2.2.2.2.2.2.2.2.2.2.2.2.2.2.2.2.2.1,(a.2.2.2.2.2.2.2.2.2.2.2.2.2.2.2.2.2.2.2.2.2.1,((p.ar .add .i64 a.2.2.2.2.2.2.2.2.2.2.2.2.2.2.2.2.2.2.2.2.2.2.1 (1:Int)),()))))))))))))))))))))))))))) (
 opt.ret _ (Sum.inr (Sum.inr (Sum.inr (a.1,(a.2.1,(a.2.2.1,(a.2.2.2.1,(a.2.2.2.2.1,(a.2.2.2.2.2.1,(a.2.2.2.2.2.2.1,(a.2.2.2.2.2.2.2.1,(a.2.2.2.2.2.2.2.2.1,(a.2.2.2.2.2.2.2.2.2.1,(a.2.2.2.2.2.2.2.2.2.2.1,(a.2.2.2.2.2.2.2.2.2.2.2.1,(a.2.2.2.2.2.2.2.2.2.2.2.2.1,(a.2.2.2.2.2.2.2.2.2.2.2.2.2.1,(a.2.2.2.2.2.2.2.2.2.2.2.2.2.2.1,(a.2.2.2.2.2.2.2.2.2.2.2.2.2.2.2.1,(a.2.2.2.2.2.2.2.2.2.2.2.2.2.2.2.2.1,(a.2.2.2.2.2.2.2.2.2.2.2.2.2.2.2.2.2.1,(a.2.2.2.2.2.2.2.2.2.2.2.2.2.2.2.2.2.2.1,(a.2.2.2.2.2.2.2.2.2.2.2.2.2.2.2.2.2.2.2.1,())))))))))))))))))))))))))
def v0f (it:It) (p:Prim):(Int×(Int×(Int×(Int×(LD×(LD×(LD×(LD×(LD×(LD×(LD×(LD×(Int×(Int×Unit))))))))))))))→Option ((Int×(Int×(Int×(Int×(LD×(LD×(LD×(LD×(LD×(LD×(LD×(LD×(Int×(Int×Unit))))))))))))))⊕((Int×(Int×(Int×(Int×(LD×(LD×(LD×(LD×(LD×(LD×(LD×Unit)))))))))))⊕((Int×(Int×(Int×(Int×(LD×(LD×(LD×(LD×(LD×(LD×(LD×Unit)))))))))))⊕(Int×(Int×(Int×(Int×(LD×(LD×(LD×(LD×(LD×(LD×(LD×Unit)))))))))))))):=
 fun a=>opt.run _ (
 opt.ask _ (p.cmp .lss a.2.2.2.2.2.2.2.2.2.2.2.2.2.1 a.2.2.2.2.2.2.2.2.2.2.2.2.1) (
 opt.need _ (p.rowOk a.2.2.2.2.2.2.2.2.2.2.2.1 (p.nat a.2.2.2.2.2.2.2.2.2.2.2.2.2.1) [ci,ci])<|
 opt.need _ (p.cmp .geq a.2.2.2.2.2.2.2.2.2.2.2.2.2.1 (0:Int))<|
 opt.need _ (p.cmp .neq (p.ofNat (p.len a.2.2.2.2.2.2.2.2.2.2.1)) (0:Int))<|
 opt.need _ (p.rowOk a.2.2.2.2.2.2.2.2.2.2.1 (p.nat (p.ar .rem .i64 (p.ar .add .i64 a.2.2.2.2.2.2.2.2.2.2.2.2.2.1 (1:Int)) (p.ofNat (p.len a.2.2.2.2.2.2.2.2.2.2.1)))) [ci,ci])<|
 opt.need _ (p.cmp .geq (p.ar .rem .i64 (p.ar .add .i64 a.2.2.2.2.2.2.2.2.2.2.2.2.2.1 (1:Int)) (p.ofNat (p.len a.2.2.2.2.2.2.2.2.2.2.1))) (0:Int))<|
 opt.ask _ (bif (p.cmp .eql (p.ar .sub .i64 (p.rdI a.2.2.2.2.2.2.2.2.2.2.1 (p.nat (p.ar .rem .i64 (p.ar .add .i64 a.2.2.2.2.2.2.2.2.2.2.2.2.2.1 (1:Int)) (p.ofNat (p.len a.2.2.2.2.2.2.2.2.2.2.1)))) 0) (p.rdI a.2.2.2.2.2.2.2.2.2.2.2.1 (p.nat a.2.2.2.2.2.2.2.2.2.2.2.2.2.1) 0)) (0:Int)) then (bif (p.cmp .eql (p.ar .sub .i64 (p.rdI a.2.2.2.2.2.2.2.2.2.2.1 (p.nat (p.ar .rem .i64 (p.ar .add .i64 a.2.2.2.2.2.2.2.2.2.2.2.2.2.1 (1:Int)) (p.ofNat (p.len a.2.2.2.2.2.2.2.2.2.2.1)))) 1) (p.rdI a.2.2.2.2.2.2.2.2.2.2.2.1 (p.nat a.2.2.2.2.2.2.2.2.2.2.2.2.2.1) 1)) (0:Int)) then Bool.true else Bool.false) else Bool.false) (
 opt.ret _ (Sum.inr (Sum.inl (a.1,(a.2.1,(a.2.2.1,(a.2.2.2.1,(a.2.2.2.2.1,(a.2.2.2.2.2.1,(a.2.2.2.2.2.2.1,(a.2.2.2.2.2.2.2.1,(a.2.2.2.2.2.2.2.2.1,(a.2.2.2.2.2.2.2.2.2.1,(a.2.2.2.2.2.2.2.2.2.2.1,())))))))))))))) (
 opt.alt T49 T49 _ (
 opt.run (((Int×(Int×(Int×(Int×(LD×(LD×(LD×(LD×(LD×(LD×(LD×(Int×(Int×(Int×(Int×Unit)))))))))))))))⊕(Int×(Int×(Int×(Int×(LD×(LD×(LD×(LD×(LD×(LD×(LD×(Int×(Int×(Int×(Int×Unit))))))))))))))))) (
 opt.alt T39 (((Int×(Int×(Int×(Int×(LD×(LD×(LD×(LD×(LD×(LD×(LD×(Int×(Int×(Int×(Int×(Int×(Int×(Int×(Int×(LD×Unit))))))))))))))))))))⊕(Int×(Int×(Int×(Int×(LD×(LD×(LD×(LD×(LD×(LD×(LD×(Int×(Int×(Int×(Int×(Int×(Int×(Int×(Int×(LD×Unit)))))))))))))))))))))) _ (
 it _ _ (v0e it p) (a.1,(a.2.1,(a.2.2.1,(a.2.2.2.1,(a.2.2.2.2.1,(a.2.2.2.2.2.1,(a.2.2.2.2.2.2.1,(a.2.2.2.2.2.2.2.1,(a.2.2.2.2.2.2.2.2.1,(a.2.2.2.2.2.2.2.2.2.1,(a.2.2.2.2.2.2.2.2.2.2.1,((p.rdI a.2.2.2.2.2.2.2.2.2.2.2.1 (p.nat a.2.2.2.2.2.2.2.2.2.2.2.2.2.1) 0),((p.rdI a.2.2.2.2.2.2.2.2.2.2.2.1 (p.nat a.2.2.2.2.2.2.2.2.2.2.2.2.2.1) 1),((p.ar .sub .i64 (p.rdI a.2.2.2.2.2.2.2.2.2.2.1 (p.nat (p.ar .rem .i64 (p.ar .add .i64 a.2.2.2.2.2.2.2.2.2.2.2.2.2.1 (1:Int)) (p.ofNat (p.len a.2.2.2.2.2.2.2.2.2.2.1)))) 0) (p.rdI a.2.2.2.2.2.2.2.2.2.2.2.1 (p.nat a.2.2.2.2.2.2.2.2.2.2.2.2.2.1) 0)),((p.ar .sub .i64 (p.rdI a.2.2.2.2.2.2.2.2.2.2.1 (p.nat (p.ar .rem .i64 (p.ar .add .i64 a.2.2.2.2.2.2.2.2.2.2.2.2.2.1 (1:Int)) (p.ofNat (p.len a.2.2.2.2.2.2.2.2.2.2.1)))) 1) (p.rdI a.2.2.2.2.2.2.2.2.2.2.2.1 (p.nat a.2.2.2.2.2.2.2.2.2.2.2.2.2.1) 1)),((p.rdI a.2.2.2.2.2.2.2.2.2.2.2.1 (p.nat a.2.2.2.2.2.2.2.2.2.2.2.2.2.1) 0),((p.rdI a.2.2.2.2.2.2.2.2.2.2.2.1 (p.nat a.2.2.2.2.2.2.2.2.2.2.2.2.2.1) 1),((p.ar .sub .i64 (p.rdI a.2.2.2.2.2.2.2.2.2.2.1 (p.nat (p.ar .rem .i64 (p.ar .add .i64 a.2.2.2.2.2.2.2.2.2.2.2.2.2.1 (1:Int)) (p.ofNat (p.len a.2.2.2.2.2.2.2.2.2.2.1)))) 0) (p.rdI a.2.2.2.2.2.2.2.2.2.2.2.1 (p.nat a.2.2.2.2.2.2.2.2.2.2.2.2.2.1) 0)),((p.ar .sub .i64 (p.rdI a.2.2.2.2.2.2.2.2.2.2.1 (p.nat (p.ar .rem .i64 (p.ar .add .i64 a.2.2.2.2.2.2.2.2.2.2.2.2.2.1 (1:Int)) (p.ofNat (p.len a.2.2.2.2.2.2.2.2.2.2.1)))) 1) (p.rdI a.2.2.2.2.2.2.2.2.2.2.2.1 (p.nat a.2.2.2.2.2.2.2.2.2.2.2.2.2.1) 1)),(a.2.2.2.2.2.2.2.2.2.1,(a.2.2.2.2.2.2.2.2.2.1,((p.ofNat (p.len a.2.2.2.2.2.2.2.2.2.1)),((0:Int),())))))))))))))))))))))))) (fun b=>
 opt.ret _ (Sum.inl (b.1,(b.2.1,(b.2.2.1,(b.2.2.2.1,(b.2.2.2.2.1,(b.2.2.2.2.2.1,(b.2.2.2.2.2.2.1,(b.2.2.2.2.2.2.2.1,(b.2.2.2.2.2.2.2.2.1,(b.2.2.2.2.2.2.2.2.2.1,(b.2.2.2.2.2.2.2.2.2.2.1,(b.2.2.2.2.2.2.2.2.2.2.2.1,(b.2.2.2.2.2.2.2.2.2.2.2.2.1,(b.2.2.2.2.2.2.2.2.2.2.2.2.2.1,(b.2.2.2.2.2.2.2.2.2.2.2.2.2.2.1,()))))))))))))))))) (fun c=>
 opt.alt T39 T39 _ (some c) (fun d=>
 opt.ret _ (Sum.inr (d.1,(d.2.1,(d.2.2.1,(d.2.2.2.1,(d.2.2.2.2.1,(d.2.2.2.2.2.1,(d.2.2.2.2.2.2.1,(d.2.2.2.2.2.2.2.1,(d.2.2.2.2.2.2.2.2.1,(d.2.2.2.2.2.2.2.2.2.1,(d.2.2.2.2.2.2.2.2.2.2.1,(d.2.2.2.2.2.2.2.2.2.2.2.1,(d.2.2.2.2.2.2.2.2.2.2.2.2.1,(d.2.2.2.2.2.2.2.2.2.2.2.2.2.1,(d.2.2.2.2.2.2.2.2.2.2.2.2.2.2.1,()))))))))))))))))) (fun e=>
 opt.bnd T39 _ (some e) fun f=>
 opt.ret _ (Sum.inl (f.1,(f.2.1,(f.2.2.1,(f.2.2.2.1,(f.2.2.2.2.1,(f.2.2.2.2.2.1,(f.2.2.2.2.2.2.1,(f.2.2.2.2.2.2.2.1,(f.2.2.2.2.2.2.2.2.1,(f.2.2.2.2.2.2.2.2.2.1,(f.2.2.2.2.2.2.2.2.2.2.1,(f.2.2.2.2.2.2.2.2.2.2.2.1,(f.2.2.2.2.2.2.2.2.2.2.2.2.1,(f.2.2.2.2.2.2.2.2.2.2.2.2.2.1,(f.2.2.2.2.2.2.2.2.2.2.2.2.2.2.1,())))))))))))))))))))) (fun g=>
 opt.ret _ (Sum.inl (g.1,(g.2.1,(g.2.2.1,(g.2.2.2.1,(g.2.2.2.2.1,(g.2.2.2.2.2.1,(g.2.2.2.2.2.2.1,(g.2.2.2.2.2.2.2.1,(g.2.2.2.2.2.2.2.2.1,(g.2.2.2.2.2.2.2.2.2.1,(g.2.2.2.2.2.2.2.2.2.2.1,(a.2.2.2.2.2.2.2.2.2.2.2.1,(a.2.2.2.2.2.2.2.2.2.2.2.2.1,((p.ar .add .i64 a.2.2.2.2.2.2.2.2.2.2.2.2.2.1 (1:Int)),())))))))))))))))) (fun h=>
 opt.bnd T49 _ (some h) fun i=>
 opt.ret _ (Sum.inr (Sum.inr (Sum.inl (i.1,(i.2.1,(i.2.2.1,(i.2.2.2.1,(i.2.2.2.2.1,(i.2.2.2.2.2.1,(i.2.2.2.2.2.2.1,(i.2.2.2.2.2.2.2.1,(i.2.2.2.2.2.2.2.2.1,(i.2.2.2.2.2.2.2.2.2.1,(i.2.2.2.2.2.2.2.2.2.2.1,()))))))))))))))))) (
 opt.ret _ (Sum.inr (Sum.inr (Sum.inr (a.1,(a.2.1,(a.2.2.1,(a.2.2.2.1,(a.2.2.2.2.1,(a.2.2.2.2.2.1,(a.2.2.2.2.2.2.1,(a.2.2.2.2.2.2.2.1,(a.2.2.2.2.2.2.2.2.1,(a.2.2.2.2.2.2.2.2.2.1,(a.2.2.2.2.2.2.2.2.2.2.1,()))))))))))))))))
def v0g (it:It) (p:Prim):(Int×(Int×(Int×(Int×(LD×(LD×(LD×(LD×(LD×(LD×(LD×(LD×(LD×(LD×(LD×(LD×(Int×(LD×(Int×(Int×Unit))))))))))))))))))))→Option ((Int×(Int×(Int×(Int×(LD×(LD×(LD×(LD×(LD×(LD×(LD×(LD×(LD×(LD×(LD×(LD×(Int×(LD×(Int×(Int×Unit))))))))))))))))))))⊕((Int×(Int×(Int×(Int×Unit))))⊕(Int×(Int×(Int×(Int×(LD×(LD×(LD×(LD×(LD×(LD×(LD×(LD×(LD×(LD×(Int×Unit))))))))))))))))):=
 fun a=>opt.run _ (
 opt.ask _ (p.cmp .lss a.2.2.2.2.2.2.2.2.2.2.2.2.2.2.2.2.2.2.2.1 a.2.2.2.2.2.2.2.2.2.2.2.2.2.2.2.2.2.2.1) (
 opt.need _ (p.rowOk a.2.2.2.2.2.2.2.2.2.2.2.2.2.2.2.2.2.1 (p.nat a.2.2.2.2.2.2.2.2.2.2.2.2.2.2.2.2.2.2.2.1) [ci,ci])<|
 opt.need _ (p.cmp .geq a.2.2.2.2.2.2.2.2.2.2.2.2.2.2.2.2.2.2.2.1 (0:Int))<|
 opt.bnd T2 _ (g57 it p (a.2.2.2.2.2.2.2.2.1,((p.rdI a.2.2.2.2.2.2.2.2.2.2.2.2.2.2.2.2.2.1 (p.nat a.2.2.2.2.2.2.2.2.2.2.2.2.2.2.2.2.2.2.2.1) 0),((p.rdI a.2.2.2.2.2.2.2.2.2.2.2.2.2.2.2.2.2.1 (p.nat a.2.2.2.2.2.2.2.2.2.2.2.2.2.2.2.2.2.2.2.1) 1),((1:Int),()))))) fun b=>
 opt.ask _ b.1 (
 opt.ret _ (Sum.inr (Sum.inl ((p.rdI a.2.2.2.2.2.2.2.2.2.2.2.2.2.2.2.2.2.1 (p.nat a.2.2.2.2.2.2.2.2.2.2.2.2.2.2.2.2.2.2.2.1) 0),((p.rdI a.2.2.2.2.2.2.2.2.2.2.2.2.2.2.2.2.2.1 (p.nat a.2.2.2.2.2.2.2.2.2.2.2.2.2.2.2.2.2.2.2.1) 1),((1:Int),((0:Int),()))))))) (
 opt.ret _ (Sum.inl (a.1,(a.2.1,(a.2.2.1,(a.2.2.2.1,(a.2.2.2.2.1,(a.2.2.2.2.2.1,(a.2.2.2.2.2.2.1,(a.2.2.2.2.2.2.2.1,(a.2.2.2.2.2.2.2.2.1,(a.2.2.2.2.2.2.2.2.2.1,(a.2.2.2.2.2.2.2.2.2.2.1,(a.2.2.2.2.2.2.2.2.2.2.2.1,(a.2.2.2.2.2.2.2.2.2.2.2.2.1,(a.2.2.2.2.2.2.2.2.2.2.2.2.2.1,(a.2.2.2.2.2.2.2.2.2.2.2.2.2.2.1,(a.2.2.2.2.2.2.2.2.2.2.2.2.2.2.2.1,(a.2.2.2.2.2.2.2.2.2.2.2.2.2.2.2.2.1,(a.2.2.2.2.2.2.2.2.2.2.2.2.2.2.2.2.2.1,(a.2.2.2.2.2.2.2.2.2.2.2.2.2.2.2.2.2.2.1,((p.ar .add .i64 a.2.2.2.2.2.2.2.2.2.2.2.2.2.2.2.2.2.2.2.1 (1:Int)),()))))))))))))))))))))))) (
 opt.ret _ (Sum.inr (Sum.inr (a.1,(a.2.1,(a.2.2.1,(a.2.2.2.1,(a.2.2.2.2.1,(a.2.2.2.2.2.1,(a.2.2.2.2.2.2.1,(a.2.2.2.2.2.2.2.2.2.1,(a.2.2.2.2.2.2.2.2.2.2.1,(a.2.2.2.2.2.2.2.2.2.2.2.1,(a.2.2.2.2.2.2.2.2.2.2.2.2.1,(a.2.2.2.2.2.2.2.2.2.2.2.2.2.1,(a.2.2.2.2.2.2.2.2.2.2.2.2.2.2.1,(a.2.2.2.2.2.2.2.2.2.2.2.2.2.2.2.1,(a.2.2.2.2.2.2.2.2.2.2.2.2.2.2.2.2.1,())))))))))))))))))))
def v0h (it:It) (p:Prim):(Int×(Int×(Int×(Int×(LD×(LD×(LD×(LD×(LD×(LD×(LD×(LD×(LD×(LD×(Int×Unit)))))))))))))))→Option ((Int×(Int×(Int×(Int×(LD×(LD×(LD×(LD×(LD×(LD×(LD×(LD×(LD×(LD×(Int×Unit)))))))))))))))⊕((Int×(Int×(Int×(Int×Unit))))⊕(Int×(Int×(Int×(Int×(LD×(LD×(LD×(LD×(LD×(LD×Unit)))))))))))):=
 fun a=>opt.run _ (
 opt.ask _ (p.cmp .lss a.2.2.2.2.2.2.2.2.2.2.2.2.2.2.1 (2:Int)) (
 opt.bnd T71 _ (
 opt.run T71 (
 opt.ask _ (p.cmp .eql a.2.2.2.2.2.2.2.2.2.2.2.2.2.2.1 (0:Int)) (
 opt.need _ (bif (p.cmp .geq (0:Int) (0:Int)) then (p.cmp .lss (0:Int) (p.ofNat 2)) else Bool.false)<|
 opt.ret _ (a.1,(a.2.1,(a.2.2.1,(a.2.2.2.1,(a.2.2.2.2.1,(a.2.2.2.2.2.1,(a.2.2.2.2.2.2.1,(a.2.2.2.2.2.2.2.2.2.2.1,(a.2.2.2.2.2.2.2.2.2.2.2.1,(a.2.2.2.2.2.2.2.1,(a.2.2.2.2.2.2.2.2.1,(a.2.2.2.2.2.2.2.2.2.1,(a.2.2.2.2.2.2.2.2.2.2.1,(a.2.2.2.2.2.2.2.2.2.2.2.1,(a.2.2.2.2.2.2.2.2.2.2.2.2.1,(a.2.2.2.2.2.2.2.2.2.2.2.2.2.1,((0:Int),())))))))))))))))))) (
 opt.need _ (p.cmp .eql a.2.2.2.2.2.2.2.2.2.2.2.2.2.2.1 (1:Int))<|
 opt.need _ (bif (p.cmp .geq (1:Int) (0:Int)) then (p.cmp .lss (1:Int) (p.ofNat 2)) else Bool.false)<|
 opt.ret _ (a.1,(a.2.1,(a.2.2.1,(a.2.2.2.1,(a.2.2.2.2.1,(a.2.2.2.2.2.1,(a.2.2.2.2.2.2.1,(a.2.2.2.2.2.2.2.2.2.2.2.2.1,(a.2.2.2.2.2.2.2.2.2.2.2.2.2.1,(a.2.2.2.2.2.2.2.1,(a.2.2.2.2.2.2.2.2.1,(a.2.2.2.2.2.2.2.2.2.1,(a.2.2.2.2.2.2.2.2.2.2.1,(a.2.2.2.2.2.2.2.2.2.2.2.1,(a.2.2.2.2.2.2.2.2.2.2.2.2.1,(a.2.2.2.2.2.2.2.2.2.2.2.2.2.1,((1:Int),())))))))))))))))))))) fun b=>
 opt.alt T8 T72 _ (
 it _ _ (v0g it p) (b.1,(b.2.1,(b.2.2.1,(b.2.2.2.1,(b.2.2.2.2.1,(b.2.2.2.2.2.1,(b.2.2.2.2.2.2.1,(b.2.2.2.2.2.2.2.1,(b.2.2.2.2.2.2.2.2.1,(b.2.2.2.2.2.2.2.2.2.1,(b.2.2.2.2.2.2.2.2.2.2.1,(b.2.2.2.2.2.2.2.2.2.2.2.1,(b.2.2.2.2.2.2.2.2.2.2.2.2.1,(b.2.2.2.2.2.2.2.2.2.2.2.2.2.1,(b.2.2.2.2.2.2.2.2.2.2.2.2.2.2.1,(b.2.2.2.2.2.2.2.2.2.2.2.2.2.2.2.1,(b.2.2.2.2.2.2.2.2.2.2.2.2.2.2.2.2.1,(b.2.2.2.2.2.2.2.1,((p.ofNat (p.len b.2.2.2.2.2.2.2.1)),((0:Int),()))))))))))))))))))))) (fun c=>
 opt.ret _ (Sum.inr (Sum.inl (c.1,(c.2.1,(c.2.2.1,(c.2.2.2.1,()))))))) (fun d=>
 opt.bnd T72 _ (some d) fun e=>
 opt.ret _ (Sum.inl (e.1,(e.2.1,(e.2.2.1,(e.2.2.2.1,(e.2.2.2.2.1,(e.2.2.2.2.2.1,(e.2.2.2.2.2.2.1,(e.2.2.2.2.2.2.2.1,(e.2.2.2.2.2.2.2.2.1,(e.2.2.2.2.2.2.2.2.2.1,(e.2.2.2.2.2.2.2.2.2.2.1,(e.2.2.2.2.2.2.2.2.2.2.2.1,(e.2.2.2.2.2.2.2.2.2.2.2.2.1,(e.2.2.2.2.2.2.2.2.2.2.2.2.2.1,((p.ar .add .i64 e.2.2.2.2.2.2.2.2.2.2.2.2.2.2.1 (1:Int)),())))))))))))))))))) (
 opt.ret _ (Sum.inr (Sum.inr (a.1,(a.2.1,(a.2.2.1,(a.2.2.2.1,(a.2.2.2.2.1,(a.2.2.2.2.2.1,(a.2.2.2.2.2.2.1,(a.2.2.2.2.2.2.2.1,(a.2.2.2.2.2.2.2.2.1,(a.2.2.2.2.2.2.2.2.2.1,()))))))))))))))
def g37 (it:It):(p:Prim)→(LD×(LD×(LD×(LD×Unit))))→Option T8:=
 fun p x=>
 opt.alt T0 (((LD×(LD×(LD×T1)))⊕((LD×(LD×(LD×T1)))⊕(LD×(LD×(LD×(LD×(LD×(LD×T1))))))))) _ (g62 it p (x.1,(x.2.1,(x.2.2.1,(x.2.2.2.1,()))))) (fun a=>
 opt.ask _ (p.cmp .neq a.1 (0:Int)) (
 opt.ret _ ((0:Int),((0:Int),((0:Int),(a.1,()))))) (
 opt.no _ 41)) (fun b=>
 opt.alt ((LD×(LD×(LD×T1)))) (((LD×(LD×(LD×T1)))⊕(LD×(LD×(LD×(LD×(LD×(LD×T1)))))))) _ (some b) (fun c=>
 opt.ask _ (p.cmp .neq c.2.2.2.1 (0:Int)) (
 opt.ret _ ((0:Int),((0:Int),((0:Int),(c.2.2.2.1,()))))) (
 opt.no _ 41)) (fun d=>
 opt.alt ((LD×(LD×(LD×T1)))) ((LD×(LD×(LD×(LD×(LD×(LD×T1))))))) _ (some d) (fun e=>
 opt.ask _ (p.cmp .neq e.2.2.2.1 (0:Int)) (
 opt.ret _ ((0:Int),((0:Int),((0:Int),(e.2.2.2.1,()))))) (
 opt.no _ 41)) (fun f=>
 opt.bnd ((LD×(LD×(LD×(LD×(LD×(LD×T1))))))) _ (some f) fun g=>
 opt.ask _ (p.cmp .neq g.2.2.2.2.2.2.1 (0:Int)) (
 opt.ret _ ((0:Int),((0:Int),((0:Int),(g.2.2.2.2.2.2.1,()))))) (
 opt.alt T8 T73 _ (
 it _ _ (v0h it p) ((0:Int),((0:Int),((0:Int),((0:Int),(g.1,(g.2.1,(g.2.2.1,(g.2.2.2.1,(g.2.2.2.2.1,(g.2.2.2.2.2.1,(g.2.2.1,(g.2.2.2.2.2.1,(g.2.2.2.2.2.1,(g.2.2.1,((0:Int),())))))))))))))))) (fun h=>
 opt.ret _ (h.1,(h.2.1,(h.2.2.1,(h.2.2.2.1,()))))) (fun i=>
 opt.bnd T73 _ (some i) fun j=>
 opt.alt T8 T8 _ (
 opt.run (((Int×(Int×(Int×(Int×Unit))))⊕(Int×(Int×(Int×(Int×Unit)))))) (
 opt.alt T40 (((Int×(Int×(Int×(Int×(LD×(LD×(LD×(LD×(LD×(LD×(LD×Unit)))))))))))⊕(Int×(Int×(Int×(Int×(LD×(LD×(LD×(LD×(LD×(LD×(LD×Unit))))))))))))) _ (
 it _ _ (v0f it p) (j.1,(j.2.1,(j.2.2.1,(j.2.2.2.1,(j.2.2.2.2.1,(j.2.2.2.2.2.1,(j.2.2.2.2.2.2.1,(j.2.2.2.2.2.2.2.1,(j.2.2.2.2.2.2.2.2.1,(j.2.2.2.2.2.2.2.2.2.1,(j.2.2.2.2.2.2.1,(j.2.2.2.2.2.2.1,((p.ofNat (p.len j.2.2.2.2.2.2.1)),((0:Int),()))))))))))))))) (fun k=>
 opt.ret _ (Sum.inl (k.1,(k.2.1,(k.2.2.1,(k.2.2.2.1,())))))) (fun l=>
 opt.alt T40 T40 _ (some l) (fun m=>
 opt.ret _ (Sum.inr (m.1,(m.2.1,(m.2.2.1,(m.2.2.2.1,())))))) (fun n=>
 opt.bnd T40 _ (some n) fun o=>
 opt.ret _ (Sum.inl (o.1,(o.2.1,(o.2.2.1,(o.2.2.2.1,()))))))))) (fun q=>
 opt.ret _ ((0:Int),((0:Int),((0:Int),((5:Int),()))))) (fun r=>
 opt.bnd T8 _ (some r) fun t=>
 opt.ret _ (t.1,(t.2.1,(t.2.2.1,(t.2.2.2.1,()))))))))))
def G37:=g37 it0
theorem ok37:CtrOk PG v43 (G37 std):=okF (a:=an37) (l:=la37) (gC ok76 (gC v7t (gC v69 (gN)))) (by kernel_rfl) fun _ _=>by kernel_rfl
end Go.Am
end
noncomputable section
namespace Go.Am
def v4u:Ctr:=
 ⟨70,[.agg [.int .i64, .int .i64], .agg [.int .i64, .int .i64]],[],[(.ret,⟨[(0, .int .i64)],[],1⟩)]⟩
def la70:List LA:=
 []
def ja70:List JA:=
 []
def v9h:List CF:=
 [⟨z40,F71⟩]
def an70:Anns:=
 ⟨v9h,ja70,[]⟩
def G70:(p:Prim)→T10→Option T0:=
 fun p x=>
 opt.bnd T2 _ (F71 p (x.1,(x.2.1,(x.2.2.1,(x.2.2.2.1,()))))) fun a=>
 opt.ask _ a.1 (
 opt.ret _ ((-1:Int),())) (
 opt.ret _ ((1:Int),()))
theorem ok70:CtrOk PG v4u (G70 std):=okF (a:=an70) (l:=la70) (gC ok71 (gN)) (by kernel_rfl) fun _ _=>by kernel_rfl
def v4v:Ctr:=
 ⟨69,[.sl 0 2, .clo 70 [] []],[.row [ci,ci]],[(.ret,⟨[(0, .agg [.int .i64, .int .i64])],[.row [ci,ci]],1⟩)]⟩
def la69:List LA:=
 [⟨69,[false,true,false,true,true,true],1,⟨⟨[(0, .sl 0 2),(1, .clo 70 [] []),(4, .bptr 1 0),(5, .bptr 2 0),(6, .int .i64)],[.row [ci,ci], .box [.int .i64, .int .i64], .box [.int .i64, .int .i64]],33⟩,[((AX.exit 0),⟨[(4, .bptr 1 0),(5, .bptr 2 0)],[.row [ci,ci], .box [.int .i64, .int .i64], .box [.int .i64, .int .i64]],33⟩)]⟩⟩]
def ja69:List JA:=
 [⟨69,[true,false,false,true,false,false,true,false,true,true,true],1,[(AX.normal,⟨[(0, .sl 0 2),(1, .clo 70 [] []),(4, .bptr 1 0),(5, .bptr 2 0),(6, .int .i64)],[.row [ci,ci], .box [.int .i64, .int .i64], .box [.int .i64, .int .i64]],33⟩)]⟩]
def v9i:List CF:=
 [⟨v4u,G70⟩]
def an69:Anns:=
 ⟨v9i,ja69,[]⟩
def w2a (p:Prim):(LD×T41)→Option ((LD×T41)⊕(LD×T10)):=
 fun a=>opt.run _ (
 opt.ask _ (p.cmp .lss a.2.2.2.2.2.2.2.1 (p.ofNat a.2.2.2.2.2.2.1)) (
 opt.need _ (bif (p.cmp .geq a.2.2.2.2.2.2.2.1 (0:Int)) then (p.cmp .lss a.2.2.2.2.2.2.2.1 (p.ofNat a.2.2.2.2.2.2.1)) else Bool.false)<|
 opt.need _ (p.rowOk a.1 (p.add a.2.2.2.2.2.1 (p.nat a.2.2.2.2.2.2.2.1)) [ci,ci])<|
 opt.bnd T0 _ (G70 p ((p.rdI a.1 (p.add a.2.2.2.2.2.1 (p.nat a.2.2.2.2.2.2.2.1)) 0),((p.rdI a.1 (p.add a.2.2.2.2.2.1 (p.nat a.2.2.2.2.2.2.2.1)) 1),(a.2.2.2.1,(a.2.2.2.2.1,()))))) fun b=>
 opt.bnd ((LD×T41)) _ (
 opt.run ((LD×T41)) (
 opt.ask _ (p.cmp .lss b.1 (0:Int)) (
 opt.need _ (bif (p.cmp .geq a.2.2.2.2.2.2.2.1 (0:Int)) then (p.cmp .lss a.2.2.2.2.2.2.2.1 (p.ofNat a.2.2.2.2.2.2.1)) else Bool.false)<|
 opt.need _ (p.rowOk a.1 (p.add a.2.2.2.2.2.1 (p.nat a.2.2.2.2.2.2.2.1)) [ci,ci])<|
 opt.ret _ (a.1,(a.2.1,(a.2.2.1,((p.rdI a.1 (p.add a.2.2.2.2.2.1 (p.nat a.2.2.2.2.2.2.2.1)) 0),((p.rdI a.1 (p.add a.2.2.2.2.2.1 (p.nat a.2.2.2.2.2.2.2.1)) 1),(a.2.2.2.2.2.1,(a.2.2.2.2.2.2.1,(a.2.2.2.2.2.2.2.1,()))))))))) (
 opt.ret _ (a.1,(a.2.1,(a.2.2.1,(a.2.2.2.1,(a.2.2.2.2.1,(a.2.2.2.2.2.1,(a.2.2.2.2.2.2.1,(a.2.2.2.2.2.2.2.1,()))))))))))) fun c=>
 opt.ret _ (Sum.inl (c.1,(c.2.1,(c.2.2.1,(c.2.2.2.1,(c.2.2.2.2.1,(c.2.2.2.2.2.1,(c.2.2.2.2.2.2.1,((p.ar .add .i64 c.2.2.2.2.2.2.2.1 (1:Int)),())))))))))) (
 opt.ret _ (Sum.inr (a.1,(a.2.1,(a.2.2.1,(a.2.2.2.1,(a.2.2.2.2.1,()))))))))
def g69 (it:It):(p:Prim)→(LD×T17)→Option ((LD×T3)):=
 fun p x=>
 opt.ask _ (p.cmp .lss (p.ofNat x.2.2.1) (1:Int)) (
 opt.no _ 41) (
 opt.need _ (bif (p.cmp .geq (0:Int) (0:Int)) then (p.cmp .lss (0:Int) (p.ofNat x.2.2.1)) else Bool.false)<|
 opt.need _ (p.rowOk x.1 (p.add x.2.1 (p.nat (0:Int))) [ci,ci])<|
 opt.bnd ((LD×T10)) _ (
 it _ _ (w2a p) (x.1,((0:Int),((0:Int),((p.rdI x.1 (p.add x.2.1 (p.nat (0:Int))) 0),((p.rdI x.1 (p.add x.2.1 (p.nat (0:Int))) 1),(x.2.1,(x.2.2.1,((1:Int),()))))))))) fun a=>
 opt.ret _ (a.1,(a.2.2.2.1,(a.2.2.2.2.1,()))))
def G69:=g69 it0
theorem ok69:CtrOk PG v4v (G69 std):=okF (a:=an69) (l:=la69) (gC ok70 (gN)) (by kernel_rfl) fun _ _=>by kernel_rfl
def w99:Ctr:=
 ⟨25,[.agg [.list 2, .list 1], .agg [.list 2, .list 1]],[],[(.ret,⟨[(0, .tuple [.agg [.int .i64, .int .i64], .int .i64])],[],1⟩)]⟩
def la25:List LA:=
 [⟨25,[false,true,false,true,true,true,true,true],0,⟨⟨[(4, .bptr 0 0),(11, .bptr 1 0),(67, .agg [.list 2, .list 2, .list 2, .list 2]),(68, .int .i64)],[.box [.int .i64, .int .i64], .box [.sl 2 2], .row [ci,ci]],115⟩,[((AX.exit 0),⟨[(4, .bptr 0 0),(11, .bptr 1 0)],[.box [.int .i64, .int .i64], .box [.sl 2 2], .row [ci,ci]],115⟩)]⟩⟩,
 ⟨25,[false,true,true,false,false,true,true,false,false,true,false,true,true,true,true,true],0,⟨⟨[(4, .bptr 0 0),(11, .bptr 1 0),(13, .bptr 2 0),(67, .agg [.list 2, .list 2, .list 2, .list 2]),(68, .int .i64),(72, .list 2),(73, .int .i64),(74, .int .i64)],[.box [.int .i64, .int .i64], .box [.sl 3 2], .box [.list 2, .list 2], .row [ci,ci]],115⟩,[((AX.exit 2),⟨[(4, .bptr 0 0),(11, .bptr 1 0),(67, .agg [.list 2, .list 2, .list 2, .list 2]),(68, .int .i64)],[.box [.int .i64, .int .i64], .box [.sl 2 2], .row [ci,ci]],115⟩)]⟩⟩,
 ⟨25,[false,true,false,true,false,false,true,true,false,false,true,true,false,false,true,true,false,false,true,false,true,true,true,true,true],0,⟨⟨[(4, .bptr 0 0),(11, .bptr 1 0),(13, .bptr 2 0),(15, .bptr 3 0),(67, .agg [.list 2, .list 2, .list 2, .list 2]),(68, .int .i64),(72, .list 2),(73, .int .i64),(74, .int .i64),(79, .list 2),(80, .int .i64),(81, .int .i64)],[.box [.int .i64, .int .i64], .box [.sl 4 2], .box [.list 2, .list 2], .box [.int .i64, .int .i64], .row [ci,ci]],115⟩,[((AX.exit 4),⟨[(4, .bptr 0 0),(11, .bptr 1 0),(13, .bptr 2 0),(15, .bptr 3 0),(67, .agg [.list 2, .list 2, .list 2, .list 2]),(68, .int .i64),(72, .list 2),(73, .int .i64),(74, .int .i64)],[.box [.int .i64, .int .i64], .box [.sl 4 2], .box [.list 2, .list 2], .box [.int .i64, .int .i64], .row [ci,ci]],115⟩)]⟩⟩,
 ⟨94,[false,true],7,⟨⟨[(0, .yld 6),(1, .bptr 5 0),(6, .list 2),(7, .int .i64),(8, .int .i64)],[.box [.int .i64, .int .i64], .box [.sl 7 2], .box [.list 2, .list 2], .box [.int .i64, .int .i64], .dead, .box [.list 2], .loop Go.LoopState.ready Option.none 25 [Bool.false,Bool.true,Bool.true,Bool.true,Bool.false,Bool.false,Bool.true,Bool.true,Bool.false,Bool.false,Bool.true,Bool.true,Bool.false,Bool.false,Bool.true,Bool.true,Bool.false,Bool.false,Bool.true,Bool.false,Bool.true,Bool.true,Bool.true,Bool.true,Bool.true] 115 [(98, .clo 94 [] [.bptr 5 0]),(15, .bptr 3 0),(73, .int .i64),(72, .list 2),(13, .bptr 2 0),(11, .bptr 1 0),(67, .agg [.list 2, .list 2, .list 2, .list 2]),(4, .bptr 0 0),(68, .int .i64),(74, .int .i64)], .row [ci,ci]],33⟩,[(AX.ret,⟨[],[.box [.int .i64, .int .i64], .box [.sl 7 2], .box [.list 2, .list 2], .box [.int .i64, .int .i64], .dead, .box [.list 2], .loop Go.LoopState.ready Option.none 25 [Bool.false,Bool.true,Bool.true,Bool.true,Bool.false,Bool.false,Bool.true,Bool.true,Bool.false,Bool.false,Bool.true,Bool.true,Bool.false,Bool.false,Bool.true,Bool.true,Bool.false,Bool.false,Bool.true,Bool.false,Bool.true,Bool.true,Bool.true,Bool.true,Bool.true] 115 [(98, .clo 94 [] [.bptr 5 0]),(15, .bptr 3 0),(73, .int .i64),(72, .list 2),(13, .bptr 2 0),(11, .bptr 1 0),(67, .agg [.list 2, .list 2, .list 2, .list 2]),(4, .bptr 0 0),(68, .int .i64),(74, .int .i64)], .row [ci,ci]],33⟩),((AX.exit 0),⟨[],[.box [.int .i64, .int .i64], .box [.sl 7 2], .box [.list 2, .list 2], .box [.int .i64, .int .i64], .dead, .box [.list 2], .loop Go.LoopState.ready Option.none 25 [Bool.false,Bool.true,Bool.true,Bool.true,Bool.false,Bool.false,Bool.true,Bool.true,Bool.false,Bool.false,Bool.true,Bool.true,Bool.false,Bool.false,Bool.true,Bool.true,Bool.false,Bool.false,Bool.true,Bool.false,Bool.true,Bool.true,Bool.true,Bool.true,Bool.true] 115 [(98, .clo 94 [] [.bptr 5 0]),(15, .bptr 3 0),(73, .int .i64),(72, .list 2),(13, .bptr 2 0),(11, .bptr 1 0),(67, .agg [.list 2, .list 2, .list 2, .list 2]),(4, .bptr 0 0),(68, .int .i64),(74, .int .i64)], .row [ci,ci]],33⟩)]⟩⟩]
def ja25:List JA:=
 [⟨25,[true,true,false,true,false,true,true,true,false,false,true,true,false,false,true,true,false,false,true,true,false,false,true,false,true,true,true,true,true],20,[(AX.normal,⟨[(4, .bptr 0 0),(11, .bptr 1 0),(13, .bptr 2 0),(15, .bptr 3 0),(67, .agg [.list 2, .list 2, .list 2, .list 2]),(68, .int .i64),(72, .list 2),(73, .int .i64),(74, .int .i64)],[.box [.int .i64, .int .i64], .box [.sl 20 2], .box [.list 2, .list 2], .box [.int .i64, .int .i64], .dead, .box [.list 2], .dead, .dead, .box [.int .i64, .int .i64], .dead, .dead, .dead, .dead, .dead, .dead, .dead, .dead, .dead, .dead, .box [.int .i64, .int .i64], .row [ci,ci]],115⟩)]⟩,
 ⟨25,[true,true,true,false,false,true,true,false,false,true,true,false,false,true,true,false,false,true,false,true,true,true,true,true],0,[(AX.normal,⟨[(4, .bptr 0 0),(11, .bptr 1 0),(13, .bptr 2 0),(67, .agg [.list 2, .list 2, .list 2, .list 2]),(68, .int .i64),(72, .list 2),(73, .int .i64),(74, .int .i64)],[.box [.int .i64, .int .i64], .box [.sl 3 2], .box [.list 2, .list 2], .row [ci,ci]],115⟩)]⟩,
 ⟨25,[false,false,false,true,true,false,false,true,false,true,true,true,true,true],0,[(AX.normal,⟨[(4, .bptr 0 0),(11, .bptr 1 0),(13, .bptr 2 0),(67, .agg [.list 2, .list 2, .list 2, .list 2]),(68, .int .i64)],[.box [.int .i64, .int .i64], .box [.sl 3 2], .box [.list 2, .list 2], .row [ci,ci]],115⟩)]⟩]
def v98:List CF:=
 [⟨v4v,G69⟩,⟨v4w,G68⟩,⟨w92,G65⟩,⟨w43,G63⟩,⟨w1j,G62⟩]
def an25:Anns:=
 ⟨v98,ja25,[]⟩
def y6c (it:It) (p:Prim):(LD×T74)→Option ((LD×T74)⊕((LD×T25)⊕(LD×T25))):=
 fun a=>opt.run _ (
 opt.ask _ (p.cmp .lss a.2.2.2.2.2.2.2.2.2.2.2.2.2.2.2.2.2.2.2.2.1 a.2.2.2.2.2.2.2.2.2.2.2.2.2.2.2.2.2.2.2.1) (
 opt.need _ (p.rowOk a.2.2.2.2.2.2.2.2.2.2.2.2.2.2.2.2.2.2.1 (p.nat a.2.2.2.2.2.2.2.2.2.2.2.2.2.2.2.2.2.2.2.2.1) [ci,ci])<|
 opt.need _ (p.cmp .geq a.2.2.2.2.2.2.2.2.2.2.2.2.2.2.2.2.2.2.2.2.1 (0:Int))<|
 opt.need _ (p.cmp .neq (p.ofNat (p.len a.2.2.2.2.2.2.2.2.2.1)) (0:Int))<|
 opt.need _ (p.rowOk a.2.2.2.2.2.2.2.2.2.1 (p.nat (p.ar .rem .i64 (p.ar .add .i64 a.2.2.2.2.2.2.2.2.2.2.2.2.2.2.2.2.2.2.2.2.1 (1:Int)) (p.ofNat (p.len a.2.2.2.2.2.2.2.2.2.1)))) [ci,ci])<|
 opt.need _ (p.cmp .geq (p.ar .rem .i64 (p.ar .add .i64 a.2.2.2.2.2.2.2.2.2.2.2.2.2.2.2.2.2.2.2.2.1 (1:Int)) (p.ofNat (p.len a.2.2.2.2.2.2.2.2.2.1))) (0:Int))<|
 opt.ask _ (bif (p.cmp .eql (p.ar .sub .i64 (p.rdI a.2.2.2.2.2.2.2.2.2.1 (p.nat (p.ar .rem .i64 (p.ar .add .i64 a.2.2.2.2.2.2.2.2.2.2.2.2.2.2.2.2.2.2.2.2.1 (1:Int)) (p.ofNat (p.len a.2.2.2.2.2.2.2.2.2.1)))) 0) (p.rdI a.2.2.2.2.2.2.2.2.2.2.2.2.2.2.2.2.2.2.1 (p.nat a.2.2.2.2.2.2.2.2.2.2.2.2.2.2.2.2.2.2.2.2.1) 0)) (0:Int)) then (bif (p.cmp .eql (p.ar .sub .i64 (p.rdI a.2.2.2.2.2.2.2.2.2.1 (p.nat (p.ar .rem .i64 (p.ar .add .i64 a.2.2.2.2.2.2.2.2.2.2.2.2.2.2.2.2.2.2.2.2.1 (1:Int)) (p.ofNat (p.len a.2.2.2.2.2.2.2.2.2.1)))) 1) (p.rdI a.2.2.2.2.2.2.2.2.2.2.2.2.2.2.2.2.2.2.1 (p.nat a.2.2.2.2.2.2.2.2.2.2.2.2.2.2.2.2.2.2.2.2.1) 1)) (0:Int)) then Bool.true else Bool.false) else Bool.false) (
 opt.ret _ (Sum.inr (Sum.inl (a.1,(a.2.1,(a.2.2.1,(a.2.2.2.1,(a.2.2.2.2.1,(a.2.2.2.2.2.1,(a.2.2.2.2.2.2.1,(a.2.2.2.2.2.2.2.1,(a.2.2.2.2.2.2.2.2.1,(a.2.2.2.2.2.2.2.2.2.1,(a.2.2.2.2.2.2.2.2.2.2.1,(a.2.2.2.2.2.2.2.2.2.2.2.1,(a.2.2.2.2.2.2.2.2.2.2.2.2.1,(a.2.2.2.2.2.2.2.2.2.2.2.2.2.1,(a.2.2.2.2.2.2.2.2.2.2.2.2.2.2.1,(a.2.2.2.2.2.2.2.2.2.2.2.2.2.2.2.1,(a.2.2.2.2.2.2.2.2.2.2.2.2.2.2.2.2.1,(a.2.2.2.2.2.2.2.2.2.2.2.2.2.2.2.2.2.1,()))))))))))))))))))))) (
 opt.bnd T18 _ (g68 it p (a.2.2.2.2.2.2.2.1,(a.2.2.2.2.2.2.2.2.1,((p.rdI a.2.2.2.2.2.2.2.2.2.2.2.2.2.2.2.2.2.2.1 (p.nat a.2.2.2.2.2.2.2.2.2.2.2.2.2.2.2.2.2.2.2.2.1) 0),((p.rdI a.2.2.2.2.2.2.2.2.2.2.2.2.2.2.2.2.2.2.1 (p.nat a.2.2.2.2.2.2.2.2.2.2.2.2.2.2.2.2.2.2.2.2.1) 1),((p.ar .sub .i64 (p.rdI a.2.2.2.2.2.2.2.2.2.1 (p.nat (p.ar .rem .i64 (p.ar .add .i64 a.2.2.2.2.2.2.2.2.2.2.2.2.2.2.2.2.2.2.2.2.1 (1:Int)) (p.ofNat (p.len a.2.2.2.2.2.2.2.2.2.1)))) 0) (p.rdI a.2.2.2.2.2.2.2.2.2.2.2.2.2.2.2.2.2.2.1 (p.nat a.2.2.2.2.2.2.2.2.2.2.2.2.2.2.2.2.2.2.2.2.1) 0)),((p.ar .sub .i64 (p.rdI a.2.2.2.2.2.2.2.2.2.1 (p.nat (p.ar .rem .i64 (p.ar .add .i64 a.2.2.2.2.2.2.2.2.2.2.2.2.2.2.2.2.2.2.2.2.1 (1:Int)) (p.ofNat (p.len a.2.2.2.2.2.2.2.2.2.1)))) 1) (p.rdI a.2.2.2.2.2.2.2.2.2.2.2.2.2.2.2.2.2.2.1 (p.nat a.2.2.2.2.2.2.2.2.2.2.2.2.2.2.2.2.2.2.2.2.1) 1)),()))))))) fun b=>
 opt.bnd ((LD×T75)) _ (
 opt.run ((LD×T75)) (
 opt.ask _ b.2.2.1 (
 opt.need _ (p.and (p.leN (p.add 0 1) (p.len [[(D.int .i64 b.1),(D.int .i64 b.2.1)]])) (p.and (p.leN (p.add a.2.2.2.1 a.2.2.2.2.1) (p.len a.1)) (p.and (p.leN 1 1) (p.leN (p.add a.2.2.2.2.1 1) 1000000))))<|
 opt.ret _ ((p.app (p.cut a.1 a.2.2.2.1 a.2.2.2.2.1) (p.cut [[(D.int .i64 b.1),(D.int .i64 b.2.1)]] 0 1)),(a.2.1,(a.2.2.1,(0,((p.add a.2.2.2.2.1 1),(a.2.2.2.2.2.1,(a.2.2.2.2.2.2.1,(a.2.2.2.2.2.2.2.1,(a.2.2.2.2.2.2.2.2.1,(a.2.2.2.2.2.2.2.2.2.1,((p.rdI a.2.2.2.2.2.2.2.2.2.2.2.2.2.2.2.2.2.2.1 (p.nat a.2.2.2.2.2.2.2.2.2.2.2.2.2.2.2.2.2.2.2.2.1) 0),((p.rdI a.2.2.2.2.2.2.2.2.2.2.2.2.2.2.2.2.2.2.1 (p.nat a.2.2.2.2.2.2.2.2.2.2.2.2.2.2.2.2.2.2.2.2.1) 1),((p.ar .sub .i64 (p.rdI a.2.2.2.2.2.2.2.2.2.1 (p.nat (p.ar .rem .i64 (p.ar .add .i64 a.2.2.2.2.2.2.2.2.2.2.2.2.2.2.2.2.2.2.2.2.1 (1:Int)) (p.ofNat (p.len a.2.2.2.2.2.2.2.2.2.1)))) 0) (p.rdI a.2.2.2.2.2.2.2.2.2.2.2.2.2.2.2.2.2.2.1 (p.nat a.2.2.2.2.2.2.2.2.2.2.2.2.2.2.2.2.2.2.2.2.1) 0)),((p.ar .sub .i64 (p.rdI a.2.2.2.2.2.2.2.2.2.1 (p.nat (p.ar .rem .i64 (p.ar .add .i64 a.2.2.2.2.2.2.2.2.2.2.2.2.2.2.2.2.2.2.2.2.1 (1:Int)) (p.ofNat (p.len a.2.2.2.2.2.2.2.2.2.1)))) 1) (p.rdI a.2.2.2.2.2.2.2.2.2.2.2.2.2.2.2.2.2.2.1 (p.nat a.2.2.2.2.2.2.2.2.2.2.2.2.2.2.2.2.2.2.2.2.1) 1)),(a.2.2.2.2.2.2.2.2.2.2.2.2.1,(a.2.2.2.2.2.2.2.2.2.2.2.2.2.1,(a.2.2.2.2.2.2.2.2.2.2.2.2.2.2.1,(a.2.2.2.2.2.2.2.2.2.2.2.2.2.2.2.1,(a.2.2.2.2.2.2.2.2.2.2.2.2.2.2.2.2.1,(a.2.2.2.2.2.2.2.2.2.2.2.1,(a.2.2.2.2.2.2.2.2.2.2.1,(a.2.2.2.2.2.2.2.2.2.2.2.2.2.2.2.2.2.1,()))))))))))))))))))))))) (
 opt.ret _ (a.1,(a.2.1,(a.2.2.1,(a.2.2.2.1,(a.2.2.2.2.1,(a.2.2.2.2.2.1,(a.2.2.2.2.2.2.1,(a.2.2.2.2.2.2.2.1,(a.2.2.2.2.2.2.2.2.1,(a.2.2.2.2.2.2.2.2.2.1,((p.rdI a.2.2.2.2.2.2.2.2.2.2.2.2.2.2.2.2.2.2.1 (p.nat a.2.2.2.2.2.2.2.2.2.2.2.2.2.2.2.2.2.2.2.2.1) 0),((p.rdI a.2.2.2.2.2.2.2.2.2.2.2.2.2.2.2.2.2.2.1 (p.nat a.2.2.2.2.2.2.2.2.2.2.2.2.2.2.2.2.2.2.2.2.1) 1),((p.ar .sub .i64 (p.rdI a.2.2.2.2.2.2.2.2.2.1 (p.nat (p.ar .rem .i64 (p.ar .add .i64 a.2.2.2.2.2.2.2.2.2.2.2.2.2.2.2.2.2.2.2.2.1 (1:Int)) (p.ofNat (p.len a.2.2.2.2.2.2.2.2.2.1)))) 0) (p.rdI a.2.2.2.2.2.2.2.2.2.2.2.2.2.2.2.2.2.2.1 (p.nat a.2.2.2.2.2.2.2.2.2.2.2.2.2.2.2.2.2.2.2.2.1) 0)),((p.ar .sub .i64 (p.rdI a.2.2.2.2.2.2.2.2.2.1 (p.nat (p.ar .rem .i64 (p.ar .add .i64 a.2.2.2.2.2.2.2.2.2.2.2.2.2.2.2.2.2.2.2.2.1 (1:Int)) (p.ofNat (p.len a.2.2.2.2.2.2.2.2.2.1)))) 1) (p.rdI a.2.2.2.2.2.2.2.2.2.2.2.2.2.2.2.2.2.2.1 (p.nat a.2.2.2.2.2.2.2.2.2.2.2.2.2.2.2.2.2.2.2.2.1) 1)),(a.2.2.2.2.2.2.2.2.2.2.2.2.1,(a.2.2.2.2.2.2.2.2.2.2.2.2.2.1,(a.2.2.2.2.2.2.2.2.2.2.2.2.2.2.1,(a.2.2.2.2.2.2.2.2.2.2.2.2.2.2.2.1,(a.2.2.2.2.2.2.2.2.2.2.2.2.2.2.2.2.1,(a.2.2.2.2.2.2.2.2.2.2.2.1,(a.2.2.2.2.2.2.2.2.2.2.1,(a.2.2.2.2.2.2.2.2.2.2.2.2.2.2.2.2.2.1,()))))))))))))))))))))))))) fun c=>
 opt.ret _ (Sum.inl (c.1,(c.2.1,(c.2.2.1,(c.2.2.2.1,(c.2.2.2.2.1,(c.2.2.2.2.2.1,(c.2.2.2.2.2.2.1,(c.2.2.2.2.2.2.2.1,(c.2.2.2.2.2.2.2.2.1,(c.2.2.2.2.2.2.2.2.2.1,(a.2.2.2.2.2.2.2.2.2.2.1,(a.2.2.2.2.2.2.2.2.2.2.2.1,(a.2.2.2.2.2.2.2.2.2.2.2.2.1,(a.2.2.2.2.2.2.2.2.2.2.2.2.2.1,(a.2.2.2.2.2.2.2.2.2.2.2.2.2.2.1,(a.2.2.2.2.2.2.2.2.2.2.2.2.2.2.2.1,(a.2.2.2.2.2.2.2.2.2.2.2.2.2.2.2.2.1,(a.2.2.2.2.2.2.2.2.2.2.2.2.2.2.2.2.2.1,(a.2.2.2.2.2.2.2.2.2.2.2.2.2.2.2.2.2.2.1,(a.2.2.2.2.2.2.2.2.2.2.2.2.2.2.2.2.2.2.2.1,((p.ar .add .i64 a.2.2.2.2.2.2.2.2.2.2.2.2.2.2.2.2.2.2.2.2.1 (1:Int)),())))))))))))))))))))))))) (
 opt.ret _ (Sum.inr (Sum.inr (a.1,(a.2.1,(a.2.2.1,(a.2.2.2.1,(a.2.2.2.2.1,(a.2.2.2.2.2.1,(a.2.2.2.2.2.2.1,(a.2.2.2.2.2.2.2.1,(a.2.2.2.2.2.2.2.2.1,(a.2.2.2.2.2.2.2.2.2.1,(a.2.2.2.2.2.2.2.2.2.2.1,(a.2.2.2.2.2.2.2.2.2.2.2.1,(a.2.2.2.2.2.2.2.2.2.2.2.2.1,(a.2.2.2.2.2.2.2.2.2.2.2.2.2.1,(a.2.2.2.2.2.2.2.2.2.2.2.2.2.2.1,(a.2.2.2.2.2.2.2.2.2.2.2.2.2.2.2.1,(a.2.2.2.2.2.2.2.2.2.2.2.2.2.2.2.2.1,(a.2.2.2.2.2.2.2.2.2.2.2.2.2.2.2.2.2.1,()))))))))))))))))))))))
def x4l (it:It) (p:Prim):(LD×T76)→Option ((LD×T76)⊕(LD×T77)):=
 fun a=>opt.run _ (
 opt.ask _ (p.cmp .lss a.2.2.2.2.2.2.2.2.2.2.2.2.2.2.2.2.2.2.2.1 a.2.2.2.2.2.2.2.2.2.2.2.2.2.2.2.2.2.2.1) (
 opt.need _ (p.rowOk a.2.2.2.2.2.2.2.2.2.2.2.2.2.2.2.2.2.1 (p.nat a.2.2.2.2.2.2.2.2.2.2.2.2.2.2.2.2.2.2.2.1) [ci,ci])<|
 opt.need _ (p.cmp .geq a.2.2.2.2.2.2.2.2.2.2.2.2.2.2.2.2.2.2.2.1 (0:Int))<|
 opt.bnd T4 _ (g65 it p ((p.ar .add .i64 (p.ar .mul .i64 (p.ar .sub .i64 (p.rdI a.2.2.2.2.2.2.2.2.2.2.2.2.2.2.2.2.2.1 (p.nat a.2.2.2.2.2.2.2.2.2.2.2.2.2.2.2.2.2.2.2.1) 0) a.2.2.2.2.2.2.2.1) (p.ar .sub .i64 (p.rdI a.2.2.2.2.2.2.2.2.2.2.2.2.2.2.2.2.2.1 (p.nat a.2.2.2.2.2.2.2.2.2.2.2.2.2.2.2.2.2.2.2.1) 0) a.2.2.2.2.2.2.2.1)) (p.ar .mul .i64 (p.ar .sub .i64 (p.rdI a.2.2.2.2.2.2.2.2.2.2.2.2.2.2.2.2.2.1 (p.nat a.2.2.2.2.2.2.2.2.2.2.2.2.2.2.2.2.2.2.2.1) 1) a.2.2.2.2.2.2.2.2.1) (p.ar .sub .i64 (p.rdI a.2.2.2.2.2.2.2.2.2.2.2.2.2.2.2.2.2.1 (p.nat a.2.2.2.2.2.2.2.2.2.2.2.2.2.2.2.2.2.2.2.1) 1) a.2.2.2.2.2.2.2.2.1))),((1:Int),()))) fun b=>
 opt.need _ (p.and (p.leN (p.add 0 1) (p.len [[(D.int .i64 b.1),(D.int .i64 b.2.1)]])) (p.and (p.leN (p.add a.2.2.2.1 a.2.2.2.2.1) (p.len a.1)) (p.and (p.leN 1 1) (p.leN (p.add a.2.2.2.2.1 1) 1000000))))<|
 opt.ret _ (Sum.inl ((p.app (p.cut a.1 a.2.2.2.1 a.2.2.2.2.1) (p.cut [[(D.int .i64 b.1),(D.int .i64 b.2.1)]] 0 1)),(a.2.1,(a.2.2.1,(0,((p.add a.2.2.2.2.1 1),(a.2.2.2.2.2.1,(a.2.2.2.2.2.2.1,(a.2.2.2.2.2.2.2.1,(a.2.2.2.2.2.2.2.2.1,(a.2.2.2.2.2.2.2.2.2.1,(a.2.2.2.2.2.2.2.2.2.2.1,(a.2.2.2.2.2.2.2.2.2.2.2.1,(a.2.2.2.2.2.2.2.2.2.2.2.2.1,(a.2.2.2.2.2.2.2.2.2.2.2.2.2.1,(a.2.2.2.2.2.2.2.2.2.2.2.2.2.2.1,(a.2.2.2.2.2.2.2.2.2.2.2.2.2.2.2.1,(a.2.2.2.2.2.2.2.2.2.2.2.2.2.2.2.2.1,(a.2.2.2.2.2.2.2.2.2.2.2.2.2.2.2.2.2.1,(a.2.2.2.2.2.2.2.2.2.2.2.2.2.2.2.2.2.2.1,((p.ar .add .i64 a.2.2.2.2.2.2.2.2.2.2.2.2.2.2.2.2.2.2.2.1 (1:Int)),())))))))))))))))))))))) (
 opt.ret _ (Sum.inr (a.1,(a.2.1,(a.2.2.1,(a.2.2.2.1,(a.2.2.2.2.1,(a.2.2.2.2.2.1,(a.2.2.2.2.2.2.1,(a.2.2.2.2.2.2.2.1,(a.2.2.2.2.2.2.2.2.1,(a.2.2.2.2.2.2.2.2.2.1,(a.2.2.2.2.2.2.2.2.2.2.1,(a.2.2.2.2.2.2.2.2.2.2.2.1,(a.2.2.2.2.2.2.2.2.2.2.2.2.1,(a.2.2.2.2.2.2.2.2.2.2.2.2.2.1,(a.2.2.2.2.2.2.2.2.2.2.2.2.2.2.1,(a.2.2.2.2.2.2.2.2.2.2.2.2.2.2.2.1,(a.2.2.2.2.2.2.2.2.2.2.2.2.2.2.2.2.1,()))))))))))))))))))))
def x2n (it:It) (p:Prim):(LD×T42)→Option ((LD×T42)⊕(LD×T43)):=
 fun a=>opt.run _ (
 opt.ask _ (p.cmp .lss a.2.2.2.2.2.2.2.2.2.2.2.2.2.2.1 a.2.2.2.2.2.2.2.2.2.2.2.2.2.1) (
 opt.need _ (p.rowOk a.2.2.2.2.2.2.2.2.2.2.2.2.1 (p.nat a.2.2.2.2.2.2.2.2.2.2.2.2.2.2.1) [ci,ci])<|
 opt.need _ (p.cmp .geq a.2.2.2.2.2.2.2.2.2.2.2.2.2.2.1 (0:Int))<|
 opt.bnd ((LD×T77)) _ (
 it _ _ (x4l it p) (a.1,(a.2.1,(a.2.2.1,(a.2.2.2.1,(a.2.2.2.2.1,(a.2.2.2.2.2.1,(a.2.2.2.2.2.2.1,((p.rdI a.2.2.2.2.2.2.2.2.2.2.2.2.1 (p.nat a.2.2.2.2.2.2.2.2.2.2.2.2.2.2.1) 0),((p.rdI a.2.2.2.2.2.2.2.2.2.2.2.2.1 (p.nat a.2.2.2.2.2.2.2.2.2.2.2.2.2.2.1) 1),(a.2.2.2.2.2.2.2.1,(a.2.2.2.2.2.2.2.2.1,(a.2.2.2.2.2.2.2.2.2.1,(a.2.2.2.2.2.2.2.2.2.2.1,(a.2.2.2.2.2.2.2.2.2.2.2.1,(a.2.2.2.2.2.2.2.2.2.2.2.2.1,(a.2.2.2.2.2.2.2.2.2.2.2.2.2.1,(a.2.2.2.2.2.2.2.2.2.2.2.2.2.2.1,(a.2.2.2.2.2.2.1,((p.ofNat (p.len a.2.2.2.2.2.2.1)),((0:Int),()))))))))))))))))))))) fun b=>
 opt.bnd ((LD×T42)) _ (
 opt.run ((LD×T42)) (
 opt.alt ((LD×T25)) ((LD×T25)) _ (
 it _ _ (y6c it p) (b.1,(b.2.1,(b.2.2.1,(b.2.2.2.1,(b.2.2.2.2.1,(b.2.2.2.2.2.1,(b.2.2.2.2.2.2.1,(b.2.2.2.2.2.2.2.1,(b.2.2.2.2.2.2.2.2.1,(b.2.2.2.2.2.2.1,(b.2.2.2.2.2.2.2.2.2.2.2.2.2.2.2.1,(b.2.2.2.2.2.2.2.2.2.2.2.2.2.2.1,(b.2.2.2.2.2.2.2.2.2.1,(b.2.2.2.2.2.2.2.2.2.2.1,(b.2.2.2.2.2.2.2.2.2.2.2.1,(b.2.2.2.2.2.2.2.2.2.2.2.2.1,(b.2.2.2.2.2.2.2.2.2.2.2.2.2.1,(b.2.2.2.2.2.2.2.2.2.2.2.2.2.2.2.2.1,(b.2.2.2.2.2.2.1,((p.ofNat (p.len b.2.2.2.2.2.2.1)),((0:Int),())))))))))))))))))))))) (fun c=>
 opt.ret _ (c.1,(c.2.1,(c.2.2.1,(c.2.2.2.1,(c.2.2.2.2.1,(c.2.2.2.2.2.1,(c.2.2.2.2.2.2.1,(b.2.2.2.2.2.2.2.2.2.1,(b.2.2.2.2.2.2.2.2.2.2.1,(b.2.2.2.2.2.2.2.2.2.2.2.1,(b.2.2.2.2.2.2.2.2.2.2.2.2.1,(b.2.2.2.2.2.2.2.2.2.2.2.2.2.1,(b.2.2.2.2.2.2.2.2.2.2.2.2.2.2.1,(b.2.2.2.2.2.2.2.2.2.2.2.2.2.2.2.1,(b.2.2.2.2.2.2.2.2.2.2.2.2.2.2.2.2.1,())))))))))))))))) (fun d=>
 opt.bnd ((LD×T25)) _ (some d) fun e=>
 opt.ret _ (e.1,(e.2.1,(e.2.2.1,(e.2.2.2.1,(e.2.2.2.2.1,(e.2.2.2.2.2.1,(e.2.2.2.2.2.2.1,(b.2.2.2.2.2.2.2.2.2.1,(b.2.2.2.2.2.2.2.2.2.2.1,(b.2.2.2.2.2.2.2.2.2.2.2.1,(b.2.2.2.2.2.2.2.2.2.2.2.2.1,(b.2.2.2.2.2.2.2.2.2.2.2.2.2.1,(b.2.2.2.2.2.2.2.2.2.2.2.2.2.2.1,(b.2.2.2.2.2.2.2.2.2.2.2.2.2.2.2.1,(b.2.2.2.2.2.2.2.2.2.2.2.2.2.2.2.2.1,())))))))))))))))))) fun f=>
 opt.ret _ (Sum.inl (f.1,(f.2.1,(f.2.2.1,(f.2.2.2.1,(f.2.2.2.2.1,(f.2.2.2.2.2.1,(f.2.2.2.2.2.2.1,(f.2.2.2.2.2.2.2.1,(f.2.2.2.2.2.2.2.2.1,(f.2.2.2.2.2.2.2.2.2.1,(f.2.2.2.2.2.2.2.2.2.2.1,(f.2.2.2.2.2.2.2.2.2.2.2.1,(f.2.2.2.2.2.2.2.2.2.2.2.2.1,(f.2.2.2.2.2.2.2.2.2.2.2.2.2.1,((p.ar .add .i64 f.2.2.2.2.2.2.2.2.2.2.2.2.2.2.1 (1:Int)),()))))))))))))))))) (
 opt.ret _ (Sum.inr (a.1,(a.2.1,(a.2.2.1,(a.2.2.2.1,(a.2.2.2.2.1,(a.2.2.2.2.2.2.2.1,(a.2.2.2.2.2.2.2.2.1,(a.2.2.2.2.2.2.2.2.2.1,(a.2.2.2.2.2.2.2.2.2.2.1,(a.2.2.2.2.2.2.2.2.2.2.2.1,())))))))))))))
def y6d (it:It) (p:Prim):(LD×T43)→Option ((LD×T43)⊕(LD×T78)):=
 fun a=>opt.run _ (
 opt.ask _ (p.cmp .lss a.2.2.2.2.2.2.2.2.2.1 (2:Int)) (
 opt.bnd ((LD×T79)) _ (
 opt.run ((LD×T79)) (
 opt.ask _ (p.cmp .eql a.2.2.2.2.2.2.2.2.2.1 (0:Int)) (
 opt.need _ (bif (p.cmp .geq (0:Int) (0:Int)) then (p.cmp .lss (0:Int) (p.ofNat 2)) else Bool.false)<|
 opt.ret _ (a.1,(a.2.1,(a.2.2.1,(a.2.2.2.1,(a.2.2.2.2.1,(a.2.2.2.2.2.1,(a.2.2.2.2.2.2.1,(a.2.2.2.2.2.1,(a.2.2.2.2.2.2.1,(a.2.2.2.2.2.2.2.1,(a.2.2.2.2.2.2.2.2.1,((0:Int),()))))))))))))) (
 opt.need _ (p.cmp .eql a.2.2.2.2.2.2.2.2.2.1 (1:Int))<|
 opt.need _ (bif (p.cmp .geq (1:Int) (0:Int)) then (p.cmp .lss (1:Int) (p.ofNat 2)) else Bool.false)<|
 opt.ret _ (a.1,(a.2.1,(a.2.2.1,(a.2.2.2.1,(a.2.2.2.2.1,(a.2.2.2.2.2.2.2.1,(a.2.2.2.2.2.2.2.2.1,(a.2.2.2.2.2.1,(a.2.2.2.2.2.2.1,(a.2.2.2.2.2.2.2.1,(a.2.2.2.2.2.2.2.2.1,((1:Int),()))))))))))))))) fun b=>
 opt.bnd ((LD×T43)) _ (
 it _ _ (x2n it p) (b.1,(b.2.1,(b.2.2.1,(b.2.2.2.1,(b.2.2.2.2.1,(b.2.2.2.2.2.1,(b.2.2.2.2.2.2.1,(b.2.2.2.2.2.2.2.1,(b.2.2.2.2.2.2.2.2.1,(b.2.2.2.2.2.2.2.2.2.1,(b.2.2.2.2.2.2.2.2.2.2.1,(b.2.2.2.2.2.2.2.2.2.2.2.1,(b.2.2.2.2.2.1,((p.ofNat (p.len b.2.2.2.2.2.1)),((0:Int),())))))))))))))))) fun c=>
 opt.ret _ (Sum.inl (c.1,(c.2.1,(c.2.2.1,(c.2.2.2.1,(c.2.2.2.2.1,(c.2.2.2.2.2.1,(c.2.2.2.2.2.2.1,(c.2.2.2.2.2.2.2.1,(c.2.2.2.2.2.2.2.2.1,((p.ar .add .i64 c.2.2.2.2.2.2.2.2.2.1 (1:Int)),())))))))))))) (
 opt.ret _ (Sum.inr (a.1,(a.2.1,(a.2.2.1,(a.2.2.2.1,(a.2.2.2.2.1,()))))))))
def g25 (it:It):(p:Prim)→(LD×(LD×(LD×(LD×Unit))))→Option T6:=
 fun p x=>
 opt.alt T0 (((LD×(LD×(LD×T1)))⊕((LD×(LD×(LD×T1)))⊕(LD×(LD×(LD×(LD×(LD×(LD×T1))))))))) _ (g62 it p (x.1,(x.2.1,(x.2.2.1,(x.2.2.2.1,()))))) (fun a=>
 opt.ask _ (p.cmp .neq a.1 (0:Int)) (
 opt.ret _ ((0:Int),((0:Int),(a.1,())))) (
 opt.no _ 41)) (fun b=>
 opt.alt ((LD×(LD×(LD×T1)))) (((LD×(LD×(LD×T1)))⊕(LD×(LD×(LD×(LD×(LD×(LD×T1)))))))) _ (some b) (fun c=>
 opt.ask _ (p.cmp .neq c.2.2.2.1 (0:Int)) (
 opt.ret _ ((0:Int),((0:Int),(c.2.2.2.1,())))) (
 opt.no _ 41)) (fun d=>
 opt.alt ((LD×(LD×(LD×T1)))) ((LD×(LD×(LD×(LD×(LD×(LD×T1))))))) _ (some d) (fun e=>
 opt.ask _ (p.cmp .neq e.2.2.2.1 (0:Int)) (
 opt.ret _ ((0:Int),((0:Int),(e.2.2.2.1,())))) (
 opt.no _ 41)) (fun f=>
 opt.bnd ((LD×(LD×(LD×(LD×(LD×(LD×T1))))))) _ (some f) fun g=>
 opt.ask _ (p.cmp .neq g.2.2.2.2.2.2.1 (0:Int)) (
 opt.ret _ ((0:Int),((0:Int),(g.2.2.2.2.2.2.1,())))) (
 opt.bnd T21 _ (g63 it p (g.2.2.1,(g.2.2.2.2.2.1,()))) fun h=>
 opt.ask _ (bif h.2.2.2.1 then Bool.false else Bool.true) (
 opt.ret _ ((0:Int),((1:Int),((0:Int),())))) (
 opt.need _ (p.leN (p.add 0 0) (p.len []))<|
 opt.bnd ((LD×T78)) _ (
 it _ _ (y6d it p) ([],((0:Int),((0:Int),(0,(0,(g.2.2.1,(g.2.2.2.2.2.1,(g.2.2.2.2.2.1,(g.2.2.1,((0:Int),()))))))))))) fun i=>
 opt.bnd ((LD×T3)) _ (g69 it p (i.1,(i.2.2.2.1,(i.2.2.2.2.1,())))) fun j=>
 opt.ret _ (j.2.1,(j.2.2.1,((0:Int),()))))))))
def G25:=g25 it0
theorem u1r:CtrOk PG w99 (G25 std):=okF (a:=an25) (l:=la25) (gC ok69 (gC ok68 (gC u1k (gC v7s (gC v69 (gN)))))) (by kernel_rfl) fun _ _=>by kernel_rfl
end Go.Am
end
noncomputable section
namespace Go.Am
def v5a:Ctr:=
 ⟨27,[.list 2],[],[(.ret,⟨[(0, .tuple [.int .i64, .int .i64, .int .i64])],[],1⟩)]⟩
def la27:List LA:=
 [⟨27,[false,true,false,true,true,true],0,⟨⟨[(5, .vec 0 1),(22, .list 2),(23, .int .i64),(24, .int .i64)],[.row [(CK.ref [(CR.list 2),(CR.list 1),(CR.list 2)])]],103⟩,[(AX.ret,⟨[(2, .int .i64),(3, .int .i64),(4, .int .i64)],[],103⟩),((AX.exit 0),⟨[(5, .vec 0 1)],[.row [(CK.ref [(CR.list 2),(CR.list 1),(CR.list 2)])]],103⟩)]⟩⟩,
 ⟨27,[false,true,false,true,true,true,true,true],0,⟨⟨[(5, .vec 0 1),(10, .map 1),(42, .vec 0 1),(43, .int .i64),(44, .int .i64)],[.row [(CK.ref [(CR.list 2),(CR.list 1),(CR.list 2)])], .map],103⟩,[((AX.exit 2),⟨[(5, .vec 0 1),(10, .map 1)],[.row [(CK.ref [(CR.list 2),(CR.list 1),(CR.list 2)])], .map],103⟩)]⟩⟩,
 ⟨27,[false,true,true,false,false,true,true,false,false,true,false,true,true,true,true,true],0,⟨⟨[(5, .vec 0 1),(10, .map 1),(11, .int .i64),(12, .ref [.list 2, .list 1, .list 2]),(42, .vec 0 1),(43, .int .i64),(44, .int .i64),(52, .slc 0 1),(53, .int .i64),(54, .int .i64)],[.row [(CK.ref [(CR.list 2),(CR.list 1),(CR.list 2)])], .map],103⟩,[((AX.exit 4),⟨[(5, .vec 0 1),(10, .map 1),(42, .vec 0 1),(43, .int .i64),(44, .int .i64)],[.row [(CK.ref [(CR.list 2),(CR.list 1),(CR.list 2)])], .map],103⟩)]⟩⟩,
 ⟨27,[false,true,false,true,true,true,true,true,true],0,⟨⟨[(5, .vec 0 1),(10, .map 1),(84, .int .i64),(85, .int .i64)],[.row [(CK.ref [(CR.list 2),(CR.list 1),(CR.list 2)])], .map],103⟩,[(AX.ret,⟨[(2, .int .i64),(3, .int .i64),(4, .int .i64)],[],103⟩),((AX.exit 6),⟨[],[],103⟩)]⟩⟩,
 ⟨27,[false,true,true,false,false,true,true,false,false,true,false,true,true,true,true,true,true],0,⟨⟨[(5, .vec 0 1),(10, .map 1),(17, .int .i64),(84, .int .i64),(85, .int .i64),(89, .int .i64),(90, .int .i64)],[.row [(CK.ref [(CR.list 2),(CR.list 1),(CR.list 2)])], .map],103⟩,[(AX.ret,⟨[(2, .int .i64),(3, .int .i64),(4, .int .i64)],[],103⟩),((AX.exit 8),⟨[(5, .vec 0 1),(10, .map 1),(84, .int .i64),(85, .int .i64)],[.row [(CK.ref [(CR.list 2),(CR.list 1),(CR.list 2)])], .map],103⟩)]⟩⟩]
def ja27:List JA:=
 [⟨27,[true,true,true,false,false,true,true,false,false,true,true,false,false,true,true,false,false,true,false,true,true,true,true,true],0,[(AX.normal,⟨[(5, .vec 0 1),(10, .map 1),(11, .int .i64),(12, .ref [.list 2, .list 1, .list 2]),(42, .vec 0 1),(43, .int .i64),(44, .int .i64),(52, .slc 0 1),(53, .int .i64),(54, .int .i64)],[.row [(CK.ref [(CR.list 2),(CR.list 1),(CR.list 2)])], .map],103⟩)]⟩,
 ⟨27,[false,true,true,false,false,true,true,false,false,true,true,false,false,true,false,true,true,true,true,true,true],0,[(AX.ret,⟨[(2, .int .i64),(3, .int .i64),(4, .int .i64)],[],103⟩),(AX.normal,⟨[(5, .vec 0 1),(10, .map 1),(17, .int .i64),(84, .int .i64),(85, .int .i64),(89, .int .i64),(90, .int .i64)],[.row [(CK.ref [(CR.list 2),(CR.list 1),(CR.list 2)])], .map],103⟩)]⟩,
 ⟨27,[false,true,true,false,false,true,false,true,true,true],0,[(AX.ret,⟨[(2, .int .i64),(3, .int .i64),(4, .int .i64)],[],103⟩),(AX.normal,⟨[(5, .vec 0 1),(22, .list 2),(23, .int .i64),(24, .int .i64)],[.row [(CK.ref [(CR.list 2),(CR.list 1),(CR.list 2)])]],103⟩)]⟩]
def v97:List CF:=
 [⟨w43,G63⟩,⟨x75,G48⟩]
def an27:Anns:=
 ⟨v97,ja27,[⟨27,[true,true,true,false,false,true,true,false,false,true,false,true,true,true],⟨[(5, .vec 0 1),(8, .ref [.list 2, .list 1, .list 2]),(22, .list 2),(23, .int .i64),(24, .int .i64)],[.row [(CK.ref [(CR.list 2),(CR.list 1),(CR.list 2)])]],103⟩⟩]⟩
def u0s (p:Prim):(LD×T44)→Option ((LD×T44)⊕((Int×(Int×(Int×Unit)))⊕(LD×(List ((D×D))×(Int×(Int×Unit)))))):=
 fun a=>opt.run _ (
 opt.ask _ (p.cmp .lss a.2.2.2.2.2.2.1 a.2.2.2.2.2.1) (
 opt.alt T6 ((LD×T44)) _ (
 opt.run (((Int×(Int×(Int×Unit)))⊕(LD×(List ((D×D))×(Int×(Int×(Int×(Int×(Int×Unit))))))))) (
 opt.need _ (p.mOk a.2.1 [SK.i,SK.i] Bool.true (D.agg [(D.int .i64 a.2.2.1),(D.int .i64 a.2.2.2.2.2.2.1)]) Bool.false [ci])<|
 opt.ask _ (p.mhas a.2.1 [SK.i,SK.i] Bool.true (D.agg [(D.int .i64 a.2.2.1),(D.int .i64 a.2.2.2.2.2.2.1)])) (
 opt.ask _ (p.cmp .gtr (p.mI a.2.1 [SK.i,SK.i] Bool.true (D.agg [(D.int .i64 a.2.2.1),(D.int .i64 a.2.2.2.2.2.2.1)]) 0) (0:Int)) (
 opt.ret _ (Sum.inl (a.2.2.1,(a.2.2.2.2.2.2.1,((0:Int),()))))) (
 opt.need _ (p.eqN 0 0)<|
 opt.need _ (p.eqN (p.len a.1) (p.len a.1))<|
 opt.ret _ (Sum.inr (a.1,(a.2.1,(a.2.2.1,(a.2.2.2.1,(a.2.2.2.2.1,(a.2.2.2.2.2.1,(a.2.2.2.2.2.2.1,())))))))))) (
 opt.ask _ (p.cmp .gtr (0:Int) (0:Int)) (
 opt.ret _ (Sum.inl (a.2.2.1,(a.2.2.2.2.2.2.1,((0:Int),()))))) (
 opt.need _ (p.eqN 0 0)<|
 opt.need _ (p.eqN (p.len a.1) (p.len a.1))<|
 opt.ret _ (Sum.inr (a.1,(a.2.1,(a.2.2.1,(a.2.2.2.1,(a.2.2.2.2.1,(a.2.2.2.2.2.1,(a.2.2.2.2.2.2.1,())))))))))))) (fun b=>
 opt.ret _ (Sum.inr (Sum.inl (b.1,(b.2.1,(b.2.2.1,())))))) (fun c=>
 opt.bnd ((LD×T44)) _ (some c) fun d=>
 opt.need _ (p.eqN 0 0)<|
 opt.need _ (p.eqN (p.len d.1) (p.len d.1))<|
 opt.ret _ (Sum.inl (d.1,(d.2.1,(d.2.2.1,(d.2.2.2.1,(d.2.2.2.2.1,(d.2.2.2.2.2.1,((p.ar .add .i64 d.2.2.2.2.2.2.1 (1:Int)),())))))))))) (
 opt.need _ (p.eqN 0 0)<|
 opt.need _ (p.eqN (p.len a.1) (p.len a.1))<|
 opt.ret _ (Sum.inr (Sum.inr (a.1,(a.2.1,(a.2.2.2.1,(a.2.2.2.2.1,()))))))))
def v0i (it:It) (p:Prim):(LD×T16)→Option ((LD×T16)⊕((Int×(Int×(Int×Unit)))⊕Unit)):=
 fun a=>opt.run _ (
 opt.ask _ (p.cmp .lss a.2.2.2.1 a.2.2.1) (
 opt.need _ (p.eqN 0 0)<|
 opt.need _ (p.eqN (p.len a.1) (p.len a.1))<|
 opt.alt T6 ((LD×T16)) _ (
 it _ _ (u0s p) (a.1,(a.2.1,(a.2.2.2.1,(a.2.2.1,(a.2.2.2.1,((p.ofNat (p.len a.1)),((0:Int),())))))))) (fun b=>
 opt.ret _ (Sum.inr (Sum.inl (b.1,(b.2.1,(b.2.2.1,())))))) (fun c=>
 opt.bnd ((LD×T16)) _ (some c) fun d=>
 opt.need _ (p.eqN 0 0)<|
 opt.need _ (p.eqN (p.len d.1) (p.len d.1))<|
 opt.ret _ (Sum.inl (d.1,(d.2.1,(d.2.2.1,((p.ar .add .i64 d.2.2.2.1 (1:Int)),()))))))) (
 opt.ret _ (Sum.inr (Sum.inr ()))))
def v0j (it:It) (p:Prim):(LD×T45)→Option ((LD×T45)⊕(LD×T16)):=
 fun a=>opt.run _ (
 opt.ask _ (p.cmp .lss a.2.2.2.2.2.2.2.2.2.2.2.2.1 a.2.2.2.2.2.2.2.2.2.2.2.1) (
 opt.need _ (bif (p.cmp .geq a.2.2.2.2.2.2.2.2.2.2.2.2.1 (0:Int)) then (p.cmp .lss a.2.2.2.2.2.2.2.2.2.2.2.2.1 (p.ofNat a.2.2.2.2.2.2.2.2.2.1)) else Bool.false)<|
 opt.need _ (p.rowOk a.1 (p.add a.2.2.2.2.2.2.2.2.1 (p.nat a.2.2.2.2.2.2.2.2.2.2.2.2.1)) [(CK.ref [(CR.list 2),(CR.list 1),(CR.list 2)])])<|
 opt.bnd T21 _ (g63 it p ((p.rdL (p.rdR a.1 (p.add a.2.2.2.2.2.2.2.2.1 (p.nat a.2.2.2.2.2.2.2.2.2.2.2.2.1)) 0) 0 2),(a.2.2.2.2.2.1,()))) fun b=>
 opt.bnd ((LD×T45)) _ (
 opt.run ((LD×T45)) (
 opt.ask _ (bif b.2.2.2.1 then Bool.false else Bool.true) (
 opt.need _ (p.mOk a.2.1 [SK.i,SK.i] Bool.true (D.agg [(D.int .i64 a.2.2.2.2.2.2.2.2.2.2.2.2.1),(D.int .i64 a.2.2.1)]) Bool.false [ci])<|
 opt.ask _ (p.mhas a.2.1 [SK.i,SK.i] Bool.true (D.agg [(D.int .i64 a.2.2.2.2.2.2.2.2.2.2.2.2.1),(D.int .i64 a.2.2.1)])) (
 opt.need _ (p.eqN 0 0)<|
 opt.need _ (p.eqN (p.len a.1) (p.len a.1))<|
 opt.need _ (p.eqN 0 0)<|
 opt.need _ (p.eqN (p.len a.1) (p.len a.1))<|
 opt.ret _ (a.1,((p.mset a.2.1 (p.nat (p.ofNat (p.mpos a.2.1 [SK.i,SK.i] Bool.true (D.agg [(D.int .i64 a.2.2.2.2.2.2.2.2.2.2.2.2.1),(D.int .i64 a.2.2.1)])))) (D.agg [(D.int .i64 a.2.2.2.2.2.2.2.2.2.2.2.2.1),(D.int .i64 a.2.2.1)]) (D.int .i64 (p.ar .add .i64 (p.mI a.2.1 [SK.i,SK.i] Bool.true (D.agg [(D.int .i64 a.2.2.2.2.2.2.2.2.2.2.2.2.1),(D.int .i64 a.2.2.1)]) 0) (1:Int)))),(a.2.2.1,(a.2.2.2.1,(a.2.2.2.2.1,(a.2.2.2.2.2.1,(a.2.2.2.2.2.2.1,(a.2.2.2.2.2.2.2.1,(a.2.2.2.2.2.2.2.2.1,(a.2.2.2.2.2.2.2.2.2.1,(a.2.2.2.2.2.2.2.2.2.2.1,(a.2.2.2.2.2.2.2.2.2.2.2.1,(a.2.2.2.2.2.2.2.2.2.2.2.2.1,())))))))))))))) (
 opt.need _ (p.eqN 0 0)<|
 opt.need _ (p.eqN (p.len a.1) (p.len a.1))<|
 opt.need _ (p.eqN 0 0)<|
 opt.need _ (p.eqN (p.len a.1) (p.len a.1))<|
 opt.ret _ (a.1,((p.madd a.2.1 (D.agg [(D.int .i64 a.2.2.2.2.2.2.2.2.2.2.2.2.1),(D.int .i64 a.2.2.1)]) (D.int .i64 (p.ar .add .i64 (0:Int) (1:Int)))),(a.2.2.1,(a.2.2.2.1,(a.2.2.2.2.1,(a.2.2.2.2.2.1,(a.2.2.2.2.2.2.1,(a.2.2.2.2.2.2.2.1,(a.2.2.2.2.2.2.2.2.1,(a.2.2.2.2.2.2.2.2.2.1,(a.2.2.2.2.2.2.2.2.2.2.1,(a.2.2.2.2.2.2.2.2.2.2.2.1,(a.2.2.2.2.2.2.2.2.2.2.2.2.1,()))))))))))))))) (
 opt.need _ (p.eqN 0 0)<|
 opt.need _ (p.eqN (p.len a.1) (p.len a.1))<|
 opt.need _ (p.eqN 0 0)<|
 opt.need _ (p.eqN (p.len a.1) (p.len a.1))<|
 opt.ret _ (a.1,(a.2.1,(a.2.2.1,(a.2.2.2.1,(a.2.2.2.2.1,(a.2.2.2.2.2.1,(a.2.2.2.2.2.2.1,(a.2.2.2.2.2.2.2.1,(a.2.2.2.2.2.2.2.2.1,(a.2.2.2.2.2.2.2.2.2.1,(a.2.2.2.2.2.2.2.2.2.2.1,(a.2.2.2.2.2.2.2.2.2.2.2.1,(a.2.2.2.2.2.2.2.2.2.2.2.2.1,())))))))))))))))) fun c=>
 opt.need _ (p.eqN 0 0)<|
 opt.need _ (p.eqN (p.len c.1) (p.len c.1))<|
 opt.need _ (p.eqN 0 0)<|
 opt.need _ (p.eqN (p.len c.1) (p.len c.1))<|
 opt.ret _ (Sum.inl (c.1,(c.2.1,(c.2.2.1,(c.2.2.2.1,(c.2.2.2.2.1,(c.2.2.2.2.2.1,(c.2.2.2.2.2.2.1,(c.2.2.2.2.2.2.2.1,(c.2.2.2.2.2.2.2.2.1,(c.2.2.2.2.2.2.2.2.2.1,(c.2.2.2.2.2.2.2.2.2.2.1,(c.2.2.2.2.2.2.2.2.2.2.2.1,((p.ar .add .i64 c.2.2.2.2.2.2.2.2.2.2.2.2.1 (1:Int)),()))))))))))))))) (
 opt.need _ (p.eqN 0 0)<|
 opt.need _ (p.eqN (p.len a.1) (p.len a.1))<|
 opt.need _ (p.eqN 0 0)<|
 opt.need _ (p.eqN (p.len a.1) (p.len a.1))<|
 opt.ret _ (Sum.inr (a.1,(a.2.1,(a.2.2.2.2.2.2.1,(a.2.2.2.2.2.2.2.1,())))))))
def v0k (it:It) (p:Prim):(LD×T16)→Option ((LD×T16)⊕(LD×(List ((D×D))×Unit))):=
 fun a=>opt.run _ (
 opt.ask _ (p.cmp .lss a.2.2.2.1 a.2.2.1) (
 opt.need _ (bif (p.cmp .geq a.2.2.2.1 (0:Int)) then (p.cmp .lss a.2.2.2.1 (p.ofNat (p.len a.1))) else Bool.false)<|
 opt.need _ (p.rowOk a.1 (p.add 0 (p.nat a.2.2.2.1)) [(CK.ref [(CR.list 2),(CR.list 1),(CR.list 2)])])<|
 opt.need _ (p.and (p.cmp .geq (0:Int) (0:Int)) (p.and (p.cmp .leq (0:Int) a.2.2.2.1) (p.and (p.cmp .leq a.2.2.2.1 a.2.2.2.1) (p.cmp .leq a.2.2.2.1 (p.ofNat (p.len a.1))))))<|
 opt.need _ (p.eqN 0 0)<|
 opt.need _ (p.eqN (p.len a.1) (p.len a.1))<|
 opt.need _ (p.eqN 0 0)<|
 opt.need _ (p.eqN (p.len a.1) (p.len a.1))<|
 opt.bnd ((LD×T16)) _ (
 it _ _ (v0j it p) (a.1,(a.2.1,(a.2.2.2.1,((p.rdL (p.rdR a.1 (p.add 0 (p.nat a.2.2.2.1)) 0) 0 0),((p.rdL (p.rdR a.1 (p.add 0 (p.nat a.2.2.2.1)) 0) 0 1),((p.rdL (p.rdR a.1 (p.add 0 (p.nat a.2.2.2.1)) 0) 0 2),(a.2.2.1,(a.2.2.2.1,((p.add 0 (p.nat (0:Int))),((p.sub (p.nat a.2.2.2.1) (p.nat (0:Int))),((p.sub (p.nat a.2.2.2.1) (p.nat (0:Int))),((p.ofNat (p.sub (p.nat a.2.2.2.1) (p.nat (0:Int)))),((0:Int),())))))))))))))) fun b=>
 opt.need _ (p.eqN 0 0)<|
 opt.need _ (p.eqN (p.len b.1) (p.len b.1))<|
 opt.need _ (p.eqN 0 0)<|
 opt.need _ (p.eqN (p.len b.1) (p.len b.1))<|
 opt.ret _ (Sum.inl (b.1,(b.2.1,(b.2.2.1,((p.ar .add .i64 b.2.2.2.1 (1:Int)),())))))) (
 opt.need _ (p.eqN 0 0)<|
 opt.need _ (p.eqN (p.len a.1) (p.len a.1))<|
 opt.ret _ (Sum.inr (a.1,(a.2.1,())))))
def v0l (it:It) (p:Prim):(LD×(LD×T3))→Option ((LD×(LD×T3))⊕((Int×(Int×(Int×Unit)))⊕(LD×Unit))):=
 fun a=>opt.run _ (
 opt.ask _ (p.cmp .lss a.2.2.2.1 a.2.2.1) (
 opt.alt T6 ((LD×(LD×T3))) _ (
 opt.run (((Int×(Int×(Int×Unit)))⊕(LD×(LD×(Int×(Int×Unit)))))) (
 opt.need _ (p.rowOk a.2.1 (p.nat a.2.2.2.1) [(CK.list 2),(CK.list 1)])<|
 opt.need _ (p.cmp .geq a.2.2.2.1 (0:Int))<|
 opt.alt T0 ((LD×(LD×(LD×T1)))) _ (g48 it p ((p.rdL a.2.1 (p.nat a.2.2.2.1) 0),((p.rdL a.2.1 (p.nat a.2.2.2.1) 1),()))) (fun b=>
 opt.ask _ (p.cmp .neq b.1 (0:Int)) (
 opt.ret _ (Sum.inl ((0:Int),((0:Int),(b.1,()))))) (
 opt.no _ 96)) (fun c=>
 opt.bnd ((LD×(LD×(LD×T1)))) _ (some c) fun d=>
 opt.ask _ (p.cmp .neq d.2.2.2.1 (0:Int)) (
 opt.ret _ (Sum.inl ((0:Int),((0:Int),(d.2.2.2.1,()))))) (
 opt.need _ (p.eqN 0 0)<|
 opt.need _ (p.eqN (p.len a.1) (p.len a.1))<|
 opt.need _ (p.and (p.leN (p.add 0 1) (p.len [[(D.ref [(D.list Bool.false 2 d.1),(D.list Bool.false 1 d.2.1),(D.list Bool.false 2 d.2.2.1)])]])) (p.and (p.leN (p.add 0 (p.len a.1)) (p.len a.1)) (p.and (p.leN 1 1) (p.leN (p.add (p.len a.1) 1) 1000000))))<|
 opt.need _ (p.eqN 0 0)<|
 opt.need _ (p.eqN (p.add (p.len a.1) 1) (p.len (p.app (p.cut a.1 0 (p.len a.1)) (p.cut [[(D.ref [(D.list Bool.false 2 d.1),(D.list Bool.false 1 d.2.1),(D.list Bool.false 2 d.2.2.1)])]] 0 1))))<|
 opt.ret _ (Sum.inr ((p.app (p.cut a.1 0 (p.len a.1)) (p.cut [[(D.ref [(D.list Bool.false 2 d.1),(D.list Bool.false 1 d.2.1),(D.list Bool.false 2 d.2.2.1)])]] 0 1)),(a.2.1,(a.2.2.1,(a.2.2.2.1,()))))))))) (fun e=>
 opt.ret _ (Sum.inr (Sum.inl (e.1,(e.2.1,(e.2.2.1,())))))) (fun f=>
 opt.bnd ((LD×(LD×T3))) _ (some f) fun g=>
 opt.need _ (p.eqN 0 0)<|
 opt.need _ (p.eqN (p.len g.1) (p.len g.1))<|
 opt.ret _ (Sum.inl (g.1,(g.2.1,(g.2.2.1,((p.ar .add .i64 g.2.2.2.1 (1:Int)),()))))))) (
 opt.need _ (p.eqN 0 0)<|
 opt.need _ (p.eqN (p.len a.1) (p.len a.1))<|
 opt.ret _ (Sum.inr (Sum.inr (a.1,())))))
def g27 (it:It):(p:Prim)→(LD×Unit)→Option T6:=
 fun p x=>
 opt.ask _ (p.cmp .gtr (p.ofNat (p.len x.1)) (8:Int)) (
 opt.ret _ ((0:Int),((0:Int),((6:Int),())))) (
 opt.alt T6 ((LD×Unit)) _ (
 it _ _ (v0l it p) ([],(x.1,((p.ofNat (p.len x.1)),((0:Int),()))))) (fun a=>
 opt.ret _ (a.1,(a.2.1,(a.2.2.1,())))) (fun b=>
 opt.bnd ((LD×Unit)) _ (some b) fun c=>
 opt.need _ (p.eqN 0 0)<|
 opt.need _ (p.eqN (p.len c.1) (p.len c.1))<|
 opt.need _ (p.eqN 0 0)<|
 opt.need _ (p.eqN (p.len c.1) (p.len c.1))<|
 opt.bnd ((LD×(List ((D×D))×Unit))) _ (
 it _ _ (v0k it p) (c.1,([],((p.ofNat (p.len c.1)),((0:Int),()))))) fun d=>
 opt.need _ (p.eqN 0 0)<|
 opt.need _ (p.eqN (p.len d.1) (p.len d.1))<|
 opt.alt T6 (Unit) _ (
 it _ _ (v0i it p) (d.1,(d.2.1,((p.ofNat (p.len d.1)),((0:Int),()))))) (fun e=>
 opt.ret _ (e.1,(e.2.1,(e.2.2.1,())))) (fun f=>
 opt.bnd (Unit) _ (some f) fun g=>
 opt.ret _ ((0:Int),((0:Int),((5:Int),()))))))
def G27:=g27 it0
theorem ok27:CtrOk PG v5a (G27 std):=okF (a:=an27) (l:=la27) (gC v7s (gC v1p (gN))) (by kernel_rfl) fun _ _=>by kernel_rfl
end Go.Am
end
noncomputable section
namespace Go.Am
def v44:Ctr:=
 ⟨35,[.agg [.int .i64, .int .i64], .agg [.int .i64, .int .i64]],[],[(.ret,⟨[(0, .bool)],[],1⟩)]⟩
def la35:List LA:=
 [⟨35,[false,true,true,true],0,⟨⟨[(2, .bptr 0 0),(3, .bptr 1 0),(5, .bool)],[.box [.int .i64, .int .i64], .box [.int .i64, .int .i64]],85⟩,[(AX.ret,⟨[(4, .bool)],[],85⟩)]⟩⟩]
def ja35:List JA:=
 [⟨35,[false,false,true,true,true,false,false,false,true,true,true],0,[(AX.normal,⟨[(2, .bptr 0 0),(3, .bptr 1 0),(5, .bool),(8, .int .i64),(9, .int .i64),(65, .bool)],[.box [.int .i64, .int .i64], .box [.int .i64, .int .i64]],85⟩)]⟩,
 ⟨35,[false,false,true,false,true,true,true,false,false,false,true,true,true],0,[(AX.normal,⟨[(4, .bool)],[],85⟩)]⟩,
 ⟨35,[false,false,true],0,[(AX.normal,⟨[(2, .bptr 0 0),(3, .bptr 1 0),(27, .bool)],[.box [.int .i64, .int .i64], .box [.int .i64, .int .i64]],85⟩)]⟩,
 ⟨35,[false,false,true,true,true],0,[(AX.ret,⟨[(4, .bool)],[],85⟩),(AX.normal,⟨[(2, .bptr 0 0),(3, .bptr 1 0),(5, .bool)],[.box [.int .i64, .int .i64], .box [.int .i64, .int .i64]],85⟩)]⟩]
def v92:List CF:=
 []
def an35:Anns:=
 ⟨v92,ja35,[]⟩
def y6f (p:Prim):(Int×(Int×(Int×(Int×(Bool×Unit)))))→Option ((Int×(Int×(Int×(Int×(Bool×Unit)))))⊕(Bool×Unit)):=
 fun a=>opt.run _ (
 opt.alt T2 T19 _ (
 opt.run (((Bool×Unit)⊕(Int×(Int×(Int×(Int×(Bool×Unit))))))) (
 opt.need _ (p.cmp .neq a.2.1 (0:Int))<|
 opt.need _ (p.cmp .neq a.2.2.2.1 (0:Int))<|
 opt.ask _ (p.cmp .neq (p.ar .quo .i64 a.1 a.2.1) (p.ar .quo .i64 a.2.2.1 a.2.2.2.1)) (
 opt.ret _ (Sum.inl ((bif (bif (p.bEq (p.cmp .lss (p.ar .quo .i64 a.1 a.2.1) (p.ar .quo .i64 a.2.2.1 a.2.2.2.1)) a.2.2.2.2.1) then Bool.true else Bool.false) then Bool.false else Bool.true),()))) (
 opt.bnd T80 _ (
 opt.run T80 (
 opt.ask _ (p.cmp .eql (p.ar .sub .i64 a.1 (p.ar .mul .i64 (p.ar .quo .i64 a.1 a.2.1) a.2.1)) (0:Int)) (
 opt.ret _ (a.1,(a.2.1,(a.2.2.1,(a.2.2.2.1,(a.2.2.2.2.1,((p.ar .sub .i64 a.1 (p.ar .mul .i64 (p.ar .quo .i64 a.1 a.2.1) a.2.1)),((p.ar .sub .i64 a.2.2.1 (p.ar .mul .i64 (p.ar .quo .i64 a.2.2.1 a.2.2.2.1) a.2.2.2.1)),(Bool.true,()))))))))) (
 opt.ret _ (a.1,(a.2.1,(a.2.2.1,(a.2.2.2.1,(a.2.2.2.2.1,((p.ar .sub .i64 a.1 (p.ar .mul .i64 (p.ar .quo .i64 a.1 a.2.1) a.2.1)),((p.ar .sub .i64 a.2.2.1 (p.ar .mul .i64 (p.ar .quo .i64 a.2.2.1 a.2.2.2.1) a.2.2.2.1)),((p.cmp .eql (p.ar .sub .i64 a.2.2.1 (p.ar .mul .i64 (p.ar .quo .i64 a.2.2.1 a.2.2.2.1) a.2.2.2.1)) (0:Int)),()))))))))))) fun b=>
 opt.ask _ b.2.2.2.2.2.2.2.1 (
 opt.bnd T2 _ (
 opt.run T2 (
 opt.ask _ (p.cmp .neq b.2.2.2.2.2.1 b.2.2.2.2.2.2.1) (
 opt.ret _ ((bif (bif (p.bEq (p.cmp .eql b.2.2.2.2.2.1 (0:Int)) b.2.2.2.2.1) then Bool.true else Bool.false) then Bool.false else Bool.true),())) (
 opt.ret _ (Bool.false,())))) fun c=>
 opt.ret _ (Sum.inl (c.1,()))) (
 opt.ret _ (Sum.inr (b.2.1,(b.2.2.2.2.2.1,(b.2.2.2.1,(b.2.2.2.2.2.2.1,((bif b.2.2.2.2.1 then Bool.false else Bool.true),())))))))))) (fun d=>
 opt.ret _ (Sum.inr (d.1,()))) (fun e=>
 opt.bnd T19 _ (some e) fun f=>
 opt.ret _ (Sum.inl (f.1,(f.2.1,(f.2.2.1,(f.2.2.2.1,(f.2.2.2.2.1,()))))))))
def g35 (it:It):(p:Prim)→T10→Option T2:=
 fun p x=>
 opt.bnd T19 _ (
 opt.run T19 (
 opt.ask _ (p.cmp .lss x.1 (0:Int)) (
 opt.ret _ (x.1,(x.2.1,(x.2.2.1,(x.2.2.2.1,(Bool.true,())))))) (
 opt.ask _ (p.cmp .lss x.2.2.1 (0:Int)) (
 opt.ret _ (x.1,(x.2.1,(x.2.2.1,(x.2.2.2.1,(Bool.true,())))))) (
 opt.ask _ (p.cmp .lss x.2.1 (1:Int)) (
 opt.ret _ (x.1,(x.2.1,(x.2.2.1,(x.2.2.2.1,(Bool.true,())))))) (
 opt.ret _ (x.1,(x.2.1,(x.2.2.1,(x.2.2.2.1,((p.cmp .lss x.2.2.2.1 (1:Int)),())))))))))) fun a=>
 opt.ask _ a.2.2.2.2.1 (
 opt.ret _ (Bool.false,())) (
 opt.bnd T2 _ (
 it _ _ (y6f p) (a.1,(a.2.1,(a.2.2.1,(a.2.2.2.1,(Bool.false,())))))) fun b=>
 opt.ret _ (b.1,()))
def G35:=g35 it0
theorem ok35:CtrOk PG v44 (G35 std):=okF (a:=an35) (l:=la35) (gN) (by kernel_rfl) fun _ _=>by kernel_rfl
def v4t:Ctr:=
 ⟨75,[.list 2, .int .i64, .list 1, .int .i64],[],[(.ret,⟨[(0, .agg [.int .i64, .int .i64])],[],1⟩)]⟩
def la75:List LA:=
 [⟨75,[false,true,false,true,true],0,⟨⟨[(0, .list 2),(1, .int .i64),(2, .list 1),(3, .int .i64),(8, .bptr 0 0),(9, .bptr 1 0),(10, .int .i64)],[.box [.int .i64, .int .i64], .box [.int .i64, .int .i64]],52⟩,[((AX.exit 0),⟨[(8, .bptr 0 0),(9, .bptr 1 0)],[.box [.int .i64, .int .i64], .box [.int .i64, .int .i64]],52⟩)]⟩⟩]
def ja75:List JA:=
 [⟨75,[true,false,true,false,false,true,false,false,true,false,true,true],0,[(AX.normal,⟨[(0, .list 2),(1, .int .i64),(2, .list 1),(3, .int .i64),(8, .bptr 0 0),(9, .bptr 1 0),(10, .int .i64),(11, .int .i64)],[.box [.int .i64, .int .i64], .box [.int .i64, .int .i64]],52⟩)]⟩]
def v9f:List CF:=
 []
def an75:Anns:=
 ⟨v9f,ja75,[]⟩
def w19 (p:Prim):(Int×(Int×(Int×(Int×(LD×(Int×(LD×(Int×(Int×Unit)))))))))→Option ((Int×(Int×(Int×(Int×(LD×(Int×(LD×(Int×(Int×Unit)))))))))⊕(Int×(Int×(Int×(Int×Unit))))):=
 fun a=>opt.run _ (
 opt.ask _ (p.cmp .lss a.2.2.2.2.2.2.2.2.1 a.2.2.2.2.2.1) (
 opt.bnd T81 _ (
 opt.run T81 (
 opt.ask _ (p.cmp .gtr (p.ofNat (p.len a.2.2.2.2.2.2.1)) (0:Int)) (
 opt.need _ (p.cmp .neq (p.ofNat (p.len a.2.2.2.2.2.2.1)) (0:Int))<|
 opt.need _ (p.rowOk a.2.2.2.2.2.2.1 (p.nat (p.ar .rem .i64 (p.ar .add .i64 a.2.2.2.2.2.2.2.1 a.2.2.2.2.2.2.2.2.1) (p.ofNat (p.len a.2.2.2.2.2.2.1)))) [(CK.int .u8)])<|
 opt.need _ (p.cmp .geq (p.ar .rem .i64 (p.ar .add .i64 a.2.2.2.2.2.2.2.1 a.2.2.2.2.2.2.2.2.1) (p.ofNat (p.len a.2.2.2.2.2.2.1))) (0:Int))<|
 opt.need _ (p.cmp .neq (p.ofNat (p.len a.2.2.2.2.1)) (0:Int))<|
 opt.ret _ (a.1,(a.2.1,(a.2.2.1,(a.2.2.2.1,(a.2.2.2.2.1,(a.2.2.2.2.2.1,(a.2.2.2.2.2.2.1,(a.2.2.2.2.2.2.2.1,(a.2.2.2.2.2.2.2.2.1,((p.ar .rem .i64 (p.cvt .i64 (p.rdI a.2.2.2.2.2.2.1 (p.nat (p.ar .rem .i64 (p.ar .add .i64 a.2.2.2.2.2.2.2.1 a.2.2.2.2.2.2.2.2.1) (p.ofNat (p.len a.2.2.2.2.2.2.1)))) 0)) (p.ofNat (p.len a.2.2.2.2.1))),()))))))))))) (
 opt.ret _ (a.1,(a.2.1,(a.2.2.1,(a.2.2.2.1,(a.2.2.2.2.1,(a.2.2.2.2.2.1,(a.2.2.2.2.2.2.1,(a.2.2.2.2.2.2.2.1,(a.2.2.2.2.2.2.2.2.1,((0:Int),()))))))))))))) fun b=>
 opt.need _ (p.rowOk b.2.2.2.2.1 (p.nat b.2.2.2.2.2.2.2.2.2.1) [ci,ci])<|
 opt.need _ (p.cmp .geq b.2.2.2.2.2.2.2.2.2.1 (0:Int))<|
 opt.need _ (p.rowOk b.2.2.2.2.1 (p.nat b.2.2.2.2.2.2.2.2.2.1) [ci,ci])<|
 opt.need _ (p.cmp .geq b.2.2.2.2.2.2.2.2.2.1 (0:Int))<|
 opt.ret _ (Sum.inl (b.1,(b.2.1,((p.ar .add .i64 b.2.2.1 (p.rdI b.2.2.2.2.1 (p.nat b.2.2.2.2.2.2.2.2.2.1) 0)),((p.ar .add .i64 b.2.2.2.1 (p.rdI b.2.2.2.2.1 (p.nat b.2.2.2.2.2.2.2.2.2.1) 1)),(b.2.2.2.2.1,(b.2.2.2.2.2.1,(b.2.2.2.2.2.2.1,(b.2.2.2.2.2.2.2.1,((p.ar .add .i64 b.2.2.2.2.2.2.2.2.1 (1:Int)),()))))))))))) (
 opt.ret _ (Sum.inr (a.1,(a.2.1,(a.2.2.1,(a.2.2.2.1,())))))))
def g75 (it:It):(p:Prim)→(LD×(Int×(LD×(Int×Unit))))→Option T4:=
 fun p x=>
 opt.bnd T8 _ (
 it _ _ (w19 p) ((0:Int),((0:Int),((0:Int),((0:Int),(x.1,(x.2.1,(x.2.2.1,(x.2.2.2.1,((0:Int),())))))))))) fun a=>
 opt.ret _ (a.2.2.1,(a.2.2.2.1,()))
def G75:=g75 it0
theorem ok75:CtrOk PG v4t (G75 std):=okF (a:=an75) (l:=la75) (gN) (by kernel_rfl) fun _ _=>by kernel_rfl
def v48:Ctr:=
 ⟨33,[.agg [.list 2, .list 1], .int .u8, .list 1],[],[(.ret,⟨[(0, .agg [.int .i64, .int .i64, .int .i64])],[],1⟩)]⟩
def la33:List LA:=
 [⟨33,[false,true,false,true,true,true],0,⟨⟨[(2, .list 1),(3, .bptr 0 0),(6, .bptr 1 0),(7, .int .i64),(8, .bptr 2 0),(9, .int .i64)],[.box [.list 2, .list 1], .box [.int .i64, .int .i64, .int .i64], .box [.int .i64, .int .i64]],57⟩,[((AX.exit 0),⟨[(6, .bptr 0 0),(7, .int .i64),(8, .bptr 1 0)],[.box [.int .i64, .int .i64, .int .i64], .box [.int .i64, .int .i64]],57⟩)]⟩⟩]
def ja33:List JA:=
 []
def v94:List CF:=
 [⟨v4t,G75⟩]
def an33:Anns:=
 ⟨v94,ja33,[]⟩
def w5g (it:It) (p:Prim):(LD×(LD×T82))→Option ((LD×(LD×T82))⊕T27):=
 fun a=>opt.run _ (
 opt.ask _ (p.cmp .lss a.2.2.2.2.2.2.2.2.2.1 (p.ofNat (p.len a.2.1))) (
 opt.need _ (p.rowOk a.2.1 (p.nat a.2.2.2.2.2.2.2.2.2.1) [(CK.list 2)])<|
 opt.need _ (p.cmp .geq a.2.2.2.2.2.2.2.2.2.1 (0:Int))<|
 opt.bnd T4 _ (g75 it p ((p.rdL a.2.1 (p.nat a.2.2.2.2.2.2.2.2.2.1) 0),(a.2.2.2.2.2.2.2.2.1,(a.2.2.2.2.2.2.2.1,((p.ar .mul .i64 (p.ar .add .i64 a.2.2.2.2.2.2.2.2.2.1 (1:Int)) a.2.2.2.2.2.2.2.2.1),()))))) fun b=>
 opt.ret _ (Sum.inl (a.1,(a.2.1,(a.2.2.1,(a.2.2.2.1,(a.2.2.2.2.1,((p.ar .add .i64 a.2.2.2.2.2.1 b.1),((p.ar .add .i64 a.2.2.2.2.2.2.1 b.2.1),(a.2.2.2.2.2.2.2.1,(a.2.2.2.2.2.2.2.2.1,((p.ar .add .i64 a.2.2.2.2.2.2.2.2.2.1 (1:Int)),())))))))))))) (
 opt.ret _ (Sum.inr (a.2.2.1,(a.2.2.2.1,(a.2.2.2.2.1,(a.2.2.2.2.2.1,(a.2.2.2.2.2.2.1,(a.2.2.2.2.2.2.2.2.1,())))))))))
def g33 (it:It):(p:Prim)→(LD×(LD×(Int×(LD×Unit))))→Option T6:=
 fun p x=>
 opt.need _ (p.cmp .neq (20:Int) (0:Int))<|
 opt.bnd T4 _ (g75 it p (x.1,((p.ar .add .i64 (1:Int) (p.ar .rem .i64 (p.cvt .i64 x.2.2.1) (20:Int))),(x.2.2.2.1,((0:Int),()))))) fun a=>
 opt.bnd ((Int×(Int×(Int×(Int×(Int×(Int×Unit))))))) _ (
 it _ _ (w5g it p) (x.1,(x.2.1,((0:Int),((0:Int),((0:Int),(a.1,(a.2.1,(x.2.2.2.1,((p.ar .add .i64 (1:Int) (p.ar .rem .i64 (p.cvt .i64 x.2.2.1) (20:Int))),((0:Int),()))))))))))) fun b=>
 opt.ret _ (b.2.2.2.1,(b.2.2.2.2.1,(b.2.2.2.2.2.1,())))
def G33:=g33 it0
theorem ok33:CtrOk PG v48 (G33 std):=okF (a:=an33) (l:=la33) (gC ok75 (gN)) (by kernel_rfl) fun _ _=>by kernel_rfl
end Go.Am
end
noncomputable section
namespace Go.Am
def v5g:Ctr:=
 ⟨15,[],[],[(.ret,⟨[(0, .bool)],[],1⟩)]⟩
def la15:List LA:=
 []
def ja15:List JA:=
 [⟨15,[false,false,true,true,true,true,true,true,true,true,true,true,true,true],0,[(AX.normal,⟨[(1, .bptr 0 0),(3, .bptr 1 0),(4, .bptr 2 0),(5, .vec 3 2),(7, .bool),(9, .bptr 4 0),(15, .bptr 5 0),(17, .bptr 6 0),(19, .bptr 7 0),(21, .int .i64),(22, .int .i64),(127, .bool)],[.box [.full 8 2, .full 9 1], .box [.full 10 2, .nils], .box [.full 11 2, .nils], .row [ci,ci], .box [.int .i64, .int .i64], .box [.int .i64, .int .i64, .int .i64], .box [.int .i64, .int .i64, .int .i64], .box [.int .i64, .int .i64], .row [ci,ci], .row [(CK.list 2)], .row [ci,ci], .row [ci,ci]],170⟩)]⟩]
def u0f:List CF:=
 [⟨v42,G38⟩,⟨w97,G36⟩,⟨v5d,G20⟩,⟨v5a,G27⟩,⟨w99,G25⟩,⟨v43,G37⟩,⟨w98,G32⟩,⟨v41,G39⟩,⟨v5b,G23⟩,⟨v5c,G21⟩,⟨v5f,G16⟩]
def an15:Anns:=
 ⟨u0f,ja15,[⟨15,[false,true,true],⟨[(1, .bptr 0 0),(2, .bptr 1 0),(3, .bptr 2 0),(4, .bptr 3 0)],[.box [.full 4 2, .full 5 1], .box [.full 6 2, .nils], .box [.full 7 2, .nils], .box [.full 8 2, .nils], .row [ci,ci], .row [(CK.list 2)], .row [ci,ci], .row [ci,ci], .row [ci,ci]],170⟩⟩]⟩
def g15 (it:It):(p:Prim)→Unit→Option T2:=
 fun p x=>
 opt.need _ (p.eqN 0 0)<|
 opt.need _ (p.eqN 3 (p.len k0k))<|
 opt.need _ (p.eqN 3 (p.len k0k))<|
 opt.need _ (p.eqN 0 0)<|
 opt.need _ (p.eqN 1 (p.len k1k))<|
 opt.need _ (p.eqN 1 (p.len k1k))<|
 opt.need _ (p.eqN 0 0)<|
 opt.need _ (p.eqN 1 (p.len [[k6k,k4k]]))<|
 opt.need _ (p.eqN 1 (p.len [[k6k,k4k]]))<|
 opt.need _ (p.eqN 0 0)<|
 opt.need _ (p.eqN 1 (p.len k2k))<|
 opt.need _ (p.eqN 1 (p.len k2k))<|
 opt.need _ (p.eqN 0 0)<|
 opt.need _ (p.eqN 1 (p.len k3k))<|
 opt.need _ (p.eqN 1 (p.len k3k))<|
 opt.need _ (p.and (p.and (p.leN (p.add 0 (p.len k0k)) (p.len k0k)) (p.and (p.leN (p.add 0 (p.len k1k)) (p.len k1k)) Bool.true)) Bool.true)<|
 opt.bnd ((LD×T1)) _ (g16 it p ((p.cut k0k 0 (p.len k0k)),((p.cut k1k 0 (p.len k1k)),()))) fun a=>
 opt.need _ (p.plain a.1)<|
 opt.need _ (p.and (p.and (p.leN (p.add 0 (p.len k0k)) (p.len k0k)) (p.and (p.leN (p.add 0 (p.len k1k)) (p.len k1k)) Bool.true)) (p.and Bool.true Bool.true))<|
 opt.bnd ((Bool×(Int×Unit))) _ (g21 it p ((p.cut k0k 0 (p.len k0k)),((p.cut k1k 0 (p.len k1k)),((3:Int),((2:Int),()))))) fun b=>
 opt.need _ (p.and (p.and (p.leN (p.add 0 (p.len k0k)) (p.len k0k)) (p.and (p.leN (p.add 0 (p.len k1k)) (p.len k1k)) Bool.true)) (p.and (p.leN (p.add 0 4) (p.len [[k4k,k4k],[k5k,k4k],[k5k,k5k],[k4k,k5k]])) Bool.true))<|
 opt.bnd T6 _ (g23 it p ((p.cut k0k 0 (p.len k0k)),((p.cut k1k 0 (p.len k1k)),((p.cut [[k4k,k4k],[k5k,k4k],[k5k,k5k],[k4k,k5k]] 0 4),())))) fun c=>
 opt.need _ (p.and (p.and (p.leN (p.add 0 (p.len k0k)) (p.len k0k)) (p.and (p.leN (p.add 0 (p.len k1k)) (p.len k1k)) Bool.true)) (p.and (p.and (p.leN (p.add 0 (p.len [[k6k,k4k]])) (p.len [[k6k,k4k]])) (p.and Bool.true Bool.true)) (p.and Bool.true Bool.true)))<|
 opt.bnd T0 _ (g39 it p ((p.cut k0k 0 (p.len k0k)),((p.cut k1k 0 (p.len k1k)),((p.cut [[k6k,k4k]] 0 (p.len [[k6k,k4k]])),([],((1:Int),((0:Int),((5:Int),())))))))) fun d=>
 opt.need _ (p.and (p.and (p.leN (p.add 0 (p.len k0k)) (p.len k0k)) (p.and (p.leN (p.add 0 (p.len k1k)) (p.len k1k)) Bool.true)) (p.and (p.and (p.leN (p.add 0 (p.len [[k6k,k4k]])) (p.len [[k6k,k4k]])) (p.and Bool.true Bool.true)) (p.and Bool.true Bool.true)))<|
 opt.bnd T0 _ (g39 it p ((p.cut k0k 0 (p.len k0k)),((p.cut k1k 0 (p.len k1k)),((p.cut [[k6k,k4k]] 0 (p.len [[k6k,k4k]])),([],((1:Int),((0:Int),((6:Int),())))))))) fun e=>
 opt.need _ (p.and (p.and (p.leN (p.add 0 (p.len k0k)) (p.len k0k)) (p.and (p.leN (p.add 0 (p.len k1k)) (p.len k1k)) Bool.true)) (p.and (p.and (p.leN (p.add 0 (p.len k3k)) (p.len k3k)) (p.and Bool.true Bool.true)) Bool.true))<|
 opt.bnd T8 _ (g32 it p ((p.cut k0k 0 (p.len k0k)),((p.cut k1k 0 (p.len k1k)),((p.cut k3k 0 (p.len k3k)),([],()))))) fun f=>
 opt.need _ (p.and (p.and (p.leN (p.add 0 (p.len k0k)) (p.len k0k)) (p.and (p.leN (p.add 0 (p.len k1k)) (p.len k1k)) Bool.true)) (p.and (p.and (p.leN (p.add 0 (p.len k2k)) (p.len k2k)) (p.and Bool.true Bool.true)) Bool.true))<|
 opt.bnd T8 _ (g32 it p ((p.cut k0k 0 (p.len k0k)),((p.cut k1k 0 (p.len k1k)),((p.cut k2k 0 (p.len k2k)),([],()))))) fun g=>
 opt.need _ (p.and (p.and (p.leN (p.add 0 (p.len k0k)) (p.len k0k)) (p.and (p.leN (p.add 0 (p.len k1k)) (p.len k1k)) Bool.true)) (p.and (p.and (p.leN (p.add 0 (p.len k3k)) (p.len k3k)) (p.and Bool.true Bool.true)) Bool.true))<|
 opt.bnd T8 _ (g37 it p ((p.cut k0k 0 (p.len k0k)),((p.cut k1k 0 (p.len k1k)),((p.cut k3k 0 (p.len k3k)),([],()))))) fun h=>
 opt.need _ (p.and (p.and (p.leN (p.add 0 (p.len k0k)) (p.len k0k)) (p.and (p.leN (p.add 0 (p.len k1k)) (p.len k1k)) Bool.true)) (p.and (p.and (p.leN (p.add 0 (p.len k2k)) (p.len k2k)) (p.and Bool.true Bool.true)) Bool.true))<|
 opt.bnd T6 _ (g25 it p ((p.cut k0k 0 (p.len k0k)),((p.cut k1k 0 (p.len k1k)),((p.cut k2k 0 (p.len k2k)),([],()))))) fun i=>
 opt.need _ (p.and (bif (bif (p.leN (p.add 0 (p.len k0k)) (p.len k0k)) then (bif (p.leN (p.add 0 (p.len k1k)) (p.len k1k)) then Bool.true else Bool.false) else Bool.false) then (bif (bif (p.leN (p.add 0 (p.len k2k)) (p.len k2k)) then Bool.true else Bool.false) then (bif (bif (p.leN (p.add 0 (p.len k3k)) (p.len k3k)) then Bool.true else Bool.false) then Bool.true else Bool.false) else Bool.false) else Bool.false) Bool.true)<|
 opt.bnd T6 _ (g27 it p ([[(D.list Bool.false 2 (p.cut k0k 0 (p.len k0k))),(D.list Bool.false 1 (p.cut k1k 0 (p.len k1k)))],[(D.list Bool.false 2 (p.cut k2k 0 (p.len k2k))),(D.list Bool.true 0 [])],[(D.list Bool.false 2 (p.cut k3k 0 (p.len k3k))),(D.list Bool.true 0 [])]],())) fun j=>
 opt.bnd ((LD×(LD×(LD×(LD×(LD×T83)))))) _ (
 opt.run ((LD×(LD×(LD×(LD×(LD×T83)))))) (
 opt.ask _ (p.cmp .neq a.2.1 (0:Int)) (
 opt.need _ (p.eqN 0 0)<|
 opt.need _ (p.eqN (p.len k0k) (p.len k0k))<|
 opt.need _ (p.eqN (p.len k0k) (p.len k0k))<|
 opt.need _ (p.eqN 0 0)<|
 opt.need _ (p.eqN (p.len k1k) (p.len k1k))<|
 opt.need _ (p.eqN (p.len k1k) (p.len k1k))<|
 opt.need _ (p.eqN 0 0)<|
 opt.need _ (p.eqN (p.len k2k) (p.len k2k))<|
 opt.need _ (p.eqN (p.len k2k) (p.len k2k))<|
 opt.need _ (p.eqN 0 0)<|
 opt.need _ (p.eqN (p.len k3k) (p.len k3k))<|
 opt.need _ (p.eqN (p.len k3k) (p.len k3k))<|
 opt.need _ (p.eqN 0 0)<|
 opt.need _ (p.eqN (p.len a.1) (p.len a.1))<|
 opt.ret _ (a.1,(k0k,(k1k,(k2k,(k3k,(c.1,(c.2.1,(g.1,(g.2.1,(g.2.2.1,(h.1,(h.2.1,(h.2.2.1,(i.1,(i.2.1,(b.1,(j.1,(j.2.1,(Bool.true,())))))))))))))))))))) (
 opt.ask _ (p.cmp .neq b.2.1 (0:Int)) (
 opt.need _ (p.eqN 0 0)<|
 opt.need _ (p.eqN (p.len k0k) (p.len k0k))<|
 opt.need _ (p.eqN (p.len k0k) (p.len k0k))<|
 opt.need _ (p.eqN 0 0)<|
 opt.need _ (p.eqN (p.len k1k) (p.len k1k))<|
 opt.need _ (p.eqN (p.len k1k) (p.len k1k))<|
 opt.need _ (p.eqN 0 0)<|
 opt.need _ (p.eqN (p.len k2k) (p.len k2k))<|
 opt.need _ (p.eqN (p.len k2k) (p.len k2k))<|
 opt.need _ (p.eqN 0 0)<|
 opt.need _ (p.eqN (p.len k3k) (p.len k3k))<|
 opt.need _ (p.eqN (p.len k3k) (p.len k3k))<|
 opt.need _ (p.eqN 0 0)<|
 opt.need _ (p.eqN (p.len a.1) (p.len a.1))<|
 opt.ret _ (a.1,(k0k,(k1k,(k2k,(k3k,(c.1,(c.2.1,(g.1,(g.2.1,(g.2.2.1,(h.1,(h.2.1,(h.2.2.1,(i.1,(i.2.1,(b.1,(j.1,(j.2.1,(Bool.true,())))))))))))))))))))) (
 opt.ask _ (p.cmp .neq c.2.2.1 (0:Int)) (
 opt.need _ (p.eqN 0 0)<|
 opt.need _ (p.eqN (p.len k0k) (p.len k0k))<|
 opt.need _ (p.eqN (p.len k0k) (p.len k0k))<|
 opt.need _ (p.eqN 0 0)<|
 opt.need _ (p.eqN (p.len k1k) (p.len k1k))<|
 opt.need _ (p.eqN (p.len k1k) (p.len k1k))<|
 opt.need _ (p.eqN 0 0)<|
 opt.need _ (p.eqN (p.len k2k) (p.len k2k))<|
 opt.need _ (p.eqN (p.len k2k) (p.len k2k))<|
 opt.need _ (p.eqN 0 0)<|
 opt.need _ (p.eqN (p.len k3k) (p.len k3k))<|
 opt.need _ (p.eqN (p.len k3k) (p.len k3k))<|
 opt.need _ (p.eqN 0 0)<|
 opt.need _ (p.eqN (p.len a.1) (p.len a.1))<|
 opt.ret _ (a.1,(k0k,(k1k,(k2k,(k3k,(c.1,(c.2.1,(g.1,(g.2.1,(g.2.2.1,(h.1,(h.2.1,(h.2.2.1,(i.1,(i.2.1,(b.1,(j.1,(j.2.1,(Bool.true,())))))))))))))))))))) (
 opt.ask _ (p.cmp .neq d.1 (0:Int)) (
 opt.need _ (p.eqN 0 0)<|
 opt.need _ (p.eqN (p.len k0k) (p.len k0k))<|
 opt.need _ (p.eqN (p.len k0k) (p.len k0k))<|
 opt.need _ (p.eqN 0 0)<|
 opt.need _ (p.eqN (p.len k1k) (p.len k1k))<|
 opt.need _ (p.eqN (p.len k1k) (p.len k1k))<|
 opt.need _ (p.eqN 0 0)<|
 opt.need _ (p.eqN (p.len k2k) (p.len k2k))<|
 opt.need _ (p.eqN (p.len k2k) (p.len k2k))<|
 opt.need _ (p.eqN 0 0)<|
 opt.need _ (p.eqN (p.len k3k) (p.len k3k))<|
 opt.need _ (p.eqN (p.len k3k) (p.len k3k))<|
 opt.need _ (p.eqN 0 0)<|
 opt.need _ (p.eqN (p.len a.1) (p.len a.1))<|
 opt.ret _ (a.1,(k0k,(k1k,(k2k,(k3k,(c.1,(c.2.1,(g.1,(g.2.1,(g.2.2.1,(h.1,(h.2.1,(h.2.2.1,(i.1,(i.2.1,(b.1,(j.1,(j.2.1,(Bool.true,())))))))))))))))))))) (
 opt.ask _ (p.cmp .neq e.1 (14:Int)) (
 opt.need _ (p.eqN 0 0)<|
 opt.need _ (p.eqN (p.len k0k) (p.len k0k))<|
 opt.need _ (p.eqN (p.len k0k) (p.len k0k))<|
 opt.need _ (p.eqN 0 0)<|
 opt.need _ (p.eqN (p.len k1k) (p.len k1k))<|
 opt.need _ (p.eqN (p.len k1k) (p.len k1k))<|
 opt.need _ (p.eqN 0 0)<|
 opt.need _ (p.eqN (p.len k2k) (p.len k2k))<|
 opt.need _ (p.eqN (p.len k2k) (p.len k2k))<|
 opt.need _ (p.eqN 0 0)<|
 opt.need _ (p.eqN (p.len k3k) (p.len k3k))<|
 opt.need _ (p.eqN (p.len k3k) (p.len k3k))<|
 opt.need _ (p.eqN 0 0)<|
 opt.need _ (p.eqN (p.len a.1) (p.len a.1))<|
 opt.ret _ (a.1,(k0k,(k1k,(k2k,(k3k,(c.1,(c.2.1,(g.1,(g.2.1,(g.2.2.1,(h.1,(h.2.1,(h.2.2.1,(i.1,(i.2.1,(b.1,(j.1,(j.2.1,(Bool.true,())))))))))))))))))))) (
 opt.ask _ (p.cmp .neq f.2.2.2.1 (21:Int)) (
 opt.need _ (p.eqN 0 0)<|
 opt.need _ (p.eqN (p.len k0k) (p.len k0k))<|
 opt.need _ (p.eqN (p.len k0k) (p.len k0k))<|
 opt.need _ (p.eqN 0 0)<|
 opt.need _ (p.eqN (p.len k1k) (p.len k1k))<|
 opt.need _ (p.eqN (p.len k1k) (p.len k1k))<|
 opt.need _ (p.eqN 0 0)<|
 opt.need _ (p.eqN (p.len k2k) (p.len k2k))<|
 opt.need _ (p.eqN (p.len k2k) (p.len k2k))<|
 opt.need _ (p.eqN 0 0)<|
 opt.need _ (p.eqN (p.len k3k) (p.len k3k))<|
 opt.need _ (p.eqN (p.len k3k) (p.len k3k))<|
 opt.need _ (p.eqN 0 0)<|
 opt.need _ (p.eqN (p.len a.1) (p.len a.1))<|
 opt.ret _ (a.1,(k0k,(k1k,(k2k,(k3k,(c.1,(c.2.1,(g.1,(g.2.1,(g.2.2.1,(h.1,(h.2.1,(h.2.2.1,(i.1,(i.2.1,(b.1,(j.1,(j.2.1,(Bool.true,())))))))))))))))))))) (
 opt.ask _ (p.cmp .neq g.2.2.2.1 (0:Int)) (
 opt.need _ (p.eqN 0 0)<|
 opt.need _ (p.eqN (p.len k0k) (p.len k0k))<|
 opt.need _ (p.eqN (p.len k0k) (p.len k0k))<|
 opt.need _ (p.eqN 0 0)<|
 opt.need _ (p.eqN (p.len k1k) (p.len k1k))<|
 opt.need _ (p.eqN (p.len k1k) (p.len k1k))<|
 opt.need _ (p.eqN 0 0)<|
 opt.need _ (p.eqN (p.len k2k) (p.len k2k))<|
 opt.need _ (p.eqN (p.len k2k) (p.len k2k))<|
 opt.need _ (p.eqN 0 0)<|
 opt.need _ (p.eqN (p.len k3k) (p.len k3k))<|
 opt.need _ (p.eqN (p.len k3k) (p.len k3k))<|
 opt.need _ (p.eqN 0 0)<|
 opt.need _ (p.eqN (p.len a.1) (p.len a.1))<|
 opt.ret _ (a.1,(k0k,(k1k,(k2k,(k3k,(c.1,(c.2.1,(g.1,(g.2.1,(g.2.2.1,(h.1,(h.2.1,(h.2.2.1,(i.1,(i.2.1,(b.1,(j.1,(j.2.1,(Bool.true,())))))))))))))))))))) (
 opt.ask _ (p.cmp .neq h.2.2.2.1 (0:Int)) (
 opt.need _ (p.eqN 0 0)<|
 opt.need _ (p.eqN (p.len k0k) (p.len k0k))<|
 opt.need _ (p.eqN (p.len k0k) (p.len k0k))<|
 opt.need _ (p.eqN 0 0)<|
 opt.need _ (p.eqN (p.len k1k) (p.len k1k))<|
 opt.need _ (p.eqN (p.len k1k) (p.len k1k))<|
 opt.need _ (p.eqN 0 0)<|
 opt.need _ (p.eqN (p.len k2k) (p.len k2k))<|
 opt.need _ (p.eqN (p.len k2k) (p.len k2k))<|
 opt.need _ (p.eqN 0 0)<|
 opt.need _ (p.eqN (p.len k3k) (p.len k3k))<|
 opt.need _ (p.eqN (p.len k3k) (p.len k3k))<|
 opt.need _ (p.eqN 0 0)<|
 opt.need _ (p.eqN (p.len a.1) (p.len a.1))<|
 opt.ret _ (a.1,(k0k,(k1k,(k2k,(k3k,(c.1,(c.2.1,(g.1,(g.2.1,(g.2.2.1,(h.1,(h.2.1,(h.2.2.1,(i.1,(i.2.1,(b.1,(j.1,(j.2.1,(Bool.true,())))))))))))))))))))) (
 opt.ask _ (p.cmp .neq i.2.2.1 (0:Int)) (
 opt.need _ (p.eqN 0 0)<|
 opt.need _ (p.eqN (p.len k0k) (p.len k0k))<|
 opt.need _ (p.eqN (p.len k0k) (p.len k0k))<|
 opt.need _ (p.eqN 0 0)<|
 opt.need _ (p.eqN (p.len k1k) (p.len k1k))<|
 opt.need _ (p.eqN (p.len k1k) (p.len k1k))<|
 opt.need _ (p.eqN 0 0)<|
 opt.need _ (p.eqN (p.len k2k) (p.len k2k))<|
 opt.need _ (p.eqN (p.len k2k) (p.len k2k))<|
 opt.need _ (p.eqN 0 0)<|
 opt.need _ (p.eqN (p.len k3k) (p.len k3k))<|
 opt.need _ (p.eqN (p.len k3k) (p.len k3k))<|
 opt.need _ (p.eqN 0 0)<|
 opt.need _ (p.eqN (p.len a.1) (p.len a.1))<|
 opt.ret _ (a.1,(k0k,(k1k,(k2k,(k3k,(c.1,(c.2.1,(g.1,(g.2.1,(g.2.2.1,(h.1,(h.2.1,(h.2.2.1,(i.1,(i.2.1,(b.1,(j.1,(j.2.1,(Bool.true,())))))))))))))))))))) (
 opt.need _ (p.eqN 0 0)<|
 opt.need _ (p.eqN (p.len k0k) (p.len k0k))<|
 opt.need _ (p.eqN (p.len k0k) (p.len k0k))<|
 opt.need _ (p.eqN 0 0)<|
 opt.need _ (p.eqN (p.len k1k) (p.len k1k))<|
 opt.need _ (p.eqN (p.len k1k) (p.len k1k))<|
 opt.need _ (p.eqN 0 0)<|
 opt.need _ (p.eqN (p.len k2k) (p.len k2k))<|
 opt.need _ (p.eqN (p.len k2k) (p.len k2k))<|
 opt.need _ (p.eqN 0 0)<|
 opt.need _ (p.eqN (p.len k3k) (p.len k3k))<|
 opt.need _ (p.eqN (p.len k3k) (p.len k3k))<|
 opt.need _ (p.eqN 0 0)<|
 opt.need _ (p.eqN (p.len a.1) (p.len a.1))<|
 opt.ret _ (a.1,(k0k,(k1k,(k2k,(k3k,(c.1,(c.2.1,(g.1,(g.2.1,(g.2.2.1,(h.1,(h.2.1,(h.2.2.1,(i.1,(i.2.1,(b.1,(j.1,(j.2.1,((p.cmp .neq j.2.2.1 (0:Int)),())))))))))))))))))))))))))))))) fun k=>
 opt.ask _ k.2.2.2.2.2.2.2.2.2.2.2.2.2.2.2.2.2.2.1 (
 opt.ret _ (Bool.false,())) (
 opt.need _ (p.and (p.leN (p.add 0 (p.len k.1)) (p.len k.1)) (p.and (p.leN (p.add 0 4) (p.len [[k4k,k4k],[(D.int .i64 (5:Int)),k4k],[(D.int .i64 (1:Int)),k5k],[k4k,k5k]])) Bool.true))<|
 opt.bnd T2 _ (g20 it p ((p.cut k.1 0 (p.len k.1)),((p.cut [[k4k,k4k],[(D.int .i64 (5:Int)),k4k],[(D.int .i64 (1:Int)),k5k],[k4k,k5k]] 0 4),()))) fun l=>
 opt.ask _ l.1 (
 opt.ask _ k.2.2.2.2.2.2.2.2.2.2.2.2.2.2.2.1 (
 opt.ask _ (bif (p.cmp .eql k.2.2.2.2.2.1 (5:Int)) then (bif (p.cmp .eql k.2.2.2.2.2.2.1 (0:Int)) then Bool.true else Bool.false) else Bool.false) (
 opt.need _ (p.and (p.and (p.leN (p.add 0 (p.len k.2.1)) (p.len k.2.1)) (p.and (p.leN (p.add 0 (p.len k.2.2.1)) (p.len k.2.2.1)) Bool.true)) (p.and (p.and (p.leN (p.add 0 (p.len k.2.2.2.1)) (p.len k.2.2.2.1)) (p.and Bool.true Bool.true)) (p.and Bool.true Bool.true)))<|
 opt.bnd T0 _ (g36 it p ((p.cut k.2.1 0 (p.len k.2.1)),((p.cut k.2.2.1 0 (p.len k.2.2.1)),((p.cut k.2.2.2.1 0 (p.len k.2.2.2.1)),([],(k.2.2.2.2.2.2.2.1,(k.2.2.2.2.2.2.2.2.1,(k.2.2.2.2.2.2.2.2.2.1,())))))))) fun m=>
 opt.ask _ (p.cmp .eql m.1 (0:Int)) (
 opt.need _ (p.and (p.and (p.leN (p.add 0 (p.len k.2.1)) (p.len k.2.1)) (p.and (p.leN (p.add 0 (p.len k.2.2.1)) (p.len k.2.2.1)) Bool.true)) (p.and (p.and (p.leN (p.add 0 (p.len k.2.2.2.2.1)) (p.len k.2.2.2.2.1)) (p.and Bool.true Bool.true)) (p.and Bool.true Bool.true)))<|
 opt.bnd T0 _ (g38 it p ((p.cut k.2.1 0 (p.len k.2.1)),((p.cut k.2.2.1 0 (p.len k.2.2.1)),((p.cut k.2.2.2.2.1 0 (p.len k.2.2.2.2.1)),([],(k.2.2.2.2.2.2.2.2.2.2.1,(k.2.2.2.2.2.2.2.2.2.2.2.1,(k.2.2.2.2.2.2.2.2.2.2.2.2.1,())))))))) fun n=>
 opt.ask _ (p.cmp .eql n.1 (0:Int)) (
 opt.ask _ (bif (p.cmp .eql k.2.2.2.2.2.2.2.2.2.2.2.2.2.1 (1:Int)) then (bif (p.cmp .eql k.2.2.2.2.2.2.2.2.2.2.2.2.2.2.1 (2:Int)) then Bool.true else Bool.false) else Bool.false) (
 opt.ask _ (p.cmp .eql k.2.2.2.2.2.2.2.2.2.2.2.2.2.2.2.2.1 (0:Int)) (
 opt.ret _ ((p.cmp .eql k.2.2.2.2.2.2.2.2.2.2.2.2.2.2.2.2.2.1 (2:Int)),())) (
 opt.ret _ (Bool.false,()))) (
 opt.ret _ (Bool.false,()))) (
 opt.ret _ (Bool.false,()))) (
 opt.ret _ (Bool.false,()))) (
 opt.ret _ (Bool.false,()))) (
 opt.ret _ (Bool.false,()))) (
 opt.ret _ (Bool.false,())))
def G15:=g15 it0
theorem ok15:CtrOk PG v5g (G15 std):=okF (a:=an15) (l:=la15) (gC ok38 (gC u1p (gC ok20 (gC ok27 (gC u1r (gC ok37 (gC u1q (gC ok39 (gC ok23 (gC ok21 (gC ok16 (gN)))))))))))) (by kernel_rfl) fun _ _=>by kernel_rfl
end Go.Am
end
section
namespace Go.Am
theorem v8c {i j:It} (h:i.Le j):∀ s,le (v32 i std s) (v32 j std s):=fun _=>z06 (h _ _ _ _ _ (fun _=>le_refl _)) (fun _=>le_refl _) (fun _=>le_refl _)
theorem mg87 {i j:It} (h:i.Le j):∀ s,le (g87 i std s) (g87 j std s):=fun _=>z0f (le_refl _) (fun _=>z0f (le_refl _) (fun _=>z0a (z0f (v8c h _) (fun _=>le_refl _))))
theorem v2c {i j:It} (h:i.Le j):∀ s,le (y9o i std s) (y9o j std s):=fun _=>z1c (z0o (z0a (z0a (z0f (h _ _ _ _ _ (fun _=>le_refl _)) (fun _=>le_refl _)))) (le_refl _))
theorem u1t {i j:It} (h:i.Le j):∀ s,le (g99 i std s) (g99 j std s):=fun _=>z0f (h _ _ _ _ _ (v2c h)) (fun _=>le_refl _)
theorem v06 {i j:It} (h:i.Le j):∀ s,le (g53 i std s) (g53 j std s):=fun _=>z06 (h _ _ _ _ _ (fun _=>le_refl _)) (fun _=>le_refl _) (fun _=>le_refl _)
theorem v04 {i j:It} (h:i.Le j):∀ s,le (g60 i std s) (g60 j std s):=fun _=>z0a (z0a (z0a (z0a (z0f (h _ _ _ _ _ (fun _=>le_refl _)) (fun _=>le_refl _)))))
theorem mg20 {i j:It} (h:i.Le j):∀ s,le (g20 i std s) (g20 j std s):=fun _=>z0o (le_refl _) (z06 (h _ _ _ _ _ (fun _=>le_refl _)) (fun _=>le_refl _) (fun _=>le_refl _))
theorem v26 {i j:It} (h:i.Le j):∀ s,le (x8k i std s) (x8k j std s):=fun _=>z1c (z0o (z0a (z0a (z0f (v06 h _) (fun _=>le_refl _)))) (le_refl _))
theorem mg18 {i j:It} (h:i.Le j):∀ s,le (g18 i std s) (g18 j std s):=fun _=>z0f (z1c (z0f (le_refl _) (fun _=>z0o (le_refl _) (z0o (le_refl _) (z06 (h _ _ _ _ _ (fun _=>le_refl _)) (fun _=>le_refl _) (fun _=>le_refl _)))))) (fun _=>z0o (le_refl _) (z0f (z1c (z0f (v06 h _) (fun _=>z0o (le_refl _) (z06 (h _ _ _ _ _ (v26 h)) (fun _=>le_refl _) (fun _=>le_refl _))))) (fun _=>le_refl _)))
theorem v7d {i j:It} (h:i.Le j):∀ s,le (g57 i std s) (g57 j std s):=fun _=>z0o (le_refl _) (z06 (z1c (z06 (h _ _ _ _ _ (fun _=>le_refl _)) (fun _=>le_refl _) (fun _=>le_refl _))) (fun _=>le_refl _) (fun _=>le_refl _))
theorem v2d {i j:It} (h:i.Le j):∀ s,le (x8g i std s) (x8g j std s):=fun _=>z1c (z0o (z0a (z0a (z0f (le_refl _) (fun _=>z0f (h _ _ _ _ _ (fun _=>le_refl _)) (fun _=>le_refl _))))) (le_refl _))
theorem u1u {i j:It} (h:i.Le j):∀ s,le (g93 i std s) (g93 j std s):=fun _=>z0f (h _ _ _ _ _ (v2d h)) (fun _=>le_refl _)
theorem u1x {i j:It} (h:i.Le j):∀ s,le (g65 i std s) (g65 j std s):=fun _=>z0a (z0f (u1u h _) (fun _=>le_refl _))
theorem mg76 {i j:It} (h:i.Le j):∀ s,le (g76 i std s) (g76 j std s):=fun _=>z0f (le_refl _) (fun _=>z0f (le_refl _) (fun _=>z0o (le_refl _) (z0a (z0f (u1u h _) (fun _=>le_refl _)))))
theorem mg68 {i j:It} (h:i.Le j):∀ s,le (g68 i std s) (g68 j std s):=fun _=>z0f (le_refl _) (fun _=>z0o (le_refl _) (z0f (u1x h _) (fun _=>le_refl _)))
theorem u1w {i j:It} (h:i.Le j):∀ s,le (g78 i std s) (g78 j std s):=fun _=>z0a (z0f (h _ _ _ _ _ (fun _=>le_refl _)) (fun _=>le_refl _))
theorem mg92 {i j:It} (h:i.Le j):∀ s,le (g92 i std s) (g92 j std s):=fun _=>z0f (u1w h _) (fun _=>z0f (u1w h _) (fun _=>le_refl _))
theorem v2h {i j:It} (h:i.Le j):∀ s,le (x4g i std s) (x4g j std s):=fun _=>z1c (z0o (z0a (z0a (z0f (mg92 h _) (fun _=>le_refl _)))) (le_refl _))
theorem v2i {i j:It} (h:i.Le j):∀ s,le (y3p i std s) (y3p j std s):=fun _=>z1c (z0o (z0a (z0a (z0f (z1c (z0a (z0a (z0a (z0a (z0a (z06 (h _ _ _ _ _ (fun _=>le_refl _)) (fun _=>le_refl _) (fun _=>le_refl _)))))))) (fun _=>le_refl _)))) (le_refl _))
theorem v2j {i j:It} (h:i.Le j):∀ s,le (x4h i std s) (x4h j std s):=fun _=>z1c (z0o (z0a (z0a (z0a (z0a (z0f (h _ _ _ _ _ (fun _=>le_refl _)) (fun _=>le_refl _)))))) (le_refl _))
theorem v79 {i j:It} (h:i.Le j):∀ s,le (g63 i std s) (g63 j std s):=fun _=>z0f (h _ _ _ _ _ (v2j h)) (fun _=>z0a (z0a (z0a (z0a (z0a (z0f (h _ _ _ _ _ (v2i h)) (fun _=>z0a (z0a (z0f (h _ _ _ _ _ (v2h h)) (fun _=>le_refl _))))))))))
theorem w3y {i j:It} (h:i.Le j):∀ s,le (z7i i std s) (z7i j std s):=fun _=>z1c (z0o (z0a (z0a (z0a (z0a (z0f (mg87 h _) (fun _=>le_refl _)))))) (le_refl _))
theorem w3z {i j:It} (h:i.Le j):∀ s,le (z9k i std s) (z9k j std s):=fun _=>z1c (z0o (z0a (z0a (z0a (z0f (h _ _ _ _ _ (w3y h)) (fun _=>le_refl _))))) (le_refl _))
theorem v19 {i j:It} (h:i.Le j):∀ s,le (w0m i std s) (w0m j std s):=fun _=>z0a (z0a (z0a (z0f (h _ _ _ _ _ (w3z h)) (fun _=>le_refl _))))
theorem w31 {i j:It} (h:i.Le j):∀ s,le (y5p i std s) (y5p j std s):=fun _=>z1c (z0o (z0a (z0a (z0a (z0f (v19 h _) (fun _=>le_refl _))))) (le_refl _))
theorem v2b {i j:It} (h:i.Le j):∀ s,le (w0o i std s) (w0o j std s):=fun _=>z0a (z0a (z0a (z0f (h _ _ _ _ _ (w31 h)) (fun _=>le_refl _))))
theorem v17 {i j:It} (h:i.Le j):∀ s,le (w0k i std s) (w0k j std s):=fun _=>z0f (le_refl _) (fun _=>z0a (z0a (z0a (z0f (v2b h _) (fun _=>le_refl _)))))
theorem w3x {i j:It} (h:i.Le j):∀ s,le (z9j i std s) (z9j j std s):=fun _=>z1c (z0o (z0a (z0a (z0f (h _ _ _ _ _ (fun _=>le_refl _)) (fun _=>le_refl _)))) (le_refl _))
theorem v18 {i j:It} (h:i.Le j):∀ s,le (w0l i std s) (w0l j std s):=fun _=>z0a (z0a (z0f (h _ _ _ _ _ (w3x h)) (fun _=>le_refl _)))
theorem w30 {i j:It} (h:i.Le j):∀ s,le (y5o i std s) (y5o j std s):=fun _=>z1c (z0o (z0a (z0a (z0f (v18 h _) (fun _=>le_refl _)))) (le_refl _))
theorem v2a {i j:It} (h:i.Le j):∀ s,le (w0n i std s) (w0n j std s):=fun _=>z0a (z0a (z0f (h _ _ _ _ _ (w30 h)) (fun _=>le_refl _)))
theorem v16 {i j:It} (h:i.Le j):∀ s,le (x7t i std s) (x7t j std s):=fun _=>z0f (le_refl _) (fun _=>z0a (z0a (z0f (v2a h _) (fun _=>le_refl _))))
theorem v78 {i j:It} (h:i.Le j):∀ s,le (v30 i std s) (v30 j std s):=fun _=>w0b (v17 h _) (le_refl _)
theorem v75 {i j:It} (h:i.Le j):∀ s,le (v3z i std s) (v3z j std s):=fun _=>w0b (v16 h _) (le_refl _)
theorem v2e {i j:It} (h:i.Le j):∀ s,le (x8h i std s) (x8h j std s):=fun _=>z1c (z0o (z0a (z0a (z0f (h _ _ _ _ _ (fun _=>le_refl _)) (fun _=>le_refl _)))) (le_refl _))
theorem u1v {i j:It} (h:i.Le j):∀ s,le (g88 i std s) (g88 j std s):=fun _=>z0f (h _ _ _ _ _ (v2e h)) (fun _=>le_refl _)
theorem w8q {i j:It} (h:i.Le j):∀ s,le (y29 i std s) (y29 j std s):=fun _=>z1c (z0o (z0a (z0a (z0a (z0a (z0o (z0a (z0f (h _ _ _ _ _ (fun _=>le_refl _)) (fun _=>le_refl _))) (le_refl _)))))) (le_refl _))
theorem v8d {i j:It} (h:i.Le j):∀ s,le (w9j i std s) (w9j j std s):=fun _=>z0o (le_refl _) (z06 (h _ _ _ _ _ (w8q h)) (fun _=>le_refl _) (fun _=>le_refl _))
theorem mg86 {i j:It} (h:i.Le j):∀ s,le (g86 i std s) (g86 j std s):=fun _=>z0a (z0a (z0a (z0a (z0a (z0f (v78 h _) (fun _=>z0f (v8d h _) (fun _=>le_refl _)))))))
theorem mg89 {i j:It} (h:i.Le j):∀ s,le (g89 i std s) (g89 j std s):=fun _=>z0f (h _ _ _ _ _ (fun _=>le_refl _)) (fun _=>le_refl _)
theorem v05 {i j:It} (h:i.Le j):∀ s,le (g59 i std s) (g59 j std s):=fun _=>z0f (mg86 h _) (fun _=>z0o (le_refl _) (z0a (z0f (u1v h _) (fun _=>z0a (z0f (mg89 h _) (fun _=>z0a (z0f (u1v h _) (fun _=>le_refl _))))))))
theorem v2f {i j:It} (h:i.Le j):∀ s,le (x2l i std s) (x2l j std s):=fun _=>z1c (z0o (z0f (z1c (z0a (z0a (z0a (z0f (u1t h _) (fun _=>le_refl _)))))) (fun _=>le_refl _)) (le_refl _))
theorem v2g {i j:It} (h:i.Le j):∀ s,le (y3o i std s) (y3o j std s):=fun _=>z1c (z0o (z0a (z0a (z0f (z1c (z0a (z0a (z0a (z0a (z0a (z06 (h _ _ _ _ _ (fun _=>le_refl _)) (fun _=>le_refl _) (fun _=>le_refl _)))))))) (fun _=>le_refl _)))) (le_refl _))
theorem mg80 {i j:It} (h:i.Le j):∀ s,le (g80 i std s) (g80 j std s):=fun _=>z0a (z0a (z0a (z0f (h _ _ _ _ _ (v2g h)) (fun _=>z0a (z0a (z0f (v75 h _) (fun _=>z0a (z0a (z0a (z0f (u1t h _) (fun _=>z0a (z0a (z0a (z0a (z0a (z0f (h _ _ _ _ _ (v2f h)) (fun _=>le_refl _)))))))))))))))))
theorem v2o {i j:It} (h:i.Le j):∀ s,le (x4k i std s) (x4k j std s):=fun _=>z1c (z0o (z0a (z0a (z0f (v04 h _) (fun _=>z0f (v05 h _) (fun _=>z0f (mg80 h _) (fun _=>le_refl _)))))) (le_refl _))
theorem w8p {i j:It} (h:i.Le j):∀ s,le (g48 i std s) (g48 j std s):=fun _=>z0f (mg18 h _) (fun _=>z0o (le_refl _) (z0f (v04 h _) (fun _=>z0f (v05 h _) (fun _=>z0f (h _ _ _ _ _ (v2o h)) (fun _=>le_refl _)))))
theorem mg16 {i j:It} (h:i.Le j):∀ s,le (g16 i std s) (g16 j std s):=fun _=>z06 (w8p h _) (fun _=>le_refl _) (fun _=>z0f (le_refl _) (fun _=>z0o (le_refl _) (z0f (h _ _ _ _ _ (fun _=>le_refl _)) (fun _=>le_refl _))))
theorem v7c {i j:It} (h:i.Le j):∀ s,le (g62 i std s) (g62 j std s):=fun _=>z06 (w8p h _) (fun _=>z0o (le_refl _) (z06 (w8p h _) (fun _=>le_refl _) (fun _=>le_refl _))) (fun _=>z0f (le_refl _) (fun _=>z0o (le_refl _) (z06 (w8p h _) (fun _=>le_refl _) (fun _=>le_refl _))))
theorem mg21 {i j:It} (h:i.Le j):∀ s,le (g21 i std s) (g21 j std s):=fun _=>z06 (w8p h _) (fun _=>z0o (le_refl _) (z0a (z0f (v06 h _) (fun _=>le_refl _)))) (fun _=>z0f (le_refl _) (fun _=>z0o (le_refl _) (z0a (z0f (v06 h _) (fun _=>z0o (le_refl _) (z0f (v7d h _) (fun _=>le_refl _)))))))
theorem v21 {i j:It} (h:i.Le j):∀ s,le (v0m i std s) (v0m j std s):=fun _=>z1c (z0o (z0a (z0a (z0f (v7d h _) (fun _=>le_refl _)))) (le_refl _))
theorem v23 {i j:It} (h:i.Le j):∀ s,le (v0n i std s) (v0n j std s):=fun _=>z1c (z0o (z0a (z0a (z0f (v7d h _) (fun _=>le_refl _)))) (le_refl _))
theorem mg23 {i j:It} (h:i.Le j):∀ s,le (g23 i std s) (g23 j std s):=fun _=>z06 (w8p h _) (fun _=>z06 (z1c (z0o (le_refl _) (z0f (le_refl _) (fun _=>z06 (z1c (z0o (le_refl _) (z0f (v06 h _) (fun _=>le_refl _)))) (fun _=>le_refl _) (fun _=>le_refl _))))) (fun _=>le_refl _) (fun _=>z06 (le_refl _) (fun _=>z0f (v04 h _) (fun _=>z0f (v05 h _) (fun _=>le_refl _))) (fun _=>z0f (le_refl _) (fun _=>z0f (v04 h _) (fun _=>z0f (v05 h _) (fun _=>z06 (h _ _ _ _ _ (v23 h)) (fun _=>le_refl _) (fun _=>le_refl _))))))) (fun _=>z0f (le_refl _) (fun _=>z06 (z1c (z0o (le_refl _) (z0f (le_refl _) (fun _=>z06 (z1c (z0o (le_refl _) (z0f (v06 h _) (fun _=>le_refl _)))) (fun _=>le_refl _) (fun _=>le_refl _))))) (fun _=>le_refl _) (fun _=>z06 (le_refl _) (fun _=>z0f (v04 h _) (fun _=>z0f (v05 h _) (fun _=>le_refl _))) (fun _=>z0f (le_refl _) (fun _=>z0f (v04 h _) (fun _=>z0f (v05 h _) (fun _=>z06 (h _ _ _ _ _ (v21 h)) (fun _=>le_refl _) (fun _=>le_refl _))))))))
theorem u2b {i j:It} (h:i.Le j):∀ s,le (g32 i std s) (g32 j std s):=fun _=>z06 (v7c h _) (fun _=>le_refl _) (fun _=>z06 (le_refl _) (fun _=>le_refl _) (fun _=>z06 (le_refl _) (fun _=>le_refl _) (fun _=>z0f (le_refl _) (fun _=>z0o (le_refl _) (z0f (v79 h _) (fun _=>le_refl _))))))
theorem v2t {i j:It} (h:i.Le j):∀ s,le (v0i i std s) (v0i j std s):=fun _=>z1c (z0o (z0a (z0a (z06 (h _ _ _ _ _ (fun _=>le_refl _)) (fun _=>le_refl _) (fun _=>le_refl _)))) (le_refl _))
theorem v2u {i j:It} (h:i.Le j):∀ s,le (v0j i std s) (v0j j std s):=fun _=>z1c (z0o (z0a (z0a (z0f (v79 h _) (fun _=>le_refl _)))) (le_refl _))
theorem v2v {i j:It} (h:i.Le j):∀ s,le (v0k i std s) (v0k j std s):=fun _=>z1c (z0o (z0a (z0a (z0a (z0a (z0a (z0a (z0a (z0f (h _ _ _ _ _ (v2u h)) (fun _=>le_refl _))))))))) (le_refl _))
theorem v2w {i j:It} (h:i.Le j):∀ s,le (v0l i std s) (v0l j std s):=fun _=>z1c (z0o (z06 (z1c (z0a (z0a (z06 (w8p h _) (fun _=>le_refl _) (fun _=>le_refl _))))) (fun _=>le_refl _) (fun _=>le_refl _)) (le_refl _))
theorem mg27 {i j:It} (h:i.Le j):∀ s,le (g27 i std s) (g27 j std s):=fun _=>z0o (le_refl _) (z06 (h _ _ _ _ _ (v2w h)) (fun _=>le_refl _) (fun _=>z0f (le_refl _) (fun _=>z0a (z0a (z0a (z0a (z0f (h _ _ _ _ _ (v2v h)) (fun _=>z0a (z0a (z06 (h _ _ _ _ _ (v2t h)) (fun _=>le_refl _) (fun _=>le_refl _)))))))))))
theorem w8o {i j:It} (h:i.Le j):∀ s,le (v08 i std s) (v08 j std s):=fun _=>z0a (z0f (h _ _ _ _ _ (fun _=>le_refl _)) (fun _=>le_refl _))
theorem u2a {i j:It} (h:i.Le j):∀ s,le (g39 i std s) (g39 j std s):=fun _=>z06 (v7c h _) (fun _=>le_refl _) (fun _=>z06 (le_refl _) (fun _=>le_refl _) (fun _=>z06 (le_refl _) (fun _=>z06 (z1c (z0o (le_refl _) (z0o (le_refl _) (z0f (le_refl _) (fun _=>z0f (le_refl _) (fun _=>z0o (le_refl _) (z0f (le_refl _) (fun _=>z0o (le_refl _) (z0o (le_refl _) (z06 (z1c (z0o (le_refl _) (z0f (w8o h _) (fun _=>le_refl _)))) (fun _=>le_refl _) (fun _=>le_refl _))))))))))) (fun _=>le_refl _) (fun _=>le_refl _)) (fun _=>z0f (le_refl _) (fun _=>z06 (z1c (z0o (le_refl _) (z0o (le_refl _) (z0f (le_refl _) (fun _=>z0f (le_refl _) (fun _=>z0o (le_refl _) (z0f (le_refl _) (fun _=>z0o (le_refl _) (z0o (le_refl _) (z06 (z1c (z0o (le_refl _) (z0f (w8o h _) (fun _=>z0o (le_refl _) (z0f (w8o h _) (fun _=>le_refl _)))))) (fun _=>le_refl _) (fun _=>le_refl _))))))))))) (fun _=>le_refl _) (fun _=>le_refl _)))))
theorem v2p {i j:It} (h:i.Le j):∀ s,le (v0e i std s) (v0e j std s):=fun _=>z1c (z0o (z0a (z0a (z0a (z0a (z0a (z0o (le_refl _) (z0f (mg76 h _) (fun _=>le_refl _)))))))) (le_refl _))
theorem v2q {i j:It} (h:i.Le j):∀ s,le (v0f i std s) (v0f j std s):=fun _=>z1c (z0o (z0a (z0a (z0a (z0a (z0a (z0o (le_refl _) (z06 (z1c (z06 (h _ _ _ _ _ (v2p h)) (fun _=>le_refl _) (fun _=>le_refl _))) (fun _=>le_refl _) (fun _=>le_refl _)))))))) (le_refl _))
theorem v2r {i j:It} (h:i.Le j):∀ s,le (v0g i std s) (v0g j std s):=fun _=>z1c (z0o (z0a (z0a (z0f (v7d h _) (fun _=>le_refl _)))) (le_refl _))
theorem v2s {i j:It} (h:i.Le j):∀ s,le (v0h i std s) (v0h j std s):=fun _=>z1c (z0o (z0f (le_refl _) (fun _=>z06 (h _ _ _ _ _ (v2r h)) (fun _=>le_refl _) (fun _=>le_refl _))) (le_refl _))
theorem mg37 {i j:It} (h:i.Le j):∀ s,le (g37 i std s) (g37 j std s):=fun _=>z06 (v7c h _) (fun _=>le_refl _) (fun _=>z06 (le_refl _) (fun _=>le_refl _) (fun _=>z06 (le_refl _) (fun _=>le_refl _) (fun _=>z0f (le_refl _) (fun _=>z0o (le_refl _) (z06 (h _ _ _ _ _ (v2s h)) (fun _=>le_refl _) (fun _=>z0f (le_refl _) (fun _=>z06 (z1c (z06 (h _ _ _ _ _ (v2q h)) (fun _=>le_refl _) (fun _=>le_refl _))) (fun _=>le_refl _) (fun _=>le_refl _))))))))
theorem mg69 {i j:It} (h:i.Le j):∀ s,le (g69 i std s) (g69 j std s):=fun _=>z0o (le_refl _) (z0a (z0a (z0f (h _ _ _ _ _ (fun _=>le_refl _)) (fun _=>le_refl _))))
theorem v2x {i j:It} (h:i.Le j):∀ s,le (y6c i std s) (y6c j std s):=fun _=>z1c (z0o (z0a (z0a (z0a (z0a (z0a (z0o (le_refl _) (z0f (mg68 h _) (fun _=>le_refl _)))))))) (le_refl _))
theorem v2y {i j:It} (h:i.Le j):∀ s,le (x4l i std s) (x4l j std s):=fun _=>z1c (z0o (z0a (z0a (z0f (u1x h _) (fun _=>le_refl _)))) (le_refl _))
theorem v2z {i j:It} (h:i.Le j):∀ s,le (x2n i std s) (x2n j std s):=fun _=>z1c (z0o (z0a (z0a (z0f (h _ _ _ _ _ (v2y h)) (fun _=>z0f (z1c (z06 (h _ _ _ _ _ (v2x h)) (fun _=>le_refl _) (fun _=>le_refl _))) (fun _=>le_refl _))))) (le_refl _))
theorem v20 {i j:It} (h:i.Le j):∀ s,le (y6d i std s) (y6d j std s):=fun _=>z1c (z0o (z0f (le_refl _) (fun _=>z0f (h _ _ _ _ _ (v2z h)) (fun _=>le_refl _))) (le_refl _))
theorem mg25 {i j:It} (h:i.Le j):∀ s,le (g25 i std s) (g25 j std s):=fun _=>z06 (v7c h _) (fun _=>le_refl _) (fun _=>z06 (le_refl _) (fun _=>le_refl _) (fun _=>z06 (le_refl _) (fun _=>le_refl _) (fun _=>z0f (le_refl _) (fun _=>z0o (le_refl _) (z0f (v79 h _) (fun _=>z0o (le_refl _) (z0a (z0f (h _ _ _ _ _ (v20 h)) (fun _=>z0f (mg69 h _) (fun _=>le_refl _))))))))))
theorem u1y {i j:It} (h:i.Le j):∀ s,le (g56 i std s) (g56 j std s):=fun _=>z06 (h _ _ _ _ _ (fun _=>le_refl _)) (fun _=>le_refl _) (fun _=>le_refl _)
theorem v2k {i j:It} (h:i.Le j):∀ s,le (x4i i std s) (x4i j std s):=fun _=>z1c (z0a (z0a (z0f (h _ _ _ _ _ (fun _=>le_refl _)) (fun _=>le_refl _))))
theorem v8a {i j:It} (h:i.Le j):∀ s,le (g61 i std s) (g61 j std s):=fun _=>z0a (z0f (h _ _ _ _ _ (fun _=>le_refl _)) (fun _=>z0a (z0f (h _ _ _ _ _ (v2k h)) (fun _=>le_refl _))))
theorem v24 {i j:It} (h:i.Le j):∀ s,le (x8j i std s) (x8j j std s):=fun _=>z1c (z0o (z0a (z0a (z0f (u1y h _) (fun _=>le_refl _)))) (le_refl _))
theorem v8b {i j:It} (h:i.Le j):∀ s,le (g19 i std s) (g19 j std s):=fun _=>z0f (le_refl _) (fun _=>z0o (le_refl _) (z06 (h _ _ _ _ _ (fun _=>le_refl _)) (fun _=>le_refl _) (fun _=>z0f (le_refl _) (fun _=>z0f (u1y h _) (fun _=>z0o (le_refl _) (z06 (h _ _ _ _ _ (v24 h)) (fun _=>le_refl _) (fun _=>le_refl _)))))))
theorem u1z {i j:It} (h:i.Le j):∀ s,le (g43 i std s) (g43 j std s):=fun _=>z06 (h _ _ _ _ _ (fun _=>le_refl _)) (fun _=>le_refl _) (fun _=>le_refl _)
theorem v2l {i j:It} (h:i.Le j):∀ s,le (x4j i std s) (x4j j std s):=fun _=>z1c (z0o (z0a (z0a (z0a (z0a (z0a (z0f (h _ _ _ _ _ (fun _=>le_refl _)) (fun _=>le_refl _))))))) (le_refl _))
theorem v2m {i j:It} (h:i.Le j):∀ s,le (x2m i std s) (x2m j std s):=fun _=>z1c (z0o (z0a (z0a (z0a (z0f (h _ _ _ _ _ (v2l h)) (fun _=>le_refl _))))) (le_refl _))
theorem v2n {i j:It} (h:i.Le j):∀ s,le (x8i i std s) (x8i j std s):=fun _=>z1c (z0o (z0a (z0a (z0f (v8a h _) (fun _=>z0a (z0a (z0a (z0f (h _ _ _ _ _ (v2m h)) (fun _=>z0f (v8a h _) (fun _=>le_refl _))))))))) (le_refl _))
theorem v7e {i j:It} (h:i.Le j):∀ s,le (g49 i std s) (g49 j std s):=fun _=>z0f (v8a h _) (fun _=>z0f (h _ _ _ _ _ (v2n h)) (fun _=>le_refl _))
theorem v7b {i j:It} (h:i.Le j):∀ s,le (g72 i std s) (g72 j std s):=fun _=>z0f (v8b h _) (fun _=>z0o (z0f (v8b h _) (fun _=>le_refl _)) (z0f (v8b h _) (fun _=>le_refl _)))
theorem mg36 {i j:It} (h:i.Le j):∀ s,le (g36 i std s) (g36 j std s):=fun _=>z0f (v7b h _) (fun _=>z0o (z0f (v7b h _) (fun _=>le_refl _)) (z0f (le_refl _) (fun _=>z0o (le_refl _) (z0f (v7e h _) (fun _=>z0f (v7e h _) (fun _=>z06 (h _ _ _ _ _ (fun _=>le_refl _)) (fun _=>le_refl _) (fun _=>z0f (le_refl _) (fun _=>z06 (h _ _ _ _ _ (fun _=>le_refl _)) (fun _=>le_refl _) (fun _=>le_refl _)))))))))
theorem mg38 {i j:It} (h:i.Le j):∀ s,le (g38 i std s) (g38 j std s):=fun _=>z0f (v7b h _) (fun _=>z0o (z0f (v7b h _) (fun _=>le_refl _)) (z0f (le_refl _) (fun _=>z0o (le_refl _) (z0f (v7e h _) (fun _=>z0f (u1z h _) (fun _=>z0o (le_refl _) (z0f (v7e h _) (fun _=>z0f (u1z h _) (fun _=>le_refl _)))))))))
theorem mg15 {i j:It} (h:i.Le j):∀ s,le (g15 i std s) (g15 j std s):=fun _=>z0a (z0a (z0a (z0a (z0a (z0a (z0a (z0a (z0a (z0a (z0a (z0a (z0a (z0a (z0a (z0a (z0f (mg16 h _) (fun _=>z0a (z0a (z0f (mg21 h _) (fun _=>z0a (z0f (mg23 h _) (fun _=>z0a (z0f (u2a h _) (fun _=>z0a (z0f (u2a h _) (fun _=>z0a (z0f (u2b h _) (fun _=>z0a (z0f (u2b h _) (fun _=>z0a (z0f (mg37 h _) (fun _=>z0a (z0f (mg25 h _) (fun _=>z0a (z0f (mg27 h _) (fun _=>z0f (le_refl _) (fun _=>z0o (le_refl _) (z0a (z0f (mg20 h _) (fun _=>z0o (z0o (z0o (z0a (z0f (mg36 h _) (fun _=>z0o (z0a (z0f (mg38 h _) (fun _=>le_refl _))) (le_refl _)))) (le_refl _)) (le_refl _)) (le_refl _)))))))))))))))))))))))))))))))))))))))))
end Go.Am
end
section
namespace Go.Am
theorem v31:g15 (itN 200) std ()=some (true,()):=by kernel_rfl
theorem y0h:G15 std ()=some (true,()):=mg15 (v3s 200) () _ v31
end Go.Am
end
section
namespace Go.Am
open M06
def w4m (l:List Pt) (hs:List (List Pt)):Prop:=¬ y0f l hs∧z80 l hs=0
instance (l:List Pt) (hs:List (List Pt)):Decidable (w4m l hs):=by unfold w4m; infer_instance
theorem w03 {l:List Pt} {hs:List (List Pt)}:w4m l hs↔z49 l hs:=by
 unfold w4m
 rw [z3p]
 refine ⟨fun h=>h.2,fun h=>⟨?_,h⟩⟩
 rintro (k|k|⟨x,hx,k⟩)
 ·have:=h.many.2; omega
 ·have:=h.few; omega
 ·have:=(h.manyH x hx).2; omega
instance (l:List Pt) (hs:List (List Pt)):Decidable (z49 l hs):=decidable_of_iff _ w03
theorem w04 {α:Type} {l:List α} {P:α→Bool} {d:α}:∀ {i:Nat},i<l.length→P (l.getD i d)=true→(∀ j,j<i→P (l.getD j d)=false)→l.find? P=some (l.getD i d):=by
 induction l with
 |nil=>intro i hi; simp at hi
 |cons a l ih=>
  intro i hi h hm
  cases i with
  |zero=>
   have h:P a=true:=by simpa using h
   rw [List.find?_cons_of_pos h]; simp
  |succ i=>
   have h0:P a=false:=by simpa using hm 0 (by omega)
   rw [List.find?_cons_of_neg (by rw [h0]; simp)]
   have:=ih (i:=i) (by simpa using hi) (by simpa using h) (fun j hj=>by simpa using hm (j+1) (by omega))
   simpa using this
theorem w05 {α:Type} {l:List α} {P:α→Bool} {d:α} (h:∀ i,i<l.length→P (l.getD i d)=false):l.find? P=none:=by
 rw [List.find?_eq_none]
 intro x hx
 obtain ⟨i,hi⟩:=List.getElem?_of_mem hx
 have:=h i (List.getElem?_eq_some_iff.1 hi).1
 rw [z6k hi] at this
 rw [this]; simp
theorem w51 {l:List Pt} {hs:List (List Pt)} (h:z80 l hs≠0) (m:List Pt) (ks:List (List Pt)):G62 std (z0d l,z1s hs,z0d m,z1s ks,())=some (.inl (z80 l hs,())):=by
 unfold G62
 have h48:g48 it0 std (z0d l,z1s hs,())=_:=w2q h
 simp only [g62,z0u,z0v,h48,h,not_false_eq_true]
theorem w50 {l:List Pt} {hs:List (List Pt)} (hf:z49 l hs) {m:List Pt} {ks:List (List Pt)} (h:z80 m ks≠0):
  G62 std (z0d l,z1s hs,z0d m,z1s ks,())=some (.inr (.inr (.inl (z0d l,z1s hs,z0d (z1g (z1i l hs)),z80 m ks,())))):=by
 unfold G62
 have h48:g48 it0 std (z0d l,z1s hs,())=_:=w2p hf
 have h48':g48 it0 std (z0d m,z1s ks,())=_:=w2q h
 simp only [g62,z0u,z0v,h48,h48',not_true]
theorem w2n {l:List Pt} {hs:List (List Pt)} (hf:z49 l hs) {m:List Pt} {ks:List (List Pt)} (hk:z49 m ks):
  G62 std (z0d l,z1s hs,z0d m,z1s ks,())=some (.inr (.inr (.inr (z0d l,z1s hs,z0d (z1g (z1i l hs)),z0d m,z1s ks,z0d (z1g (z1i m ks)),0,())))):=by
 unfold G62
 have h48:g48 it0 std (z0d l,z1s hs,())=_:=w2p hf
 have h48':g48 it0 std (z0d m,z1s ks,())=_:=w2p hk
 simp only [g62,z0u,z0v,h48,h48',not_true]
instance (p:Pt):Decidable (Big p):=by unfold Big; infer_instance
theorem z49.cbox' {l:List Pt} {hs:List (List Pt)} (h:z49 l hs):∀ p∈z1g (z1i l hs),z0m (-10000) 10000 p:=fun p hp=>by
 obtain ⟨h1,h2,h3,h4⟩:=h.cbox p hp
 exact ⟨by omega,by omega,by omega,by omega⟩
end Go.Am
end
section
namespace M06
def dif (a b:List Pt):List Pt:=a.flatMap fun p=>b.map fun q=>sb p q
theorem z13 {a b:List Pt} {z:Pt}:z∈dif a b↔∃ p∈a,∃ q∈b,z=sb p q:=by
 simp only [dif,List.mem_flatMap,List.mem_map]
 exact ⟨fun ⟨x,hx,y,hy,e⟩=>⟨x,hx,y,hy,e.symm⟩,fun ⟨x,hx,y,hy,e⟩=>⟨x,hx,y,hy,e.symm⟩⟩
theorem w41 (a b:List Pt):∀ z,z∈dif a b↔∃ x∈a,∃ y∈b.map ng,z=ad x y:=by
 intro z
 rw [z13]
 constructor
 ·rintro ⟨p,hp,q,hq,rfl⟩
  exact ⟨p,hp,ng q,List.mem_map.2 ⟨q,hq,rfl⟩,by simp only [sb,ad,ng]; exact Prod.ext (by simp; omega) (by simp; omega)⟩
 ·rintro ⟨p,hp,y,hy,rfl⟩
  obtain ⟨q,hq,rfl⟩:=List.mem_map.1 hy
  exact ⟨p,hp,q,hq,by simp only [sb,ad,ng]; exact Prod.ext (by simp; omega) (by simp; omega)⟩
def y04 (a b:List Pt) (w:Pt):Prop:=∀ p∈a,∀ q∈b,dt w p<dt w q
def z5b (a b:List Pt):List Pt:=(a.flatMap fun p=>b.map fun q=>sb q p)++(wy a++wy b).flatMap fun w=>[(w.2, -w.1),(-w.2,w.1)]
theorem x1a {a b:List Pt} {w:Pt} (h:y04 a b w):¬ InH (dif a b) (0,0) 1:=by
 intro hi
 obtain ⟨x,hx,h0⟩:=hi (-w.2,w.1)
 obtain ⟨p,hp,q,hq,rfl⟩:=z13.1 hx
 have:=h p hp q hq
 have e:crs (-w.2,w.1) (sb (0,0) (ml (sb p q) 1))=dt w q - dt w p→True:=fun _=>trivial
 have e2:crs (w.2, -w.1) (sb (0,0) (ml (sb p q) 1))=dt w q - dt w p:=by simp only [crs,dt,sb,ml]; grind
 have e3:crs (-w.2,w.1) (sb (0,0) (ml (sb p q) 1))= - (dt w q - dt w p):=by simp only [crs,dt,sb,ml]; grind
 rw [e3] at h0
 omega
theorem w9s {S:List Pt} {d a b:Pt} (h:y17 S (ng d) a b):y17 (S.map ng) d (ng a) (ng b):=by
 have e1:∀ u v:Pt,crs d (sb (ng u) (ng v))=crs (ng d) (sb u v):=by intros; simp only [crs,sb,ng]; grind
 have e2:∀ u v:Pt,dt d (sb (ng u) (ng v))=dt (ng d) (sb u v):=by intros; simp only [dt,sb,ng]; grind
 refine ⟨List.mem_map.2 ⟨a,h.ina,rfl⟩,List.mem_map.2 ⟨b,h.inb,rfl⟩,by rw [e1]; exact h.par,fun x hx=>?_,fun x hx h0=>?_⟩
 ·obtain ⟨y,hy,rfl⟩:=List.mem_map.1 hx
  rw [e1]; exact h.left y hy
 ·obtain ⟨y,hy,rfl⟩:=List.mem_map.1 hx
  rw [e1] at h0
  rw [e2,e2]; exact h.on y hy h0
theorem x4v {d:Pt} {l:List Pt} (h:z81 d l≠(0,0)):∃ w∈l,z6r d w:=by
 refine Classical.byContradiction fun hn=>h ?_
 exact x0j fun x hx hs=>hn ⟨x,hx,hs⟩
theorem y20 {u v x:Pt} (h:z6r u v):0<crs u x↔0<crs v x:=by
 have hm:=(h.mul x).1
 have a:=z0x h.ne
 have b:=h.2
 constructor
 ·intro k
  have:=Int.mul_pos b k
  refine Classical.byContradiction fun hc=>?_
  have:=Int.mul_nonneg (Int.le_of_lt a) (show 0≤ - crs v x by omega)
  rw [Int.mul_neg] at this; omega
 ·intro k
  have:=Int.mul_pos a k
  refine Classical.byContradiction fun hc=>?_
  have:=Int.mul_nonneg (Int.le_of_lt b) (show 0≤ - crs u x by omega)
  rw [Int.mul_neg] at this; omega
theorem w8g {d:Pt} (h:d≠(0,0)):ng d≠(0,0):=by
 intro e
 apply h
 rw [←x1j d,e]; rfl
theorem x1g {a b:List Pt} (ha:Cyc a a) (hb:Cyc b b) (h:¬ InH (dif a b) (0,0) 1):∃ w∈z5b a b,y04 a b w:=by
 obtain ⟨p0,hp0⟩:∃ p,p∈a:=by
  match a,ha with
  |p::r,_=>exact ⟨p,by simp⟩
 obtain ⟨q0,hq0⟩:∃ q,q∈b:=by
  match b,hb with
  |q::r,_=>exact ⟨q,by simp⟩
 have hne:dif a b≠[]:=by
  intro e
  have:=z13.2 ⟨p0,hp0,q0,hq0,rfl⟩
  rw [e] at this; simp at this
 have hD:=z2f hne
 have hin:¬ inC (z1g (dif a b)) (0,0) 1=true:=fun hi=>h ((z47 hD (by omega)).2 ((z9a hD (by omega)).1 hi))
 have hDm:=z4z hD
 generalize z1g (dif a b)=D at hD hin hDm
 have first:∀ p∈a,∀ q∈b,sb q p∈z5b a b:=fun p hp q hq=>List.mem_append_left _ (List.mem_flatMap.2 ⟨p,hp,List.mem_map.2 ⟨q,hq,rfl⟩⟩)
 have hDn:1≤D.length:=by
  match D,hD with
  |x::r,_=>simp
 unfold inC at hin
 by_cases h1:D.length=1
 ·rw [if_pos h1] at hin
  obtain ⟨x,rfl,_,hall⟩:=y2r hD (by omega)
  have hx:x≠(0,0):=by
   intro e; apply hin; subst e; rfl
  have hx0:=hall _ (z13.2 ⟨p0,hp0,q0,hq0,rfl⟩)
  refine ⟨sb q0 p0,first p0 hp0 q0 hq0,fun p hp q hq=>?_⟩
  have hx1:=hall _ (z13.2 ⟨p,hp,q,hq,rfl⟩)
  have hpos:=z0x hx
  have e:dt (sb q0 p0) q - dt (sb q0 p0) p=dt (sb p0 q0) (sb p q):=by simp only [dt,sb]; grind
  rw [hx0,hx1] at e
  omega
 ·rw [if_neg h1] at hin
  have h2:2≤D.length:=by omega
  by_cases hex:∃ x y,x∈dif a b∧Nx (dif a b) x y∧crs (sb y x) (sb (0,0) (ml x 1))<0
  ·obtain ⟨x,y,hxm,hn,hc⟩:=hex
   have he:sb y x≠(0,0):=fun e=>hn.2.1 (z1a.1 e).symm
   have hface:=y8m hxm hn
   have hcx:0<crs (sb y x) x:=by
    have:crs (sb y x) (sb (0,0) (ml x 1))= - crs (sb y x) x:=by simp only [crs,sb,ml]; grind
    omega
   have hall:∀ p∈a,∀ q∈b,0<crs (sb y x) (sb p q):=by
    intro p hp q hq
    have:=hface.left _ (z13.2 ⟨p,hp,q,hq,rfl⟩)
    have e:crs (sb y x) (sb (sb p q) x)=crs (sb y x) (sb p q) - crs (sb y x) x:=by rw [z6o]
    omega
   have f1:=z64 ha he
   have f2:=w9s (z64 hb (w8g he))
   have fs:=f1.sum (w41 a b) f2
   obtain ⟨u1,u2⟩:=hface.unique he fs
   have hor:z81 (sb y x) (wy a)≠(0,0)∨z81 (ng (sb y x)) (wy b)≠(0,0):=by
    refine Classical.byContradiction fun hno=>hn.2.1 ?_
    simp only [not_or,Classical.not_not] at hno
    rw [hno.1,hno.2,z1n,z1n] at u2
    exact u1.trans u2.symm
   rcases hor with hor|hor
   ·obtain ⟨w,hw,hsw⟩:=x4v hor
    refine ⟨(w.2, -w.1),List.mem_append_right _ (List.mem_flatMap.2 ⟨w,List.mem_append_left _ hw,by simp⟩),fun p hp q hq=>?_⟩
    have:=(y20 hsw).1 (hall p hp q hq)
    have e:dt (w.2, -w.1) q - dt (w.2, -w.1) p=crs w (sb p q):=by simp only [dt,crs,sb]; grind
    omega
   ·obtain ⟨w,hw,hsw⟩:=x4v hor
    refine ⟨(-w.2,w.1),List.mem_append_right _ (List.mem_flatMap.2 ⟨w,List.mem_append_right _ hw,by simp⟩),fun p hp q hq=>?_⟩
    have h3:=hall p hp q hq
    have h4:=(y20 (x:=ng (sb p q)) hsw).1 (by rw [crs_ng]; exact h3)
    have e:dt (-w.2,w.1) q - dt (-w.2,w.1) p=crs w (ng (sb p q)):=by simp only [dt,crs,sb,ng]; grind
    omega
  ·have hno:∀ {x y:Pt},x∈dif a b→Nx (dif a b) x y→0≤crs (sb y x) (sb (0,0) (ml x 1)):=fun {x y} h1 h2=>by
    refine Classical.byContradiction fun hc=>hex ⟨x,y,h1,h2,by omega⟩
   rw [List.all_eq_true] at hin
   have:∃ i,i<D.length∧¬ x40 D.length (D.getD i (0,0)) (D.getD ((i+1) % D.length) (0,0)) (0,0) 1=true:=by
    refine Classical.byContradiction fun hn=>hin fun i hi=>Classical.byContradiction fun hc=>hn ⟨i,List.mem_range.1 hi,hc⟩
   obtain ⟨i,hi,hs⟩:=this
   obtain ⟨x,hx⟩:∃ x,D[i]?=some x:=⟨_,List.getElem?_eq_getElem hi⟩
   obtain ⟨y,hy⟩:∃ y,D[(i+1) % D.length]?=some y:=⟨_,List.getElem?_eq_getElem (Nat.mod_lt _ (by omega))⟩
   rw [getD_some hx,getD_some hy,z7o] at hs
   have hn:=z7h hD h2 hx hy
   have hxm:=hDm x (List.mem_of_getElem? hx)
   have hym:=hDm y (List.mem_of_getElem? hy)
   have he:sb y x≠(0,0):=fun e=>hn.2.1 (z1a.1 e).symm
   have hface:=y8m hxm hn
   have hc:=hno hxm hn
   have hz:D.length=2∧dt (sb y x) (sb (0,0) (ml x 1))<0:=by
    refine Classical.byContradiction fun hno=>hs ⟨by omega,fun hl=>?_⟩
    refine Classical.byContradiction fun hd=>hno ⟨hl,by omega⟩
   obtain ⟨hl2,hd⟩:=hz
   have hn2:Nx (dif a b) y x:=by
    match D,hl2,hD,hx,hy with
    |[u,v],_,hD,hx,hy=>
     have g1:=z7h hD (by simp) (i:=0) (a:=u) (b:=v) rfl rfl
     have g2:=z7h hD (by simp) (i:=1) (a:=v) (b:=u) rfl (by simp)
     have hi2:i<2:=by simpa using hi
     have:i=0∨i=1:=by omega
     rcases this with rfl|rfl
     ·simp at hx hy; subst hx; subst hy; exact g2
     ·simp at hx hy; subst hx; subst hy; exact g1
   have hc2:=hno hym hn2
   have hc0:crs (sb y x) (sb (0,0) (ml x 1))=0:=by
    have e:crs (sb x y) (sb (0,0) (ml y 1))= - crs (sb y x) (sb (0,0) (ml x 1)):=by simp only [crs,sb,ml]; grind
    omega
   have e1:crs (sb y x) (sb (0,0) (ml x 1))= - crs (sb y x) x:=by simp only [crs,sb,ml]; grind
   have e2:dt (sb y x) (sb (0,0) (ml x 1))= - dt (sb y x) x:=by simp only [dt,sb,ml]; grind
   have hsame:z6r (sb y x) x:=⟨by omega,by omega⟩
   obtain ⟨p1,hp1,q1,hq1,hx1⟩:=z13.1 hxm
   refine ⟨sb q1 p1,first p1 hp1 q1 hq1,fun p hp q hq=>?_⟩
   have hline:∀ z∈dif a b,crs (sb y x) (sb z x)=0:=by
    intro z hz
    have c1:=hface.left z hz
    have c2:=(hn2.2.2 z hz).1
    have e:cr y x z= - crs (sb y x) (sb z x):=by simp only [cr,crs,sb]; grind
    omega
   have hz:=z13.2 ⟨p,hp,q,hq,rfl⟩
   have on:=(hface.on _ hz (hline _ hz)).1
   have e3:dt (sb y x) (sb (sb p q) x)=dt (sb y x) (sb p q) - dt (sb y x) x:=by rw [z8r]
   have hpos:0<dt (sb y x) (sb p q):=by omega
   have hm:=(hsame.mul (sb p q)).2
   have hpos2:0<dt x (sb p q):=by
    have a1:=Int.mul_pos hsame.2 hpos
    refine Classical.byContradiction fun hc=>?_
    have:=Int.mul_nonneg (Int.le_of_lt (z0x he)) (show 0≤ - dt x (sb p q) by omega)
    rw [Int.mul_neg] at this; omega
   have e4:dt (sb q1 p1) q - dt (sb q1 p1) p=dt (sb p1 q1) (sb p q):=by simp only [dt,sb]; grind
   rw [←hx1] at e4
   omega
theorem w7z {a b:List Pt} (ha:Cyc a a) (hb:Cyc b b):(∃ w∈z5b a b,y04 a b w)↔¬ InH (dif a b) (0,0) 1:=
 ⟨fun ⟨_,_,h⟩=>x1a h,x1g ha hb⟩
end M06
end
section
namespace M06
theorem y8w {S c:List Pt} (hc:Cyc S c) {x y:Pt} {k m α β:Int} (hx:InH c x k) (hy:InH c y m) (hk:0≤k) (hm:0≤m) (ha:0≤α) (hb:0≤β):InH c (ad (ml x α) (ml y β)) (α*k+β*m):=by
 intro d
 obtain ⟨a,h1,h2⟩:=x4b (z1w hc) d
 refine ⟨a,h1,?_⟩
 obtain ⟨u,u1,u2⟩:=hx d
 obtain ⟨v,v1,v2⟩:=hy d
 have p1:0≤crs d (sb x (ml a k)):=by
  rw [x9h x u a k d]
  have:=Int.mul_nonneg hk (h2 u u1)
  omega
 have p2:0≤crs d (sb y (ml a m)):=by
  rw [x9h y v a m d]
  have:=Int.mul_nonneg hm (h2 v v1)
  omega
 have e:crs d (sb (ad (ml x α) (ml y β)) (ml a (α*k+β*m)))=α*crs d (sb x (ml a k))+β*crs d (sb y (ml a m)):=by simp only [crs,sb,ml,ad]; grind
 rw [e]
 have:=Int.mul_nonneg ha p1
 have:=Int.mul_nonneg hb p2
 omega
theorem x1l (x:Pt):ml x 1=x:=by simp [ml]
theorem x1r {S c:List Pt} (hc:Cyc S c) {u v w:Pt} (hu:u∈c) (hv:v∈c) (hw:w∈c) {α β γ:Int} (ha:0≤α) (hb:0≤β) (hg:0≤γ):
  InH c (ad (ad (ml u α) (ml v β)) (ml w γ)) (α+β+γ):=by
 have h1:=y8w hc (InH.point' hu) (InH.point' hv) (by omega) (by omega) ha hb
 have h2:=y8w hc h1 (InH.point' hw) (k:=α*1+β*1) (m:=1) (by omega) (by omega) (show (0:Int)≤1 by omega) hg
 rw [x1l] at h2
 have e:1*(α*1+β*1)+γ*1=α+β+γ:=by omega
 rw [e] at h2
 exact h2
where
 InH.point' {S:List Pt} {p:Pt} (h:p∈S):InH S p 1:=fun d=>⟨p,h,by simp [crs,sb,ml]⟩
theorem w0f {S:List Pt} {x:Pt} {k g:Int} (hg:0<g):InH S (ml x g) (g*k)↔InH S x k:=by
 have e:∀ (d a:Pt),crs d (sb (ml x g) (ml a (g*k)))=g*crs d (sb x (ml a k)):=by intros; simp only [crs,sb,ml]; grind
 constructor
 ·intro h d
  obtain ⟨a,h1,h2⟩:=h d
  rw [e] at h2
  refine ⟨a,h1,Classical.byContradiction fun hc=>?_⟩
  have:=Int.mul_neg_of_pos_of_neg hg (Int.not_le.1 hc)
  omega
 ·intro h d
  obtain ⟨a,h1,h2⟩:=h d
  exact ⟨a,h1,by rw [e]; exact Int.mul_nonneg (Int.le_of_lt hg) h2⟩
theorem w4g {S c:List Pt} (hc:Cyc S c) {d a b z:Pt} {k:Int} (hk:0≤k) (hd:d≠(0,0)) (hf:y17 c d a b) (hz:InH c z k) (h0:crs d (sb z (ml a k))=0):
  0≤dt d (sb z (ml a k))∧0≤dt d (sb (ml b k) z):=by
 obtain ⟨N,hN,hN2⟩:∃ N:Int,0≤N∧∀ x∈c, -N≤dt d (sb x a)∧ -N≤dt d (sb b x):=by
  have:∀ l:List Pt,∃ N:Int,0≤N∧∀ x∈l, -N≤dt d (sb x a)∧ -N≤dt d (sb b x):=by
   intro l
   induction l with
   |nil=>exact ⟨0,by omega,by simp⟩
   |cons x l ih=>
    obtain ⟨N,h1,h2⟩:=ih
    refine ⟨max N (max (- dt d (sb x a)) (- dt d (sb b x))),by omega,fun y hy=>?_⟩
    rcases List.mem_cons.1 hy with rfl|hy
    ·omega
    ·have:=h2 y hy; omega
  exact this c
 have pos1:∀ x∈c,0≤N*crs d (sb x a)+dt d (sb x a):=by
  intro x hx
  have c1:=hf.left x hx
  rcases Int.lt_or_eq_of_le c1 with h|h
  ·have:=Int.mul_le_mul_of_nonneg_left (show (1:Int)≤crs d (sb x a) by omega) hN
   have:=(hN2 x hx).1
   omega
  ·have:=(hf.on x hx h.symm).1
   rw [←h,Int.mul_zero]; omega
 have pos2:∀ x∈c,0≤N*crs d (sb x a)+dt d (sb b x):=by
  intro x hx
  have c1:=hf.left x hx
  rcases Int.lt_or_eq_of_le c1 with h|h
  ·have:=Int.mul_le_mul_of_nonneg_left (show (1:Int)≤crs d (sb x a) by omega) hN
   have:=(hN2 x hx).2
   omega
  ·have:=(hf.on x hx h.symm).2
   rw [←h,Int.mul_zero]; omega
 have hpar:=hf.par
 constructor
 ·
  obtain ⟨x,hx,hx0⟩:=hz (N*d.1+d.2,N*d.2 - d.1)
  have e:crs (N*d.1+d.2,N*d.2 - d.1) (sb z (ml x k))=N*crs d (sb z (ml a k))+dt d (sb z (ml a k)) - k*(N*crs d (sb x a)+dt d (sb x a)):=by simp only [crs,dt,sb,ml]; grind
  rw [e,h0,Int.mul_zero] at hx0
  have:=Int.mul_nonneg hk (pos1 x hx)
  omega
 ·obtain ⟨x,hx,hx0⟩:=hz (N*d.1 - d.2,N*d.2+d.1)
  have e:crs (N*d.1 - d.2,N*d.2+d.1) (sb z (ml x k))=N*crs d (sb z (ml a k))+dt d (sb (ml b k) z) - k*(N*crs d (sb x a)+dt d (sb b x)):=by simp only [crs,dt,sb,ml]; grind
  rw [e,h0,Int.mul_zero] at hx0
  have:=Int.mul_nonneg hk (pos2 x hx)
  omega
theorem u2e:∀ (F:List (Int×Int)),(∀ f∈F,0≤f.1)→(∃ f∈F,f.2<0)→∃ g∈F,g.2<0∧∀ f∈F,0≤g.1*f.2 - g.2*f.1
 |[],_,h=>by obtain ⟨f,hf,_⟩:=h; simp at hf
 |f::F,h0,h1=>by
  by_cases hF:∃ f∈F,f.2<0
  ·obtain ⟨g,g1,g2,g3⟩:=u2e F (fun x hx=>h0 x (List.mem_cons_of_mem _ hx)) hF
   have gp:=h0 g (List.mem_cons_of_mem _ g1)
   have fp:=h0 f (by simp)
   by_cases hf:0≤g.1*f.2 - g.2*f.1
   ·refine ⟨g,List.mem_cons_of_mem _ g1,g2,fun x hx=>?_⟩
    rcases List.mem_cons.1 hx with rfl|hx
    ·exact hf
    ·exact g3 x hx
   ·have hf2:f.2<0:=by
     refine Classical.byContradiction fun hc=>hf ?_
     have a1:=Int.mul_nonneg gp (show 0≤f.2 by omega)
     have a2:=Int.mul_nonneg (show 0≤ -g.2 by omega) fp
     rw [Int.neg_mul] at a2
     omega
    refine ⟨f,by simp,hf2,fun x hx=>?_⟩
    rcases List.mem_cons.1 hx with rfl|hx
    ·have:=Int.mul_comm x.1 x.2; omega
    ·have xp:=h0 x (List.mem_cons_of_mem _ hx)
     have gx:=g3 x hx
     by_cases hx2:0≤x.2
     ·have a1:=Int.mul_nonneg fp hx2
      have a2:=Int.mul_nonneg (show 0≤ -f.2 by omega) xp
      rw [Int.neg_mul] at a2
      omega
     ·
      have i1:(-g.2)*(f.1*x.2 - f.2*x.1)=(-f.2)*(g.1*x.2 - g.2*x.1)+(-x.2)*(g.1*f.2 - g.2*f.1)*(-1)*(-1)*(-1)+0:=by grind
      have a1:=Int.mul_nonneg (show 0≤ -f.2 by omega) gx
      have a2:=Int.mul_nonneg (show 0≤ -x.2 by omega) (show 0≤ -(g.1*f.2 - g.2*f.1) by omega)
      have i2:(-x.2)*(g.1*f.2 - g.2*f.1)*(-1)*(-1)*(-1)=(-x.2)*(-(g.1*f.2 - g.2*f.1)):=by grind
      rw [i2] at i1
      refine Classical.byContradiction fun hc=>?_
      have:=Int.mul_neg_of_pos_of_neg (show 0< -g.2 by omega) (Int.not_le.1 hc)
      omega
  ·obtain ⟨g,hg,g2⟩:=h1
   have hgf:g=f:=by
    rcases List.mem_cons.1 hg with h|h
    ·exact h
    ·exact absurd ⟨g,h,g2⟩ hF
   subst hgf
   have gp:=h0 g (by simp)
   refine ⟨g,by simp,g2,fun x hx=>?_⟩
   rcases List.mem_cons.1 hx with rfl|hx
   ·have:=Int.mul_comm x.1 x.2; omega
   ·have xp:=h0 x (List.mem_cons_of_mem _ hx)
    have hx2:0≤x.2:=Classical.byContradiction fun hc=>hF ⟨x,hx,by omega⟩
    have a1:=Int.mul_nonneg gp hx2
    have a2:=Int.mul_nonneg (show 0≤ -g.2 by omega) xp
    rw [Int.neg_mul] at a2
    omega
def y4i (c:List Pt):List (Pt×Pt):=(List.range c.length).map fun i=>(c.getD i (0,0),c.getD ((i+1) % c.length) (0,0))
theorem y1k {c:List Pt} (hc:Cyc c c) (h2:2≤c.length) {s:Pt×Pt}:s∈y4i c↔s.1∈c∧Nx c s.1 s.2:=by
 constructor
 ·intro hs
  obtain ⟨i,hi,rfl⟩:=List.mem_map.1 hs
  have hi:=List.mem_range.1 hi
  obtain ⟨x,hx⟩:∃ x,c[i]?=some x:=⟨_,List.getElem?_eq_getElem hi⟩
  obtain ⟨y,hy⟩:∃ y,c[(i+1) % c.length]?=some y:=⟨_,List.getElem?_eq_getElem (Nat.mod_lt _ (by omega))⟩
  simp only [getD_some hx,getD_some hy]
  exact ⟨List.mem_of_getElem? hx,z7h hc h2 hx hy⟩
 ·rintro ⟨h,hn⟩
  obtain ⟨i,hi,i1,i2⟩:=z65 hc h2 h hn
  refine List.mem_map.2 ⟨i,List.mem_range.2 hi,?_⟩
  rw [getD_some i1,getD_some i2]
theorem y1p {c:List Pt} (hc:Cyc c c) (h2:2≤c.length) {p:Pt} {k:Int}:inC c p k=true↔∀ s∈y4i c,0≤crs (sb s.2 s.1) (sb p (ml s.1 k))∧(c.length=2→0≤dt (sb s.2 s.1) (sb p (ml s.1 k))):=by
 unfold inC
 rw [if_neg (by omega),List.all_eq_true]
 constructor
 ·intro h s hs
  obtain ⟨i,hi,rfl⟩:=List.mem_map.1 hs
  exact z7o.1 (h i hi)
 ·intro h i hi
  exact z7o.2 (h _ (List.mem_map.2 ⟨i,hi,rfl⟩))
theorem rim {c:List Pt} (hc:Cyc c c) (h2:2≤c.length) {x u:Pt} {k:Int} (hk:0<k) (hx:InH c x k) (hu:¬ InH c u 1):
    ∃ (s:Pt×Pt) (α β:Int),s∈y4i c∧0≤α∧0<β∧InH c (ad (ml u (α*k)) (ml x β)) ((α+β)*k)∧
      ((crs (sb s.2 s.1) (sb (ad (ml u (α*k)) (ml x β)) (ml s.1 ((α+β)*k)))=0∧crs (sb s.2 s.1) (sb u s.1)<0)∨
       (ad (ml u (α*k)) (ml x β)=ml s.1 ((α+β)*k))):=by
  have hxC:=(z9a hc hk).2 hx
  have huC:¬ inC c u 1=true:=fun h=>hu ((z9a hc (by omega)).1 h)
  rw [y1p hc h2] at hxC huC
  let F:List (Int×Int):=(y4i c).flatMap fun s=>(crs (sb s.2 s.1) (sb x (ml s.1 k)),crs (sb s.2 s.1) (sb (ml u k) (ml s.1 k)))::(if c.length=2 then [(dt (sb s.2 s.1) (sb x (ml s.1 k)),dt (sb s.2 s.1) (sb (ml u k) (ml s.1 k)))] else [])
  have scC:∀ s:Pt×Pt,crs (sb s.2 s.1) (sb (ml u k) (ml s.1 k))=k*crs (sb s.2 s.1) (sb u (ml s.1 1)):=by intro s; simp only [crs,sb,ml]; grind
  have scD:∀ s:Pt×Pt,dt (sb s.2 s.1) (sb (ml u k) (ml s.1 k))=k*dt (sb s.2 s.1) (sb u (ml s.1 1)):=by intro s; simp only [dt,sb,ml]; grind
  have hF:∀ f∈F,0≤f.1:=by
    intro f hf
    obtain ⟨s,hs,hf⟩:=List.mem_flatMap.1 hf
    rcases List.mem_cons.1 hf with rfl|hf
    · exact (hxC s hs).1
    · by_cases hl:c.length=2
      · rw [if_pos hl] at hf
        simp at hf; subst hf
        exact (hxC s hs).2 hl
      · rw [if_neg hl] at hf; simp at hf
  have hneg:∃ f∈F,f.2<0:=by
    refine Classical.byContradiction fun hn=>huC fun s hs=>⟨?_,fun hl=>?_⟩
    · refine Classical.byContradiction fun hc=>hn ⟨_,List.mem_flatMap.2 ⟨s,hs,List.mem_cons_self ..⟩,?_⟩
      simp only
      rw [scC]
      exact Int.mul_neg_of_pos_of_neg hk (Int.not_le.1 hc)
    · refine Classical.byContradiction fun hc=>hn ⟨_,List.mem_flatMap.2 ⟨s,hs,List.mem_cons_of_mem _ (by rw [if_pos hl]; exact List.mem_singleton.2 rfl)⟩,?_⟩
      simp only
      rw [scD]
      exact Int.mul_neg_of_pos_of_neg hk (Int.not_le.1 hc)
  obtain ⟨g,g1,g2,g3⟩:=u2e F hF hneg
  have g0:=hF g g1
  obtain ⟨s,hs,hgs⟩:=List.mem_flatMap.1 g1
  have hsum:0<g.1+ -g.2:=by omega
  have lin:∀ (s:Pt×Pt),crs (sb s.2 s.1) (sb (ad (ml u (g.1*k)) (ml x (-g.2))) (ml s.1 ((g.1+ -g.2)*k)))=g.1*crs (sb s.2 s.1) (sb (ml u k) (ml s.1 k)) - g.2*crs (sb s.2 s.1) (sb x (ml s.1 k)):=by intro s; simp only [crs,sb,ml,ad]; grind
  have linD:∀ (s:Pt×Pt),dt (sb s.2 s.1) (sb (ad (ml u (g.1*k)) (ml x (-g.2))) (ml s.1 ((g.1+ -g.2)*k)))=g.1*dt (sb s.2 s.1) (sb (ml u k) (ml s.1 k)) - g.2*dt (sb s.2 s.1) (sb x (ml s.1 k)):=by intro s; simp only [dt,sb,ml,ad]; grind
  have hin:inC c (ad (ml u (g.1*k)) (ml x (-g.2))) ((g.1+ -g.2)*k)=true:=by
    rw [y1p hc h2]
    intro t ht
    refine ⟨?_,fun hl=>?_⟩
    · rw [lin]
      exact g3 _ (List.mem_flatMap.2 ⟨t,ht,List.mem_cons_self ..⟩)
    · rw [linD]
      exact g3 _ (List.mem_flatMap.2 ⟨t,ht,List.mem_cons_of_mem _ (by rw [if_pos hl]; exact List.mem_singleton.2 rfl)⟩)
  have hinH:=(z9a hc (Int.mul_pos hsum hk)).1 hin
  refine ⟨s,g.1, -g.2,hs,g0,by omega,hinH,?_⟩
  have hs':=(y1k hc h2).1 hs
  have he:sb s.2 s.1≠(0,0):=fun e=>hs'.2.2.1 (z1a.1 e).symm
  rcases List.mem_cons.1 hgs with hg|hg
  · left
    refine ⟨?_,?_⟩
    · rw [lin]
      have a1:crs (sb s.2 s.1) (sb (ml u k) (ml s.1 k))=g.2:=by rw [hg]
      have a2:crs (sb s.2 s.1) (sb x (ml s.1 k))=g.1:=by rw [hg]
      rw [a1,a2,Int.mul_comm]; omega
    · have a1:crs (sb s.2 s.1) (sb (ml u k) (ml s.1 k))=g.2:=by rw [hg]
      rw [scC,x1l] at a1
      refine Classical.byContradiction fun hc=>?_
      have:=Int.mul_nonneg (Int.le_of_lt hk) (show 0≤crs (sb s.2 s.1) (sb u s.1) by omega)
      omega
  · right
    by_cases hl:c.length=2
    · rw [if_pos hl] at hg
      have hg:=List.mem_singleton.1 hg
      have a1:dt (sb s.2 s.1) (sb (ml u k) (ml s.1 k))=g.2:=by rw [hg]
      have a2:dt (sb s.2 s.1) (sb x (ml s.1 k))=g.1:=by rw [hg]
      have hd:dt (sb s.2 s.1) (sb (ad (ml u (g.1*k)) (ml x (-g.2))) (ml s.1 ((g.1+ -g.2)*k)))=0:=by
        rw [linD,a1,a2,Int.mul_comm]; omega
      have hcz:crs (sb s.2 s.1) (sb (ad (ml u (g.1*k)) (ml x (-g.2))) (ml s.1 ((g.1+ -g.2)*k)))=0:=by
        rw [y1p hc h2] at hin
        have q1:=(hin s hs).1
        have hback:(s.2,s.1)∈y4i c:=by
          match c,hl,hc,hs with
          |[a,b],_,hc,hs=>
            have:y4i [a,b]=[(a,b),(b,a)]:=by simp [y4i,List.range_succ]
            rw [this] at hs⊢
            rcases List.mem_cons.1 hs with rfl|hs
            · simp
            · simp at hs; subst hs; simp
        have q2:=(hin _ hback).1
        simp only at q2
        have e:∀ z:Pt,∀ m:Int,crs (sb s.1 s.2) (sb z (ml s.2 m))= - crs (sb s.2 s.1) (sb z (ml s.1 m)):=by intros; simp only [crs,sb,ml]; grind
        rw [e] at q2
        omega
      exact z1a.1 (z6p he hcz hd)
    · rw [if_neg hl] at hg; simp at hg
end M06
end
section
namespace M06
theorem x9i {u v:Pt} (hu:Pos u) (hv:Pos v) (h0:crs u v=0) (h1:dt u v≤dt u u) (h2:dt u v≤dt v v):u=v:=by
 have hs:=y79 hu hv h0
 have hl:=lag u v
 rw [h0] at hl
 have e:dt (sb u v) (sb u v)=dt u u+dt v v - 2*dt u v:=by simp only [dt,sb]; grind
 have hm:=hs.2
 refine Classical.byContradiction fun hn=>?_
 have hp:=z0x (u:=sb u v) (fun e=>hn (z1a.1 e))
 generalize dt u v=m at*
 generalize dt u u=n at*
 generalize dt v v=k at*
 have a1:=Int.mul_le_mul_of_nonneg_left h2 (Int.le_of_lt hm)
 have a2:=Int.mul_le_mul_of_nonneg_right h1 (show 0≤k by omega)
 have hmk:m*m=m*k:=by omega
 have hk:k=m:=by
  have:m*(k - m)=0:=by rw [Int.mul_sub]; omega
  rcases Int.mul_eq_zero.1 this with h|h<;>omega
 subst hk
 have hnk:(n - k)*k=0:=by rw [Int.sub_mul]; omega
 rcases Int.mul_eq_zero.1 hnk with h|h<;>omega
theorem x6t {S D:List Pt} (hD:Cyc S D) (h2:2≤D.length) (h:inC D (0,0) 1=true):
  ∃ u v w:Pt,∃ α β γ:Int,u∈D∧v∈D∧w∈D∧0≤α∧0≤β∧0≤γ∧0<α+β+γ∧ad (ad (ml u α) (ml v β)) (ml w γ)=(0,0):=by
 have hc:=z1w hD
 have ht:=(y1p hc h2).1 h
 by_cases hl:D.length=2
 ·obtain ⟨x,y,rfl⟩:∃ x y,D=[x,y]:=by
   match D,hl with
   |[x,y],_=>exact ⟨x,y,rfl⟩
  have e:y4i [x,y]=[(x,y),(y,x)]:=by simp [y4i,List.range_succ]
  have t1:=ht (x,y) (by rw [e]; simp)
  have t2:=ht (y,x) (by rw [e]; simp)
  have n1:=(y1k hc h2).1 (show (x,y)∈y4i [x,y] by rw [e]; simp)
  have he:sb y x≠(0,0):=fun e=>n1.2.2.1 (z1a.1 e).symm
  have hpos:=z0x he
  simp only at t1 t2
  have a1:=t1.2 rfl
  have a2:=t2.2 rfl
  have c0:crs (sb y x) x=0:=by
   have b1:=t1.1
   have b2:=t2.1
   have e1:crs (sb y x) (sb (0,0) (ml x 1))= - crs (sb y x) x:=by simp only [crs,sb,ml]; grind
   have e2:crs (sb x y) (sb (0,0) (ml y 1))=crs (sb y x) x:=by simp only [crs,sb,ml]; grind
   omega
  have e3:dt (sb y x) (sb (0,0) (ml x 1))= - dt (sb y x) x:=by simp only [dt,sb,ml]; grind
  have e4:dt (sb x y) (sb (0,0) (ml y 1))=dt (sb y x) y:=by simp only [dt,sb,ml]; grind
  have e5:dt (sb y x) (sb y x)=dt (sb y x) y - dt (sb y x) x:=by rw [z8r]
  refine ⟨x,y,x,dt (sb y x) y, - dt (sb y x) x,0,by simp,by simp,by simp,by omega,by omega,by omega,by omega,?_⟩
  refine z6p he ?_ ?_
  ·have:crs (sb y x) (ad (ad (ml x (dt (sb y x) y)) (ml y (- dt (sb y x) x))) (ml x 0))=(dt (sb y x) y - dt (sb y x) x)*crs (sb y x) x:=by
    have e6:crs (sb y x) y=crs (sb y x) x:=by simp only [crs,sb]; grind
    have:crs (sb y x) (ad (ad (ml x (dt (sb y x) y)) (ml y (- dt (sb y x) x))) (ml x 0))=dt (sb y x) y*crs (sb y x) x - dt (sb y x) x*crs (sb y x) y:=by
     generalize dt (sb y x) y=s
     generalize dt (sb y x) x=t
     simp only [crs,ml,ad]; grind
    rw [this,e6,Int.sub_mul]
   rw [this,c0,Int.mul_zero]
  ·generalize hs:dt (sb y x) y=s
   generalize ht:dt (sb y x) x=t
   have:dt (sb y x) (ad (ad (ml x s) (ml y (-t))) (ml x 0))=s*dt (sb y x) x - t*dt (sb y x) y:=by simp only [dt,ml,ad]; grind
   rw [this,hs,ht,Int.mul_comm]; omega
 ·
  have h3:3≤D.length:=by omega
  have hg:∀ i,i<D.length→∃ x,D[i]?=some x:=fun i hi=>⟨_,List.getElem?_eq_getElem hi⟩
  obtain ⟨A,hA⟩:=hg 0 (by omega)
  have test:∀ i x y,D[i]?=some x→D[(i+1) % D.length]?=some y→0≤crs (sb y x) (sb (0,0) (ml x 1)):=by
   intro i x y hx hy
   have hi:=(List.getElem?_eq_some_iff.1 hx).1
   exact (ht (x,y) (List.mem_map.2 ⟨i,List.mem_range.2 hi,by rw [getD_some hx,getD_some hy]⟩)).1
  let f:Nat→Int:=fun i=>crs (sb (D.getD i (0,0)) A) (sb (0,0) A)
  have fA:∀ i x,D[i]?=some x→f i=crs (sb x A) (sb (0,0) A):=fun i x hx=>by show crs (sb (D.getD i (0,0)) A) _=_; rw [getD_some hx]
  have f1:0≤f 1:=by
   obtain ⟨B,hB⟩:=hg 1 (by omega)
   rw [fA 1 B hB]
   have:=test 0 A B hA (by rw [Nat.mod_eq_of_lt (by omega)]; exact hB)
   rwa [x1l] at this
  have fn:f (D.length - 1)≤0:=by
   obtain ⟨B,hB⟩:=hg (D.length - 1) (by omega)
   rw [fA _ B hB]
   have:=test (D.length - 1) B A hB (by rw [show D.length - 1+1=D.length by omega,Nat.mod_self]; exact hA)
   have e:crs (sb A B) (sb (0,0) (ml B 1))= - crs (sb B A) (sb (0,0) A):=by simp only [crs,sb,ml]; grind
   omega
  have hex:∃ i,1≤i∧i+1<D.length∧0≤f i∧f (i+1)≤0:=by
   refine Classical.byContradiction fun hn=>?_
   have:∀ i,1≤i→i<D.length→0≤f i∧(2≤i→0<f i):=by
    intro i
    induction i with
    |zero=>intro h; omega
    |succ i ih=>
     intro h1 hl
     by_cases hi:i=0
     ·subst hi; exact ⟨f1,fun h=>by omega⟩
     ·have hp:=ih (by omega) (by omega)
      have:¬ f (i+1)≤0:=fun hc=>hn ⟨i,by omega,hl,hp.1,hc⟩
      exact ⟨by omega,fun _=>by omega⟩
   have:=(this (D.length - 1) (by omega) (by omega)).2 (by omega)
   omega
  obtain ⟨i,i1,i2,i3,i4⟩:=hex
  obtain ⟨B,hB⟩:=hg i (by omega)
  obtain ⟨C,hC⟩:=hg (i+1) i2
  rw [fA _ B hB] at i3
  rw [fA _ C hC] at i4
  have hg0:=test i B C hB (by rw [Nat.mod_eq_of_lt i2]; exact hC)
  rw [x1l] at hg0
  have hsum:crs (sb C B) (sb (0,0) B)+(- crs (sb C A) (sb (0,0) A))+crs (sb B A) (sb (0,0) A)=crs (sb B A) (sb C A):=by simp only [crs,sb]; grind
  have hn:=z7h hc h2 hB (by rw [Nat.mod_eq_of_lt i2]; exact hC)
  have hAm:=List.mem_of_getElem? hA
  have hBm:=List.mem_of_getElem? hB
  have hCm:=List.mem_of_getElem? hC
  have hmin:∀ x∈D,Le A x:=by
   match D,hc,hA with
   |c0::r,hc,hA=>simp at hA; subst hA; exact hc.2.1
  have hnd:=y1z hc
  refine ⟨A,B,C,crs (sb C B) (sb (0,0) B), - crs (sb C A) (sb (0,0) A),crs (sb B A) (sb (0,0) A),hAm,hBm,hCm,hg0,by omega,i3,?_,?_⟩
  ·rw [hsum]
   have hge:=(hn.2.2 A hAm).1
   have e:cr B C A=crs (sb B A) (sb C A):=by simp only [cr,crs,sb]; grind
   rw [e] at hge
   rcases Int.lt_or_eq_of_le hge with h|h
   ·exact h
   ·exfalso
    have pB:Pos (sb B A):=by
     rcases hmin B hBm with e|h
     ·subst e
      have:=y1j hnd hA hB
      omega
     ·exact h
    have pC:Pos (sb C A):=by
     rcases hmin C hCm with e|h
     ·subst e
      have:=y1j hnd hA hC
      omega
     ·exact h
    have hf:=(y8m hBm hn).on A hAm (by
     have e2:crs (sb C B) (sb A B)=crs (sb B A) (sb C A):=by simp only [crs,sb]; grind
     omega)
    have e3:dt (sb C B) (sb A B)=dt (sb B A) (sb B A) - dt (sb B A) (sb C A):=by simp only [dt,sb]; grind
    have e4:dt (sb C B) (sb C A)=dt (sb C A) (sb C A) - dt (sb B A) (sb C A):=by simp only [dt,sb]; grind
    have:=x9i pB pC h.symm (by omega) (by omega)
    have hBC:B=C:=by
     have a1:=congrArg Prod.fst this
     have a2:=congrArg Prod.snd this
     simp only [sb] at a1 a2
     exact Prod.ext (by omega) (by omega)
    exact hn.2.1 hBC
  ·simp only [crs,sb,ml,ad]
   refine Prod.ext ?_ ?_<;>grind
theorem v5j {a b:List Pt} (ha:Cyc a a) (hb:Cyc b b) (h:InH (dif a b) (0,0) 1):∃ (x:Pt) (k:Int),0<k∧InH a x k∧InH b x k:=by
 obtain ⟨p0,hp0⟩:∃ p,p∈a:=by
  match a,ha with
  |p::r,_=>exact ⟨p,by simp⟩
 obtain ⟨q0,hq0⟩:∃ q,q∈b:=by
  match b,hb with
  |q::r,_=>exact ⟨q,by simp⟩
 have hne:dif a b≠[]:=by
  intro e
  have:=z13.2 ⟨p0,hp0,q0,hq0,rfl⟩
  rw [e] at this; simp at this
 have hD:=z2f hne
 have hin:=(z9a hD (k:=1) (by omega)).2 ((z47 hD (by omega)).1 h)
 have hDm:=z4z hD
 generalize z1g (dif a b)=D at hD hin hDm
 have pt:∀ {S:List Pt} {p:Pt},p∈S→InH S p 1:=fun h d=>⟨_,h,by simp [crs,sb,ml]⟩
 have hDn:1≤D.length:=by
  match D,hD with
  |x::r,_=>simp
 by_cases h1:D.length=1
 ·obtain ⟨x,rfl,_,hall⟩:=y2r hD (by omega)
  have hx:(0,0)=ml x 1:=by
   unfold inC at hin
   rw [if_pos h1] at hin
   simpa using hin
  rw [x1l] at hx
  have e:=hall _ (z13.2 ⟨p0,hp0,q0,hq0,rfl⟩)
  rw [←hx] at e
  have:=z1a.1 e
  subst this
  exact ⟨p0,1,by omega,pt hp0,pt hq0⟩
 ·obtain ⟨u,v,w,α,β,γ,hu,hv,hw,i1,i2,i3,i4,i5⟩:=x6t hD (by omega) hin
  obtain ⟨p1,hp1,q1,hq1,rfl⟩:=z13.1 (hDm u hu)
  obtain ⟨p2,hp2,q2,hq2,rfl⟩:=z13.1 (hDm v hv)
  obtain ⟨p3,hp3,q3,hq3,rfl⟩:=z13.1 (hDm w hw)
  have c1:=x1r ha hp1 hp2 hp3 i1 i2 i3
  have c2:=x1r hb hq1 hq2 hq3 i1 i2 i3
  refine ⟨_,_,i4,c1,?_⟩
  have e:ad (ad (ml p1 α) (ml p2 β)) (ml p3 γ)=ad (ad (ml q1 α) (ml q2 β)) (ml q3 γ):=by
   have a1:=congrArg Prod.fst i5
   have a2:=congrArg Prod.snd i5
   simp only [ad,ml,sb,Int.sub_mul] at a1 a2⊢
   exact Prod.ext (by simp only; omega) (by simp only; omega)
  rw [e]; exact c2
end M06
end
section
namespace Go.Am
open M06
def mxd (l:List Pt) (w:Pt):Int:=l.foldl (fun m p=>max m (dt w p)) (dt w (l.getD 0 (0,0)))
theorem w0s (w:Pt):∀ (l:List Pt) (m:Int),m≤l.foldl (fun m p=>max m (dt w p)) m∧(∀ p∈l,dt w p≤l.foldl (fun m p=>max m (dt w p)) m)∧(l.foldl (fun m p=>max m (dt w p)) m=m∨∃ p∈l,l.foldl (fun m p=>max m (dt w p)) m=dt w p)
 |[],m=>⟨Int.le_refl _,by simp, .inl rfl⟩
 |p::l,m=>by
  obtain ⟨h1,h2,h3⟩:=w0s w l (max m (dt w p))
  simp only [List.foldl_cons]
  refine ⟨by omega,fun q hq=>?_,?_⟩
  ·rcases List.mem_cons.1 hq with rfl|hq
   ·omega
   ·exact h2 q hq
  ·rcases h3 with h|⟨q,hq,h⟩
   ·by_cases hm:dt w p≤m
    ·left; rw [h]; omega
    ·right; exact ⟨p,by simp,by rw [h]; omega⟩
   ·right; exact ⟨q,List.mem_cons_of_mem _ hq,h⟩
theorem y3u {l:List Pt} (hl:l≠[]) (w:Pt):(∀ p∈l,dt w p≤mxd l w)∧∃ p∈l,mxd l w=dt w p:=by
 obtain ⟨h1,h2,h3⟩:=w0s w l (dt w (l.getD 0 (0,0)))
 refine ⟨h2,?_⟩
 rcases h3 with h|h
 ·exact ⟨l.getD 0 (0,0),z5v _ (List.length_pos_iff.2 hl),h⟩
 ·exact h
theorem z9f {w p:Pt} (hw:z1e w) (hp:z0m (-10000) 10000 p):IntKind.i64.wrap (w.1*p.1)=w.1*p.1∧IntKind.i64.wrap (w.2*p.2)=w.2*p.2∧IntKind.i64.wrap (w.1*p.1+w.2*p.2)=dt w p∧ -20971520000≤dt w p∧dt w p≤20971520000:=by
 obtain ⟨w1,w2,w3,w4⟩:=hw
 obtain ⟨p1,p2,p3,p4⟩:=hp
 have m1:=z4j (A:=1048576) (B:=10000) (a:=w.1) (b:=p.1) (by omega) (by omega) (by omega) (by omega) (by omega)
 have m2:=z4j (A:=1048576) (B:=10000) (a:=w.2) (b:=p.2) (by omega) (by omega) (by omega) (by omega) (by omega)
 refine ⟨z00 _ (by omega) (by omega),z00 _ (by omega) (by omega),?_,by simp only [dt]; omega,by simp only [dt]; omega⟩
 rw [z00 _ (by omega) (by omega)]; rfl
theorem v6g {l:List Pt} (hl:l≠[]) (hn:l.length≤1000) {w:Pt} (hw:z1e w) (hb:∀ p∈l,z0m (-10000) 10000 p):G78 std (z0d l,w.1,w.2,())=some (mxd l w,()):=by
 have hl1:1≤l.length:=List.length_pos_iff.2 hl
 have key:=z3k (b:=w5m std) (fun (i:Nat)=>(w.1,w.2,(l.take i).foldl (fun m p=>max m (dt w p)) (dt w (l.getD 0 (0,0))),z0d l,(l.length:Int),(i:Int),())) (fun i=>i≤l.length) (fun i=>l.length - i) (fun _=>(mxd l w,())) (fun i hi=>by
  by_cases hlt:i<l.length
  ·left
   obtain ⟨p,hp⟩:=z0l hlt
   have gp:=z0w hp
   obtain ⟨d1,d2,d3,_⟩:=z9f hw (hb p (List.mem_of_getElem? hp))
   have c1:(i:Int)<(l.length:Int):=by omega
   have c2:(i:Int)≥0:=by omega
   have hwr:=z04 (i:=i) (by omega)
   refine ⟨i+1,?_,by omega,by omega,rfl⟩
   rw [z0q hp,List.foldl_append,List.foldl_cons,List.foldl_nil]
   simp only [w5m,z0u,z0v,z0g,z0z,z0y,z1f,z0i,z0c,z0b,z08,hwr,c1,c2,gp,d1,d2,d3]
  ·right
   have:i=l.length:=by omega
   subst this
   have hn:¬ ((l.length:Int)<(l.length:Int)):=by omega
   rw [List.take_length]
   simp only [w5m,z0u,z0v,hn]
   rfl) 0 (Nat.zero_le _)
 obtain ⟨p,hp⟩:=z0l (l:=l) (i:=0) hl1
 have gp:=z0w hp
 obtain ⟨d1,d2,d3,_⟩:=z9f hw (hb p (List.mem_of_getElem? hp))
 have z0:(0:Int).toNat=0:=rfl
 have k0:((0:Nat):Int)=0:=rfl
 rw [List.take_zero,List.foldl_nil,k0,z6k hp] at key
 unfold G78
 simp only [g78,it0_eq,z0u,z0v,z0g,z0z,z0y,z1f,z0i,z0c,z0b,z08,z0,gp,d1,d2,d3,key]
theorem w2m {l:List Pt} (hl:l≠[]) (hn:l.length≤1000) {w:Pt} (hw:z1e w) (hb:∀ p∈l,z0m (-10000) 10000 p):g78 it0 std (z0d l,w.1,w.2,())=some (mxd l w,()):=v6g hl hn hw hb
theorem x93 {w:Pt} (hw:z1e w):z1e (ng w)∧IntKind.i64.wrap (0 - w.1)=(ng w).1∧IntKind.i64.wrap (0 - w.2)=(ng w).2:=by
 obtain ⟨w1,w2,w3,w4⟩:=hw
 refine ⟨?_,?_,?_⟩
 ·simp only [z1e,ng]; omega
 ·rw [z00 _ (by omega) (by omega)]; simp only [ng]; omega
 ·rw [z00 _ (by omega) (by omega)]; simp only [ng]; omega
theorem x94 {l:List Pt} (hl:l≠[]) {w:Pt} (hw:z1e w) (hb:∀ p∈l,z0m (-10000) 10000 p): -20971520000≤mxd l w∧mxd l w≤20971520000:=by
 obtain ⟨p,hp,h⟩:=(y3u hl w).2
 have:=(z9f hw (hb p hp)).2.2.2
 omega
theorem x9t {a b:List Pt} (ha:a≠[]) (hb:b≠[]) (w:Pt):mxd a w< - mxd b (ng w)↔y04 a b w:=by
 obtain ⟨a1,p,hp,a2⟩:=y3u ha w
 obtain ⟨b1,q,hq,b2⟩:=y3u hb (ng w)
 have e:∀ x:Pt,dt (ng w) x= - dt w x:=fun x=>by simp only [dt,ng]; grind
 constructor
 ·intro h p' hp' q' hq'
  have:=a1 p' hp'
  have:=b1 q' hq'
  rw [e] at this
  omega
 ·intro h
  have:=h p hp q hq
  rw [e] at b2
  omega
instance (a b:List Pt) (w:Pt):Decidable (y04 a b w):=by unfold y04; infer_instance
theorem v6c {a b:List Pt} (ha:a≠[]) (hb:b≠[]) (la:a.length≤1000) (lb:b.length≤1000) {w:Pt} (hw:z1e w) (ba:∀ p∈a,z0m (-10000) 10000 p) (bb:∀ p∈b,z0m (-10000) 10000 p):
  G92 std (z0d a,z0d b,w.1,w.2,())=some (mxd a w,decide (y04 a b w),()):=by
 obtain ⟨n1,n2,n3⟩:=x93 hw
 have h1:=w2m ha la hw ba
 have h2:=w2m hb lb n1 bb
 have hx:=x94 hb n1 bb
 have e:IntKind.i64.wrap (0 - mxd b (ng w))= - mxd b (ng w):=by rw [z00]<;>omega
 have e2:decide (mxd a w< - mxd b (ng w))=decide (y04 a b w):=by rw [decide_eq_decide]; exact x9t ha hb w
 unfold G92
 simp only [g92,z2a,z24,z2w,z0k,n2,n3,h1,h2,Option.bind_some,e,z3q,e2,z4s,decide_true,if_true]
theorem x9j {a b:List Pt} {i:Nat} {p:Pt} (h:a[i]?=some p):(a.take (i+1)).flatMap (fun p=>b.map fun q=>sb q p)=(a.take i).flatMap (fun p=>b.map fun q=>sb q p)++b.map fun q=>sb q p:=by
 rw [z0q h]; simp
theorem y8y {a b:List Pt}:(a.flatMap fun p=>b.map fun q=>sb q p).length=a.length*b.length:=by
 induction a with
 |nil=>simp
 |cons p a ih=>rw [List.flatMap_cons,List.length_append,ih,List.length_map,List.length_cons,Nat.add_mul,Nat.one_mul,Nat.add_comm]
theorem w7n {a b:List Pt} {i:Nat} {p:Pt} (hp:z1e p) (hb:∀ x∈b,z1e x) (hbl:b.length≤100) (o:List Pt) (ho:o.length≤100000) (x y z n j:Int):
  z4n (w2b std) (z0d o,x,y,z,p.1,p.2,z0d a,z0d b,z0d a,n,j,z0d b,(b.length:Int),(0:Int),())=some (z0d (o++b.map fun q=>sb q p),x,y,z,z0d a,z0d b,z0d a,n,j,()):=by
 have key:=z3k (b:=w2b std) (fun (i:Nat)=>(z0d (o++(b.take i).map fun q=>sb q p),x,y,z,p.1,p.2,z0d a,z0d b,z0d a,n,j,z0d b,(b.length:Int),(i:Int),())) (fun i=>i≤b.length) (fun i=>b.length - i) (fun _=>(z0d (o++b.map fun q=>sb q p),x,y,z,z0d a,z0d b,z0d a,n,j,())) (fun i hi=>by
  by_cases hlt:i<b.length
  ·left
   obtain ⟨q,hq⟩:=z0l hlt
   have gq:=z0w hq
   obtain ⟨d1,d2⟩:=z37 (hb q (List.mem_of_getElem? hq)) hp
   have c1:(i:Int)<(b.length:Int):=by omega
   have c2:(i:Int)≥0:=by omega
   have hw:=z04 (i:=i) (by omega)
   have htk:(z0d (o++(b.take i).map fun q=>sb q p)).take (o++(b.take i).map fun q=>sb q p).length=z0d (o++(b.take i).map fun q=>sb q p):=by rw [List.take_of_length_le (by rw [z0c]; omega)]
   have hap:z0d (o++(b.take i).map fun q=>sb q p)++[eP (sb q p)]=z0d (o++(b.take (i+1)).map fun q=>sb q p):=by rw [z0q hq]; simp [z0d]
   have hal:(o++(b.take i).map fun q=>sb q p).length+1=(o++(b.take (i+1)).map fun q=>sb q p).length:=by simp; omega
   have hl1:(o++(b.take (i+1)).map fun q=>sb q p).length≤1000000:=by simp; omega
   refine ⟨i+1,?_,by omega,by omega,rfl⟩
   simp only [w2b,z0u,z0v,z0g,z0z,z0y,z1f,z0i,z0c,z0b,z0k,hw,c1,c2,gq,d1,d2,htk,hap,hal,hl1,List.drop_zero,List.take_succ_cons,List.take_zero,Nat.le_refl]
  ·right
   have:i=b.length:=by omega
   subst this
   have hn:¬ ((b.length:Int)<(b.length:Int)):=by omega
   simp only [w2b,z0u,z0v,hn,List.take_length]) 0 (Nat.zero_le _)
 simpa using key
theorem w28 {a b:List Pt} (ha:∀ x∈a,z1e x) (hb:∀ x∈b,z1e x) (hal:a.length≤100) (hbl:b.length≤100):
  z4n (x4h it0 std) ([],(0:Int),(0:Int),(0:Int),z0d a,z0d b,z0d a,(a.length:Int),(0:Int),())=some (z0d (a.flatMap fun p=>b.map fun q=>sb q p),(0:Int),(0:Int),(0:Int),z0d a,z0d b,()):=by
 have key:=z3k (b:=x4h it0 std) (fun (i:Nat)=>(z0d ((a.take i).flatMap fun p=>b.map fun q=>sb q p),(0:Int),(0:Int),(0:Int),z0d a,z0d b,z0d a,(a.length:Int),(i:Int),())) (fun i=>i≤a.length) (fun i=>a.length - i) (fun _=>(z0d (a.flatMap fun p=>b.map fun q=>sb q p),(0:Int),(0:Int),(0:Int),z0d a,z0d b,())) (fun i hi=>by
  by_cases hlt:i<a.length
  ·left
   obtain ⟨p,hp⟩:=z0l hlt
   have gp:=z0w hp
   have hfl:((a.take i).flatMap fun p=>b.map fun q=>sb q p).length≤100000:=by
    rw [y8y]
    have:=Nat.mul_le_mul (show (a.take i).length≤100 by simp; omega) hbl
    omega
   have hrow:=w7n (a:=a) (i:=i) (ha p (List.mem_of_getElem? hp)) hb hbl _ hfl 0 0 0 (a.length:Int) (i:Int)
   rw [←x9j hp] at hrow
   have c1:(i:Int)<(a.length:Int):=by omega
   have c2:(i:Int)≥0:=by omega
   have hw:=z04 (i:=i) (by omega)
   refine ⟨i+1,?_,by omega,by omega,rfl⟩
   simp only [x4h,it0_eq,hrow,z0u,z0v,z0g,z0z,z0y,z1f,z0i,z0c,z0b,hw,c1,c2,gp,z0c]
  ·right
   have:i=a.length:=by omega
   subst this
   have hn:¬ ((a.length:Int)<(a.length:Int)):=by omega
   simp only [x4h,z0u,z0v,hn,List.take_length]) 0 (Nat.zero_le _)
 simpa [z0d] using key
def ups (w:Pt):List Pt:=[(w.2, -w.1),(-w.2,w.1)]
theorem x4r {l:List Pt} {i:Nat} {w:Pt} (h:l[i]?=some w):(l.take (i+1)).flatMap ups=(l.take i).flatMap ups++ups w:=by
 rw [z0q h]; simp
theorem x26 (l:List Pt):(l.flatMap ups).length=2*l.length:=by
 induction l with
 |nil=>rfl
 |cons w l ih=>rw [List.flatMap_cons,List.length_append,ih,List.length_cons]; simp [ups]; omega
theorem x00 {S c:List Pt} (hc:Cyc S c) (hs:∀ x∈c,z0m (-5000) 5000 x) (hl:c.length≤1000) (o:List Pt) (ho:o.length≤100000) (Ls X Y:List (List D)) (x y z n i:Int):
  z4n (x2r std) (Ls,z0d o,x,y,z,z0d c,n,X,Y,i,z0d c,(c.length:Int),(0:Int),())=some (.inl (Ls,z0d (o++(wy c).flatMap ups),x,y,z,z0d c,n,X,Y,i,()))∨
  z4n (x2r std) (Ls,z0d o,x,y,z,z0d c,n,X,Y,i,z0d c,(c.length:Int),(0:Int),())=some (.inr (Ls,z0d (o++(wy c).flatMap ups),x,y,z,z0d c,n,X,Y,i,())):=by
 have hsm:∀ x∈c,z1e x:=fun x hx=>z16 (hs x hx)
 by_cases h2:2≤c.length
 ·right
  have hnz:=y7m hc h2
  have hwl:=w57 h2
  have hwb:=y92 hs
  have key:=z3k (b:=x2r std) (fun (j:Nat)=>(Ls,z0d (o++((wy c).take j).flatMap ups),x,y,z,z0d c,n,X,Y,i,z0d c,(c.length:Int),(j:Int),())) (fun j=>j≤c.length) (fun j=>c.length - j) (fun _=>Sum.inr (Ls,z0d (o++(wy c).flatMap ups),x,y,z,z0d c,n,X,Y,i,())) (fun j hj=>by
   by_cases hlt:j<c.length
   ·left
    obtain ⟨u,hx⟩:=z0l hlt
    obtain ⟨v,hy⟩:=z0l (l:=c) (i:=(j+1) % c.length) (Nat.mod_lt _ (by omega))
    have hw:=w58 h2 hx hy
    have hwm:=List.mem_of_getElem? hw
    have hne:=hnz _ hwm
    have hbw:=hwb _ hwm
    obtain ⟨m1,m2⟩:=x3v (i:=j) (n:=c.length) (by omega) (by omega)
    have gx:=z0w hx
    have gy:=z0w hy
    obtain ⟨d1,d2⟩:=z37 (hsm v (List.mem_of_getElem? hy)) (hsm u (List.mem_of_getElem? hx))
    have e1:IntKind.i64.wrap (0 - (sb v u).1)= -(sb v u).1:=by obtain ⟨q1,q2,q3,q4⟩:=hbw; rw [z00]<;>omega
    have e2:IntKind.i64.wrap (0 - (sb v u).2)= -(sb v u).2:=by obtain ⟨q1,q2,q3,q4⟩:=hbw; rw [z00]<;>omega
    have c1:(j:Int)<(c.length:Int):=by omega
    have c2:(j:Int)≥0:=by omega
    have c3:¬ (c.length:Int)=0:=by omega
    have c4:(((j+1) % c.length:Nat):Int)≥0:=by omega
    have c5:(((j+1) % c.length:Nat):Int)<(c.length:Int):=by have:=Nat.mod_lt (j+1) (show 0<c.length by omega); omega
    have hol2:(o++((wy c).take (j+1)).flatMap ups).length≤1000000:=by rw [List.length_append,x26]; simp; omega
    have htk:(z0d (o++((wy c).take j).flatMap ups)).take (o++((wy c).take j).flatMap ups).length=z0d (o++((wy c).take j).flatMap ups):=by rw [List.take_of_length_le (by rw [z0c]; omega)]
    have hap:z0d (o++((wy c).take j).flatMap ups)++[[D.int IntKind.i64 (sb v u).2,D.int IntKind.i64 (-(sb v u).1)],[D.int IntKind.i64 (-(sb v u).2),D.int IntKind.i64 (sb v u).1]]=z0d (o++((wy c).take (j+1)).flatMap ups):=by
     rw [x4r hw]; simp [z0d,ups,eP]
    have hal:(o++((wy c).take j).flatMap ups).length+(1+1)=(o++((wy c).take (j+1)).flatMap ups).length:=by rw [x4r hw]; simp [ups]; omega
    have hne':¬ ((sb v u).1=0∧(sb v u).2=0):=fun e=>hne (Prod.ext e.1 e.2)
    have hz:(if (sb v u).1=0 then if (sb v u).2=0 then true else false else false)=false:=by
     by_cases q1:(sb v u).1=0
     ·rw [if_pos q1,if_neg (fun e=>hne (Prod.ext q1 e))]
     ·rw [if_neg q1]
    refine ⟨j+1,?_,by omega,by omega,rfl⟩
    simp only [x2r,z0u,z0v,z0g,z0z,z0y,z0c,z0b,z1x,z0k,m1,m2,gx,gy,d1,d2,e1,e2,c1,c2,c3,c4,c5,hz,htk,hol2,List.drop_zero,List.take_succ_cons,List.take_zero,hap,hal,Nat.le_refl,not_false_eq_true,show (1:Nat)≤2 by decide]
   ·right
    have:j=c.length:=by omega
    subst this
    have hn:¬ ((c.length:Int)<(c.length:Int)):=by omega
    rw [←hwl,List.take_length,hwl]
    simp only [x2r,z0u,z0v,hn]) 0 (Nat.zero_le _)
  simpa using key
 ·left
  have hc1:∃ x,c=[x]:=by
   match c,hc,h2 with
   |[x],_,_=>exact ⟨x,rfl⟩
   |a::b::r,_,h2=>exact absurd (by simp) h2
  obtain ⟨u,rfl⟩:=hc1
  have gx:=z0w (l:=[u]) (i:=0) rfl
  obtain ⟨d1,d2⟩:=z37 (hsm u (by simp)) (hsm u (by simp))
  have z1:(sb u u).1=0:=by simp [sb]
  have z2:(sb u u).2=0:=by simp [sb]
  rw [z1] at d1
  rw [z2] at d2
  have w1:IntKind.i64.wrap 1=1:=by decide
  have t1:(1:Int).tmod 1=0:=by decide
  rw [z0h]
  have:x2r std (Ls,z0d o,x,y,z,z0d [u],n,X,Y,i,z0d [u],(([u]:List Pt).length:Int),(0:Int),())=some (.inr (.inl (Ls,z0d (o++(wy [u]).flatMap ups),x,y,z,z0d [u],n,X,Y,i,()))):=by
   have e:(wy [u]).flatMap ups=[]:=rfl
   rw [e,List.append_nil]
   have l1:((0+1:Nat):Int)=1:=rfl
   simp only [x2r,z0u,z0v,z0g,z0z,z0y,z1f,z0i,z0c,z0b,z1x,z0k,l1,Int.zero_add,w1,t1,gx,d1,d2,Int.toNat_zero,ge_iff_le,Int.le_refl,show (0:Int)<1 by decide,show ¬ (1:Int)=0 by decide,not_false_eq_true]
  rw [this]
theorem y4f {a b:List Pt} (ha:∀ x∈a,z0m (-5000) 5000 x) (hb:∀ x∈b,z0m (-5000) 5000 x):∀ w∈z5b a b,z0m (-10000) 10000 w:=by
 intro w hw
 rcases List.mem_append.1 hw with h|h
 ·obtain ⟨p,hp,h⟩:=List.mem_flatMap.1 h
  obtain ⟨q,hq,rfl⟩:=List.mem_map.1 h
  exact z8a (hb q hq) (ha p hp)
 ·obtain ⟨v,hv,h⟩:=List.mem_flatMap.1 h
  have bv:z0m (-10000) 10000 v:=by
   rcases List.mem_append.1 hv with h|h
   ·exact y92 ha v h
   ·exact y92 hb v h
  simp only [z0m] at*
  simp at h
  rcases h with rfl|rfl<;>simp only<;>omega
def z3u (a b:List Pt):(Int×Int×Int)×Bool:=match (z5b a b).find? (fun w=>decide (y04 a b w)) with
 |some w=>((w.1,w.2,mxd a w),true)
 |none=>((0,0,0),false)
theorem x82 {a b:List Pt} (la:a.length≤60) (lb:b.length≤60):(z5b a b).length≤10000:=by
 unfold z5b
 have h1:=y8y (a:=a) (b:=b)
 have h2:=x26 (wy a++wy b)
 have:=z7k a
 have:=z7k b
 have:=Nat.mul_le_mul la lb
 have e:((wy a++wy b).flatMap fun w=>[(w.2, -w.1),(-w.2,w.1)])=(wy a++wy b).flatMap ups:=rfl
 rw [e,List.length_append,h1,h2,List.length_append]
 omega
theorem v6m {A B a b:List Pt} (hA:Cyc A a) (hB:Cyc B b) (ka:∀ x∈a,z0m (-5000) 5000 x) (kb:∀ x∈b,z0m (-5000) 5000 x) (la:a.length≤60) (lb:b.length≤60):
  G63 std (z0d a,z0d b,())=some ((z3u a b).1.1,(z3u a b).1.2.1,(z3u a b).1.2.2,(z3u a b).2,()):=by
 have sa:∀ x∈a,z1e x:=fun x hx=>z16 (ka x hx)
 have sb':∀ x∈b,z1e x:=fun x hx=>z16 (kb x hx)
 have ane:=z8x (z1w hA)
 have bne:=z8x (z1w hB)
 have h1:=w28 sa sb' (by omega) (by omega)
 generalize ho:(a.flatMap fun p=>b.map fun q=>sb q p)=o at h1
 have hol:o.length≤3600:=by rw [←ho,y8y]; exact Nat.mul_le_mul la lb
 have ht:z5b a b=o++(wy a).flatMap ups++(wy b).flatMap ups:=by
  unfold z5b
  rw [ho,List.append_assoc, ←List.flatMap_append]; rfl
 have hways:z4n (y3p it0 std) ([[D.list false 2 (z0d a)],[D.list false 2 (z0d b)]],z0d o,(0:Int),(0:Int),(0:Int),z0d a,z0d b,(2:Int),(0:Int),())=some (z0d (z5b a b),(0:Int),(0:Int),(0:Int),z0d a,z0d b,()):=by
  generalize hL:[[D.list false 2 (z0d a)],[D.list false 2 (z0d b)]]=L
  have r0:std.rdL L 0 0=z0d a:=by subst hL; rfl
  have r1:std.rdL L 1 0=z0d b:=by subst hL; rfl
  have k0:std.rowOk L 0 [CK.list 2]=true:=by subst hL; rfl
  have k1:std.rowOk L 1 [CK.list 2]=true:=by subst hL; rfl
  have hl2:L.length=2:=by subst hL; rfl
  have e1:(0:Int).toNat=0:=rfl
  have e2:(1:Int).toNat=1:=rfl
  have v1:IntKind.i64.wrap ((0:Int)+1)=1:=by decide
  have v2:IntKind.i64.wrap ((1:Int)+1)=2:=by decide
  have v1':IntKind.i64.wrap 1=1:=by decide
  have v2':IntKind.i64.wrap 2=2:=by decide
  have t0:y3p it0 std (L,z0d o,(0:Int),(0:Int),(0:Int),z0d a,z0d b,(2:Int),(0:Int),())=some (.inl (L,z0d (o++(wy a).flatMap ups),(0:Int),(0:Int),(0:Int),z0d a,z0d b,(2:Int),(1:Int),())):=by
   have hw:=x00 hA ka (by omega) o (by omega) L (z0d b) (z0d a) 0 0 0 2 0
   rcases hw with hw|hw
   ·simp only [y3p,it0_eq,z2a,z3x,z2w,z24,z3s,z69,z3q,z4a,z5n,z8e,z2t,z1k,e1,Nat.zero_add,r0,k0,hl2,z0c,hw,Option.bind_some,Sum.elim_inl,Sum.elim_inr,z0b,v1,z4s,z5j]
    simp [v1']
   ·simp only [y3p,it0_eq,z2a,z3x,z2w,z24,z3s,z69,z3q,z4a,z5n,z8e,z2t,z1k,e1,Nat.zero_add,r0,k0,hl2,z0c,hw,Option.bind_some,Sum.elim_inl,Sum.elim_inr,z0b,v1,z4s,z5j]
    simp [v1']
  have t1:y3p it0 std (L,z0d (o++(wy a).flatMap ups),(0:Int),(0:Int),(0:Int),z0d a,z0d b,(2:Int),(1:Int),())=some (.inl (L,z0d (z5b a b),(0:Int),(0:Int),(0:Int),z0d a,z0d b,(2:Int),(2:Int),())):=by
   have hw:=x00 hB kb (by omega) (o++(wy a).flatMap ups) (by rw [List.length_append,x26]; have:=z7k a; omega) L (z0d b) (z0d a) 0 0 0 2 1
   rw [←ht] at hw
   rcases hw with hw|hw
   ·simp only [y3p,it0_eq,z2a,z3x,z2w,z24,z3s,z69,z3q,z4a,z5n,z8e,z2t,z1k,e2,Nat.zero_add,r1,k1,hl2,z0c,hw,Option.bind_some,Sum.elim_inl,Sum.elim_inr,z0b,v2,z4s,z5j]
    simp [v2']
   ·simp only [y3p,it0_eq,z2a,z3x,z2w,z24,z3s,z69,z3q,z4a,z5n,z8e,z2t,z1k,e2,Nat.zero_add,r1,k1,hl2,z0c,hw,Option.bind_some,Sum.elim_inl,Sum.elim_inr,z0b,v2,z4s,z5j]
    simp [v2']
  have t2:y3p it0 std (L,z0d (z5b a b),(0:Int),(0:Int),(0:Int),z0d a,z0d b,(2:Int),(2:Int),())=some (.inr (z0d (z5b a b),(0:Int),(0:Int),(0:Int),z0d a,z0d b,())):=by
   have c1:¬ (2:Int)<2:=by omega
   simp only [y3p,z0u,z0v,c1]
  rw [z0h,t0]
  simp only
  rw [z0h,t1]
  simp only
  rw [z0h,t2]
 have htl:=x82 la lb
 have hts:=y4f ka kb
 have key:=z3v (b:=x4g it0 std) (z5b a b).length (fun i=>(z0d (z5b a b),(0:Int),(0:Int),(0:Int),(0:Int),(0:Int),(0:Int),z0d a,z0d b,false,((z5b a b).length:Int),(i:Int),())) (fun i=>decide (y04 a b ((z5b a b).getD i (0,0))))
  (fun i=>((0:Int),(0:Int),(0:Int),((z5b a b).getD i (0,0)).1,((z5b a b).getD i (0,0)).2,mxd a ((z5b a b).getD i (0,0)),true,())) ((0:Int),(0:Int),(0:Int),(0:Int),(0:Int),(0:Int),false,()) (fun i hi=>by
  obtain ⟨w,hw⟩:=z0l hi
  have gw:=z0w hw
  rw [z6k hw]
  have hwb:=hts w (List.mem_of_getElem? hw)
  have hws:z1e w:=by simp only [z0m,z1e] at*; omega
  have h92:g92 it0 std (z0d a,z0d b,w.1,w.2,())=_:=v6c ane bne (by omega) (by omega) hws (fun x hx=>by have:=ka x hx; simp only [z0m] at*; omega) (fun x hx=>by have:=kb x hx; simp only [z0m] at*; omega)
  have c1:(i:Int)<((z5b a b).length:Int):=by omega
  have c2:(i:Int)≥0:=by omega
  have hwr:=z04 (i:=i) (by omega)
  by_cases hp:y04 a b w
  ·simp only [x4g,z0u,z0v,z0g,z0z,z0y,z1f,z0i,z0c,z0b,hwr,c1,c2,gw,h92,hp]
  ·simp only [x4g,z0u,z0v,z0g,z0z,z0y,z1f,z0i,z0c,z0b,hwr,c1,c2,gw,h92,hp]) (by
  have hn:¬ (((z5b a b).length:Int)<((z5b a b).length:Int)):=by omega
  simp only [x4g,z0u,z0v,hn])
 have e0:((0:Nat):Int)=0:=rfl
 rw [e0] at key
 have e2:std.ofNat 2=(2:Int):=rfl
 unfold G63 z3u
 rcases key with ⟨i,i1,i2,i3,i4⟩|⟨i1,i2⟩
 ·rw [w04 (d:=(0,0)) i1 i2 i3]
  simp only [g63,it0_eq,e2,hways,h1,i4,z0u,z0v,z0c]
 ·rw [w05 (d:=(0,0)) i1]
  simp only [g63,it0_eq,e2,hways,h1,i2,z0u,z0v,z0c]
noncomputable def x1b (l:List Pt) (hs:List (List Pt)) (m:List Pt) (ks:List (List Pt)):(Int×Int×Int)×Int:=
 if z80 l hs≠0 then ((0,0,0),z80 l hs) else if z80 m ks≠0 then ((0,0,0),z80 m ks) else
  if (z3u (z1g (z1i l hs)) (z1g (z1i m ks))).2=true then ((z3u (z1g (z1i l hs)) (z1g (z1i m ks))).1,0) else ((0,0,0),21)
theorem y9y {l:List Pt} {hs:List (List Pt)} (hf:z49 l hs) {m:List Pt} {ks:List (List Pt)} (hk:z49 m ks):
  g63 it0 std (z0d (z1g (z1i l hs)),z0d (z1g (z1i m ks)),())=some ((z3u (z1g (z1i l hs)) (z1g (z1i m ks))).1.1,(z3u (z1g (z1i l hs)) (z1g (z1i m ks))).1.2.1,(z3u (z1g (z1i l hs)) (z1g (z1i m ks))).1.2.2,(z3u (z1g (z1i l hs)) (z1g (z1i m ks))).2,()):=
 v6m hf.cyc hk.cyc hf.cbox hk.cbox (z5y hf) (z5y hk)
theorem w7g (l:List Pt) (hs:List (List Pt)) (m:List Pt) (ks:List (List Pt)):
  G32 std (z0d l,z1s hs,z0d m,z1s ks,())=some ((x1b l hs m ks).1.1,(x1b l hs m ks).1.2.1,(x1b l hs m ks).1.2.2,(x1b l hs m ks).2,()):=by
 unfold G32 x1b
 by_cases h:z80 l hs=0
 case neg=>
  have h62:g62 it0 std (z0d l,z1s hs,z0d m,z1s ks,())=_:=w51 h m ks
  simp only [g32,z0u,z0v,h62,h,not_false_eq_true,ne_eq]
 have hf:=z3p.1 h
 by_cases h':z80 m ks=0
 case neg=>
  have h62:g62 it0 std (z0d l,z1s hs,z0d m,z1s ks,())=_:=w50 hf h'
  simp only [g32,z0u,z0v,h62,h,h',not_false_eq_true,ne_eq,not_true]
 have hk:=z3p.1 h'
 have h62:g62 it0 std (z0d l,z1s hs,z0d m,z1s ks,())=_:=w2n hf hk
 have h63:=y9y hf hk
 by_cases hq:(z3u (z1g (z1i l hs)) (z1g (z1i m ks))).2=true
 ·simp only [g32,z0u,z0v,h62,h,h',h63,hq,not_false_eq_true,ne_eq,not_true]
 ·have hq':(z3u (z1g (z1i l hs)) (z1g (z1i m ks))).2=false:=by simpa using hq
  simp only [g32,z0u,z0v,h62,h,h',h63,hq',not_false_eq_true,ne_eq,not_true]
end Go.Am
end
section
namespace Go.Am
open M06
def amt (n:Int):Int:=max n (IntKind.i64.wrap (0 - n))
theorem v6h (n:Int):G77 std (n,())=some (amt n,()):=by
 unfold G77 amt
 simp only [z2w,x4z,z0k]
theorem v57 {n:Int} (h1: -9223372036854775808≤n) (h2:n≤9223372036854775807):(n= -9223372036854775808∧amt n=n)∨(n≠ -9223372036854775808∧amt n=max n (-n)):=by
 by_cases h:n= -9223372036854775808
 ·left
  subst h
  exact ⟨rfl,by unfold amt; decide⟩
 ·right
  refine ⟨h,?_⟩
  unfold amt
  rw [z00 _ (by omega) (by omega)]
  omega
def w0h (A B C:Int):Prop:=¬ (A=0∧B=0)∧ -1048576≤A∧A≤1048576∧ -1048576≤B∧B≤1048576∧ -1099511627776≤C∧C≤1099511627776
instance (A B C:Int):Decidable (w0h A B C):=by unfold w0h; infer_instance
def okL (a b:List Pt) (A B C:Int):Prop:=(∀ p∈a,dt (A,B) p≤C)∧∀ q∈b,C<dt (A,B) q
instance (a b:List Pt) (A B C:Int):Decidable (okL a b A B C):=by unfold okL; infer_instance
noncomputable def x6k (l:List Pt) (hs:List (List Pt)) (m:List Pt) (ks:List (List Pt)) (A B C:Int):Int:=
 if z80 l hs≠0 then z80 l hs else if z80 m ks≠0 then z80 m ks else if ¬ w0h A B C then 2 else if okL (z1g (z1i l hs)) (z1g (z1i m ks)) A B C then 0 else 14
theorem v0p {l:List Pt} {hs:List (List Pt)} (hf:z49 l hs):∀ p∈z1g (z1i l hs),z0m (-10000) 10000 p:=hf.cbox'
theorem v6i (l:List Pt) (hs:List (List Pt)) (m:List Pt) (ks:List (List Pt)):G72 std (z0d l,z1s hs,z0d m,z1s ks,())=some (if z80 l hs≠0 then z80 l hs else z80 m ks,()):=by
 unfold G72
 have h1:g19 it0 std (z0d l,z1s hs,())=some (z80 l hs,()):=z8y l hs
 have h2:g19 it0 std (z0d m,z1s ks,())=some (z80 m ks,()):=z8y m ks
 by_cases h:z80 l hs=0
 ·simp only [g72,z0u,z0v,h1,h2,h,not_true,ne_eq]
 ·simp only [g72,z0u,z0v,h1,h2,h,not_false_eq_true,ne_eq]
theorem v6n (l:List Pt) (hs:List (List Pt)) (m:List Pt) (ks:List (List Pt)) (A B C:Int):G36 std (z0d l,z1s hs,z0d m,z1s ks,A,B,C,())=some (x6k l hs m ks A B C,()):=by
 unfold G36 x6k
 have h72:g72 it0 std (z0d l,z1s hs,z0d m,z1s ks,())=_:=v6i l hs m ks
 by_cases h:z80 l hs=0
 case neg=>
  rw [if_pos h] at h72
  simp only [g36,z0u,z0v,h72,h,not_false_eq_true,ne_eq]
 rw [if_neg (by simp [h])] at h72
 have hf:=z3p.1 h
 by_cases h':z80 m ks=0
 case neg=>simp only [g36,z0u,z0v,h72,h,h',not_false_eq_true,ne_eq,not_true]
 have hk:=z3p.1 h'
 rw [h'] at h72
 rw [if_neg (by simp [h]),if_neg (by simp [h'])]
 by_cases hg:w0h A B C
 case neg=>
  rw [if_pos hg]
  by_cases q1:A=0
  ·by_cases q2:B=0
   ·simp only [g36,z0u,z0v,h72,eq_true q1,eq_true q2,not_true]
   ·by_cases u1:A< -1048576
    ·simp only [g36,z0u,z0v,h72,eq_true q1,q2,u1,not_true]
    ·by_cases u2:A>1048576
     ·simp only [g36,z0u,z0v,h72,eq_true q1,q2,u1,u2,not_true]
     ·by_cases u3:B< -1048576
      ·simp only [g36,z0u,z0v,h72,eq_true q1,q2,u1,u2,u3,not_true]
      ·by_cases u4:B>1048576
       ·simp only [g36,z0u,z0v,h72,eq_true q1,q2,u1,u2,u3,u4,not_true]
       ·by_cases u5:C< -1099511627776
        ·simp only [g36,z0u,z0v,h72,eq_true q1,q2,u1,u2,u3,u4,u5,not_true]
        ·have u6:C>1099511627776:=Classical.byContradiction fun hc=>hg ⟨fun e=>q2 e.2,by omega,by omega,by omega,by omega,by omega,by omega⟩
         simp only [g36,z0u,z0v,h72,eq_true q1,q2,u1,u2,u3,u4,u5,u6,not_true]
  ·by_cases u1:A< -1048576
   ·simp only [g36,z0u,z0v,h72,q1,u1,not_true]
   ·by_cases u2:A>1048576
    ·simp only [g36,z0u,z0v,h72,q1,u1,u2,not_true]
    ·by_cases u3:B< -1048576
     ·simp only [g36,z0u,z0v,h72,q1,u1,u2,u3,not_true]
     ·by_cases u4:B>1048576
      ·simp only [g36,z0u,z0v,h72,q1,u1,u2,u3,u4,not_true]
      ·by_cases u5:C< -1099511627776
       ·simp only [g36,z0u,z0v,h72,q1,u1,u2,u3,u4,u5,not_true]
       ·have u6:C>1099511627776:=Classical.byContradiction fun hc=>hg ⟨fun e=>q1 e.1,by omega,by omega,by omega,by omega,by omega,by omega⟩
        simp only [g36,z0u,z0v,h72,q1,u1,u2,u3,u4,u5,u6,not_true]
 rw [if_neg (by simp [hg])]
 have hg':=hg
 obtain ⟨z0,g1,g2,g3,g4,g5,g6⟩:=hg'
 have u1:¬ A< -1048576:=by omega
 have u2:¬ A>1048576:=by omega
 have u3:¬ B< -1048576:=by omega
 have u4:¬ B>1048576:=by omega
 have u5:¬ C< -1099511627776:=by omega
 have u6:¬ C>1099511627776:=by omega
 have hw:z1e (A,B):=⟨g1,g2,g3,g4⟩
 have a49:g49 it0 std (z0d l,z1s hs,())=_:=w7e hf
 have b49:g49 it0 std (z0d m,z1s ks,())=_:=w7e hk
 have ba:=v0p hf
 have bb:=v0p hk
 have la:=z5y hf
 have lb:=z5y hk
 generalize z1g (z1i l hs)=a at a49 ba la⊢
 generalize z1g (z1i m ks)=b at b49 bb lb⊢
 have key1:=z3v (b:=w2e std) a.length (fun i=>(A,B,C,z0d a,z0d b,(i:Int),())) (fun i=>decide (dt (A,B) (a.getD i (0,0))>C)) (fun i=> .inl (14,())) (.inr (A,B,C,z0d b,())) (fun i hi=>by
  obtain ⟨p,hp⟩:=z0l hi
  have gp:=z0w hp
  rw [z6k hp]
  obtain ⟨d1,d2,d3,_⟩:=z9f hw (ba p (List.mem_of_getElem? hp))
  simp only at d1 d2 d3
  have c1:(i:Int)<(a.length:Int):=by omega
  have c2:(i:Int)≥0:=by omega
  have hwr:=z04 (i:=i) (by omega)
  by_cases k:dt (A,B) p>C
  ·simp only [w2e,z0u,z0v,z0g,z0z,z0y,z1f,z0i,z0c,z0b,z08,hwr,c1,c2,gp,d1,d2,d3,k]
  ·simp only [w2e,z0u,z0v,z0g,z0z,z0y,z1f,z0i,z0c,z0b,z08,hwr,c1,c2,gp,d1,d2,d3,k]) (by
  have hn:¬ ((a.length:Int)<(a.length:Int)):=by omega
  simp only [w2e,z0u,z0v,z0c,hn])
 have key2:=z3v (b:=w2d std) b.length (fun i=>(A,B,C,z0d b,(i:Int),())) (fun i=>decide (dt (A,B) (b.getD i (0,0))≤C)) (fun i=> .inl (14,())) (.inr ()) (fun i hi=>by
  obtain ⟨p,hp⟩:=z0l hi
  have gp:=z0w hp
  rw [z6k hp]
  obtain ⟨d1,d2,d3,_⟩:=z9f hw (bb p (List.mem_of_getElem? hp))
  simp only at d1 d2 d3
  have c1:(i:Int)<(b.length:Int):=by omega
  have c2:(i:Int)≥0:=by omega
  have hwr:=z04 (i:=i) (by omega)
  by_cases k:dt (A,B) p≤C
  ·simp only [w2d,z0u,z0v,z0g,z0z,z0y,z1f,z0i,z0c,z0b,z08,hwr,c1,c2,gp,d1,d2,d3,k]
  ·simp only [w2d,z0u,z0v,z0g,z0z,z0y,z1f,z0i,z0c,z0b,z08,hwr,c1,c2,gp,d1,d2,d3,k]) (by
  have hn:¬ ((b.length:Int)<(b.length:Int)):=by omega
  simp only [w2d,z0u,z0v,z0c,hn])
 have e0:((0:Nat):Int)=0:=rfl
 rw [e0] at key1 key2
 have fin:∀ r:Int,(∀ q1:A=0,¬ B=0→g36 it0 std (z0d l,z1s hs,z0d m,z1s ks,A,B,C,())=some (r,()))→(¬ A=0→g36 it0 std (z0d l,z1s hs,z0d m,z1s ks,A,B,C,())=some (r,()))→g36 it0 std (z0d l,z1s hs,z0d m,z1s ks,A,B,C,())=some (r,()):=by
  intro r f1 f2
  by_cases q1:A=0
  ·exact f1 q1 (fun e=>z0 ⟨q1,e⟩)
  ·exact f2 q1
 rcases key1 with ⟨i,i1,i2,_,i4⟩|⟨i1,i2⟩
 ·have:¬ okL a b A B C:=fun h=>by
   have:=h.1 _ (z5v (0,0) i1)
   have i2:dt (A,B) (a.getD i (0,0))>C:=of_decide_eq_true i2
   omega
  rw [if_neg this]
  exact fin 14 (fun q1 q2=>by simp only [g36,it0_eq,z0u,z0v,h72,eq_true q1,q2,u1,u2,u3,u4,u5,u6,a49,b49,i4,not_true]) (fun q1=>by simp only [g36,it0_eq,z0u,z0v,h72,q1,u1,u2,u3,u4,u5,u6,a49,b49,i4,not_true])
 rcases key2 with ⟨j,j1,j2,_,j4⟩|⟨j1,j2⟩
 ·have:¬ okL a b A B C:=fun h=>by
   have:=h.2 _ (z5v (0,0) j1)
   have j2:dt (A,B) (b.getD j (0,0))≤C:=of_decide_eq_true j2
   omega
  rw [if_neg this]
  exact fin 14 (fun q1 q2=>by simp only [g36,it0_eq,z0u,z0v,h72,eq_true q1,q2,u1,u2,u3,u4,u5,u6,a49,b49,i2,j4,not_true]) (fun q1=>by simp only [g36,it0_eq,z0u,z0v,h72,q1,u1,u2,u3,u4,u5,u6,a49,b49,i2,j4,not_true])
 ·have:okL a b A B C:=⟨z8u (d:=(0,0)) (P:=fun p=>dt (A,B) p≤C) fun i hi=>by have:¬ dt (A,B) (a.getD i (0,0))>C:=of_decide_eq_false (i1 i hi); omega,z8u (d:=(0,0)) (P:=fun p=>C<dt (A,B) p) fun i hi=>by have:¬ dt (A,B) (b.getD i (0,0))≤C:=of_decide_eq_false (j1 i hi); omega⟩
  rw [if_pos this]
  exact fin 0 (fun q1 q2=>by simp only [g36,it0_eq,z0u,z0v,h72,eq_true q1,q2,u1,u2,u3,u4,u5,u6,a49,b49,i2,j2,not_true]) (fun q1=>by simp only [g36,it0_eq,z0u,z0v,h72,q1,u1,u2,u3,u4,u5,u6,a49,b49,i2,j2,not_true])
end Go.Am
end
section
namespace Go.Am
open M06
theorem w9u {a b:List Pt} (ha:∀ x∈a,z0m (-5000) 5000 x) (hb:∀ x∈b,z0m (-5000) 5000 x):∀ x∈dif a b,z0m (-10000) 10000 x:=by
 intro x hx
 obtain ⟨p,hp,q,hq,rfl⟩:=z13.1 hx
 exact z8a (ha p hp) (hb q hq)
theorem y7j {a b:List Pt} (ha:a≠[]) (hb:b≠[]):dif a b≠[]:=by
 match a,b,ha,hb with
 |p::a,q::b,_,_=>intro e; have:=(z13 (a:=p::a) (b:=q::b)).2 ⟨p,by simp,q,by simp,rfl⟩; rw [e] at this; simp at this
noncomputable def z35 (l:List Pt) (hs:List (List Pt)) (m:List Pt) (ks:List (List Pt)):Bool:=inC (z1g (dif (z1g (z1i l hs)) (z1g (z1i m ks)))) (0,0) 1
theorem z91 {l:List Pt} {hs:List (List Pt)} (hf:z49 l hs) {m:List Pt} {ks:List (List Pt)} (hk:z49 m ks):
  (z3u (z1g (z1i l hs)) (z1g (z1i m ks))).2=!z35 l hs m ks:=by
 have ha:=z1w hf.cyc
 have hb:=z1w hk.cyc
 have hne:=y7j (z4g hf.allNe) (z4g hk.allNe)
 have hD:=z2f hne
 have hiff:=w7z ha hb
 have hin:z35 l hs m ks=true↔InH (dif (z1g (z1i l hs)) (z1g (z1i m ks))) (0,0) 1:=(z9a hD (by omega)).trans (z47 hD (by omega)).symm
 unfold z3u
 cases hc:z35 l hs m ks with
 |true=>
  have hno:¬ ∃ w∈z5b (z1g (z1i l hs)) (z1g (z1i m ks)),y04 (z1g (z1i l hs)) (z1g (z1i m ks)) w:=fun h=>hiff.1 h (hin.1 hc)
  rw [List.find?_eq_none.2 (fun w hw=>by simp only [decide_eq_true_eq]; exact fun hp=>hno ⟨w,hw,hp⟩)]
  rfl
 |false=>
  have hyes:=hiff.2 (fun h=>by rw [hin.2 h] at hc; cases hc)
  obtain ⟨w,hw,hp⟩:=hyes
  cases hfd:(z5b (z1g (z1i l hs)) (z1g (z1i m ks))).find? (fun w=>decide (y04 (z1g (z1i l hs)) (z1g (z1i m ks)) w)) with
  |none=>have:=List.find?_eq_none.1 hfd w hw; simp [hp] at this
  |some v=>rfl
end Go.Am
end
section
namespace Go.Am
open M06
def y3j (l:List Int):List (List D):=l.map fun n=>[D.int IntKind.i64 n]
theorem x9l {l:List Int} {i:Nat} {n:Int} (h:l[i]?=some n):(y3j l)[i]?=some [D.int IntKind.i64 n]:=by simp [y3j,h]
theorem x05 (l:List Int):(y3j l).length=l.length:=by simp [y3j]
def w84 (l:List Int):Nat:=l.foldl (fun g x=>Nat.gcd g x.natAbs) 0
theorem w4j (L:List (List D)) (u v:Int):∀ (n g:Nat),n<4611686018427387904→g<4611686018427387904→
  z4n (x8l std) ((g:Int),(n:Int),L,u,v,())=some ((Nat.gcd g n:Int),L,u,v,()):=by
 intro n
 induction n using Nat.strongRecOn with
 |_ n ih=>
  intro g hn hg
  rw [z0h]
  by_cases h:n=0
  ·subst h
   have:x8l std ((g:Int),((0:Nat):Int),L,u,v,())=some (.inr ((g:Int),L,u,v,())):=by
    have c1:((0:Nat):Int)=0:=rfl
    simp only [x8l,z0u,z0v,c1,not_true]
   rw [this,Nat.gcd_zero_right]
  ·have c1:¬ (n:Int)=0:=by omega
   have hr:((g:Int)).tmod (n:Int)=((g % n:Nat):Int):=by rw [Int.tmod_eq_emod_of_nonneg (by omega)]; rfl
   have:x8l std ((g:Int),(n:Int),L,u,v,())=some (.inl ((n:Int),((g % n:Nat):Int),L,u,v,())):=by
    simp only [x8l,z0u,z0v,c1,z1x,hr,not_false_eq_true]
   rw [this]
   have hlt:=Nat.mod_lt g (show 0<n by omega)
   have:=ih (g % n) hlt n (by omega) hn
   simp only [this]
   rw [Nat.gcd_comm g n,Nat.gcd_rec n g,Nat.gcd_comm]
theorem v0s {n:Int} (h1: -4611686018427387904<n) (h2:n<4611686018427387904):amt n=(n.natAbs:Int):=by
 have:=v57 (n:=n) (by omega) (by omega)
 omega
theorem v3t {g n:Nat} (h1:g<4611686018427387904) (h2:n<4611686018427387904):Nat.gcd g n<4611686018427387904:=by
 rcases Nat.eq_zero_or_pos n with h|h
 ·subst h; rw [Nat.gcd_zero_right]; exact h1
 ·exact Nat.lt_of_le_of_lt (Nat.gcd_le_right g h) h2
theorem v6b {l:List Int} (hl:l.length≤1000) (hb:∀ n∈l, -4611686018427387904<n∧n<4611686018427387904):G93 std (y3j l,())=some ((w84 l:Int),()):=by
 have key:=z34 (b:=x8g it0 std) l.length (fun (g:Nat) (i:Nat)=>((g:Int),y3j l,(l.length:Int),(i:Int),())) (fun g i=>g=w84 (l.take i)∧g<4611686018427387904) (fun r=>r=((w84 l:Int),())) (fun g i hi ⟨h1,h2⟩=>by
  left
  obtain ⟨n,hn⟩:=z0l hi
  have gn:=x9l hn
  have hbn:=hb n (List.mem_of_getElem? hn)
  have c1:(i:Int)<(l.length:Int):=by omega
  have c2:(i:Int)≥0:=by omega
  have hw:=z04 (i:=i) (by omega)
  have h77:=v6h n
  rw [v0s hbn.1 hbn.2] at h77
  have hlp:=w4j (y3j l) (l.length:Int) (i:Int) n.natAbs g (by omega) h2
  refine ⟨Nat.gcd g n.natAbs,?_,?_,v3t h2 (by omega)⟩
  ·have cc:z3c [CK.int IntKind.i64] [D.int IntKind.i64 n]=true:=rfl
   have cd:dI (([D.int IntKind.i64 n]:List D)[0]?.getD D.nilp)=n:=rfl
   simp only [x8g,it0_eq,z0u,z0v,x05,z0b,hw,c1,c2,gn,cc,cd,h77,hlp]
  ·rw [h1,w84,w84,z0q hn,List.foldl_append]; rfl) (fun g ⟨h1,h2⟩=>by
  have hn':¬ ((l.length:Int)<(l.length:Int)):=by omega
  rw [List.take_length] at h1
  exact ⟨((g:Int),()),by simp only [x8g,z0u,z0v,hn'],by rw [h1]⟩) 0 0 (Nat.zero_le _) ⟨rfl,by omega⟩
 obtain ⟨r,h1,rfl⟩:=key
 have e0:((0:Nat):Int)=0:=rfl
 rw [e0] at h1
 unfold G93
 simp only [g93,it0_eq,z0u,z0v,x05,h1]
def v59 (P e Q f:Pt):Prop:=
 (0<crs e f∧0≤crs (sb Q P) f∧crs (sb Q P) f≤crs e f∧0≤crs (sb Q P) e∧crs (sb Q P) e≤crs e f)∨
 (0< - crs e f∧0≤ - crs (sb Q P) f∧ - crs (sb Q P) f≤ - crs e f∧0≤ - crs (sb Q P) e∧ - crs (sb Q P) e≤ - crs e f)
instance (P e Q f:Pt):Decidable (v59 P e Q f):=by unfold v59; infer_instance
theorem v0b {e f:Pt} {A B:Int} (hA:0≤A) (he:z0m (-A) A e) (hf:z0m (-B) B f): -(2*(A*B))≤crs e f∧crs e f≤2*(A*B)∧(-(A*B)≤e.1*f.2∧e.1*f.2≤A*B)∧(-(A*B)≤e.2*f.1∧e.2*f.1≤A*B):=by
 obtain ⟨e1,e2,e3,e4⟩:=he
 obtain ⟨f1,f2,f3,f4⟩:=hf
 have m1:=z4j hA e1 e2 f3 f4
 have m2:=z4j hA e3 e4 f1 f2
 simp only [crs]
 omega
theorem y5n {e f:Pt} (he:z0m (-10000) 10000 e) (hf:z0m (-10000) 10000 f):IntKind.i64.wrap (e.1*f.2)=e.1*f.2∧IntKind.i64.wrap (e.2*f.1)=e.2*f.1∧IntKind.i64.wrap (e.1*f.2 - e.2*f.1)=crs e f∧ -200000000≤crs e f∧crs e f≤200000000:=by
 obtain ⟨h1,h2,h3,h4⟩:=v0b (A:=10000) (by omega) he hf
 exact ⟨z00 _ (by omega) (by omega),z00 _ (by omega) (by omega),by rw [z00 _ (by omega) (by omega)]; rfl,by omega,by omega⟩
end Go.Am
end
section
namespace Go.Am
open M06
def fr (n d:Nat):Pt:=(((n / Nat.gcd n d:Nat):Int),((d / Nat.gcd n d:Nat):Int))
theorem w0p (u v:Int) (x y:Int):∀ (n g:Nat),n<9223372036854775808→g<9223372036854775808→
  z4n (x8m std) (u,v,x,y,(g:Int),(n:Int),())=some (u,v,x,y,(Nat.gcd g n:Int),()):=by
 intro n
 induction n using Nat.strongRecOn with
 |_ n ih=>
  intro g hn hg
  rw [z0h]
  by_cases h:n=0
  ·subst h
   have:x8m std (u,v,x,y,(g:Int),((0:Nat):Int),())=some (.inr (u,v,x,y,(g:Int),())):=by
    have c1:((0:Nat):Int)=0:=rfl
    simp only [x8m,z0u,z0v,c1,not_true]
   rw [this,Nat.gcd_zero_right]
  ·have c1:¬ (n:Int)=0:=by omega
   have hr:((g:Int)).tmod (n:Int)=((g % n:Nat):Int):=by rw [Int.tmod_eq_emod_of_nonneg (by omega)]; rfl
   have:x8m std (u,v,x,y,(g:Int),(n:Int),())=some (.inl (u,v,x,y,(n:Int),((g % n:Nat):Int),())):=by
    simp only [x8m,z0u,z0v,c1,z1x,hr,not_false_eq_true]
   rw [this]
   have hlt:=Nat.mod_lt g (show 0<n by omega)
   have:=ih (g % n) hlt n (by omega) hn
   simp only [this]
   rw [Nat.gcd_comm g n,Nat.gcd_rec n g,Nat.gcd_comm]
theorem y40 {n g:Nat} (hn:n<9223372036854775808):IntKind.i64.wrap ((n:Int).tdiv (g:Int))=((n / g:Nat):Int):=by
 have e:(n:Int).tdiv (g:Int)=((n / g:Nat):Int):=by rw [Int.tdiv_eq_ediv_of_nonneg (by omega)]; rfl
 have:=Nat.div_le_self n g
 rw [e]
 generalize n / g=k at*
 exact z00 _ (by omega) (by omega)
theorem v6p {n d:Nat} (hn:n<9223372036854775808) (hd:d<9223372036854775808) (h0:0<d):G34 std ((n:Int),(d:Int),())=some ((fr n d).1,(fr n d).2,()):=by
 unfold G34
 have hl:=w0p 0 0 n d d n hd hn
 have hg:=Nat.gcd_pos_of_pos_right n h0
 have c1:¬ ((Nat.gcd n d:Nat):Int)=0:=by omega
 have q1:=y40 (g:=Nat.gcd n d) hn
 have q2:=y40 (g:=Nat.gcd n d) hd
 simp only [g34,it0_eq,z0u,z0v,hl,c1,z2u,q1,q2,fr,not_false_eq_true]
theorem w69 {n d:Nat} (hn:n<4611686018427387904) (hd:d<4611686018427387904) (h0:0<d):G65 std ((n:Int),(d:Int),())=some ((fr n d).1,(fr n d).2,()):=by
 unfold G65
 have h93:g93 it0 std (y3j [(n:Int),(d:Int)],())=_:=v6b (l:=[(n:Int),(d:Int)]) (by simp) (fun x hx=>by simp at hx; rcases hx with rfl|rfl<;>omega)
 have e:w84 [(n:Int),(d:Int)]=Nat.gcd n d:=by simp [w84]
 rw [e] at h93
 have er:([[D.int IntKind.i64 (n:Int)],[D.int IntKind.i64 (d:Int)]]:List (List D))=y3j [(n:Int),(d:Int)]:=rfl
 have hg:=Nat.gcd_pos_of_pos_right n h0
 have c1:¬ ((Nat.gcd n d:Nat):Int)=0:=by omega
 have q1:=y40 (n:=n) (g:=Nat.gcd n d) (by omega)
 have q2:=y40 (n:=d) (g:=Nat.gcd n d) (by omega)
 have tk:(y3j [(n:Int),(d:Int)]).take 2=y3j [(n:Int),(d:Int)]:=rfl
 have ln:(y3j [(n:Int),(d:Int)]).length=2:=rfl
 simp only [g65,z0u,z0v,er,List.drop_zero,tk,ln,h93,c1,z2u,q1,q2,fr,not_false_eq_true,Nat.le_refl]
theorem y5e {n d:Nat} (h:0<d):0≤(fr n d).1∧1≤(fr n d).2:=by
 have hg:=Nat.gcd_pos_of_pos_right n h
 have:=Nat.div_pos (Nat.le_of_dvd h (Nat.gcd_dvd_right n d)) hg
 unfold fr
 generalize n / Nat.gcd n d=x at*
 generalize d / Nat.gcd n d=y at*
 exact ⟨by simp only; omega,by simp only; omega⟩
theorem x50 (n d:Nat):(fr n d).1*(Nat.gcd n d:Int)=n∧(fr n d).2*(Nat.gcd n d:Int)=d:=by
 have h1:=Nat.div_mul_cancel (Nat.gcd_dvd_left n d)
 have h2:=Nat.div_mul_cancel (Nat.gcd_dvd_right n d)
 constructor
 ·show ((n / Nat.gcd n d:Nat):Int)*_=_
  rw [←Int.natCast_mul,h1]
 ·show ((d / Nat.gcd n d:Nat):Int)*_=_
  rw [←Int.natCast_mul,h2]
theorem w6o {n d m e:Nat} (hd:0<d) (he:0<e):(fr n d).1*(fr m e).2≤(fr m e).1*(fr n d).2↔(n:Int)*e≤(m:Int)*d:=by
 obtain ⟨a1,a2⟩:=x50 n d
 obtain ⟨b1,b2⟩:=x50 m e
 have g1:=Nat.gcd_pos_of_pos_right n hd
 have g2:=Nat.gcd_pos_of_pos_right m he
 rw [←a1, ←a2, ←b1, ←b2]
 generalize (fr n d).1=x
 generalize (fr n d).2=y
 generalize (fr m e).1=z
 generalize (fr m e).2=w
 have hg:(0:Int)<(Nat.gcd n d:Int)*(Nat.gcd m e:Int):=Int.mul_pos (by omega) (by omega)
 have e1:x*(Nat.gcd n d:Int)*(w*(Nat.gcd m e:Int))=((Nat.gcd n d:Int)*(Nat.gcd m e:Int))*(x*w):=by grind
 have e2:z*(Nat.gcd m e:Int)*(y*(Nat.gcd n d:Int))=((Nat.gcd n d:Int)*(Nat.gcd m e:Int))*(z*y):=by grind
 rw [e1,e2]
 exact ⟨fun h=>Int.mul_le_mul_of_nonneg_left h (by omega),fun h=>Int.le_of_mul_le_mul_left h hg⟩
theorem v33 {n d m e:Nat} (hd:0<d) (he:0<e) (h:(n:Int)*e=(m:Int)*d):fr n d=fr m e:=by
 have h':n*e=m*d:=by exact_mod_cast h
 have hc:∀ {n d:Nat},0<d→Nat.Coprime (n / Nat.gcd n d) (d / Nat.gcd n d):=fun h=>Nat.coprime_div_gcd_div_gcd (Nat.gcd_pos_of_pos_right _ h)
 have g1:=Nat.gcd_pos_of_pos_right n hd
 have g2:=Nat.gcd_pos_of_pos_right m he
 have k1:=hc (n:=n) hd
 have k2:=hc (n:=m) he
 have a1:=Nat.div_mul_cancel (Nat.gcd_dvd_left n d)
 have a2:=Nat.div_mul_cancel (Nat.gcd_dvd_right n d)
 have b1:=Nat.div_mul_cancel (Nat.gcd_dvd_left m e)
 have b2:=Nat.div_mul_cancel (Nat.gcd_dvd_right m e)
 unfold fr
 generalize n / Nat.gcd n d=x at*
 generalize d / Nat.gcd n d=y at*
 generalize m / Nat.gcd m e=z at*
 generalize e / Nat.gcd m e=w at*
 have hx:x*w=z*y:=by
  have:(Nat.gcd n d*Nat.gcd m e)*(x*w)=(Nat.gcd n d*Nat.gcd m e)*(z*y):=by
   have e1:(Nat.gcd n d*Nat.gcd m e)*(x*w)=(x*Nat.gcd n d)*(w*Nat.gcd m e):=by grind
   have e2:(Nat.gcd n d*Nat.gcd m e)*(z*y)=(z*Nat.gcd m e)*(y*Nat.gcd n d):=by grind
   rw [e1,e2,a1,a2,b1,b2,h']
  exact Nat.eq_of_mul_eq_mul_left (Nat.mul_pos g1 g2) this
 have d1:x ∣ z:=k1.dvd_of_dvd_mul_right (by rw [←hx]; exact Nat.dvd_mul_right _ _)
 have d2:z ∣ x:=k2.dvd_of_dvd_mul_right (by rw [hx]; exact Nat.dvd_mul_right _ _)
 have d3:y ∣ w:=k1.symm.dvd_of_dvd_mul_left (by rw [hx]; exact Nat.dvd_mul_left _ _)
 have d4:w ∣ y:=k2.symm.dvd_of_dvd_mul_left (by rw [←hx]; exact Nat.dvd_mul_left _ _)
 rw [Nat.dvd_antisymm d1 d2,Nat.dvd_antisymm d3 d4]
end Go.Am
end
section
namespace Go.Am
open M06
theorem x6j {a1 a2 b1 b2:Nat} (ha:0<a2) (hb:0<b2) (h:a1 / a2<b1 / b2):a1*b2<b1*a2:=by
 have h1:=(Nat.div_lt_iff_lt_mul ha).1 h
 have h2:=Nat.div_mul_le_self b1 b2
 have h3:=Nat.mul_lt_mul_of_pos_right h1 hb
 have h4:=Nat.mul_le_mul_right a2 h2
 have e:b1 / b2*a2*b2=b1 / b2*b2*a2:=by grind
 omega
theorem w6z {a1 a2 b1 b2:Nat} (h:a1 / a2=b1 / b2):(a1*b2<b1*a2↔(a1 % a2)*b2<(b1 % b2)*a2)∧(a1*b2=b1*a2↔(a1 % a2)*b2=(b1 % b2)*a2):=by
 have h1:=Nat.div_add_mod a1 a2
 have h2:=Nat.div_add_mod b1 b2
 rw [h] at h1
 generalize b1 / b2=p at*
 generalize a1 % a2=u at*
 generalize b1 % b2=v at*
 have e1:a1*b2=a2*p*b2+u*b2:=by rw [←h1]; grind
 have e2:b1*a2=a2*p*b2+v*a2:=by rw [←h2]; grind
 omega
theorem y1h {a d:Nat} (ha:a<9223372036854775808) (hd:0<d):IntKind.i64.wrap ((a:Int).tdiv (d:Int))=((a / d:Nat):Int)∧IntKind.i64.wrap (((a / d:Nat):Int)*(d:Int))=((a / d*d:Nat):Int)∧IntKind.i64.wrap ((a:Int) - ((a / d*d:Nat):Int))=((a % d:Nat):Int)∧(a:Int).tmod (d:Int)=((a % d:Nat):Int):=by
 have h1:=y40 (g:=d) ha
 have h2:=Nat.div_mul_le_self a d
 have h3:=Nat.div_add_mod a d
 have h4:d*(a / d)=a / d*d:=Nat.mul_comm _ _
 refine ⟨h1,?_,?_,by rw [Int.tmod_eq_emod_of_nonneg (by omega)]; rfl⟩
 ·rw [←Int.natCast_mul]
  generalize a / d*d=x at*
  exact z00 _ (by omega) (by omega)
 ·generalize a / d*d=x at*
  generalize a % d=y at*
  rw [z00 _ (by omega) (by omega)]
  omega
def y8s (a1 a2 b1 b2:Nat) (t:Bool):Bool:=if a1*b2=b1*a2 then false else (decide (a1*b2<b1*a2) !=t)
theorem x98:∀ (a2 a1 b1 b2:Nat) (t:Bool),0<a2→0<b2→a1<9223372036854775808→a2<9223372036854775808→b1<9223372036854775808→b2<9223372036854775808→
  z4n (y6f std) ((a1:Int),(a2:Int),(b1:Int),(b2:Int),t,())=some (y8s a1 a2 b1 b2 t,()):=by
 intro a2
 induction a2 using Nat.strongRecOn with
 |_ a2 ih=>
  intro a1 b1 b2 t ha hb k1 k2 k3 k4
  rw [z0h]
  obtain ⟨q1,q2,q3,_⟩:=y1h k1 ha
  obtain ⟨r1,r2,r3,_⟩:=y1h k3 hb
  have z1:¬ (a2:Int)=0:=by omega
  have z2:¬ (b2:Int)=0:=by omega
  have hbe:∀ x y:Bool,std.bEq x y=(x==y):=fun _ _=>rfl
  by_cases hpq:a1 / a2=b1 / b2
  case neg=>
   have d1:¬ ((a1 / a2:Nat):Int)=((b1 / b2:Nat):Int):=by
    generalize a1 / a2=x at*
    generalize b1 / b2=y at*
    omega
   have hstep:y6f std ((a1:Int),(a2:Int),(b1:Int),(b2:Int),t,())=some (.inr (y8s a1 a2 b1 b2 t,())):=by
    have hv:y8s a1 a2 b1 b2 t=(decide ((a1 / a2:Nat)<(b1 / b2:Nat)) !=t):=by
     unfold y8s
     rcases Nat.lt_or_ge (a1 / a2) (b1 / b2) with h|h
     ·have:=x6j ha hb h
      rw [if_neg (by omega),decide_eq_true this,decide_eq_true h]
     ·have h':b1 / b2<a1 / a2:=by omega
      have:=x6j hb ha h'
      rw [if_neg (by omega),decide_eq_false (by omega),decide_eq_false (by omega)]
    have e1:decide (((a1 / a2:Nat):Int)<((b1 / b2:Nat):Int))=decide ((a1 / a2:Nat)<(b1 / b2:Nat)):=by
     rw [decide_eq_decide]; exact Int.ofNat_lt
    rw [hv]
    simp only [y6f,z0u,z0v,z1,z2,z2u,q1,r1,d1,hbe,e1,not_false_eq_true]
    cases t<;>cases decide (a1 / a2<b1 / b2)<;>rfl
   rw [hstep]
  have d1:((a1 / a2:Nat):Int)=((b1 / b2:Nat):Int):=by rw [hpq]
  obtain ⟨c1,c2⟩:=w6z hpq
  have hu:=Nat.mod_lt a1 ha
  have hv:=Nat.mod_lt b1 hb
  have hL:y8s a1 a2 b1 b2 t=if (a1 % a2)*b2=(b1 % b2)*a2 then false else (decide ((a1 % a2)*b2<(b1 % b2)*a2) !=t):=by
   unfold y8s
   by_cases h:a1*b2=b1*a2
   ·rw [if_pos h,if_pos (c2.1 h)]
   ·rw [if_neg h,if_neg (fun k=>h (c2.2 k))]
    congr 1
    rw [decide_eq_decide]; exact c1
  rw [hL]
  rw [hpq] at q1 q2 q3
  clear d1 c1 c2 hL
  generalize a1 % a2=u at*
  generalize b1 % b2=v at*
  by_cases hz:u=0∨v=0
  ·have hstep:y6f std ((a1:Int),(a2:Int),(b1:Int),(b2:Int),t,())=some (.inr ((if u*b2=v*a2 then false else (decide (u*b2<v*a2) !=t)),())):=by
    by_cases h0:u=0
    ·subst h0
     have e0:((0:Nat):Int)=0:=rfl
     by_cases h1:v=0
     ·subst h1
      simp only [y6f,z0u,z0v,z1,z2,z2u,z08,z0k,q1,r1,q2,r2,q3,r3,hbe,e0,not_false_eq_true,not_true,Nat.zero_mul]
     ·have y1:¬ (0:Int)=(v:Int):=by omega
      have y2:0<v*a2:=Nat.mul_pos (by omega) ha
      have y3:¬ 0=v*a2:=by omega
      simp only [y6f,z0u,z0v,z1,z2,z2u,z08,z0k,q1,r1,q2,r2,q3,r3,hbe,e0,y1,y2,y3,not_false_eq_true,not_true,Nat.zero_mul]
      cases t<;>rfl
    ·have h1:v=0:=by omega
     subst h1
     have e0:((0:Nat):Int)=0:=rfl
     have y1:¬ (u:Int)=0:=by omega
     have y2:0<u*b2:=Nat.mul_pos (by omega) hb
     have y3:¬ u*b2=0:=by omega
     have y4:¬ u*b2<0:=by omega
     simp only [y6f,z0u,z0v,z1,z2,z2u,z08,z0k,q1,r1,q2,r2,q3,r3,hbe,e0,y1,y3,y4,not_false_eq_true,not_true,Nat.zero_mul]
     cases t<;>rfl
   rw [hstep]
  ·have y1:¬ (u:Int)=0:=by omega
   have y2:¬ (v:Int)=0:=by omega
   have hstep:y6f std ((a1:Int),(a2:Int),(b1:Int),(b2:Int),t,())=some (.inl ((a2:Int),(u:Int),(b2:Int),(v:Int),!t,())):=by
    simp only [y6f,z0u,z0v,z1,z2,z2u,z08,z0k,q1,r1,q2,r2,q3,r3,hbe,y1,y2,not_false_eq_true,not_true]
    cases t<;>rfl
   rw [hstep]
   have:=ih u hu a2 b2 v (!t) (by omega) (by omega) k2 (by omega) k4 (by omega)
   simp only [this,Option.some.injEq,Prod.mk.injEq,and_true]
   unfold y8s
   have e1:a2*v=v*a2:=Nat.mul_comm _ _
   have e2:b2*u=u*b2:=Nat.mul_comm _ _
   rw [e1,e2]
   rcases Nat.lt_trichotomy (u*b2) (v*a2) with k|k|k
   ·rw [if_neg (by omega),if_neg (by omega),decide_eq_true k,decide_eq_false (show ¬ v*a2<u*b2 by omega)]; cases t<;>simp
   ·rw [if_pos k.symm,if_pos k]; simp
   ·rw [if_neg (by omega),if_neg (by omega),decide_eq_true k,decide_eq_false (show ¬ u*b2<v*a2 by omega)]; cases t<;>simp
theorem v6o {a1 a2 b1 b2:Nat} (ha:0<a2) (hb:0<b2) (k1:a1<9223372036854775808) (k2:a2<9223372036854775808) (k3:b1<9223372036854775808) (k4:b2<9223372036854775808):
  G35 std ((a1:Int),(a2:Int),(b1:Int),(b2:Int),())=some (decide (a1*b2<b1*a2),()):=by
 unfold G35
 have hl:=x98 a2 a1 b1 b2 false ha hb k1 k2 k3 k4
 have c1:¬ (a1:Int)<0:=by omega
 have c2:¬ (b1:Int)<0:=by omega
 have c3:¬ (a2:Int)<1:=by omega
 have c4:¬ (b2:Int)<1:=by omega
 have e:y8s a1 a2 b1 b2 false=decide (a1*b2<b1*a2):=by
  unfold y8s
  split
  ·rw [decide_eq_false (by omega)]
  ·cases decide (a1*b2<b1*a2)<;>rfl
 rw [e] at hl
 simp only [g35,it0_eq,z0u,z0v,c1,c2,c3,c4,hl]
theorem x6q (R:Prim→(Int×Int×Int×Int×Unit)→Option (Bool×Unit)) {a1 a2 b1 b2:Nat} (ha:0<a2) (hb:0<b2) (k1:a1<9223372036854775808) (k3:b1<9223372036854775808)
  (hR:a1 / a2=b1 / b2→0<a1 % a2→0<b1 % b2→R std ((b2:Int),((b1 % b2:Nat):Int),(a2:Int),((a1 % a2:Nat):Int),())=some (decide (b2*(a1 % a2)<a2*(b1 % b2)),())):
  G71 R std ((a1:Int),(a2:Int),(b1:Int),(b2:Int),())=some (decide (a1*b2<b1*a2),()):=by
 obtain ⟨q1,_,_,q4⟩:=y1h k1 ha
 obtain ⟨r1,_,_,r4⟩:=y1h k3 hb
 have z1:¬ (a2:Int)=0:=by omega
 have z2:¬ (b2:Int)=0:=by omega
 by_cases hpq:a1 / a2=b1 / b2
 case neg=>
  have d1:¬ ((a1 / a2:Nat):Int)=((b1 / b2:Nat):Int):=by
   generalize a1 / a2=x at*
   generalize b1 / b2=y at*
   omega
  have e1:decide (((a1 / a2:Nat):Int)<((b1 / b2:Nat):Int))=decide (a1*b2<b1*a2):=by
   rw [decide_eq_decide]
   rcases Nat.lt_or_ge (a1 / a2) (b1 / b2) with h|h
   ·have:=x6j ha hb h
    exact ⟨fun _=>this,fun _=>Int.ofNat_lt.2 h⟩
   ·have h':b1 / b2<a1 / a2:=by omega
    have:=x6j hb ha h'
    exact ⟨fun k=>absurd (Int.ofNat_lt.1 k) (by omega),fun k=>by omega⟩
  simp only [G71,z0u,z0v,z1,z2,z2u,q1,r1,d1,e1,not_false_eq_true]
 have d1:((a1 / a2:Nat):Int)=((b1 / b2:Nat):Int):=by rw [hpq]
 obtain ⟨c1,c2⟩:=w6z hpq
 have hu:=Nat.mod_lt a1 ha
 have hv:=Nat.mod_lt b1 hb
 have hR':=hR hpq
 have hL:decide (a1*b2<b1*a2)=decide ((a1 % a2)*b2<(b1 % b2)*a2):=by rw [decide_eq_decide]; exact c1
 rw [hL]
 clear hR hL c1 c2 d1
 rw [hpq] at q1
 generalize a1 % a2=u at*
 generalize b1 % b2=v at*
 by_cases hz:u=0∨v=0
 ·have e1:decide ((u:Int)<(v:Int))=decide (u*b2<v*a2):=by
   rw [decide_eq_decide]
   rcases hz with rfl|rfl
   ·rw [Nat.zero_mul]
    constructor
    ·intro h; exact Nat.mul_pos (by omega) ha
    ·intro h
     have:v≠0:=by rintro rfl; simp at h
     omega
   ·rw [Nat.zero_mul]
    exact ⟨fun h=>by omega,fun h=>by omega⟩
  have e2:(u:Int)=0∨(v:Int)=0:=by omega
  by_cases h0:(u:Int)=0
  ·rw [h0] at e1
   simp only [G71,z0u,z0v,z1,z2,z2u,z1x,q1,r1,q4,r4,h0,e1,not_false_eq_true,not_true]
  ·have h1:(v:Int)=0:=by omega
   rw [h1] at e1
   simp only [G71,z0u,z0v,z1,z2,z2u,z1x,q1,r1,q4,r4,h0,h1,e1,not_false_eq_true,not_true]
 ·have y1:¬ (u:Int)=0:=by omega
  have y2:¬ (v:Int)=0:=by omega
  have hR'':=hR' (by omega) (by omega)
  have e1:decide (b2*u<a2*v)=decide (u*b2<v*a2):=by rw [Nat.mul_comm b2 u,Nat.mul_comm a2 v]
  rw [e1] at hR''
  simp only [G71,z0u,z0v,z1,z2,z2u,z1x,q1,r1,q4,r4,y1,y2,not_false_eq_true,not_true]
  exact (congrArg (fun z:Option (Bool×Unit)=>z.bind fun y=>some (y.1,())) hR'').trans rfl
theorem w2v:∀ (k n a1 a2 b1 b2:Nat),2*k≤n→b2<2 ^ k→0<a2→0<b2→a1<9223372036854775808→a2<9223372036854775808→b1<9223372036854775808→b2<9223372036854775808→
  v1b n std ((a1:Int),(a2:Int),(b1:Int),(b2:Int),())=some (decide (a1*b2<b1*a2),())
 |0,n,a1,a2,b1,b2,_,h,_,h0,_,_,_,_=>by simp at h; omega
 |k+1,n,a1,a2,b1,b2,hn,hb,ha0,hb0,k1,k2,k3,k4=>by
  obtain ⟨m,rfl⟩:∃ m,n=m+2:=⟨n - 2,by omega⟩
  show G71 (v1b (m+1)) std ((a1:Int),(a2:Int),(b1:Int),(b2:Int),())=_
  have hu:=Nat.mod_lt a1 ha0
  have hv:=Nat.mod_lt b1 hb0
  refine x6q _ ha0 hb0 k1 k3 fun h1 u0 v0=>?_
  show G71 (v1b m) std _=_
  refine x6q _ v0 u0 k4 k2 fun h2 u1 v1=>?_
  have w1:=Nat.mod_lt b2 v0
  have w2:=Nat.mod_lt a2 u0
  have hhalf:b2 % (b1 % b2)<2 ^ k:=by
   have hd:=Nat.div_add_mod b2 (b1 % b2)
   have hge:1≤b2 / (b1 % b2):=Nat.div_pos (by omega) v0
   have:=Nat.mul_le_mul_left (b1 % b2) hge
   rw [Nat.pow_succ] at hb
   omega
  have:=w2v k m (a1 % a2) (a2 % (a1 % a2)) (b1 % b2) (b2 % (b1 % b2)) (by omega) hhalf v1 u1 (by omega) (by omega) (by omega) (by omega)
  exact this
theorem v6u {a1 a2 b1 b2:Nat} (ha:0<a2) (hb:0<b2) (k1:a1<9223372036854775808) (k2:a2<9223372036854775808) (k3:b1<9223372036854775808) (k4:b2<1125899906842624):
  F71 std ((a1:Int),(a2:Int),(b1:Int),(b2:Int),())=some (decide (a1*b2<b1*a2),()):=by
 have h:(2:Nat) ^ 50=1125899906842624:=by decide
 exact w2v 50 100 a1 a2 b1 b2 (by omega) (by omega) ha hb k1 k2 k3 (by omega)
end Go.Am
end
section
namespace Go.Am
open M06
theorem y1w {e f:Pt} (he:z0m (-10000) 10000 e) (hf:z0m (-10000) 10000 f):IntKind.i64.wrap (e.1*f.1)=e.1*f.1∧IntKind.i64.wrap (e.2*f.2)=e.2*f.2∧IntKind.i64.wrap (e.1*f.1+e.2*f.2)=dt e f∧ -200000000≤dt e f∧dt e f≤200000000:=by
 obtain ⟨e1,e2,e3,e4⟩:=he
 obtain ⟨f1,f2,f3,f4⟩:=hf
 have m1:=z4j (A:=10000) (by omega) e1 e2 f1 f2
 have m2:=z4j (A:=10000) (by omega) e3 e4 f3 f4
 simp only [dt]
 exact ⟨z00 _ (by omega) (by omega),z00 _ (by omega) (by omega),z00 _ (by omega) (by omega),by omega,by omega⟩
def x4t (p f w:Pt):Option Pt:=if dt w (sb p f)≤0∨dt w w≤dt w (sb p f) then none else some (fr (crs w (sb p f)*crs w (sb p f)).toNat (dt w w).toNat)
theorem x3j {c:Int} (h1: -200000000≤c) (h2:c≤200000000):IntKind.i64.wrap (c*c)=c*c∧0≤c*c∧c*c≤40000000000000000:=by
 have m:=z4j (A:=200000000) (B:=200000000) (by omega) h1 h2 h1 h2
 have h0:0≤c*c:=by
  rcases Int.le_total 0 c with h|h
  ·exact Int.mul_nonneg h h
  ·exact Int.mul_nonneg_of_nonpos_of_nonpos h h
 exact ⟨z00 _ (by omega) (by omega),h0,by omega⟩
theorem v6l {p f w:Pt} (hp:z0m (-5000) 5000 p) (hf:z0m (-5000) 5000 f) (hw:z0m (-10000) 10000 w):
  g68 it0 std (p.1,p.2,f.1,f.2,w.1,w.2,())=some (match x4t p f w with|some x=>(x.1,x.2,true,())|none=>(0,0,false,())):=by
 obtain ⟨d1,d2⟩:=z37 (z16 hp) (z16 hf)
 have hb:=z8a hp hf
 obtain ⟨a1,a2,a3,a4,a5⟩:=y1w hw hb
 obtain ⟨b1,b2,b3,b4,b5⟩:=y1w hw hw
 obtain ⟨c1,c2,c3,c4,c5⟩:=y5n hw hb
 obtain ⟨s1,s2,s3⟩:=x3j c4 c5
 unfold x4t
 by_cases h1:dt w (sb p f)≤0
 ·rw [if_pos (.inl h1)]
  simp only [g68,z0u,z0v,z0k,z08,z0b,d1,d2,a1,a2,a3,b1,b2,b3,h1]
 by_cases h2:dt w w≤dt w (sb p f)
 ·rw [if_pos (.inr h2)]
  simp only [g68,z0u,z0v,z0k,z08,z0b,d1,d2,a1,a2,a3,b1,b2,b3,h1,h2,ge_iff_le]
 rw [if_neg (by omega)]
 have e1:(((crs w (sb p f)*crs w (sb p f)).toNat:Nat):Int)=crs w (sb p f)*crs w (sb p f):=Int.toNat_of_nonneg s2
 have e2:(((dt w w).toNat:Nat):Int)=dt w w:=Int.toNat_of_nonneg (by omega)
 have h65:g65 it0 std ((((crs w (sb p f)*crs w (sb p f)).toNat:Nat):Int),(((dt w w).toNat:Nat):Int),())=_:=w69 (by omega) (by omega) (by omega)
 rw [e1,e2] at h65
 simp only [g68,z0u,z0v,z0k,z08,z0b,d1,d2,a1,a2,a3,b1,b2,b3,c1,c2,c3,s1,h1,h2,h65,ge_iff_le]
def Frc (x:Pt):Prop:=∃ n d:Nat,0<d∧n≤1152921504606846976∧d<1125899906842624∧x=fr n d
theorem Frc.nat {x:Pt} (h:Frc x):∃ n d:Nat,0<d∧n≤1152921504606846976∧d<1125899906842624∧x=((n:Int),(d:Int)):=by
 obtain ⟨n,d,h1,h2,h3,rfl⟩:=h
 have hg:=Nat.gcd_pos_of_pos_right n h1
 have h4:=Nat.div_pos (Nat.le_of_dvd h1 (Nat.gcd_dvd_right n d)) hg
 have h5:=Nat.div_le_self n (Nat.gcd n d)
 have h6:=Nat.div_le_self d (Nat.gcd n d)
 exact ⟨n / Nat.gcd n d,d / Nat.gcd n d,h4,by omega,by omega,rfl⟩
def w2k (L:List Pt) (m:Pt):Prop:=m∈L∧∀ x∈L,m.1*x.2≤x.1*m.2
theorem Frc.den {x:Pt} (h:Frc x):0<x.2:=by
 obtain ⟨n,d,h1,_,_,rfl⟩:=h.nat
 simp only; omega
theorem z8i {x y z:Pt} (hx:0<x.2) (hy:0<y.2) (hz:0<z.2) (h1:x.1*y.2≤y.1*x.2) (h2:y.1*z.2≤z.1*y.2):x.1*z.2≤z.1*x.2:=by
 have a:=Int.mul_le_mul_of_nonneg_right h1 (Int.le_of_lt hz)
 have b:=Int.mul_le_mul_of_nonneg_right h2 (Int.le_of_lt hx)
 have e1:y.1*x.2*z.2=y.1*z.2*x.2:=by grind
 have c:(x.1*z.2)*y.2≤(z.1*x.2)*y.2:=by
  have e2:x.1*y.2*z.2=x.1*z.2*y.2:=by grind
  have e3:z.1*y.2*x.2=z.1*x.2*y.2:=by grind
  omega
 exact Int.le_of_mul_le_mul_right c hy
theorem w4b {L M:List Pt} (hL:∀ x∈L,Frc x) (hM:∀ x∈M,Frc x) (h1:∀ x∈L,∃ y∈M,y.1*x.2≤x.1*y.2) (h2:∀ y∈M,∃ x∈L,x.1*y.2≤y.1*x.2) {m n:Pt} (hm:w2k L m) (hn:w2k M n):m=n:=by
 obtain ⟨y,y1,y2⟩:=h1 m hm.1
 obtain ⟨x,x1,x2⟩:=h2 n hn.1
 have d1:=(hL m hm.1).den
 have d2:=(hM n hn.1).den
 have a:=z8i d2 (hM y y1).den d1 (hn.2 y y1) y2
 have b:=z8i d1 (hL x x1).den d2 (hm.2 x x1) x2
 obtain ⟨n1,e1,p1,_,_,q1⟩:=hL m hm.1
 obtain ⟨n2,e2,p2,_,_,q2⟩:=hM n hn.1
 rw [q1,q2] at a b⊢
 exact v33 p1 p2 (by have:=(w6o p1 p2).1 b; have:=(w6o p2 p1).1 a; omega)
theorem v6j {x y:Pt} (hx:Frc x) (hy:Frc y):G70 std (x.1,x.2,y.1,y.2,())=some (if x.1*y.2<y.1*x.2 then -1 else 1,()):=by
 obtain ⟨a,b,h1,h2,h3,rfl⟩:=hx.nat
 obtain ⟨c,d,k1,k2,k3,rfl⟩:=hy.nat
 have h71:=v6u h1 k1 (show a<9223372036854775808 by omega) (by omega) (show c<9223372036854775808 by omega) k3
 have e:(a*d<c*b)↔((a:Int)*(d:Int)<(c:Int)*(b:Int)):=by rw [←Int.natCast_mul, ←Int.natCast_mul]; exact Int.ofNat_lt.symm
 unfold G70
 simp only
 refine (congrArg (fun z:Option (Bool×Unit)=>z.bind fun y143=>opt.ask (Int×Unit) y143.1 (opt.ret _ (-1,())) (opt.ret _ (1,()))) h71).trans ?_
 by_cases h:a*d<c*b
 ·rw [if_pos (e.1 h),decide_eq_true h]; rfl
 ·rw [if_neg (fun k=>h (e.2 k)),decide_eq_false h]; rfl
theorem v6k {L:List Pt} (h0:L≠[]) (hl:L.length≤1000000) (hv:∀ x∈L,Frc x):∃ m,w2k L m∧G69 std (z0d L,0,L.length,())=some (z0d L,m.1,m.2,()):=by
 have hpos:0<L.length:=by
  match L,h0 with
  |a::l,_=>simp
 obtain ⟨x0,hx0⟩:=z0l hpos
 have key:=z34 (b:=w2a std) L.length (fun (m:Pt) i=>(z0d L,(0:Int),(0:Int),m.1,m.2,(0:Nat),L.length,(i:Int),())) (fun m i=>1≤i∧m∈L∧∀ x∈L.take i,m.1*x.2≤x.1*m.2) (fun r=>∃ m,w2k L m∧r=(z0d L,(0:Int),(0:Int),m.1,m.2,())) (fun m i hi ⟨h1,h2,h3⟩=>by
  left
  obtain ⟨x,hx⟩:=z0l hi
  have gx:=z0w hx
  have hxL:=List.mem_of_getElem? hx
  have h70:=v6j (hv x hxL) (hv m h2)
  have c1:(i:Int)<(L.length:Int):=by omega
  have c2:(i:Int)≥0:=by omega
  have hw:=z04 (i:=i) (by omega)
  have htk:L.take (i+1)=L.take i++[x]:=z0q hx
  by_cases h:x.1*m.2<m.1*x.2
  ·refine ⟨x,?_,by omega,hxL,fun y hy=>?_⟩
   ·rw [if_pos h] at h70
    simp only [w2a,z0u,z0v,z0g,z0z,z0y,z1f,z0i,z0c,Nat.zero_add,gx,c1,c2,h70,z0b,hw,show (-1:Int)<0 by decide]
   ·rw [htk] at hy
    rcases List.mem_append.1 hy with hy|hy
    ·exact z8i (hv x hxL).den (hv m h2).den (hv y (List.mem_of_mem_take hy)).den (Int.le_of_lt h) (h3 y hy)
    ·simp only [List.mem_singleton] at hy; subst hy; exact Int.le_refl _
  ·refine ⟨m,?_,by omega,h2,fun y hy=>?_⟩
   ·rw [if_neg h] at h70
    simp only [w2a,z0u,z0v,z0g,z0z,z0y,z1f,z0i,z0c,Nat.zero_add,gx,c1,c2,h70,z0b,hw,show ¬ (1:Int)<0 by decide]
   ·rw [htk] at hy
    rcases List.mem_append.1 hy with hy|hy
    ·exact h3 y hy
    ·simp only [List.mem_singleton] at hy; subst hy; omega) (fun m ⟨_,h2,h3⟩=>by
  rw [List.take_length] at h3
  exact ⟨_,by simp only [w2a,z0u,z0v,Int.lt_irrefl],m,⟨h2,h3⟩,rfl⟩) x0 1 hpos ⟨Nat.le_refl _,List.mem_of_getElem? hx0,fun y hy=>by
   have:L.take 1=[x0]:=by
    have:=z0q hx0
    simpa using this
   rw [this] at hy; simp only [List.mem_singleton] at hy; subst hy; exact Int.le_refl _⟩
 obtain ⟨r,h1,m,h2,rfl⟩:=key
 refine ⟨m,h2,?_⟩
 have gx:=z0w hx0
 have c1:¬ (L.length:Int)<1:=by omega
 have c2:(0:Int)<(L.length:Int):=by omega
 have e1:((1:Nat):Int)=1:=rfl
 rw [e1] at h1
 unfold G69
 simp only [g69,it0_eq,z0u,z0v,z0g,z0z,z0y,z1f,z0i,z0c,c1,c2,gx,h1,Int.toNat_zero,Nat.zero_add,Nat.add_zero,ge_iff_le,Int.le_refl]
end Go.Am
end
section
namespace Go.Am
open M06
theorem w8s {l:List Pt} {hs:List (List Pt)} (hf:z49 l hs) {m:List Pt} {ks:List (List Pt)} (hk:z49 m ks) (h:(z3u (z1g (z1i l hs)) (z1g (z1i m ks))).2=true):
  w0h (z3u (z1g (z1i l hs)) (z1g (z1i m ks))).1.1 (z3u (z1g (z1i l hs)) (z1g (z1i m ks))).1.2.1 (z3u (z1g (z1i l hs)) (z1g (z1i m ks))).1.2.2∧
  okL (z1g (z1i l hs)) (z1g (z1i m ks)) (z3u (z1g (z1i l hs)) (z1g (z1i m ks))).1.1 (z3u (z1g (z1i l hs)) (z1g (z1i m ks))).1.2.1 (z3u (z1g (z1i l hs)) (z1g (z1i m ks))).1.2.2∧
  z0m (-10000) 10000 ((z3u (z1g (z1i l hs)) (z1g (z1i m ks))).1.1,(z3u (z1g (z1i l hs)) (z1g (z1i m ks))).1.2.1):=by
 have ane:=z4g hf.allNe
 have bne:=z4g hk.allNe
 have ka:=hf.cbox
 have kb:=hk.cbox
 have kax:=v0p hf
 generalize z1g (z1i l hs)=a at*
 generalize z1g (z1i m ks)=b at*
 unfold z3u at*
 cases hfd:(z5b a b).find? fun w=>decide (y04 a b w) with
 |none=>rw [hfd] at h; cases h
 |some w=>
  simp only
  have hw:=List.mem_of_find?_eq_some hfd
  have hp0:=List.find?_some hfd
  have hp:y04 a b w:=of_decide_eq_true hp0
  have hbx:=y4f ka kb w hw
  have hsm:z1e w:=by simp only [z0m,z1e] at*; omega
  have hmx:=x94 ane hsm kax
  obtain ⟨m1,p,hpa,m2⟩:=y3u ane w
  have hw2:(w.1,w.2)=w:=rfl
  refine ⟨⟨fun e=>?_,?_⟩,⟨fun x hx=>m1 x hx,fun q hq=>?_⟩,hbx⟩
  ·obtain ⟨q,hq⟩:∃ q,q∈b:=by
    match b,bne with
    |q::r,_=>exact ⟨q,by simp⟩
   have:=hp p hpa q hq
   simp only [dt,e.1,e.2] at this
   omega
  ·simp only [z0m] at hbx; omega
  ·have:=hp p hpa q hq
   rw [m2]; exact this
theorem x49 {l:List Pt} {hs:List (List Pt)} (hf:z49 l hs) {m:List Pt} {ks:List (List Pt)} (hk:z49 m ks):
  x1b l hs m ks=if z35 l hs m ks=true then ((0,0,0),21) else ((z3u (z1g (z1i l hs)) (z1g (z1i m ks))).1,0):=by
 unfold x1b
 rw [if_neg (by simp [z3p.2 hf]),if_neg (by simp [z3p.2 hk]),z91 hf hk]
 cases z35 l hs m ks<;>rfl
theorem w5d {l:List Pt} {hs:List (List Pt)} (hf:z49 l hs) {m:List Pt} {ks:List (List Pt)} (hk:z49 m ks) (h:z35 l hs m ks=false):
  x6k l hs m ks (z3u (z1g (z1i l hs)) (z1g (z1i m ks))).1.1 (z3u (z1g (z1i l hs)) (z1g (z1i m ks))).1.2.1 (z3u (z1g (z1i l hs)) (z1g (z1i m ks))).1.2.2=0:=by
 obtain ⟨h1,h2,_⟩:=w8s hf hk (by rw [z91 hf hk,h]; rfl)
 unfold x6k
 rw [if_neg (by simp [z3p.2 hf]),if_neg (by simp [z3p.2 hk]),if_neg (by simp only [Classical.not_not]; exact h1),if_pos h2]
end Go.Am
end
