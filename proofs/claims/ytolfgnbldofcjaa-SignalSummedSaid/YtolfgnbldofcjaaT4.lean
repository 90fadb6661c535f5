/- Texts of this claim. -/
import Derived.Test.YtolfgnbldofcjaaT3
import Derived.Test.YtolfgnbldofcjaaProg
import Derived.KernelRfl
import Derived.Shelf.SlSortCmp.WholeK
set_option linter.unusedVariables false
set_option linter.unusedSimpArgs false
set_option linter.unusedSectionVars false
set_option maxRecDepth 100000
set_option maxHeartbeats 0
noncomputable section
namespace Go.Am
def v5c:Ctr:=
 ⟨18,[.agg [.list 2, .list 1]],[],[(.ret,⟨[(0, .int .i64)],[],1⟩)]⟩
def la18:List LA:=
 [⟨81,[false,true,false,true],1,⟨⟨[(0, .list 1),(1, .clo 52 [] []),(7, .int .i64),(8, .int .i64)],[.box [.list 2, .list 1]],19⟩,[(AX.ret,⟨[(4, .int .i64)],[.box [.list 2, .list 1]],19⟩),((AX.exit 0),⟨[],[.box [.list 2, .list 1]],19⟩)]⟩⟩,
 ⟨81,[false,true,false,true],1,⟨⟨[(0, .list 1),(1, .clo 54 [] []),(7, .int .i64),(8, .int .i64)],[.box [.list 2, .list 1]],19⟩,[(AX.ret,⟨[(4, .int .i64)],[.box [.list 2, .list 1]],19⟩),((AX.exit 0),⟨[],[.box [.list 2, .list 1]],19⟩)]⟩⟩]
def ja18:List JA:=
 [⟨18,[false,false,true,true],0,[(AX.normal,⟨[(26, .bool)],[],27⟩)]⟩,
 ⟨18,[false,false,true],0,[(AX.normal,⟨[(1, .bptr 0 0),(17, .bool)],[.box [.list 2, .list 1]],27⟩)]⟩]
def u0c:List CF:=
 [⟨w05,G53⟩,⟨w9e,G50⟩]
def an18:Anns:=
 ⟨u0c,ja18,[]⟩
def x8e (it:It) (p:Prim):(LD×(LD×(LD×T4)))→Option ((LD×(LD×(LD×T4)))⊕((LD×(LD×T2))⊕(LD×(LD×Unit)))):=
 fun a=>opt.run _ (
 opt.ask _ (p.cmp .lss a.2.2.2.2.1 a.2.2.2.1) (
 opt.need _ (p.rowOk a.2.2.1 (p.nat a.2.2.2.2.1) [(CK.list 2)])<|
 opt.need _ (p.cmp .geq a.2.2.2.2.1 (0:Int))<|
 opt.bnd T1 _ (g53 it p ((-1000:Int),((1000:Int),((p.rdL a.2.2.1 (p.nat a.2.2.2.2.1) 0),())))) fun b=>
 opt.ask _ (bif b.1 then Bool.false else Bool.true) (
 opt.ret _ (Sum.inr (Sum.inl (a.1,(a.2.1,(a.2.2.2.2.1,())))))) (
 opt.ret _ (Sum.inl (a.1,(a.2.1,(a.2.2.1,(a.2.2.2.1,((p.ar .add .i64 a.2.2.2.2.1 (1:Int)),())))))))) (
 opt.ret _ (Sum.inr (Sum.inr (a.1,(a.2.1,()))))))
def w5d (p:Prim):(LD×(LD×(LD×T4)))→Option ((LD×(LD×(LD×T4)))⊕((LD×(LD×T2))⊕(LD×(LD×Unit)))):=
 fun a=>opt.run _ (
 opt.ask _ (p.cmp .lss a.2.2.2.2.1 a.2.2.2.1) (
 opt.need _ (p.rowOk a.2.2.1 (p.nat a.2.2.2.2.1) [(CK.list 2)])<|
 opt.need _ (p.cmp .geq a.2.2.2.2.1 (0:Int))<|
 opt.bnd T1 _ (G50 p ((p.rdL a.2.2.1 (p.nat a.2.2.2.2.1) 0),())) fun b=>
 opt.ask _ (bif b.1 then Bool.false else Bool.true) (
 opt.ret _ (Sum.inr (Sum.inl (a.1,(a.2.1,(a.2.2.2.2.1,())))))) (
 opt.ret _ (Sum.inl (a.1,(a.2.1,(a.2.2.1,(a.2.2.2.1,((p.ar .add .i64 a.2.2.2.2.1 (1:Int)),())))))))) (
 opt.ret _ (Sum.inr (Sum.inr (a.1,(a.2.1,()))))))
def g18 (it:It):(p:Prim)→(LD×(LD×Unit))→Option T0:=
 fun p x=>
 opt.bnd ((LD×(LD×T18))) _ (
 opt.run ((LD×(LD×T18))) (
 opt.bnd T1 _ (G50 p (x.1,())) fun a=>
 opt.ask _ (bif a.1 then Bool.false else Bool.true) (
 opt.ret _ (x.1,(x.2.1,(Bool.true,())))) (
 opt.ask _ (p.cmp .gtr (p.ofNat (p.len x.2.1)) (4:Int)) (
 opt.ret _ (x.1,(x.2.1,(Bool.true,())))) (
 opt.alt ((LD×(LD×T2))) ((LD×(LD×Unit))) _ (
 it _ _ (w5d p) (x.1,(x.2.1,(x.2.1,((p.ofNat (p.len x.2.1)),((0:Int),())))))) (fun b=>
 opt.ret _ (b.1,(b.2.1,((p.cmp .geq b.2.2.1 (0:Int)),())))) (fun c=>
 opt.bnd ((LD×(LD×Unit))) _ (some c) fun d=>
 opt.ret _ (d.1,(d.2.1,((p.cmp .geq (-1:Int) (0:Int)),())))))))) fun e=>
 opt.ask _ e.2.2.1 (
 opt.ret _ ((6:Int),())) (
 opt.bnd T1 _ (
 opt.run T1 (
 opt.bnd T1 _ (g53 it p ((0:Int),((1000:Int),(e.1,())))) fun f=>
 opt.ask _ (bif f.1 then Bool.false else Bool.true) (
 opt.ret _ (Bool.true,())) (
 opt.alt ((LD×(LD×T2))) ((LD×(LD×Unit))) _ (
 it _ _ (x8e it p) (e.1,(e.2.1,(e.2.1,((p.ofNat (p.len e.2.1)),((0:Int),())))))) (fun g=>
 opt.ret _ ((p.cmp .geq g.2.2.1 (0:Int)),())) (fun h=>
 opt.bnd ((LD×(LD×Unit))) _ (some h) fun i=>
 opt.ret _ ((p.cmp .geq (-1:Int) (0:Int)),()))))) fun j=>
 opt.ask _ j.1 (
 opt.ret _ ((3:Int),())) (
 opt.ret _ ((0:Int),())))
def G18:=g18 it0
theorem ok18:CtrOk PG v5c (G18 std):=okF (a:=an18) (l:=la18) (gC v62 (gC u1x (gN))) (by kernel_rfl) fun _ _=>by kernel_rfl
end Go.Am
end
noncomputable section
namespace Go.Am
def v4u:Ctr:=
 ⟨55,[.list 2],[],[(.ret,⟨[(0, .bool)],[],1⟩)]⟩
def la55:List LA:=
 []
def ja55:List JA:=
 [⟨55,[false,true],0,[(AX.normal,⟨[(2, .bool)],[],11⟩)]⟩]
def v9p:List CF:=
 []
def an55:Anns:=
 ⟨v9p,ja55,[]⟩
def G55:(p:Prim)→(LD×Unit)→Option T1:=
 fun p x=>
 opt.bnd T1 _ (
 opt.run T1 (
 opt.ask _ (p.cmp .geq (p.ofNat (p.len x.1)) (1:Int)) (
 opt.ret _ ((p.cmp .leq (p.ofNat (p.len x.1)) (12:Int)),())) (
 opt.ret _ (Bool.false,())))) fun a=>
 opt.ret _ (a.1,())
theorem ok55:CtrOk PG v4u (G55 std):=okF (a:=an55) (l:=la55) (gN) (by kernel_rfl) fun _ _=>by kernel_rfl
def v4t:Ctr:=
 ⟨56,[.list 2, .int .i64, .int .i64],[],[(.ret,⟨[(0, .bool)],[],1⟩)]⟩
def la56:List LA:=
 [⟨56,[false,true,false,true],0,⟨⟨[(0, .list 2),(1, .int .i64),(2, .int .i64),(7, .int .i64)],[],48⟩,[(AX.ret,⟨[(6, .bool)],[],48⟩),((AX.exit 0),⟨[],[],48⟩)]⟩⟩]
def ja56:List JA:=
 [⟨56,[false,false,false,true,false,false,true,false,true],0,[(AX.normal,⟨[(0, .list 2),(1, .int .i64),(2, .int .i64),(7, .int .i64),(47, .bool)],[],48⟩)]⟩]
def v9o:List CF:=
 []
def an56:Anns:=
 ⟨v9o,ja56,[]⟩
def w49 (p:Prim):(LD×T6)→Option ((LD×T6)⊕T34):=
 fun a=>opt.run _ (
 opt.ask _ (p.cmp .lss a.2.2.2.1 (p.ofNat (p.len a.1))) (
 opt.bnd ((LD×T26)) _ (
 opt.run ((LD×T26)) (
 opt.need _ (p.rowOk a.1 (p.nat a.2.2.2.1) [ci,ci])<|
 opt.need _ (p.cmp .geq a.2.2.2.1 (0:Int))<|
 opt.ask _ (p.cmp .lss (p.rdI a.1 (p.nat a.2.2.2.1) 0) a.2.1) (
 opt.ret _ (a.1,(a.2.1,(a.2.2.1,(a.2.2.2.1,(Bool.true,())))))) (
 opt.need _ (p.rowOk a.1 (p.nat a.2.2.2.1) [ci,ci])<|
 opt.need _ (p.cmp .geq a.2.2.2.1 (0:Int))<|
 opt.ask _ (p.cmp .gtr (p.rdI a.1 (p.nat a.2.2.2.1) 0) a.2.2.1) (
 opt.ret _ (a.1,(a.2.1,(a.2.2.1,(a.2.2.2.1,(Bool.true,())))))) (
 opt.need _ (p.rowOk a.1 (p.nat a.2.2.2.1) [ci,ci])<|
 opt.need _ (p.cmp .geq a.2.2.2.1 (0:Int))<|
 opt.ask _ (p.cmp .lss (p.rdI a.1 (p.nat a.2.2.2.1) 1) a.2.1) (
 opt.ret _ (a.1,(a.2.1,(a.2.2.1,(a.2.2.2.1,(Bool.true,())))))) (
 opt.need _ (p.rowOk a.1 (p.nat a.2.2.2.1) [ci,ci])<|
 opt.need _ (p.cmp .geq a.2.2.2.1 (0:Int))<|
 opt.ret _ (a.1,(a.2.1,(a.2.2.1,(a.2.2.2.1,((p.cmp .gtr (p.rdI a.1 (p.nat a.2.2.2.1) 1) a.2.2.1),())))))))))) fun b=>
 opt.ask _ b.2.2.2.2.1 (
 opt.ret _ (Sum.inr (Sum.inl (Bool.false,())))) (
 opt.ret _ (Sum.inl (b.1,(b.2.1,(b.2.2.1,((p.ar .add .i64 b.2.2.2.1 (1:Int)),()))))))) (
 opt.ret _ (Sum.inr (Sum.inr ()))))
def g56 (it:It):(p:Prim)→(LD×T4)→Option T1:=
 fun p x=>
 opt.alt T1 (Unit) _ (
 it _ _ (w49 p) (x.1,(x.2.1,(x.2.2.1,((0:Int),()))))) (fun a=>
 opt.ret _ (a.1,())) (fun b=>
 opt.bnd (Unit) _ (some b) fun c=>
 opt.ret _ (Bool.true,()))
def G56:=g56 it0
theorem ok56:CtrOk PG v4t (G56 std):=okF (a:=an56) (l:=la56) (gN) (by kernel_rfl) fun _ _=>by kernel_rfl
def v4g:Ctr:=
 ⟨90,[.agg [.int .i64, .int .i64], .agg [.int .i64, .int .i64], .agg [.int .i64, .int .i64]],[],[(.ret,⟨[(0, .int .i64)],[],1⟩)]⟩
def la90:List LA:=
 []
def ja90:List JA:=
 []
def v83:List CF:=
 []
def an90:Anns:=
 ⟨v83,ja90,[]⟩
def G90:(p:Prim)→T58→Option T0:=
 fun p x=>
 opt.ret _ ((p.ar .sub .i64 (p.ar .mul .i64 (p.ar .sub .i64 x.2.2.1 x.1) (p.ar .sub .i64 x.2.2.2.2.2.1 x.2.1)) (p.ar .mul .i64 (p.ar .sub .i64 x.2.2.2.1 x.2.1) (p.ar .sub .i64 x.2.2.2.2.1 x.1))),())
theorem ok90:CtrOk PG v4g (G90 std):=okF (a:=an90) (l:=la90) (gN) (by kernel_rfl) fun _ _=>by kernel_rfl
def v4f:Ctr:=
 ⟨91,[.agg [.int .i64, .int .i64], .agg [.int .i64, .int .i64]],[],[(.ret,⟨[(0, .int .i64)],[],1⟩)]⟩
def la91:List LA:=
 []
def ja91:List JA:=
 []
def v82:List CF:=
 []
def an91:Anns:=
 ⟨v82,ja91,[]⟩
def G91:(p:Prim)→T14→Option T0:=
 fun p x=>
 opt.ret _ ((p.ar .add .i64 (p.ar .mul .i64 (p.ar .sub .i64 x.1 x.2.2.1) (p.ar .sub .i64 x.1 x.2.2.1)) (p.ar .mul .i64 (p.ar .sub .i64 x.2.1 x.2.2.2.1) (p.ar .sub .i64 x.2.1 x.2.2.2.1))),())
theorem ok91:CtrOk PG v4f (G91 std):=okF (a:=an91) (l:=la91) (gN) (by kernel_rfl) fun _ _=>by kernel_rfl
def v4s:Ctr:=
 ⟨61,[.list 2],[],[(.ret,⟨[(0, .list 2)],[],1⟩)]⟩
def la61:List LA:=
 [⟨61,[false,true,false,true,true],0,⟨⟨[(0, .list 2),(3, .bptr 0 0),(4, .int .i64)],[.box [.int .i64, .int .i64]],119⟩,[((AX.exit 0),⟨[(0, .list 2),(3, .bptr 0 0)],[.box [.int .i64, .int .i64]],119⟩)]⟩⟩,
 ⟨61,[false,true,true,true,true],0,⟨⟨[(0, .list 2),(3, .bptr 0 0),(5, .sl 1 2)],[.box [.int .i64, .int .i64], .row [ci,ci]],119⟩,[(AX.ret,⟨[(2, .sl 0 2)],[.row [ci,ci]],119⟩)]⟩⟩,
 ⟨61,[false,true,false,true,true,false,false,false,true,true,true,true],0,⟨⟨[(0, .list 2),(3, .bptr 0 0),(5, .sl 1 2),(6, .bptr 2 0),(7, .bptr 3 0),(8, .int .i64)],[.box [.int .i64, .int .i64], .row [ci,ci], .box [.int .i64, .int .i64], .box [.int .i64, .int .i64]],119⟩,[((AX.exit 4),⟨[(0, .list 2),(3, .bptr 0 0),(5, .sl 1 2),(6, .bptr 2 0),(7, .bptr 3 0)],[.box [.int .i64, .int .i64], .row [ci,ci], .box [.int .i64, .int .i64], .box [.int .i64, .int .i64]],119⟩)]⟩⟩]
def ja61:List JA:=
 [⟨61,[false,true,false,false,true,false,true,true],0,[(AX.normal,⟨[(0, .list 2),(3, .bptr 0 0),(4, .int .i64)],[.box [.int .i64, .int .i64]],119⟩)]⟩,
 ⟨61,[false,false,true,true,true,false,false,false,true,true,true,true],0,[(AX.normal,⟨[(0, .list 2),(3, .bptr 0 0),(5, .sl 1 2),(7, .bptr 2 0),(113, .bool)],[.box [.int .i64, .int .i64], .row [ci,ci], .box [.int .i64, .int .i64]],119⟩)]⟩,
 ⟨61,[true,false,false,true,false,false,true,false,true,true],0,[(AX.normal,⟨[(0, .list 2),(3, .bptr 0 0),(4, .int .i64)],[.box [.int .i64, .int .i64]],119⟩)]⟩,
 ⟨61,[false,true,false,false,true,false,true,true,false,false,false,true,true,true,true],0,[(AX.normal,⟨[(0, .list 2),(3, .bptr 0 0),(5, .sl 1 2),(6, .bptr 2 0),(7, .bptr 3 0),(8, .int .i64)],[.box [.int .i64, .int .i64], .row [ci,ci], .box [.int .i64, .int .i64], .box [.int .i64, .int .i64]],119⟩)]⟩,
 ⟨61,[true,true,true,false,false,true,false,false,true,false,true,true,false,false,false,true,true,true,true],0,[(AX.normal,⟨[(0, .list 2),(3, .bptr 0 0),(5, .sl 1 2),(6, .bptr 2 0),(7, .bptr 3 0),(8, .int .i64)],[.box [.int .i64, .int .i64], .row [ci,ci], .box [.int .i64, .int .i64], .box [.int .i64, .int .i64]],119⟩)]⟩]
def v9k:List CF:=
 [⟨v4f,G91⟩,⟨v4g,G90⟩]
def an61:Anns:=
 ⟨v9k,ja61,[]⟩
def u0v (p:Prim):(LD×T10)→Option ((LD×T10)⊕(LD×T70)):=
 fun a=>opt.run _ (
 opt.ask _ (p.cmp .lss a.2.2.2.2.2.2.2.2.2.2.1 (p.ofNat (p.len a.2.2.2.2.2.2.2.1))) (
 opt.bnd ((LD×T10)) _ (
 opt.run ((LD×T10)) (
 opt.need _ (p.rowOk a.2.2.2.2.2.2.2.1 (p.nat a.2.2.2.2.2.2.2.2.2.2.1) [ci,ci])<|
 opt.need _ (p.cmp .geq a.2.2.2.2.2.2.2.2.2.2.1 (0:Int))<|
 opt.ask _ (bif (p.cmp .eql (p.rdI a.2.2.2.2.2.2.2.1 (p.nat a.2.2.2.2.2.2.2.2.2.2.1) 0) a.2.2.2.1) then (bif (p.cmp .eql (p.rdI a.2.2.2.2.2.2.2.1 (p.nat a.2.2.2.2.2.2.2.2.2.2.1) 1) a.2.2.2.2.1) then Bool.true else Bool.false) else Bool.false) (
 opt.ret _ (a.1,(a.2.1,(a.2.2.1,(a.2.2.2.1,(a.2.2.2.2.1,(a.2.2.2.2.2.1,(a.2.2.2.2.2.2.1,(a.2.2.2.2.2.2.2.1,(a.2.2.2.2.2.2.2.2.1,(a.2.2.2.2.2.2.2.2.2.1,(a.2.2.2.2.2.2.2.2.2.2.1,())))))))))))) (
 opt.need _ (p.rowOk a.2.2.2.2.2.2.2.1 (p.nat a.2.2.2.2.2.2.2.2.2.2.1) [ci,ci])<|
 opt.need _ (p.cmp .geq a.2.2.2.2.2.2.2.2.2.2.1 (0:Int))<|
 opt.bnd T0 _ (G90 p (a.2.2.2.1,(a.2.2.2.2.1,(a.2.2.2.2.2.1,(a.2.2.2.2.2.2.1,((p.rdI a.2.2.2.2.2.2.2.1 (p.nat a.2.2.2.2.2.2.2.2.2.2.1) 0),((p.rdI a.2.2.2.2.2.2.2.1 (p.nat a.2.2.2.2.2.2.2.2.2.2.1) 1),()))))))) fun b=>
 opt.ask _ (bif (p.cmp .eql a.2.2.2.2.2.1 a.2.2.2.1) then (bif (p.cmp .eql a.2.2.2.2.2.2.1 a.2.2.2.2.1) then Bool.true else Bool.false) else Bool.false) (
 opt.bnd ((LD×T10)) _ (
 opt.run ((LD×T10)) (
 opt.need _ (p.rowOk a.2.2.2.2.2.2.2.1 (p.nat a.2.2.2.2.2.2.2.2.2.2.1) [ci,ci])<|
 opt.need _ (p.cmp .geq a.2.2.2.2.2.2.2.2.2.2.1 (0:Int))<|
 opt.ret _ (a.1,(a.2.1,(a.2.2.1,(a.2.2.2.1,(a.2.2.2.2.1,((p.rdI a.2.2.2.2.2.2.2.1 (p.nat a.2.2.2.2.2.2.2.2.2.2.1) 0),((p.rdI a.2.2.2.2.2.2.2.1 (p.nat a.2.2.2.2.2.2.2.2.2.2.1) 1),(a.2.2.2.2.2.2.2.1,(a.2.2.2.2.2.2.2.2.1,(a.2.2.2.2.2.2.2.2.2.1,(a.2.2.2.2.2.2.2.2.2.2.1,()))))))))))))) fun c=>
 opt.ret _ (c.1,(c.2.1,(c.2.2.1,(c.2.2.2.1,(c.2.2.2.2.1,(c.2.2.2.2.2.1,(c.2.2.2.2.2.2.1,(c.2.2.2.2.2.2.2.1,(c.2.2.2.2.2.2.2.2.1,(c.2.2.2.2.2.2.2.2.2.1,(c.2.2.2.2.2.2.2.2.2.2.1,())))))))))))) (
 opt.ask _ (p.cmp .lss b.1 (0:Int)) (
 opt.bnd ((LD×T10)) _ (
 opt.run ((LD×T10)) (
 opt.need _ (p.rowOk a.2.2.2.2.2.2.2.1 (p.nat a.2.2.2.2.2.2.2.2.2.2.1) [ci,ci])<|
 opt.need _ (p.cmp .geq a.2.2.2.2.2.2.2.2.2.2.1 (0:Int))<|
 opt.ret _ (a.1,(a.2.1,(a.2.2.1,(a.2.2.2.1,(a.2.2.2.2.1,((p.rdI a.2.2.2.2.2.2.2.1 (p.nat a.2.2.2.2.2.2.2.2.2.2.1) 0),((p.rdI a.2.2.2.2.2.2.2.1 (p.nat a.2.2.2.2.2.2.2.2.2.2.1) 1),(a.2.2.2.2.2.2.2.1,(a.2.2.2.2.2.2.2.2.1,(a.2.2.2.2.2.2.2.2.2.1,(a.2.2.2.2.2.2.2.2.2.2.1,()))))))))))))) fun d=>
 opt.ret _ (d.1,(d.2.1,(d.2.2.1,(d.2.2.2.1,(d.2.2.2.2.1,(d.2.2.2.2.2.1,(d.2.2.2.2.2.2.1,(d.2.2.2.2.2.2.2.1,(d.2.2.2.2.2.2.2.2.1,(d.2.2.2.2.2.2.2.2.2.1,(d.2.2.2.2.2.2.2.2.2.2.1,())))))))))))) (
 opt.ask _ (p.cmp .eql b.1 (0:Int)) (
 opt.need _ (p.rowOk a.2.2.2.2.2.2.2.1 (p.nat a.2.2.2.2.2.2.2.2.2.2.1) [ci,ci])<|
 opt.need _ (p.cmp .geq a.2.2.2.2.2.2.2.2.2.2.1 (0:Int))<|
 opt.bnd T0 _ (G91 p (a.2.2.2.1,(a.2.2.2.2.1,((p.rdI a.2.2.2.2.2.2.2.1 (p.nat a.2.2.2.2.2.2.2.2.2.2.1) 0),((p.rdI a.2.2.2.2.2.2.2.1 (p.nat a.2.2.2.2.2.2.2.2.2.2.1) 1),()))))) fun e=>
 opt.bnd T0 _ (G91 p (a.2.2.2.1,(a.2.2.2.2.1,(a.2.2.2.2.2.1,(a.2.2.2.2.2.2.1,()))))) fun f=>
 opt.bnd ((LD×T10)) _ (
 opt.run ((LD×T10)) (
 opt.ask _ (p.cmp .gtr e.1 f.1) (
 opt.need _ (p.rowOk a.2.2.2.2.2.2.2.1 (p.nat a.2.2.2.2.2.2.2.2.2.2.1) [ci,ci])<|
 opt.need _ (p.cmp .geq a.2.2.2.2.2.2.2.2.2.2.1 (0:Int))<|
 opt.ret _ (a.1,(a.2.1,(a.2.2.1,(a.2.2.2.1,(a.2.2.2.2.1,((p.rdI a.2.2.2.2.2.2.2.1 (p.nat a.2.2.2.2.2.2.2.2.2.2.1) 0),((p.rdI a.2.2.2.2.2.2.2.1 (p.nat a.2.2.2.2.2.2.2.2.2.2.1) 1),(a.2.2.2.2.2.2.2.1,(a.2.2.2.2.2.2.2.2.1,(a.2.2.2.2.2.2.2.2.2.1,(a.2.2.2.2.2.2.2.2.2.2.1,())))))))))))) (
 opt.ret _ (a.1,(a.2.1,(a.2.2.1,(a.2.2.2.1,(a.2.2.2.2.1,(a.2.2.2.2.2.1,(a.2.2.2.2.2.2.1,(a.2.2.2.2.2.2.2.1,(a.2.2.2.2.2.2.2.2.1,(a.2.2.2.2.2.2.2.2.2.1,(a.2.2.2.2.2.2.2.2.2.2.1,())))))))))))))) fun g=>
 opt.ret _ (g.1,(g.2.1,(g.2.2.1,(g.2.2.2.1,(g.2.2.2.2.1,(g.2.2.2.2.2.1,(g.2.2.2.2.2.2.1,(g.2.2.2.2.2.2.2.1,(g.2.2.2.2.2.2.2.2.1,(g.2.2.2.2.2.2.2.2.2.1,(g.2.2.2.2.2.2.2.2.2.2.1,())))))))))))) (
 opt.bnd ((LD×T10)) _ (
 opt.run ((LD×T10)) (
 opt.ret _ (a.1,(a.2.1,(a.2.2.1,(a.2.2.2.1,(a.2.2.2.2.1,(a.2.2.2.2.2.1,(a.2.2.2.2.2.2.1,(a.2.2.2.2.2.2.2.1,(a.2.2.2.2.2.2.2.2.1,(a.2.2.2.2.2.2.2.2.2.1,(a.2.2.2.2.2.2.2.2.2.2.1,()))))))))))))) fun h=>
 opt.ret _ (h.1,(h.2.1,(h.2.2.1,(h.2.2.2.1,(h.2.2.2.2.1,(h.2.2.2.2.2.1,(h.2.2.2.2.2.2.1,(h.2.2.2.2.2.2.2.1,(h.2.2.2.2.2.2.2.2.1,(h.2.2.2.2.2.2.2.2.2.1,(h.2.2.2.2.2.2.2.2.2.2.1,()))))))))))))))))) fun i=>
 opt.ret _ (Sum.inl (i.1,(i.2.1,(i.2.2.1,(i.2.2.2.1,(i.2.2.2.2.1,(i.2.2.2.2.2.1,(i.2.2.2.2.2.2.1,(i.2.2.2.2.2.2.2.1,(i.2.2.2.2.2.2.2.2.1,(i.2.2.2.2.2.2.2.2.2.1,((p.ar .add .i64 i.2.2.2.2.2.2.2.2.2.2.1 (1:Int)),()))))))))))))) (
 opt.ret _ (Sum.inr (a.1,(a.2.1,(a.2.2.1,(a.2.2.2.1,(a.2.2.2.2.1,(a.2.2.2.2.2.1,(a.2.2.2.2.2.2.1,(a.2.2.2.2.2.2.2.1,(a.2.2.2.2.2.2.2.2.1,(a.2.2.2.2.2.2.2.2.2.1,())))))))))))))
def w9r (it:It) (p:Prim):(LD×T71)→Option ((LD×T71)⊕(LD×T24)):=
 fun a=>opt.run _ (
 opt.need _ (bif (p.cmp .geq (p.ar .sub .i64 (p.ofNat a.2.2.2.2.2.1) (1:Int)) (0:Int)) then (p.cmp .lss (p.ar .sub .i64 (p.ofNat a.2.2.2.2.2.1) (1:Int)) (p.ofNat a.2.2.2.2.2.1)) else Bool.false)<|
 opt.need _ (p.rowOk a.1 (p.add a.2.2.2.2.1 (p.nat (p.ar .sub .i64 (p.ofNat a.2.2.2.2.2.1) (1:Int)))) [ci,ci])<|
 opt.bnd ((LD×T70)) _ (
 it _ _ (u0v p) (a.1,(a.2.1,(a.2.2.1,((p.rdI a.1 (p.add a.2.2.2.2.1 (p.nat (p.ar .sub .i64 (p.ofNat a.2.2.2.2.2.1) (1:Int)))) 0),((p.rdI a.1 (p.add a.2.2.2.2.1 (p.nat (p.ar .sub .i64 (p.ofNat a.2.2.2.2.2.1) (1:Int)))) 1),((p.rdI a.1 (p.add a.2.2.2.2.1 (p.nat (p.ar .sub .i64 (p.ofNat a.2.2.2.2.2.1) (1:Int)))) 0),((p.rdI a.1 (p.add a.2.2.2.2.1 (p.nat (p.ar .sub .i64 (p.ofNat a.2.2.2.2.2.1) (1:Int)))) 1),(a.2.2.2.1,(a.2.2.2.2.1,(a.2.2.2.2.2.1,((0:Int),())))))))))))) fun b=>
 opt.bnd ((LD×T72)) _ (
 opt.run ((LD×T72)) (
 opt.ask _ (bif (p.cmp .eql b.2.2.2.2.2.1 b.2.1) then (bif (p.cmp .eql b.2.2.2.2.2.2.1 b.2.2.1) then Bool.true else Bool.false) else Bool.false) (
 opt.ret _ (b.1,(b.2.1,(b.2.2.1,(b.2.2.2.2.2.1,(b.2.2.2.2.2.2.1,(b.2.2.2.2.2.2.2.1,(b.2.2.2.2.2.2.2.2.1,(b.2.2.2.2.2.2.2.2.2.1,(Bool.true,())))))))))) (
 opt.ret _ (b.1,(b.2.1,(b.2.2.1,(b.2.2.2.2.2.1,(b.2.2.2.2.2.2.1,(b.2.2.2.2.2.2.2.1,(b.2.2.2.2.2.2.2.2.1,(b.2.2.2.2.2.2.2.2.2.1,((bif (p.cmp .eql b.2.2.2.2.2.1 b.2.2.2.1) then (bif (p.cmp .eql b.2.2.2.2.2.2.1 b.2.2.2.2.1) then Bool.true else Bool.false) else Bool.false),())))))))))))) fun c=>
 opt.ask _ c.2.2.2.2.2.2.2.2.1 (
 opt.ret _ (Sum.inr (c.1,(c.2.2.2.2.2.2.1,(c.2.2.2.2.2.2.2.1,()))))) (
 opt.need _ (p.and (p.leN (p.add 0 1) (p.len [[(D.int .i64 c.2.2.2.1),(D.int .i64 c.2.2.2.2.1)]])) (p.and (p.leN (p.add c.2.2.2.2.2.2.1 c.2.2.2.2.2.2.2.1) (p.len c.1)) (p.and (p.leN 1 1) (p.leN (p.add c.2.2.2.2.2.2.2.1 1) 1000000))))<|
 opt.ret _ (Sum.inl ((p.app (p.cut c.1 c.2.2.2.2.2.2.1 c.2.2.2.2.2.2.2.1) (p.cut [[(D.int .i64 c.2.2.2.1),(D.int .i64 c.2.2.2.2.1)]] 0 1)),(c.2.1,(c.2.2.1,(c.2.2.2.2.2.1,(0,((p.add c.2.2.2.2.2.2.2.1 1),())))))))))
def u0w (p:Prim):(Int×(Int×(LD×(Int×Unit))))→Option ((Int×(Int×(LD×(Int×Unit))))⊕(Int×(Int×(LD×Unit)))):=
 fun a=>opt.run _ (
 opt.ask _ (p.cmp .lss a.2.2.2.1 (p.ofNat (p.len a.2.2.1))) (
 opt.bnd T19 _ (
 opt.run T19 (
 opt.need _ (p.rowOk a.2.2.1 (p.nat a.2.2.2.1) [ci,ci])<|
 opt.need _ (p.cmp .geq a.2.2.2.1 (0:Int))<|
 opt.ask _ (p.cmp .lss (p.rdI a.2.2.1 (p.nat a.2.2.2.1) 0) a.1) (
 opt.bnd T19 _ (
 opt.run T19 (
 opt.need _ (p.rowOk a.2.2.1 (p.nat a.2.2.2.1) [ci,ci])<|
 opt.need _ (p.cmp .geq a.2.2.2.1 (0:Int))<|
 opt.ret _ ((p.rdI a.2.2.1 (p.nat a.2.2.2.1) 0),((p.rdI a.2.2.1 (p.nat a.2.2.2.1) 1),(a.2.2.1,(a.2.2.2.1,())))))) fun b=>
 opt.ret _ (b.1,(b.2.1,(b.2.2.1,(b.2.2.2.1,()))))) (
 opt.need _ (p.rowOk a.2.2.1 (p.nat a.2.2.2.1) [ci,ci])<|
 opt.need _ (p.cmp .geq a.2.2.2.1 (0:Int))<|
 opt.ask _ (p.cmp .eql (p.rdI a.2.2.1 (p.nat a.2.2.2.1) 0) a.1) (
 opt.need _ (p.rowOk a.2.2.1 (p.nat a.2.2.2.1) [ci,ci])<|
 opt.need _ (p.cmp .geq a.2.2.2.1 (0:Int))<|
 opt.bnd T19 _ (
 opt.run T19 (
 opt.ask _ (p.cmp .lss (p.rdI a.2.2.1 (p.nat a.2.2.2.1) 1) a.2.1) (
 opt.need _ (p.rowOk a.2.2.1 (p.nat a.2.2.2.1) [ci,ci])<|
 opt.need _ (p.cmp .geq a.2.2.2.1 (0:Int))<|
 opt.ret _ ((p.rdI a.2.2.1 (p.nat a.2.2.2.1) 0),((p.rdI a.2.2.1 (p.nat a.2.2.2.1) 1),(a.2.2.1,(a.2.2.2.1,()))))) (
 opt.ret _ (a.1,(a.2.1,(a.2.2.1,(a.2.2.2.1,()))))))) fun c=>
 opt.ret _ (c.1,(c.2.1,(c.2.2.1,(c.2.2.2.1,()))))) (
 opt.bnd T19 _ (
 opt.run T19 (
 opt.ret _ (a.1,(a.2.1,(a.2.2.1,(a.2.2.2.1,())))))) fun d=>
 opt.ret _ (d.1,(d.2.1,(d.2.2.1,(d.2.2.2.1,())))))))) fun e=>
 opt.ret _ (Sum.inl (e.1,(e.2.1,(e.2.2.1,((p.ar .add .i64 e.2.2.2.1 (1:Int)),())))))) (
 opt.ret _ (Sum.inr (a.1,(a.2.1,(a.2.2.1,()))))))
def g61 (it:It):(p:Prim)→(LD×Unit)→Option ((LD×Unit)):=
 fun p x=>
 opt.need _ (p.rowOk x.1 (p.nat (0:Int)) [ci,ci])<|
 opt.bnd T30 _ (
 it _ _ (u0w p) ((p.rdI x.1 (p.nat (0:Int)) 0),((p.rdI x.1 (p.nat (0:Int)) 1),(x.1,((1:Int),()))))) fun a=>
 opt.need _ (p.leN (p.add 0 1) (p.len [[(D.int .i64 a.1),(D.int .i64 a.2.1)]]))<|
 opt.bnd ((LD×T24)) _ (
 it _ _ (w9r it p) ([[(D.int .i64 a.1),(D.int .i64 a.2.1)]],(a.1,(a.2.1,(a.2.2.1,(0,(1,()))))))) fun b=>
 opt.need _ (p.leN (p.add b.2.1 b.2.2.1) (p.len b.1))<|
 opt.ret _ ((p.cut b.1 b.2.1 b.2.2.1),())
def G61:=g61 it0
theorem ok61:CtrOk PG v4s (G61 std):=okF (a:=an61) (l:=la61) (gC ok91 (gC ok90 (gN))) (by kernel_rfl) fun _ _=>by kernel_rfl
def w9i:Ctr:=
 ⟨19,[.agg [.list 2, .list 1]],[],[(.ret,⟨[(0, .int .i64)],[],1⟩)]⟩
def la19:List LA:=
 [⟨19,[false,true,false,true,true],0,⟨⟨[(1, .bptr 0 0),(3, .int .i64)],[.box [.list 2, .list 1]],47⟩,[(AX.ret,⟨[(2, .int .i64)],[],47⟩),((AX.exit 0),⟨[(1, .bptr 0 0)],[.box [.list 2, .list 1]],47⟩)]⟩⟩,
 ⟨19,[false,true,false,true,true,true,true],0,⟨⟨[(1, .bptr 0 0),(4, .int .i64)],[.box [.list 2, .list 1]],47⟩,[(AX.ret,⟨[(2, .int .i64)],[],47⟩),((AX.exit 2),⟨[],[],47⟩)]⟩⟩]
def ja19:List JA:=
 [⟨19,[false,false,true],0,[(AX.normal,⟨[(1, .bptr 0 0),(14, .bool)],[.box [.list 2, .list 1]],47⟩)]⟩]
def u0b:List CF:=
 [⟨v4t,G56⟩,⟨v4u,G55⟩]
def an19:Anns:=
 ⟨u0b,ja19,[]⟩
def x8d (it:It) (p:Prim):(LD×(LD×T2))→Option ((LD×(LD×T2))⊕((Int×Unit)⊕Unit)):=
 fun a=>opt.run _ (
 opt.ask _ (p.cmp .lss a.2.2.1 (p.ofNat (p.len a.2.1))) (
 opt.need _ (p.rowOk a.2.1 (p.nat a.2.2.1) [(CK.list 2)])<|
 opt.need _ (p.cmp .geq a.2.2.1 (0:Int))<|
 opt.bnd T1 _ (g56 it p ((p.rdL a.2.1 (p.nat a.2.2.1) 0),((-1000:Int),((1000:Int),())))) fun b=>
 opt.ask _ (bif b.1 then Bool.false else Bool.true) (
 opt.ret _ (Sum.inr (Sum.inl ((3:Int),())))) (
 opt.ret _ (Sum.inl (a.1,(a.2.1,((p.ar .add .i64 a.2.2.1 (1:Int)),())))))) (
 opt.ret _ (Sum.inr (Sum.inr ()))))
def w5c (p:Prim):(LD×(LD×T2))→Option ((LD×(LD×T2))⊕((Int×Unit)⊕(LD×(LD×Unit)))):=
 fun a=>opt.run _ (
 opt.ask _ (p.cmp .lss a.2.2.1 (p.ofNat (p.len a.2.1))) (
 opt.need _ (p.rowOk a.2.1 (p.nat a.2.2.1) [(CK.list 2)])<|
 opt.need _ (p.cmp .geq a.2.2.1 (0:Int))<|
 opt.bnd T1 _ (G55 p ((p.rdL a.2.1 (p.nat a.2.2.1) 0),())) fun b=>
 opt.ask _ (bif b.1 then Bool.false else Bool.true) (
 opt.ret _ (Sum.inr (Sum.inl ((6:Int),())))) (
 opt.ret _ (Sum.inl (a.1,(a.2.1,((p.ar .add .i64 a.2.2.1 (1:Int)),())))))) (
 opt.ret _ (Sum.inr (Sum.inr (a.1,(a.2.1,()))))))
def g19 (it:It):(p:Prim)→(LD×(LD×Unit))→Option T0:=
 fun p x=>
 opt.bnd ((LD×(LD×T18))) _ (
 opt.run ((LD×(LD×T18))) (
 opt.bnd T1 _ (G55 p (x.1,())) fun a=>
 opt.ask _ (bif a.1 then Bool.false else Bool.true) (
 opt.ret _ (x.1,(x.2.1,(Bool.true,())))) (
 opt.ret _ (x.1,(x.2.1,((p.cmp .gtr (p.ofNat (p.len x.2.1)) (4:Int)),())))))) fun b=>
 opt.ask _ b.2.2.1 (
 opt.ret _ ((6:Int),())) (
 opt.alt T0 ((LD×(LD×Unit))) _ (
 it _ _ (w5c p) (b.1,(b.2.1,((0:Int),())))) (fun c=>
 opt.ret _ (c.1,())) (fun d=>
 opt.bnd ((LD×(LD×Unit))) _ (some d) fun e=>
 opt.bnd T1 _ (g56 it p (e.1,((0:Int),((1000:Int),())))) fun f=>
 opt.ask _ (bif f.1 then Bool.false else Bool.true) (
 opt.ret _ ((3:Int),())) (
 opt.alt T0 (Unit) _ (
 it _ _ (x8d it p) (e.1,(e.2.1,((0:Int),())))) (fun g=>
 opt.ret _ (g.1,())) (fun h=>
 opt.bnd (Unit) _ (some h) fun i=>
 opt.ret _ ((0:Int),())))))
def G19:=g19 it0
theorem u2b:CtrOk PG w9i (G19 std):=okF (a:=an19) (l:=la19) (gC ok56 (gC ok55 (gN))) (by kernel_rfl) fun _ _=>by kernel_rfl
def w9g:Ctr:=
 ⟨43,[.list 2, .agg [.int .i64, .int .i64, .int .i64]],[],[(.ret,⟨[(0, .bool)],[],1⟩)]⟩
def la43:List LA:=
 [⟨43,[false,true,false,true,true],0,⟨⟨[(0, .list 2),(3, .bptr 0 0),(5, .int .i64),(6, .int .i64)],[.box [.int .i64, .int .i64, .int .i64]],91⟩,[(AX.ret,⟨[(4, .bool)],[],91⟩),((AX.exit 0),⟨[],[],91⟩)]⟩⟩]
def ja43:List JA:=
 [⟨43,[false,true,false,false,true,false,true,true],0,[(AX.ret,⟨[(4, .bool)],[],91⟩),(AX.normal,⟨[(0, .list 2),(3, .bptr 0 0),(5, .int .i64),(6, .int .i64)],[.box [.int .i64, .int .i64, .int .i64]],91⟩)]⟩,
 ⟨43,[false,false,true,false,true,true,false,false,true,false,false,true,false,true,true],0,[(AX.normal,⟨[(4, .bool)],[],91⟩)]⟩,
 ⟨43,[false,true,true,true,true,true,false,false,true,false,false,true,false,true,true],0,[(AX.normal,⟨[(0, .list 2),(3, .bptr 0 0),(5, .int .i64),(6, .int .i64),(90, .bool)],[.box [.int .i64, .int .i64, .int .i64]],91⟩)]⟩]
def v9w:List CF:=
 []
def an43:Anns:=
 ⟨v9w,ja43,[]⟩
def y3n (p:Prim):T59→Option ((Int×(Int×(Int×(LD×(Int×(Int×Unit))))))⊕((Bool×Unit)⊕Unit)):=
 fun a=>opt.run _ (
 opt.ask _ (p.cmp .lss a.2.2.2.2.2.1 a.2.2.2.2.1) (
 opt.alt T1 T73 _ (
 opt.run (((Bool×Unit)⊕(Int×(Int×(Int×(LD×(Int×(Int×Unit)))))))) (
 opt.need _ (p.rowOk a.2.2.2.1 (p.nat a.2.2.2.2.2.1) [ci,ci])<|
 opt.need _ (p.cmp .geq a.2.2.2.2.2.1 (0:Int))<|
 opt.need _ (p.cmp .neq a.2.2.2.2.1 (0:Int))<|
 opt.need _ (p.rowOk a.2.2.2.1 (p.nat (p.ar .rem .i64 (p.ar .add .i64 a.2.2.2.2.2.1 (1:Int)) a.2.2.2.2.1)) [ci,ci])<|
 opt.need _ (p.cmp .geq (p.ar .rem .i64 (p.ar .add .i64 a.2.2.2.2.2.1 (1:Int)) a.2.2.2.2.1) (0:Int))<|
 opt.ask _ (p.cmp .eql a.2.2.2.2.1 (1:Int)) (
 opt.bnd T1 _ (
 opt.run T1 (
 opt.ask _ (p.cmp .eql (p.ar .sub .i64 a.1 (p.ar .mul .i64 (p.rdI a.2.2.2.1 (p.nat a.2.2.2.2.2.1) 0) a.2.2.1)) (0:Int)) (
 opt.ret _ ((p.cmp .eql (p.ar .sub .i64 a.2.1 (p.ar .mul .i64 (p.rdI a.2.2.2.1 (p.nat a.2.2.2.2.2.1) 1) a.2.2.1)) (0:Int)),())) (
 opt.ret _ (Bool.false,())))) fun b=>
 opt.ret _ (Sum.inl (b.1,()))) (
 opt.ask _ (p.cmp .lss (p.ar .sub .i64 (p.ar .mul .i64 (p.ar .sub .i64 (p.rdI a.2.2.2.1 (p.nat (p.ar .rem .i64 (p.ar .add .i64 a.2.2.2.2.2.1 (1:Int)) a.2.2.2.2.1)) 0) (p.rdI a.2.2.2.1 (p.nat a.2.2.2.2.2.1) 0)) (p.ar .sub .i64 a.2.1 (p.ar .mul .i64 (p.rdI a.2.2.2.1 (p.nat a.2.2.2.2.2.1) 1) a.2.2.1))) (p.ar .mul .i64 (p.ar .sub .i64 (p.rdI a.2.2.2.1 (p.nat (p.ar .rem .i64 (p.ar .add .i64 a.2.2.2.2.2.1 (1:Int)) a.2.2.2.2.1)) 1) (p.rdI a.2.2.2.1 (p.nat a.2.2.2.2.2.1) 1)) (p.ar .sub .i64 a.1 (p.ar .mul .i64 (p.rdI a.2.2.2.1 (p.nat a.2.2.2.2.2.1) 0) a.2.2.1)))) (0:Int)) (
 opt.ret _ (Sum.inl (Bool.false,()))) (
 opt.bnd T74 _ (
 opt.run T74 (
 opt.ask _ (p.cmp .eql a.2.2.2.2.1 (2:Int)) (
 opt.ret _ (a.1,(a.2.1,(a.2.2.1,(a.2.2.2.1,(a.2.2.2.2.1,(a.2.2.2.2.2.1,((p.cmp .lss (p.ar .add .i64 (p.ar .mul .i64 (p.ar .sub .i64 (p.rdI a.2.2.2.1 (p.nat (p.ar .rem .i64 (p.ar .add .i64 a.2.2.2.2.2.1 (1:Int)) a.2.2.2.2.1)) 0) (p.rdI a.2.2.2.1 (p.nat a.2.2.2.2.2.1) 0)) (p.ar .sub .i64 a.1 (p.ar .mul .i64 (p.rdI a.2.2.2.1 (p.nat a.2.2.2.2.2.1) 0) a.2.2.1))) (p.ar .mul .i64 (p.ar .sub .i64 (p.rdI a.2.2.2.1 (p.nat (p.ar .rem .i64 (p.ar .add .i64 a.2.2.2.2.2.1 (1:Int)) a.2.2.2.2.1)) 1) (p.rdI a.2.2.2.1 (p.nat a.2.2.2.2.2.1) 1)) (p.ar .sub .i64 a.2.1 (p.ar .mul .i64 (p.rdI a.2.2.2.1 (p.nat a.2.2.2.2.2.1) 1) a.2.2.1)))) (0:Int)),())))))))) (
 opt.ret _ (a.1,(a.2.1,(a.2.2.1,(a.2.2.2.1,(a.2.2.2.2.1,(a.2.2.2.2.2.1,(Bool.false,())))))))))) fun c=>
 opt.ask _ c.2.2.2.2.2.2.1 (
 opt.ret _ (Sum.inl (Bool.false,()))) (
 opt.ret _ (Sum.inr (c.1,(c.2.1,(c.2.2.1,(c.2.2.2.1,(c.2.2.2.2.1,(c.2.2.2.2.2.1,())))))))))))) (fun d=>
 opt.ret _ (Sum.inr (Sum.inl (d.1,())))) (fun e=>
 opt.bnd T73 _ (some e) fun f=>
 opt.ret _ (Sum.inl (f.1,(f.2.1,(f.2.2.1,(f.2.2.2.1,(f.2.2.2.2.1,((p.ar .add .i64 f.2.2.2.2.2.1 (1:Int)),()))))))))) (
 opt.ret _ (Sum.inr (Sum.inr ()))))
def g43 (it:It):(p:Prim)→(LD×T6)→Option T1:=
 fun p x=>
 opt.alt T1 (Unit) _ (
 it _ _ (y3n p) (x.2.1,(x.2.2.1,(x.2.2.2.1,(x.1,((p.ofNat (p.len x.1)),((0:Int),()))))))) (fun a=>
 opt.ret _ (a.1,())) (fun b=>
 opt.bnd (Unit) _ (some b) fun c=>
 opt.ret _ (Bool.true,()))
def G43:=g43 it0
theorem u1z:CtrOk PG w9g (G43 std):=okF (a:=an43) (l:=la43) (gN) (by kernel_rfl) fun _ _=>by kernel_rfl
def v4w:Ctr:=
 ⟨44,[.agg [.list 2, .list 1]],[],[(.ret,⟨[(0, .int .i64)],[],1⟩)]⟩
def la44:List LA:=
 [⟨44,[false,true,false,true,true],0,⟨⟨[(1, .bptr 0 0),(3, .int .i64),(4, .int .i64)],[.box [.list 2, .list 1]],24⟩,[((AX.exit 0),⟨[(3, .int .i64)],[],24⟩)]⟩⟩]
def ja44:List JA:=
 []
def v9v:List CF:=
 []
def an44:Anns:=
 ⟨v9v,ja44,[]⟩
def w1x (p:Prim):(LD×(LD×T4))→Option ((LD×(LD×T4))⊕T2):=
 fun a=>opt.run _ (
 opt.ask _ (p.cmp .lss a.2.2.2.1 (p.ofNat (p.len a.2.1))) (
 opt.need _ (p.rowOk a.2.1 (p.nat a.2.2.2.1) [(CK.list 2)])<|
 opt.need _ (p.cmp .geq a.2.2.2.1 (0:Int))<|
 opt.ret _ (Sum.inl (a.1,(a.2.1,((p.ar .mul .i64 a.2.2.1 (p.ofNat (p.len (p.rdL a.2.1 (p.nat a.2.2.2.1) 0)))),((p.ar .add .i64 a.2.2.2.1 (1:Int)),())))))) (
 opt.ret _ (Sum.inr (a.2.2.1,()))))
def g44 (it:It):(p:Prim)→(LD×(LD×Unit))→Option T0:=
 fun p x=>
 opt.bnd T0 _ (
 it _ _ (w1x p) (x.1,(x.2.1,((p.ofNat (p.len x.1)),((0:Int),()))))) fun a=>
 opt.ret _ (a.1,())
def G44:=g44 it0
theorem ok44:CtrOk PG v4w (G44 std):=okF (a:=an44) (l:=la44) (gN) (by kernel_rfl) fun _ _=>by kernel_rfl
def w9f:Ctr:=
 ⟨49,[.agg [.list 2, .list 1]],[],[(.ret,⟨[(0, .list 2)],[],1⟩)]⟩
def la49:List LA:=
 [⟨49,[false,true,false,true,true],0,⟨⟨[(1, .bptr 0 0),(3, .list 2),(4, .int .i64)],[.box [.list 2, .list 1]],27⟩,[((AX.exit 0),⟨[(3, .list 2)],[],27⟩)]⟩⟩,
 ⟨45,[false,true,false,true,true],2,⟨⟨[(1, .bptr 2 0),(3, .list 2),(4, .int .i64)],[.box [.list 2, .list 1], .row [(CK.list 2)], .box [.list 2, .full 1 1]],51⟩,[((AX.exit 0),⟨[(3, .list 2)],[.box [.list 2, .list 1], .row [(CK.list 2)]],51⟩)]⟩⟩,
 ⟨45,[false,true,false,true,false,false,true,false,false,true,false,true,true],2,⟨⟨[(1, .bptr 2 0),(3, .list 2),(4, .int .i64),(5, .vec 3 2),(6, .int .i64)],[.box [.list 2, .list 1], .row [(CK.list 2)], .box [.list 2, .full 1 1], .row [ci,ci]],51⟩,[((AX.exit 2),⟨[(1, .bptr 2 0),(4, .int .i64),(5, .vec 3 2)],[.box [.list 2, .list 1], .row [(CK.list 2)], .box [.list 2, .full 1 1], .row [ci,ci]],51⟩)]⟩⟩,
 ⟨45,[false,true,false,false,true,false,false,true,false,true,false,false,true,false,false,true,false,true,true],2,⟨⟨[(1, .bptr 2 0),(3, .list 2),(4, .int .i64),(5, .vec 3 2),(6, .int .i64),(7, .int .i64)],[.box [.list 2, .list 1], .row [(CK.list 2)], .box [.list 2, .full 1 1], .row [ci,ci]],51⟩,[((AX.exit 4),⟨[(1, .bptr 2 0),(3, .list 2),(4, .int .i64),(5, .vec 3 2),(6, .int .i64)],[.box [.list 2, .list 1], .row [(CK.list 2)], .box [.list 2, .full 1 1], .row [ci,ci]],51⟩)]⟩⟩]
def ja49:List JA:=
 []
def v9s:List CF:=
 [⟨v4s,G61⟩]
def an49:Anns:=
 ⟨v9s,ja49,[]⟩
def u0x (p:Prim):(LD×(LD×(LD×(LD×(LD×(LD×T6))))))→Option ((LD×(LD×(LD×(LD×(LD×(LD×T6))))))⊕(LD×(LD×(LD×(LD×(LD×(LD×T4))))))):=
 fun a=>opt.run _ (
 opt.need _ (bif (p.cmp .geq a.2.2.2.2.2.2.1 (0:Int)) then (p.cmp .lss a.2.2.2.2.2.2.1 (p.ofNat (p.len a.1))) else Bool.false)<|
 opt.need _ (p.rowOk a.1 (p.add 0 (p.nat a.2.2.2.2.2.2.1)) [(CK.list 2)])<|
 opt.ask _ (p.cmp .lss a.2.2.2.2.2.2.2.2.1 (p.ofNat (p.len (p.rdL a.1 (p.add 0 (p.nat a.2.2.2.2.2.2.1)) 0)))) (
 opt.need _ (p.rowOk a.2.2.2.2.2.1 (p.nat a.2.2.2.2.2.2.2.1) [ci,ci])<|
 opt.need _ (p.cmp .geq a.2.2.2.2.2.2.2.1 (0:Int))<|
 opt.need _ (bif (p.cmp .geq a.2.2.2.2.2.2.1 (0:Int)) then (p.cmp .lss a.2.2.2.2.2.2.1 (p.ofNat (p.len a.1))) else Bool.false)<|
 opt.need _ (p.rowOk a.1 (p.add 0 (p.nat a.2.2.2.2.2.2.1)) [(CK.list 2)])<|
 opt.need _ (p.rowOk (p.rdL a.1 (p.add 0 (p.nat a.2.2.2.2.2.2.1)) 0) (p.nat a.2.2.2.2.2.2.2.2.1) [ci,ci])<|
 opt.need _ (p.cmp .geq a.2.2.2.2.2.2.2.2.1 (0:Int))<|
 opt.need _ (p.and (p.leN (p.add 0 1) (p.len [[(D.int .i64 (p.ar .add .i64 (p.rdI a.2.2.2.2.2.1 (p.nat a.2.2.2.2.2.2.2.1) 0) (p.rdI (p.rdL a.1 (p.add 0 (p.nat a.2.2.2.2.2.2.1)) 0) (p.nat a.2.2.2.2.2.2.2.2.1) 0))),(D.int .i64 (p.ar .add .i64 (p.rdI a.2.2.2.2.2.1 (p.nat a.2.2.2.2.2.2.2.1) 1) (p.rdI (p.rdL a.1 (p.add 0 (p.nat a.2.2.2.2.2.2.1)) 0) (p.nat a.2.2.2.2.2.2.2.2.1) 1)))]])) (p.and (p.leN (p.add 0 (p.len a.2.1)) (p.len a.2.1)) (p.and (p.leN 1 1) (p.leN (p.add (p.len a.2.1) 1) 1000000))))<|
 opt.need _ (p.eqN 0 0)<|
 opt.need _ (p.eqN (p.len a.1) (p.len a.1))<|
 opt.need _ (p.eqN (p.len a.1) (p.len a.1))<|
 opt.need _ (p.eqN 0 0)<|
 opt.need _ (p.eqN (p.add (p.len a.2.1) 1) (p.len (p.app (p.cut a.2.1 0 (p.len a.2.1)) (p.cut [[(D.int .i64 (p.ar .add .i64 (p.rdI a.2.2.2.2.2.1 (p.nat a.2.2.2.2.2.2.2.1) 0) (p.rdI (p.rdL a.1 (p.add 0 (p.nat a.2.2.2.2.2.2.1)) 0) (p.nat a.2.2.2.2.2.2.2.2.1) 0))),(D.int .i64 (p.ar .add .i64 (p.rdI a.2.2.2.2.2.1 (p.nat a.2.2.2.2.2.2.2.1) 1) (p.rdI (p.rdL a.1 (p.add 0 (p.nat a.2.2.2.2.2.2.1)) 0) (p.nat a.2.2.2.2.2.2.2.2.1) 1)))]] 0 1))))<|
 opt.ret _ (Sum.inl (a.1,((p.app (p.cut a.2.1 0 (p.len a.2.1)) (p.cut [[(D.int .i64 (p.ar .add .i64 (p.rdI a.2.2.2.2.2.1 (p.nat a.2.2.2.2.2.2.2.1) 0) (p.rdI (p.rdL a.1 (p.add 0 (p.nat a.2.2.2.2.2.2.1)) 0) (p.nat a.2.2.2.2.2.2.2.2.1) 0))),(D.int .i64 (p.ar .add .i64 (p.rdI a.2.2.2.2.2.1 (p.nat a.2.2.2.2.2.2.2.1) 1) (p.rdI (p.rdL a.1 (p.add 0 (p.nat a.2.2.2.2.2.2.1)) 0) (p.nat a.2.2.2.2.2.2.2.2.1) 1)))]] 0 1)),(a.2.2.1,(a.2.2.2.1,(a.2.2.2.2.1,(a.2.2.2.2.2.1,(a.2.2.2.2.2.2.1,(a.2.2.2.2.2.2.2.1,((p.ar .add .i64 a.2.2.2.2.2.2.2.2.1 (1:Int)),()))))))))))) (
 opt.need _ (p.eqN 0 0)<|
 opt.need _ (p.eqN (p.len a.1) (p.len a.1))<|
 opt.need _ (p.eqN (p.len a.1) (p.len a.1))<|
 opt.need _ (p.eqN 0 0)<|
 opt.need _ (p.eqN (p.len a.2.1) (p.len a.2.1))<|
 opt.ret _ (Sum.inr (a.1,(a.2.1,(a.2.2.1,(a.2.2.2.1,(a.2.2.2.2.1,(a.2.2.2.2.2.1,(a.2.2.2.2.2.2.1,(a.2.2.2.2.2.2.2.1,())))))))))))
def w9s (it:It) (p:Prim):(LD×(LD×(LD×(LD×(LD×(LD×T4))))))→Option ((LD×(LD×(LD×(LD×(LD×(LD×T4))))))⊕(LD×(LD×(LD×(LD×(LD×T2)))))):=
 fun a=>opt.run _ (
 opt.ask _ (p.cmp .lss a.2.2.2.2.2.2.2.1 (p.ofNat (p.len a.2.2.2.2.2.1))) (
 opt.need _ (p.eqN 0 0)<|
 opt.need _ (p.eqN (p.len a.1) (p.len a.1))<|
 opt.need _ (p.eqN (p.len a.1) (p.len a.1))<|
 opt.need _ (p.eqN 0 0)<|
 opt.need _ (p.eqN (p.len a.2.1) (p.len a.2.1))<|
 opt.bnd ((LD×(LD×(LD×(LD×(LD×(LD×T4))))))) _ (
 it _ _ (u0x p) (a.1,(a.2.1,(a.2.2.1,(a.2.2.2.1,(a.2.2.2.2.1,(a.2.2.2.2.2.1,(a.2.2.2.2.2.2.1,(a.2.2.2.2.2.2.2.1,((0:Int),())))))))))) fun b=>
 opt.need _ (p.eqN 0 0)<|
 opt.need _ (p.eqN (p.len b.1) (p.len b.1))<|
 opt.need _ (p.eqN (p.len b.1) (p.len b.1))<|
 opt.need _ (p.eqN 0 0)<|
 opt.need _ (p.eqN (p.len b.2.1) (p.len b.2.1))<|
 opt.ret _ (Sum.inl (b.1,(b.2.1,(b.2.2.1,(b.2.2.2.1,(b.2.2.2.2.1,(b.2.2.2.2.2.1,(b.2.2.2.2.2.2.1,((p.ar .add .i64 b.2.2.2.2.2.2.2.1 (1:Int)),())))))))))) (
 opt.need _ (p.eqN 0 0)<|
 opt.need _ (p.eqN (p.len a.1) (p.len a.1))<|
 opt.need _ (p.eqN (p.len a.1) (p.len a.1))<|
 opt.need _ (p.eqN 0 0)<|
 opt.need _ (p.eqN (p.len a.2.1) (p.len a.2.1))<|
 opt.ret _ (Sum.inr (a.1,(a.2.1,(a.2.2.1,(a.2.2.2.1,(a.2.2.2.2.1,(a.2.2.2.2.2.2.1,())))))))))
def w9t (it:It) (p:Prim):(LD×(LD×(LD×(LD×(LD×T2)))))→Option ((LD×(LD×(LD×(LD×(LD×T2)))))⊕(LD×(LD×(LD×(LD×Unit))))):=
 fun a=>opt.run _ (
 opt.ask _ (p.cmp .lss a.2.2.2.2.2.1 (p.ofNat (p.len a.1))) (
 opt.need _ (p.eqN 0 0)<|
 opt.need _ (p.eqN (p.len a.1) (p.len a.1))<|
 opt.need _ (p.eqN (p.len a.1) (p.len a.1))<|
 opt.bnd ((LD×(LD×(LD×(LD×(LD×T2)))))) _ (
 it _ _ (w9s it p) (a.1,([],(a.2.1,(a.2.2.1,(a.2.2.2.1,(a.2.2.2.2.1,(a.2.2.2.2.2.1,((0:Int),()))))))))) fun b=>
 opt.need _ (p.eqN 0 0)<|
 opt.need _ (p.eqN (p.len b.1) (p.len b.1))<|
 opt.need _ (p.eqN (p.len b.1) (p.len b.1))<|
 opt.need _ (p.leN (p.add 0 (p.len b.2.1)) (p.len b.2.1))<|
 opt.ret _ (Sum.inl (b.1,(b.2.2.1,(b.2.2.2.1,(b.2.2.2.2.1,((p.cut b.2.1 0 (p.len b.2.1)),((p.ar .add .i64 b.2.2.2.2.2.1 (1:Int)),())))))))) (
 opt.ret _ (Sum.inr (a.1,(a.2.1,(a.2.2.1,(a.2.2.2.2.1,())))))))
def w9u (it:It) (p:Prim):(LD×(LD×(LD×T2)))→Option ((LD×(LD×(LD×T2)))⊕(LD×Unit)):=
 fun a=>opt.run _ (
 opt.ask _ (p.cmp .lss a.2.2.2.1 (p.ofNat (p.len a.2.1))) (
 opt.need _ (p.rowOk a.2.1 (p.nat a.2.2.2.1) [(CK.list 2)])<|
 opt.need _ (p.cmp .geq a.2.2.2.1 (0:Int))<|
 opt.bnd ((LD×Unit)) _ (g61 it p ((p.rdL a.2.1 (p.nat a.2.2.2.1) 0),())) fun b=>
 opt.need _ (p.eqN 0 0)<|
 opt.need _ (p.eqN 1 (p.len [[(D.list Bool.false 2 b.1)]]))<|
 opt.need _ (p.eqN 1 (p.len [[(D.list Bool.false 2 b.1)]]))<|
 opt.bnd ((LD×(LD×(LD×(LD×Unit))))) _ (
 it _ _ (w9t it p) ([[(D.list Bool.false 2 b.1)]],(a.1,(a.2.1,(a.2.2.1,(a.2.2.1,((0:Int),()))))))) fun c=>
 opt.bnd ((LD×Unit)) _ (g61 it p (c.2.2.2.1,())) fun d=>
 opt.ret _ (Sum.inl (c.2.1,(c.2.2.1,(d.1,((p.ar .add .i64 a.2.2.2.1 (1:Int)),())))))) (
 opt.ret _ (Sum.inr (a.2.2.1,()))))
def g49 (it:It):(p:Prim)→(LD×(LD×Unit))→Option ((LD×Unit)):=
 fun p x=>
 opt.bnd ((LD×Unit)) _ (g61 it p (x.1,())) fun a=>
 opt.bnd ((LD×Unit)) _ (
 it _ _ (w9u it p) (x.1,(x.2.1,(a.1,((0:Int),()))))) fun b=>
 opt.ret _ (b.1,())
def G49:=g49 it0
theorem u1y:CtrOk PG w9f (G49 std):=okF (a:=an49) (l:=la49) (gC ok61 (gN)) (by kernel_rfl) fun _ _=>by kernel_rfl
def w9a:Ctr:=
 ⟨72,[.agg [.list 2, .list 1], .agg [.list 2, .list 1]],[],[(.ret,⟨[(0, .int .i64)],[],1⟩)]⟩
def la72:List LA:=
 []
def ja72:List JA:=
 []
def v9d:List CF:=
 [⟨w9i,G19⟩]
def an72:Anns:=
 ⟨v9d,ja72,[]⟩
def g72 (it:It):(p:Prim)→(LD×(LD×(LD×(LD×Unit))))→Option T0:=
 fun p x=>
 opt.bnd T0 _ (g19 it p (x.1,(x.2.1,()))) fun a=>
 opt.ask _ (p.cmp .neq a.1 (0:Int)) (
 opt.bnd T0 _ (g19 it p (x.1,(x.2.1,()))) fun b=>
 opt.ret _ (b.1,())) (
 opt.bnd T0 _ (g19 it p (x.2.2.1,(x.2.2.2.1,()))) fun c=>
 opt.ret _ (c.1,()))
def G72:=g72 it0
theorem u1t:CtrOk PG w9a (G72 std):=okF (a:=an72) (l:=la72) (gC u2b (gN)) (by kernel_rfl) fun _ _=>by kernel_rfl
def v41:Ctr:=
 ⟨36,[.agg [.list 2, .list 1], .agg [.list 2, .list 1], .agg [.int .i64, .int .i64, .int .i64]],[],[(.ret,⟨[(0, .int .i64)],[],1⟩)]⟩
def la36:List LA:=
 [⟨36,[false,true,false,true,true,true,true],0,⟨⟨[(5, .bptr 0 0),(7, .list 2),(8, .list 2),(9, .int .i64)],[.box [.int .i64, .int .i64, .int .i64]],112⟩,[(AX.ret,⟨[(6, .int .i64)],[],112⟩),((AX.exit 0),⟨[(5, .bptr 0 0),(8, .list 2)],[.box [.int .i64, .int .i64, .int .i64]],112⟩)]⟩⟩,
 ⟨36,[false,true,false,true,true,true,true,true],0,⟨⟨[(5, .bptr 0 0),(8, .list 2),(10, .int .i64)],[.box [.int .i64, .int .i64, .int .i64]],112⟩,[(AX.ret,⟨[(6, .int .i64)],[],112⟩),((AX.exit 2),⟨[],[],112⟩)]⟩⟩]
def ja36:List JA:=
 [⟨36,[false,false,true,true],0,[(AX.normal,⟨[(3, .bptr 0 0),(4, .bptr 1 0),(5, .bptr 2 0),(55, .bool)],[.box [.list 2, .list 1], .box [.list 2, .list 1], .box [.int .i64, .int .i64, .int .i64]],112⟩)]⟩]
def v91:List CF:=
 [⟨w9f,G49⟩,⟨w9a,G72⟩]
def an36:Anns:=
 ⟨v91,ja36,[]⟩
def u0y (p:Prim):T15→Option ((Int×(Int×(Int×(LD×(Int×Unit)))))⊕((Int×Unit)⊕Unit)):=
 fun a=>opt.run _ (
 opt.ask _ (p.cmp .lss a.2.2.2.2.1 (p.ofNat (p.len a.2.2.2.1))) (
 opt.need _ (p.rowOk a.2.2.2.1 (p.nat a.2.2.2.2.1) [ci,ci])<|
 opt.need _ (p.cmp .geq a.2.2.2.2.1 (0:Int))<|
 opt.need _ (p.rowOk a.2.2.2.1 (p.nat a.2.2.2.2.1) [ci,ci])<|
 opt.need _ (p.cmp .geq a.2.2.2.2.1 (0:Int))<|
 opt.ask _ (p.cmp .leq (p.ar .add .i64 (p.ar .mul .i64 a.1 (p.rdI a.2.2.2.1 (p.nat a.2.2.2.2.1) 0)) (p.ar .mul .i64 a.2.1 (p.rdI a.2.2.2.1 (p.nat a.2.2.2.2.1) 1))) a.2.2.1) (
 opt.ret _ (Sum.inr (Sum.inl ((14:Int),())))) (
 opt.ret _ (Sum.inl (a.1,(a.2.1,(a.2.2.1,(a.2.2.2.1,((p.ar .add .i64 a.2.2.2.2.1 (1:Int)),())))))))) (
 opt.ret _ (Sum.inr (Sum.inr ()))))
def u0z (p:Prim):T60→Option ((Int×(Int×(Int×(LD×(LD×(Int×Unit))))))⊕((Int×Unit)⊕(Int×(Int×(Int×(LD×Unit)))))):=
 fun a=>opt.run _ (
 opt.ask _ (p.cmp .lss a.2.2.2.2.2.1 (p.ofNat (p.len a.2.2.2.1))) (
 opt.need _ (p.rowOk a.2.2.2.1 (p.nat a.2.2.2.2.2.1) [ci,ci])<|
 opt.need _ (p.cmp .geq a.2.2.2.2.2.1 (0:Int))<|
 opt.need _ (p.rowOk a.2.2.2.1 (p.nat a.2.2.2.2.2.1) [ci,ci])<|
 opt.need _ (p.cmp .geq a.2.2.2.2.2.1 (0:Int))<|
 opt.ask _ (p.cmp .gtr (p.ar .add .i64 (p.ar .mul .i64 a.1 (p.rdI a.2.2.2.1 (p.nat a.2.2.2.2.2.1) 0)) (p.ar .mul .i64 a.2.1 (p.rdI a.2.2.2.1 (p.nat a.2.2.2.2.2.1) 1))) a.2.2.1) (
 opt.ret _ (Sum.inr (Sum.inl ((14:Int),())))) (
 opt.ret _ (Sum.inl (a.1,(a.2.1,(a.2.2.1,(a.2.2.2.1,(a.2.2.2.2.1,((p.ar .add .i64 a.2.2.2.2.2.1 (1:Int)),()))))))))) (
 opt.ret _ (Sum.inr (Sum.inr (a.1,(a.2.1,(a.2.2.1,(a.2.2.2.2.1,()))))))))
def g36 (it:It):(p:Prim)→(LD×(LD×(LD×(LD×T6))))→Option T0:=
 fun p x=>
 opt.bnd T0 _ (g72 it p (x.1,(x.2.1,(x.2.2.1,(x.2.2.2.1,()))))) fun a=>
 opt.ask _ (p.cmp .neq a.1 (0:Int)) (
 opt.bnd T0 _ (g72 it p (x.1,(x.2.1,(x.2.2.1,(x.2.2.2.1,()))))) fun b=>
 opt.ret _ (b.1,())) (
 opt.bnd ((LD×(LD×(LD×(LD×T26))))) _ (
 opt.run ((LD×(LD×(LD×(LD×T26))))) (
 opt.ask _ (p.cmp .eql x.2.2.2.2.1 (0:Int)) (
 opt.ask _ (p.cmp .eql x.2.2.2.2.2.1 (0:Int)) (
 opt.ret _ (x.1,(x.2.1,(x.2.2.1,(x.2.2.2.1,(x.2.2.2.2.1,(x.2.2.2.2.2.1,(x.2.2.2.2.2.2.1,(Bool.true,()))))))))) (
 opt.ask _ (p.cmp .lss x.2.2.2.2.1 (-1048576:Int)) (
 opt.ret _ (x.1,(x.2.1,(x.2.2.1,(x.2.2.2.1,(x.2.2.2.2.1,(x.2.2.2.2.2.1,(x.2.2.2.2.2.2.1,(Bool.true,()))))))))) (
 opt.ask _ (p.cmp .gtr x.2.2.2.2.1 (1048576:Int)) (
 opt.ret _ (x.1,(x.2.1,(x.2.2.1,(x.2.2.2.1,(x.2.2.2.2.1,(x.2.2.2.2.2.1,(x.2.2.2.2.2.2.1,(Bool.true,()))))))))) (
 opt.ask _ (p.cmp .lss x.2.2.2.2.2.1 (-1048576:Int)) (
 opt.ret _ (x.1,(x.2.1,(x.2.2.1,(x.2.2.2.1,(x.2.2.2.2.1,(x.2.2.2.2.2.1,(x.2.2.2.2.2.2.1,(Bool.true,()))))))))) (
 opt.ask _ (p.cmp .gtr x.2.2.2.2.2.1 (1048576:Int)) (
 opt.ret _ (x.1,(x.2.1,(x.2.2.1,(x.2.2.2.1,(x.2.2.2.2.1,(x.2.2.2.2.2.1,(x.2.2.2.2.2.2.1,(Bool.true,()))))))))) (
 opt.ask _ (p.cmp .lss x.2.2.2.2.2.2.1 (-1099511627776:Int)) (
 opt.ret _ (x.1,(x.2.1,(x.2.2.1,(x.2.2.2.1,(x.2.2.2.2.1,(x.2.2.2.2.2.1,(x.2.2.2.2.2.2.1,(Bool.true,()))))))))) (
 opt.ret _ (x.1,(x.2.1,(x.2.2.1,(x.2.2.2.1,(x.2.2.2.2.1,(x.2.2.2.2.2.1,(x.2.2.2.2.2.2.1,((p.cmp .gtr x.2.2.2.2.2.2.1 (1099511627776:Int)),()))))))))))))))) (
 opt.ask _ (p.cmp .lss x.2.2.2.2.1 (-1048576:Int)) (
 opt.ret _ (x.1,(x.2.1,(x.2.2.1,(x.2.2.2.1,(x.2.2.2.2.1,(x.2.2.2.2.2.1,(x.2.2.2.2.2.2.1,(Bool.true,()))))))))) (
 opt.ask _ (p.cmp .gtr x.2.2.2.2.1 (1048576:Int)) (
 opt.ret _ (x.1,(x.2.1,(x.2.2.1,(x.2.2.2.1,(x.2.2.2.2.1,(x.2.2.2.2.2.1,(x.2.2.2.2.2.2.1,(Bool.true,()))))))))) (
 opt.ask _ (p.cmp .lss x.2.2.2.2.2.1 (-1048576:Int)) (
 opt.ret _ (x.1,(x.2.1,(x.2.2.1,(x.2.2.2.1,(x.2.2.2.2.1,(x.2.2.2.2.2.1,(x.2.2.2.2.2.2.1,(Bool.true,()))))))))) (
 opt.ask _ (p.cmp .gtr x.2.2.2.2.2.1 (1048576:Int)) (
 opt.ret _ (x.1,(x.2.1,(x.2.2.1,(x.2.2.2.1,(x.2.2.2.2.1,(x.2.2.2.2.2.1,(x.2.2.2.2.2.2.1,(Bool.true,()))))))))) (
 opt.ask _ (p.cmp .lss x.2.2.2.2.2.2.1 (-1099511627776:Int)) (
 opt.ret _ (x.1,(x.2.1,(x.2.2.1,(x.2.2.2.1,(x.2.2.2.2.1,(x.2.2.2.2.2.1,(x.2.2.2.2.2.2.1,(Bool.true,()))))))))) (
 opt.ret _ (x.1,(x.2.1,(x.2.2.1,(x.2.2.2.1,(x.2.2.2.2.1,(x.2.2.2.2.2.1,(x.2.2.2.2.2.2.1,((p.cmp .gtr x.2.2.2.2.2.2.1 (1099511627776:Int)),())))))))))))))))) fun c=>
 opt.ask _ c.2.2.2.2.2.2.2.1 (
 opt.ret _ ((2:Int),())) (
 opt.bnd ((LD×Unit)) _ (g49 it p (c.1,(c.2.1,()))) fun d=>
 opt.bnd ((LD×Unit)) _ (g49 it p (c.2.2.1,(c.2.2.2.1,()))) fun e=>
 opt.alt T0 T75 _ (
 it _ _ (u0z p) (c.2.2.2.2.1,(c.2.2.2.2.2.1,(c.2.2.2.2.2.2.1,(d.1,(e.1,((0:Int),()))))))) (fun f=>
 opt.ret _ (f.1,())) (fun g=>
 opt.bnd T75 _ (some g) fun h=>
 opt.alt T0 (Unit) _ (
 it _ _ (u0y p) (h.1,(h.2.1,(h.2.2.1,(h.2.2.2.1,((0:Int),())))))) (fun i=>
 opt.ret _ (i.1,())) (fun j=>
 opt.bnd (Unit) _ (some j) fun k=>
 opt.ret _ ((0:Int),())))))
def G36:=g36 it0
theorem ok36:CtrOk PG v41 (G36 std):=okF (a:=an36) (l:=la36) (gC u1y (gC u1t (gN))) (by kernel_rfl) fun _ _=>by kernel_rfl
def v4z:Ctr:=
 ⟨38,[.agg [.list 2, .list 1], .agg [.list 2, .list 1], .agg [.int .i64, .int .i64, .int .i64]],[],[(.ret,⟨[(0, .int .i64)],[],1⟩)]⟩
def la38:List LA:=
 []
def ja38:List JA:=
 [⟨38,[false,false,true,true],0,[(AX.normal,⟨[(3, .bptr 0 0),(4, .bptr 1 0),(5, .bptr 2 0),(41, .bool)],[.box [.list 2, .list 1], .box [.list 2, .list 1], .box [.int .i64, .int .i64, .int .i64]],54⟩)]⟩]
def v9z:List CF:=
 [⟨w9g,G43⟩,⟨w9f,G49⟩,⟨w9a,G72⟩]
def an38:Anns:=
 ⟨v9z,ja38,[]⟩
def g38 (it:It):(p:Prim)→(LD×(LD×(LD×(LD×T6))))→Option T0:=
 fun p x=>
 opt.bnd T0 _ (g72 it p (x.1,(x.2.1,(x.2.2.1,(x.2.2.2.1,()))))) fun a=>
 opt.ask _ (p.cmp .neq a.1 (0:Int)) (
 opt.bnd T0 _ (g72 it p (x.1,(x.2.1,(x.2.2.1,(x.2.2.2.1,()))))) fun b=>
 opt.ret _ (b.1,())) (
 opt.bnd ((LD×(LD×(LD×(LD×T26))))) _ (
 opt.run ((LD×(LD×(LD×(LD×T26))))) (
 opt.ask _ (p.cmp .lss x.2.2.2.2.2.2.1 (1:Int)) (
 opt.ret _ (x.1,(x.2.1,(x.2.2.1,(x.2.2.2.1,(x.2.2.2.2.1,(x.2.2.2.2.2.1,(x.2.2.2.2.2.2.1,(Bool.true,()))))))))) (
 opt.ask _ (p.cmp .gtr x.2.2.2.2.2.2.1 (268435456:Int)) (
 opt.ret _ (x.1,(x.2.1,(x.2.2.1,(x.2.2.2.1,(x.2.2.2.2.1,(x.2.2.2.2.2.1,(x.2.2.2.2.2.2.1,(Bool.true,()))))))))) (
 opt.ask _ (p.cmp .lss x.2.2.2.2.1 (-1099511627776:Int)) (
 opt.ret _ (x.1,(x.2.1,(x.2.2.1,(x.2.2.2.1,(x.2.2.2.2.1,(x.2.2.2.2.2.1,(x.2.2.2.2.2.2.1,(Bool.true,()))))))))) (
 opt.ask _ (p.cmp .gtr x.2.2.2.2.1 (1099511627776:Int)) (
 opt.ret _ (x.1,(x.2.1,(x.2.2.1,(x.2.2.2.1,(x.2.2.2.2.1,(x.2.2.2.2.2.1,(x.2.2.2.2.2.2.1,(Bool.true,()))))))))) (
 opt.ask _ (p.cmp .lss x.2.2.2.2.2.1 (-1099511627776:Int)) (
 opt.ret _ (x.1,(x.2.1,(x.2.2.1,(x.2.2.2.1,(x.2.2.2.2.1,(x.2.2.2.2.2.1,(x.2.2.2.2.2.2.1,(Bool.true,()))))))))) (
 opt.ret _ (x.1,(x.2.1,(x.2.2.1,(x.2.2.2.1,(x.2.2.2.2.1,(x.2.2.2.2.2.1,(x.2.2.2.2.2.2.1,((p.cmp .gtr x.2.2.2.2.2.1 (1099511627776:Int)),()))))))))))))))) fun c=>
 opt.ask _ c.2.2.2.2.2.2.2.1 (
 opt.ret _ ((2:Int),())) (
 opt.bnd ((LD×Unit)) _ (g49 it p (c.1,(c.2.1,()))) fun d=>
 opt.bnd T1 _ (g43 it p (d.1,(c.2.2.2.2.1,(c.2.2.2.2.2.1,(c.2.2.2.2.2.2.1,()))))) fun e=>
 opt.ask _ (bif e.1 then Bool.false else Bool.true) (
 opt.ret _ ((14:Int),())) (
 opt.bnd ((LD×Unit)) _ (g49 it p (c.2.2.1,(c.2.2.2.1,()))) fun f=>
 opt.bnd T1 _ (g43 it p (f.1,(c.2.2.2.2.1,(c.2.2.2.2.2.1,(c.2.2.2.2.2.2.1,()))))) fun g=>
 opt.ask _ (bif g.1 then Bool.false else Bool.true) (
 opt.ret _ ((14:Int),())) (
 opt.ret _ ((0:Int),())))))
def G38:=g38 it0
theorem ok38:CtrOk PG v4z (G38 std):=okF (a:=an38) (l:=la38) (gC u1z (gC u1y (gC u1t (gN)))) (by kernel_rfl) fun _ _=>by kernel_rfl
def w6e:Ctr:=
 ⟨14,[.agg [.list 2, .list 1]],[],[(.ret,⟨[(0, .bool)],[],1⟩)]⟩
def v8c:List LA:=
 [⟨14,[false,true,false,true,true],0,⟨⟨[(1, .bptr 0 0),(3, .int .i64)],[.box [.list 2, .list 1]],28⟩,[(AX.ret,⟨[(2, .bool)],[],28⟩),((AX.exit 0),⟨[],[],28⟩)]⟩⟩]
def v8j:List JA:=
 [⟨14,[false,false,true],0,[(AX.normal,⟨[(1, .bptr 0 0),(13, .bool)],[.box [.list 2, .list 1]],28⟩)]⟩]
def v3p:List CF:=
 []
def u1f:Anns:=
 ⟨v3p,v8j,[]⟩
def v5m (p:Prim):(LD×(LD×T2))→Option ((LD×(LD×T2))⊕T34):=
 fun a=>opt.run _ (
 opt.ask _ (p.cmp .lss a.2.2.1 (p.ofNat (p.len a.2.1))) (
 opt.need _ (p.rowOk a.2.1 (p.nat a.2.2.1) [(CK.list 2)])<|
 opt.need _ (p.cmp .geq a.2.2.1 (0:Int))<|
 opt.ask _ (p.cmp .gtr (p.ofNat (p.len (p.rdL a.2.1 (p.nat a.2.2.1) 0))) (20:Int)) (
 opt.ret _ (Sum.inr (Sum.inl (Bool.true,())))) (
 opt.ret _ (Sum.inl (a.1,(a.2.1,((p.ar .add .i64 a.2.2.1 (1:Int)),())))))) (
 opt.ret _ (Sum.inr (Sum.inr ()))))
def u0f (it:It):(p:Prim)→(LD×(LD×Unit))→Option T1:=
 fun p x=>
 opt.bnd ((LD×(LD×T18))) _ (
 opt.run ((LD×(LD×T18))) (
 opt.ask _ (p.cmp .gtr (p.ofNat (p.len x.1)) (20:Int)) (
 opt.ret _ (x.1,(x.2.1,(Bool.true,())))) (
 opt.ret _ (x.1,(x.2.1,((p.cmp .gtr (p.ofNat (p.len x.2.1)) (8:Int)),())))))) fun a=>
 opt.ask _ a.2.2.1 (
 opt.ret _ (Bool.true,())) (
 opt.alt T1 (Unit) _ (
 it _ _ (v5m p) (a.1,(a.2.1,((0:Int),())))) (fun b=>
 opt.ret _ (b.1,())) (fun c=>
 opt.bnd (Unit) _ (some c) fun d=>
 opt.ret _ (Bool.false,())))
def u2t:=u0f it0
theorem v7r:CtrOk PG w6e (u2t std):=okF (a:=u1f) (l:=v8c) (gN) (by kernel_rfl) fun _ _=>by kernel_rfl
def v47:Ctr:=
 ⟨29,[.agg [.list 2, .list 1]],[],[(.ret,⟨[(0, .bool)],[],1⟩)]⟩
def la29:List LA:=
 []
def ja29:List JA:=
 [⟨29,[false,true],0,[(AX.normal,⟨[(2, .bool)],[],11⟩)]⟩]
def v95:List CF:=
 [⟨w9i,G19⟩,⟨w6e,u2t⟩]
def an29:Anns:=
 ⟨v95,ja29,[]⟩
def g29 (it:It):(p:Prim)→(LD×(LD×Unit))→Option T1:=
 fun p x=>
 opt.bnd T1 _ (
 opt.run T1 (
 opt.bnd T1 _ (u0f it p (x.1,(x.2.1,()))) fun a=>
 opt.ask _ (bif a.1 then Bool.false else Bool.true) (
 opt.bnd T0 _ (g19 it p (x.1,(x.2.1,()))) fun b=>
 opt.ret _ ((p.cmp .eql b.1 (0:Int)),())) (
 opt.ret _ (Bool.false,())))) fun c=>
 opt.ret _ (c.1,())
def G29:=g29 it0
theorem ok29:CtrOk PG v47 (G29 std):=okF (a:=an29) (l:=la29) (gC u2b (gC v7r (gN))) (by kernel_rfl) fun _ _=>by kernel_rfl
end Go.Am
end
section
namespace M06
theorem sqn (a:Int):0≤a*a:=by
 rcases Int.le_total 0 a with h|h
 ·exact Int.mul_nonneg h h
 ·exact Int.mul_nonneg_of_nonpos_of_nonpos h h
abbrev Pt:=Int×Int
def sb (a b:Pt):Pt:=(a.1 - b.1,a.2 - b.2)
def ad (a b:Pt):Pt:=(a.1+b.1,a.2+b.2)
def crs (u v:Pt):Int:=u.1*v.2 - u.2*v.1
def dt (u v:Pt):Int:=u.1*v.1+u.2*v.2
def cr (a b c:Pt):Int:=crs (sb b a) (sb c a)
def Pos (u:Pt):Prop:=0<u.1∨(u.1=0∧0<u.2)
theorem w1l (u v w:Pt):v.1*crs u w=w.1*crs u v+u.1*crs v w:=by
 simp only [crs]; grind
theorem w1k (u v w:Pt):v.2*crs u w=w.2*crs u v+u.2*crs v w:=by
 simp only [crs]; grind
theorem z87 {u v w:Pt} (hu:Pos u) (hv:Pos v) (hw:Pos w) (h1:0≤crs u v) (h2:0≤crs v w):0≤crs u w:=by
 have i1:=w1l u v w
 have i2:=w1k u v w
 have u0:0≤u.1:=by rcases hu with h|h<;>omega
 have w0:0≤w.1:=by rcases hw with h|h<;>omega
 rcases hv with hv|⟨hv,hv2⟩
 ·have a:=Int.mul_nonneg w0 h1
  have b:=Int.mul_nonneg u0 h2
  refine Classical.byContradiction fun hc=>?_
  have:=Int.mul_neg_of_pos_of_neg hv (Int.not_le.1 hc)
  omega
 ·have e:crs v w= - (v.2*w.1):=by simp only [crs,hv]; grind
  have w1:w.1=0:=by
   refine Classical.byContradiction fun hc=>?_
   have:=Int.mul_pos hv2 (show 0<w.1 by omega)
   omega
  have hw2:0<w.2:=by rcases hw with h|h<;>omega
  have:crs u w=u.1*w.2:=by simp only [crs,w1]; grind
  rw [this]
  exact Int.mul_nonneg u0 (by omega)
theorem z2w {u v w:Pt} (hu:Pos u) (hv:Pos v) (hw:Pos w) (h1:0≤crs u v) (h2:0≤crs v w) (h3:0<crs u v∨0<crs v w):0<crs u w:=by
 refine Classical.byContradiction fun hc=>?_
 have h0:=z87 hu hv hw h1 h2
 have hz:crs u w=0:=by omega
 have i1:=w1l u v w
 have i2:=w1k u v w
 rw [hz] at i1 i2
 have u0:0≤u.1:=by rcases hu with h|h<;>omega
 have w0:0≤w.1:=by rcases hw with h|h<;>omega
 have a:=Int.mul_nonneg w0 h1
 have b:=Int.mul_nonneg u0 h2
 have a0:w.1*crs u v=0:=by omega
 have b0:u.1*crs v w=0:=by omega
 rcases h3 with h3|h3
 ·have w1:w.1=0:=by
   rcases Int.mul_eq_zero.1 a0 with h|h
   ·exact h
   ·omega
  have hw2:0<w.2:=by rcases hw with h|h<;>omega
  have u1:u.1=0:=by
   have:u.1*w.2=0:=by simp only [crs,w1] at hz; grind
   rcases Int.mul_eq_zero.1 this with h|h
   ·exact h
   ·omega
  have hu2:0<u.2:=by rcases hu with h|h<;>omega
  have v0:0≤v.1:=by rcases hv with h|h<;>omega
  have e:crs u v= - (u.2*v.1):=by simp only [crs,u1]; grind
  have:=Int.mul_nonneg (show 0≤u.2 by omega) v0
  omega
 ·have u1:u.1=0:=by
   rcases Int.mul_eq_zero.1 b0 with h|h
   ·exact h
   ·omega
  have hu2:0<u.2:=by rcases hu with h|h<;>omega
  have v0:0≤v.1:=by rcases hv with h|h<;>omega
  have e:crs u v= - (u.2*v.1):=by simp only [crs,u1]; grind
  have v1:v.1=0:=by
   refine Classical.byContradiction fun hc=>?_
   have:=Int.mul_pos hu2 (show 0<v.1 by omega)
   omega
  have hv2:0<v.2:=by rcases hv with h|h<;>omega
  have e2:crs v w= - (v.2*w.1):=by simp only [crs,v1]; grind
  have:=Int.mul_nonneg (show 0≤v.2 by omega) w0
  omega
end M06
end
section
namespace Go.Am
open M06
theorem z3w {S R:Type} {b:S→Option (S⊕R)} (n:Nat) (e:Nat→S) (P:Nat→Bool) (r:Nat→R) (rend:R)
  (step:∀ i,i<n→b (e i)=if P i=true then some (.inr (r i)) else some (.inl (e (i+1)))) (stop:b (e n)=some (.inr rend)):
  (∃ i,i<n∧P i=true∧(∀ j,j<i→P j=false)∧z4m b (e 0)=some (r i))∨((∀ i,i<n→P i=false)∧z4m b (e 0)=some rend):=by
 have key:∀ k m,n - m=k→m≤n→(∃ i,m≤i∧i<n∧P i=true∧(∀ j,m≤j→j<i→P j=false)∧z4m b (e m)=some (r i))∨((∀ i,m≤i→i<n→P i=false)∧z4m b (e m)=some rend):=by
  intro k
  induction k with
  |zero=>
   intro m hm hle
   have:m=n:=by omega
   subst this
   refine .inr ⟨fun i h1 h2=>by omega,?_⟩
   rw [z0k,stop]
  |succ k ih=>
   intro m hm hle
   have hlt:m<n:=by omega
   have hs:=step m hlt
   cases hP:P m with
   |true=>
    rw [hP] at hs
    refine .inl ⟨m,Nat.le_refl _,hlt,hP,fun j h1 h2=>by omega,?_⟩
    rw [z0k,hs]; rfl
   |false=>
    rw [hP] at hs
    have hit:z4m b (e m)=z4m b (e (m+1)):=by
     rw [z0k,hs]; rfl
    rcases ih (m+1) (by omega) hlt with ⟨i,h1,h2,h3,h4,h5⟩|⟨h1,h2⟩
    ·refine .inl ⟨i,by omega,h2,h3,fun j a b=>?_,by rw [hit]; exact h5⟩
     by_cases hj:j=m
     ·subst hj; exact hP
     ·exact h4 j (by omega) b
    ·refine .inr ⟨fun i a b=>?_,by rw [hit]; exact h2⟩
     by_cases hj:i=m
     ·subst hj; exact hP
     ·exact h1 i (by omega) b
 rcases key n 0 rfl (Nat.zero_le _) with ⟨i,_,h2,h3,h4,h5⟩|⟨h1,h2⟩
 ·exact .inl ⟨i,h2,h3,fun j hj=>h4 j (Nat.zero_le _) hj,h5⟩
 ·exact .inr ⟨fun i hi=>h1 i (Nat.zero_le _) hi,h2⟩
def eP (p:Pt):List D:=[.int .i64 p.1, .int .i64 p.2]
def z0b (l:List Pt):List (List D):=l.map eP
def eH (l:List Pt):List D:=[.list false 2 (z0b l)]
def z0y (h:List (List Pt)):List (List D):=h.map eH
theorem z0p (p:Pt):z3m [CK.int IntKind.i64,CK.int IntKind.i64] (eP p)=true:=rfl
theorem z1b (p:Pt):dI ((eP p)[0]?.getD D.nilp)=p.1:=rfl
theorem z1a (p:Pt):dI ((eP p)[1]?.getD D.nilp)=p.2:=rfl
theorem z48 (l:List Pt):z3m [CK.list 2] (eH l)=true:=rfl
theorem y6l (l:List Pt):dL ((eH l)[0]?.getD D.nilp)=z0b l:=rfl
def z6l (l:List Pt):Prop:=1≤l.length∧l.length≤12
instance (l:List Pt):Decidable (z6l l):=by unfold z6l; infer_instance
def z0s (lo hi:Int) (p:Pt):Prop:=lo≤p.1∧p.1≤hi∧lo≤p.2∧p.2≤hi
instance (lo hi:Int) (p:Pt):Decidable (z0s lo hi p):=by unfold z0s; infer_instance
theorem x6l (l:List Pt):G50 std (z0b l,())=some (decide (z6l l),()):=by
 unfold G50 z6l
 simp only [z01,z02,z0b]
 by_cases h1:1≤l.length
 ·have:(l.length:Int)>0:=by omega
  simp only [this,h1,true_and,if_true,Option.bind_some]
  congr 2
  rw [decide_eq_decide]; omega
 ·have:¬ (l.length:Int)>0:=by omega
  simp only [this,h1,false_and,if_false,Option.bind_some,decide_false]
theorem x6j (l:List Pt):G55 std (z0b l,())=some (decide (z6l l),()):=by
 unfold G55 z6l
 simp only [z01,z02,z0b]
 by_cases h1:1≤l.length
 ·have:(l.length:Int)≥1:=by omega
  simp only [this,h1,true_and,if_true,Option.bind_some]
  congr 2
  rw [decide_eq_decide]; omega
 ·have:¬ (l.length:Int)≥1:=by omega
  simp only [this,h1,false_and,if_false,Option.bind_some,decide_false]
theorem x6k (lo hi:Int) (l:List Pt) (hl:l.length≤1000000):G53 std (lo,hi,z0b l,())=some (decide (∀ p∈l,z0s lo hi p),()):=by
 unfold G53
 have key:=z3w (b:=w5a std) l.length (fun i=>(lo,hi,z0b l,(l.length:Int),(i:Int),())) (fun i=>!decide (z0s lo hi (l.getD i (0,0)))) (fun i=> .inl (lo,hi,(i:Int),())) (.inr (lo,hi,())) (fun i hi'=>by
  obtain ⟨m,hm⟩:=z0q hi'
  have hw:=z1g (i:=i) (by omega)
  have hlt:(i:Int)<l.length:=by omega
  have h0:(0:Int)≤i:=by omega
  have hg:l.getD i (0,0)=m:=by simp [List.getD_eq_getElem?_getD,hm]
  simp only [hg,w5a,z01,z02,z0b,z0p,z1b,z1a,hm,hlt,h0,ge_iff_le,z0f,hw]
  by_cases k:z0s lo hi m
  ·have k':=k
   obtain ⟨k1,k2,k3,k4⟩:=k'
   have e1:¬ min m.1 m.2<lo:=by omega
   have e2:¬ max m.1 m.2>hi:=by omega
   simp [k,e1,e2]
  ·by_cases e1:min m.1 m.2<lo
   ·simp [k,e1]
   ·have e2:max m.1 m.2>hi:=by
     refine Classical.byContradiction fun hc=>k ⟨?_,?_,?_,?_⟩<;>omega
    simp [k,e1,e2]) (by
  have hn:¬ (l.length:Int)<l.length:=by omega
  simp only [w5a,z01,z02,hn])
 have e0:(lo,hi,z0b l,std.ofNat (std.len (z0b l)),(0:Int),())=(lo,hi,z0b l,(l.length:Int),((0:Nat):Int),()):=by simp [z2j,z4r,z0b]
 simp only [g53,it0]
 rw [e0]
 rcases key with ⟨i,h1,h2,_,h4⟩|⟨h1,h2⟩
 ·rw [h4]
  have hne:¬ ∀ p∈l,z0s lo hi p:=fun h=>by
   obtain ⟨m,hm⟩:=z0q h1
   have:=h m (List.mem_of_getElem? hm)
   simp [List.getD_eq_getElem?_getD,hm,this] at h2
  have h0:(0:Int)≤i:=by omega
  simp only [z01,z02,decide_eq_false hne,ge_iff_le,h0]
 ·rw [h2]
  have ha:∀ p∈l,z0s lo hi p:=fun p hp=>by
   obtain ⟨i,hi'⟩:=List.getElem?_of_mem hp
   have:=h1 i (List.getElem?_eq_some_iff.1 hi').1
   simpa [List.getD_eq_getElem?_getD,hi'] using this
  simp only [z01,z02,decide_eq_true ha]
  decide
theorem w6w (lo hi:Int) (l:List Pt) (hl:l.length≤1000000):G56 std (z0b l,lo,hi,())=some (decide (∀ p∈l,z0s lo hi p),()):=by
 unfold G56
 have key:=z3w (b:=w49 std) l.length (fun i=>(z0b l,lo,hi,(i:Int),())) (fun i=>!decide (z0s lo hi (l.getD i (0,0)))) (fun i=> .inl (false,())) (.inr ()) (fun i hi'=>by
  obtain ⟨m,hm⟩:=z0q hi'
  have hw:=z1g (i:=i) (by omega)
  have hlt:(i:Int)<l.length:=by omega
  have h0:(0:Int)≤i:=by omega
  have hg:l.getD i (0,0)=m:=by simp [List.getD_eq_getElem?_getD,hm]
  simp only [hg,w49,z01,z02,z0b,z0p,z1b,z1a,hm,hlt,h0,ge_iff_le,z0f,hw]
  by_cases k:z0s lo hi m
  ·have k':=k
   obtain ⟨k1,k2,k3,k4⟩:=k'
   have e1:¬ m.1<lo:=by omega
   have e2:¬ m.1>hi:=by omega
   have e3:¬ m.2<lo:=by omega
   have e4:¬ m.2>hi:=by omega
   simp [k,e1,e2,e3,e4,z0f,hw]
  ·by_cases e1:m.1<lo
   ·simp [k,e1]
   ·by_cases e2:m.1>hi
    ·simp [k,e1,e2]
    ·by_cases e3:m.2<lo
     ·simp [k,e1,e2,e3]
     ·have e4:m.2>hi:=by
       refine Classical.byContradiction fun hc=>k ⟨?_,?_,?_,?_⟩<;>omega
      simp [k,e1,e2,e3,e4,z0f,hw]) (by
  have hn:¬ (l.length:Int)<l.length:=by omega
  simp only [w49,z01,z02,z0b,hn])
 have e0:(z0b l,lo,hi,(0:Int),())=(z0b l,lo,hi,((0:Nat):Int),()):=rfl
 simp only [g56,it0]
 rw [e0]
 rcases key with ⟨i,h1,h2,_,h4⟩|⟨h1,h2⟩
 ·rw [h4]
  have hne:¬ ∀ p∈l,z0s lo hi p:=fun h=>by
   obtain ⟨m,hm⟩:=z0q h1
   have:=h m (List.mem_of_getElem? hm)
   simp [List.getD_eq_getElem?_getD,hm,this] at h2
  simp only [z01,z02,decide_eq_false hne]
 ·rw [h2]
  have ha:∀ p∈l,z0s lo hi p:=fun p hp=>by
   obtain ⟨i,hi'⟩:=List.getElem?_of_mem hp
   have:=h1 i (List.getElem?_eq_some_iff.1 hi').1
   simpa [List.getD_eq_getElem?_getD,hi'] using this
  simp only [z01,z02,decide_eq_true ha]
end Go.Am
end
section
namespace Go.Am
open Go.ChangeShapes Go.WideShapes Go.ChangeAt M06
theorem v02 {x:D} (h:DK (.int .u8) x):∃ n:Int,x= .int .u8 n∧(Lit.int IntKind.u8 n).wf=true:=by
 match x,h with
 | .int k n,h=>obtain ⟨rfl,h⟩:=h; exact ⟨n,rfl,h⟩
theorem x3i {es:List (List D)} (hr:∀ r∈es,DKs [.int .i64, .int .i64] r):∃ l:List Pt,es=z0b l:=by
 induction es with
 |nil=>exact ⟨[],rfl⟩
 |cons r es ih=>
  obtain ⟨l,rfl⟩:=ih fun r hr'=>hr r (List.mem_cons_of_mem _ hr')
  have h0:=hr r (List.mem_cons_self ..)
  match r,h0 with
  |[.int k1 a, .int k2 b],h0=>
   obtain ⟨⟨rfl,a1⟩,⟨rfl,a2⟩,_⟩:=h0
   exact ⟨(a,b)::l,rfl⟩
theorem y45 {x:D} (h:DK (.list [.int .i64, .int .i64]) x):∃ l:List Pt,x= .list false 2 (z0b l):=by
 match x,h with
 | .list f z es,h=>
  obtain ⟨rfl,rfl,hl,hr⟩:=h
  rw [z7t] at hr
  clear hl
  obtain ⟨l,rfl⟩:=x3i hr
  exact ⟨l,rfl⟩
theorem w32 {x:D} (h:DK (.list [.list [.int .i64, .int .i64]]) x):∃ hs:List (List Pt),x= .list false 1 (z0y hs):=by
 match x,h with
 | .list f z es,h=>
  obtain ⟨rfl,rfl,hl,hr⟩:=h
  rw [z7t] at hr
  clear hl
  have:∃ hs:List (List Pt),es=z0y hs:=by
   induction es with
   |nil=>exact ⟨[],rfl⟩
   |cons r es ih=>
    obtain ⟨ws,rfl⟩:=ih fun r hr'=>hr r (List.mem_cons_of_mem _ hr')
    have h0:=hr r (List.mem_cons_self ..)
    match r,h0 with
    |[y],h0=>
     obtain ⟨l,rfl⟩:=y45 h0.1
     exact ⟨l::ws,rfl⟩
  obtain ⟨ws,rfl⟩:=this
  exact ⟨ws,rfl⟩
theorem w34 {x:D} (h:∃ ds,x= .agg ds∧DKs [.list [.int .i64, .int .i64], .list [.list [.int .i64, .int .i64]]] ds):∃ (l:List Pt) (hs:List (List Pt)),x= .agg [.list false 2 (z0b l), .list false 1 (z0y hs)]:=by
 obtain ⟨ds,rfl,h⟩:=h
 match ds,h with
 |[a,b],h=>
  obtain ⟨l,rfl⟩:=y45 h.1
  obtain ⟨hs,rfl⟩:=w32 h.2.1
  exact ⟨l,hs,rfl⟩
def eB (n:Int):List D:=[.int .u8 n]
def y1j (l:List Int):List (List D):=l.map eB
theorem w42 {x:D} (h:DK (.list [.int .u8]) x):∃ l:List Int,x= .list false 1 (y1j l)∧∀ n∈l,(Lit.int IntKind.u8 n).wf=true:=by
 match x,h with
 | .list f z es,h=>
  obtain ⟨rfl,rfl,hl,hr⟩:=h
  rw [z7t] at hr
  clear hl
  have:∃ l:List Int,es=y1j l∧∀ n∈l,(Lit.int IntKind.u8 n).wf=true:=by
   induction es with
   |nil=>exact ⟨[],rfl,by simp⟩
   |cons r es ih=>
    obtain ⟨l,rfl,h1⟩:=ih fun r hr'=>hr r (List.mem_cons_of_mem _ hr')
    have h0:=hr r (List.mem_cons_self ..)
    match r,h0 with
    |[y],h0=>
     obtain ⟨n,rfl,w⟩:=v02 h0.1
     refine ⟨n::l,rfl,fun m hm=>?_⟩
     rcases List.mem_cons.1 hm with rfl|hm
     ·exact w
     ·exact h1 m hm
  obtain ⟨l,rfl,h1⟩:=this
  exact ⟨l,rfl,h1⟩
end Go.Am
end
section
namespace Go.Am
open Go.Proofs Go.Sort Go.Shelf
section
variable {P:Program}
theorem x2v {w w':World} (h1:w'.os=w.os) (h2:w'.tape=w.tape) (h3:w'.output=w.output) (h4:w.heap.size≤w'.heap.size) (h5:∀ b,b<w.heap.size→w'.heap[b]?=w.heap[b]?) (h6:w.drawn≤w'.drawn):
  ∃ q os',w'=grow (w.drewN q) os':=by
 refine ⟨w'.drawn - w.drawn,w'.heap.extract w.heap.size w'.heap.size,?_⟩
 obtain ⟨hp,tp,dr,os,out⟩:=w
 obtain ⟨hp',tp',dr',os',out'⟩:=w'
 simp only at h1 h2 h3 h4 h5 h6
 subst h1 h2 h3
 simp only [grow,World.drewN]
 have e1:hp'=hp++hp'.extract hp.size hp'.size:=by
  apply Array.ext_getElem?
  intro i
  rw [Array.getElem?_append]
  split
  ·rename_i hlt; exact h5 i hlt
  ·rename_i hge
   rw [Array.getElem?_extract]
   split
   ·congr 1; omega
   ·rw [Array.getElem?_eq_none (by omega)]
 have e2:dr'=dr+(dr' - dr):=by omega
 rw [←e1, ←e2]
theorem x79 {w:World} {g:FuncId} {args:Array Value} {xs:List D} {k:IntKind} {n:Int} {h':List AO} (ha:z90 P g (toA xs) [] (.d (.int k n)) h') (hl:args.toList.length=xs.length)
  (hx:∀ (i:Nat) (x:D),xs[i]?=some x→∃ v,args.toList[i]?=some v∧z12 (fun _=>False) w x v):Calls P g args w fun e w'=>e= .returned (.int k n)∧∃ q os',w'=grow (w.drewN q) os':=by
 intro cs
 let ρ0:Rho:=⟨fun _=>none,fun _=>False⟩
 have hown:z0i ρ0 []=fun _=>False:=by
  funext c
  apply propext
  refine ⟨fun h=>?_,False.elim⟩
  rcases h with h|⟨id,L,hL,_⟩
  ·exact h
  ·cases hL
 have hr:z0c P ρ0 [] w:=⟨fun id L hL=>(by cases hL),fun id id' L L' hL=>(by cases hL),fun b hb=>hb.elim,fun id L hL=>(by cases hL)⟩
 obtain ⟨ρ',v,w',fr,s1,s2,s3,s4,s5,s6,s7⟩:=ha.run ρ0 args w cs hr (fun id hid=>absurd rfl hid) ⟨by rw [z08, ←hl]; simp,fun i x hi=>by
  rw [z1y] at hi
  obtain ⟨d,hd,rfl⟩:=Option.map_eq_some_iff.1 hi
  obtain ⟨v,hv,hr⟩:=hx i d hd
  rw [hown,Array.getD_eq_getD_getElem?]
  have:args[i]?=some v:=by simpa using hv
  rw [this]; exact .d hr⟩
 refine ⟨.returned v,w',fr,⟨?_,x2v s7.os s7.tape s7.output s7.keep.size (fun c hc=>s7.keep.frame c hc ?_) s7.keep.drawn⟩,s1,s2,s3⟩
 ·cases s4 with
  |d h=>cases h; rfl
 ·rw [hown]; exact id
variable {α:Type} [Inhabited α]
def y7q (f:α→Int×Int) (x:α):List Value:=[.int .i64 (f x).1, .int .i64 (f x).2]
def z38 (f:α→Int×Int) (x:α):List D:=[.int .i64 (f x).1, .int .i64 (f x).2]
def y9u (P:Program) (f g:FuncId) (cf:α→α→Int) (tp:α→Int×Int):Prop:=
 ∀ (blk off cap:Nat) (d:Array α) (w:World),CmpLays P g #[] (y7q tp) 2 cf blk off d.size w→HoldsK (y7q tp) 2 w blk off d→blk<w.heap.size→d.size<4611686018427387904→
  Calls P f #[.slice (some ⟨blk,off,none⟩) d.size cap, .func (.func g) #[] #[]] w fun e w'=>
   e= .returned (.tuple #[])∧∃ n os,w'=sortWorldK (y7q tp) 2 w blk off n (pdq (ltOf cf) d 0 d.size (Lib.bitLen d.size) true true) os
theorem x74 {g:FuncId} {cf:α→α→Int} {tp:α→Int×Int} (h:∀ x y,z90 P g (toA [.agg (z38 tp x), .agg (z38 tp y)]) [] (.d (.int .i64 (cf x y))) []) (blk off size:Nat) (w:World):CmpLays P g #[] (y7q tp) 2 cf blk off size w:=by
 intro m os dk hdk x y
 refine x79 (h x y) (by simp) fun i z hz=>?_
 have ag:∀ (O:Nat→Prop) (w:World) (x:α),z12 O w (.agg (z38 tp x)) (.agg (y7q tp x).toArray):=fun O w x=>
  .agg _ _ (by simp [z38,y7q]) fun i d hi=>by
   match i,hi with
   |0,hi=>cases hi; exact .int _ _
   |1,hi=>cases hi; exact .int _ _
   |i+2,hi=>simp [z38] at hi
 match i,hz with
 |0,hz=>cases hz; exact ⟨_,by simp,ag _ _ _⟩
 |1,hz=>cases hz; exact ⟨_,by simp,ag _ _ _⟩
 |i+2,hz=>simp at hz
theorem x1o {tp:α→Int×Int} {d:Array α} {i j:Nat} (hi:i<d.size) (hj:j<2):(Go.Sort.flatK (y7q tp) 2 d)[i*2+j]! =(y7q tp d[i])[j]! :=by
 rw [get_flatK _ _ _ _ (by omega)]
 have e1:(i*2+j) / 2=i:=by omega
 have e2:(i*2+j) % 2=j:=by omega
 rw [e1,e2,getElem!_pos d i hi]
omit [Inhabited α] in
theorem x52 {tp:α→Int×Int} {x:α} {j:Nat} {y:D} (h:(z38 tp x)[j]?=some y):j<2∧∃ n,y= .int .i64 n∧(y7q tp x)[j]! = .int .i64 n:=by
 match j,h with
 |0,h=>cases h; exact ⟨by omega,_,rfl,rfl⟩
 |1,h=>cases h; exact ⟨by omega,_,rfl,rfl⟩
 |j+2,h=>simp [z38] at h
theorem x01 {f g:FuncId} {cf:α→α→Int} {tp:α→Int×Int} (hO:SWO (ltOf cf)) (hS:y9u P f g cf tp) (hcmp:∀ x y,z90 P g (toA [.agg (z38 tp x), .agg (z38 tp y)]) [] (.d (.int .i64 (cf x y))) [])
  {d:Array α} (hd:0<d.size) (hsz:d.size<4611686018427387904) (cap:Option Nat):
  z90 P f [.slice 0 2 0 d.size cap, .clo (.func g) [] []] [.row (d.toList.map (z38 tp))] (.tuple []) [.row ((pdq (ltOf cf) d 0 d.size (Lib.bitLen d.size) true true).toList.map (z38 tp))]:=⟨by
 intro ρ vs w cs hr hdm har
 obtain ⟨hv1,hv2⟩:=har
 have hs1:vs.size=2:=hv1
 obtain ⟨L,cp,hL,hz,hvs0⟩:∃ L cp,ρ 0=some L∧L.esz=2∧vs.getD 0 undef= .slice (some ⟨L.blk,L.base,none⟩) d.size cp:=by
  have hv:=hv2 0 _ rfl
  generalize hq:vs.getD 0 undef=q at hv
  have key:∀ z,z=d.size→z0t ρ (z0i ρ [.row (d.toList.map (z38 tp))]) w (.slice 0 2 0 z cap) q→∃ L cp,ρ 0=some L∧L.esz=2∧q= .slice (some ⟨L.blk,L.base,none⟩) d.size cp:=by
   intro z hz hv
   cases hv with
   |slice _ _ _ _ _ L a c h1 h2 h3 h4 h5=>
    subst hz
    refine ⟨L,c,h1,h2,?_⟩
    rw [h3 (by omega)]; simp
   |nils _ _ _ _ a _=>omega
  exact key _ rfl hv
 have hvs1:vs.getD 1 undef= .func (.func g) #[] #[]:=by
  have hv:=hv2 1 _ rfl
  generalize hq:vs.getD 1 undef=q at hv
  cases hv with
  |clo _ _ _ vf vc hf hc _ _=>
   have e1:vf=#[]:=Array.size_eq_zero_iff.1 (by simpa using hf)
   have e2:vc=#[]:=Array.size_eq_zero_iff.1 (by simpa using hc)
   rw [e1,e2]
 have hvs:vs=#[.slice (some ⟨L.blk,L.base,none⟩) d.size cp, .func (.func g) #[] #[]]:=by
  apply Array.ext (by simpa using hs1)
  intro i h1 h2
  simp only [Array.getD_eq_getD_getElem?] at hvs0 hvs1
  match i,h1,h2 with
  |0,h1,h2=>rw [Array.getElem?_eq_getElem h1] at hvs0; simpa using hvs0
  |1,h1,h2=>rw [Array.getElem?_eq_getElem h1] at hvs1; simpa using hvs1
  |i+2,h1,h2=>simp at h2; omega
 subst hvs
 have hlive:(z0j [AO.row (d.toList.map (z38 tp))] 0).live=true:=rfl
 obtain ⟨hlt,ho⟩:=hr.obj 0 L hL
 obtain ⟨hpos,c,t,hcb,hlen,hcell⟩:=(show z17 P ρ _ w L (.row (d.toList.map (z38 tp))) from ho)
 rw [hz] at hlen hcell
 have hcell':∀ i j,i<d.size→j<2→c[L.base+i*2+j]?=some ((Go.Sort.flatK (y7q tp) 2 d)[i*2+j]!):=by
  intro i j hi hj
  have hri:(d.toList.map (z38 tp))[i]?=some (z38 tp d[i]):=by simp [hi]
  have hx:∃ y,(z38 tp d[i])[j]?=some y:=by
   match j,hj with
   |0,_=>exact ⟨_,rfl⟩
   |1,_=>exact ⟨_,rfl⟩
  obtain ⟨y,hy⟩:=hx
  obtain ⟨v,hv,_,hrel⟩:=hcell i _ j y hri hy
  obtain ⟨_,n,rfl,hn⟩:=x52 hy
  rw [hv,x1o hi hj,hn]
  cases hrel; rfl
 have hidx:∀ q,q<(Go.Sort.flatK (y7q tp) 2 d).size→c[L.base+q]?=some ((Go.Sort.flatK (y7q tp) 2 d)[q]!):=by
  intro q hq
  simp only [size_flatK] at hq
  have:=hcell' (q / 2) (q % 2) (by omega) (by omega)
  have e:q / 2*2+q % 2=q:=by omega
  rw [Nat.add_assoc,e] at this; exact this
 have hH:HoldsK (y7q tp) 2 w L.blk L.base d:=by
  intro q hq
  refine ⟨?_,?_⟩
  ·unfold World.cell?
   simp only [hcb]
   have:=hidx q hq
   simpa using this
  ·unfold World.frozen?
   simp only [hcb]
   simp
 obtain ⟨e,w',fr,⟨rfl,n,os,hw'⟩,hcm,hfn,hlv⟩:=hS L.blk L.base cp d w (x74 hcmp _ _ _ _) hH hlt hsz cs
 generalize hdk:pdq (ltOf cf) d 0 d.size (Lib.bitLen d.size) true true=dk at hw'⊢
 have hdks:dk.size=d.size:=by
  rw [←hdk]
  exact (pdq_sorts (ltOf cf) hO d 0 d.size (Lib.bitLen d.size) true true (Nat.zero_le _) (Nat.le_refl _) (Or.inl rfl)).1.1
 have hr1:=hr.drawn (w.drawn+n) (Nat.le_add_right _ _)
 have hx1:Ext (fun id=>True) ρ [.row (d.toList.map (z38 tp))] w ρ [.row (d.toList.map (z38 tp))] { w with drawn:=w.drawn+n }:=Ext.drawn _ _ _ _ _ (Nat.le_add_right _ _)
 let c':=putCells id L.base (Go.Sort.flatK (y7q tp) 2 dk) c
 have hput:putRowK (y7q tp) 2 (Sort.ahead w n) L.blk L.base dk=World.setObj { w with drawn:=w.drawn+n } L.blk (.cells c' t (0,0)):=by
  unfold putRowK putRow mapBlock World.setObj Sort.ahead
  congr 1
  apply Array.ext_getElem?
  intro b
  simp only [Array.getElem?_modify,Array.getElem?_setIfInBounds]
  by_cases hb:L.blk=b
  ·subst hb
   simp only [if_true,hlt,hcb,Option.map_some,onCells]
   rfl
  ·simp [hb]
 have hc's:c'.size=c.size:=by simp [c',putCells]
 have hbs:∀ k,z1v { w with drawn:=w.drawn+n } L.blk=some k→z1v (World.setObj { w with drawn:=w.drawn+n } L.blk (.cells c' t (0,0))) L.blk=some k:=by
  intro k hk
  rw [z05 (w:={ w with drawn:=w.drawn+n }) hcb] at hk; cases hk
  rw [z05 (z0z { w with drawn:=w.drawn+n } L.blk _ hlt)]
  rw [hc's]
 have hc'get:∀ i j,i<d.size→j<2→c'[L.base+i*2+j]?=some ((Go.Sort.flatK (y7q tp) 2 dk)[i*2+j]!):=by
  intro i j hi hj
  have h1:=hcell' i j hi hj
  have hq:L.base+i*2+j<c.size:=(Array.getElem?_eq_some_iff.1 h1).1
  simp only [c',putCells]
  rw [Array.getElem?_mapIdx,h1]
  simp only [Option.map_some,size_flatK,hdks]
  rw [if_pos (by omega)]
  have e:L.base+i*2+j - L.base=i*2+j:=by omega
  rw [e]; rfl
 have hset:=hr1.set hL hlive (.row (dk.toList.map (z38 tp))) rfl (.cells c' t (0,0)) hbs (by
  refine ⟨hpos,c',t,z0z _ _ _ hlt,fun i r hi=>?_,fun i r j y hi hy=>?_⟩
  ·rw [hz]
   rw [List.getElem?_map] at hi
   obtain ⟨x,_,rfl⟩:=Option.map_eq_some_iff.1 hi
   rfl
  ·rw [hz]
   rw [List.getElem?_map] at hi
   obtain ⟨x,hx,rfl⟩:=Option.map_eq_some_iff.1 hi
   have hil:i<dk.size:=by
    have:=(List.getElem?_eq_some_iff.1 hx).1
    simpa using this
   have hxe:dk[i]=x:=by
    have:=(List.getElem?_eq_some_iff.1 hx).2
    simpa using this
   obtain ⟨hj,m,rfl,hm⟩:=x52 hy
   refine ⟨.int .i64 m,?_,rfl, .int _ _⟩
   rw [hc'get i j (by omega) hj,x1o hil hj,hxe,hm])
 have hext:=Ext.set (fun _=>True) hr1 hL hlive (.row (dk.toList.map (z38 tp))) rfl (.cells c' t (0,0)) hbs
 have hw2:w'=grow (World.setObj { w with drawn:=w.drawn+n } L.blk (.cells c' t (0,0))) os:=by rw [hw']; unfold sortWorldK; rw [hput]
 generalize hwx:World.setObj { w with drawn:=w.drawn+n } L.blk (.cells c' t (0,0))=wx at hset hext hw2
 have hold:∀ b,b<wx.heap.size→(grow wx os).heap[b]?=wx.heap[b]?:=by
  intro b hb
  show (wx.heap++os)[b]?=_
  rw [Array.getElem?_append_left hb]
 have hkg:z5n (z0i ρ (z1i [.row (d.toList.map (z38 tp))] 0 (.row (dk.toList.map (z38 tp))))) (z0i ρ (z1i [.row (d.toList.map (z38 tp))] 0 (.row (dk.toList.map (z38 tp))))) wx (grow wx os):=
  ⟨by show _≤(wx.heap++os).size; simp,fun b hb _=>hold b hb,fun _ _ h=>h,fun b k hb=>by
   have:=y9q hb
   unfold z1v; rw [hold b this]; exact hb,z00.refl _⟩
 have hr3:z0c P ρ [.row (dk.toList.map (z38 tp))] (grow wx os):=hset.of_keep hkg fun b hb=>hold b (z95 hset hb)
 have hx3:Ext (fun _=>True) ρ (z1i [.row (d.toList.map (z38 tp))] 0 (.row (dk.toList.map (z38 tp)))) wx ρ [.row (dk.toList.map (z38 tp))] (grow wx os):=
  ⟨rfl,rfl,rfl,hkg,fun _ _=>rfl,rfl,fun b hb=>hold b (hset.fr b hb)⟩
 subst hw2
 exact ⟨ρ, .tuple #[],_,fr,hcm,hfn,hlv, .tuple [] #[] rfl (fun i x hx=>by simp at hx),hr3,fun id hid=>hdm id hid,((hx1.trans hext).trans hx3).mono fun _ _=>trivial⟩⟩
end
end Go.Am
end
section
namespace M06
def Lt (a b:Pt):Prop:=Pos (sb b a)
def Le (a b:Pt):Prop:=a=b∨Lt a b
theorem Lt.trans {a b c:Pt} (h1:Lt a b) (h2:Lt b c):Lt a c:=by
 simp only [Lt,Pos,sb] at*; omega
theorem Lt.irrefl {a:Pt} (h:Lt a a):False:=by
 simp only [Lt,Pos,sb] at h; omega
theorem Lt.asymm {a b:Pt} (h:Lt a b) (k:Lt b a):False:=(h.trans k).irrefl
theorem Lt.ne {a b:Pt} (h:Lt a b):a≠b:=by rintro rfl; exact h.irrefl
theorem x5i (a b:Pt):Lt a b∨a=b∨Lt b a:=by
 obtain ⟨a1,a2⟩:=a; obtain ⟨b1,b2⟩:=b
 simp only [Lt,Pos,sb,Prod.mk.injEq]; omega
theorem w4t (a b:Pt):cr a b a=0:=by simp only [cr,crs,sb]; grind
theorem x6d (a b:Pt):cr a b b=0:=by simp only [cr,crs,sb]; grind
theorem y5r (a b c:Pt):cr a c b= - cr a b c:=by simp only [cr,crs,sb]; grind
theorem y9j (s t x:Pt):crs (sb t x) (sb t s)=cr s t x:=by simp only [cr,crs,sb]; grind
theorem w4u (t p x:Pt):crs (sb t x) (sb p t)=cr t p x:=by simp only [cr,crs,sb]; grind
theorem x6e (s t p:Pt):crs (sb t s) (sb p t)=cr s t p:=by simp only [cr,crs,sb]; grind
theorem v5e (s t c p:Pt):cr s t p=cr s t c+crs (sb t s) (sb p c):=by simp only [cr,crs,sb]; grind
def Cov:List Pt→Pt→Prop
 |[],_=>False
 |[t],x=>x=t
 |t::s::r,x=>x=t∨(Lt s x∧Lt x t∧0≤cr s t x)∨Cov (s::r) x
def Conv:List Pt→Prop
 |t::s::r::l=>0<cr r s t∧Conv (s::r::l)
 |_=>True
def w5r:List Pt→Pt→Prop
 |t::s::r,x=>(0≤cr s t x∧(cr s t x=0→Le s x∧Le x t))∧w5r (s::r) x
 |_,_=>True
def v7c:List Pt→Pt→Prop
 |t::s::r,x=>0<cr s t x∧v7c (s::r) x
 |_,_=>True
def x2t:List Pt→Prop
 |t::s::r=>Lt s t∧x2t (s::r)
 |_=>True
def pop (p:Pt):List Pt→List Pt
 |t::s::r=>if cr s t p≤0 then pop p (s::r) else t::s::r
 |l=>l
termination_by l=>l.length
def push (st:List Pt) (p:Pt):List Pt:=p::pop p st
theorem Conv.tail {t:Pt} {l:List Pt} (h:Conv (t::l)):Conv l:=by
 match l,h with
 |[],_=>trivial
 |[_],_=>trivial
 |_::_::_,h=>exact h.2
theorem x2t.tail {t:Pt} {l:List Pt} (h:x2t (t::l)):x2t l:=by
 match l,h with
 |[],_=>trivial
 |_::_,h=>exact h.2
theorem w5r.tail {t:Pt} {l:List Pt} {x:Pt} (h:w5r (t::l) x):w5r l x:=by
 match l,h with
 |[],_=>trivial
 |_::_,h=>exact h.2
theorem w4v {p t s:Pt} {r:List Pt} {x:Pt} (h1:Lt s t) (h2:Lt t p) (hc:cr s t p≤0) (h:Cov (p::t::s::r) x):Cov (p::s::r) x:=by
 have hsp:Lt s p:=h1.trans h2
 rcases h with h|⟨a,b,c⟩|h|⟨a,b,c⟩|h
 ·exact .inl h
 ·refine .inr (.inl ⟨h1.trans a,b,?_⟩)
  have e1:0≤crs (sb p x) (sb p t):=by rw [y9j]; exact c
  have e2:0≤crs (sb p t) (sb p s):=by rw [y9j,y5r]; omega
  have:=z87 (show Pos (sb p x) from b) (show Pos (sb p t) from h2) (show Pos (sb p s) from hsp) e1 e2
  rw [y9j] at this; exact this
 ·subst h
  refine .inr (.inl ⟨h1,h2,?_⟩)
  rw [y5r]; omega
 ·refine .inr (.inl ⟨a,b.trans h2,?_⟩)
  have e1:0≤crs (sb p s) (sb t s):=by
   have:crs (sb p s) (sb t s)=cr s p t:=rfl
   rw [this,y5r]; omega
  exact z87 (show Pos (sb p s) from hsp) (show Pos (sb t s) from h1) (show Pos (sb x s) from a) e1 c
 ·exact .inr (.inr h)
structure x8p (q:List Pt) (st:List Pt):Prop where
 desc:x2t st
 conv:Conv st
 cov:∀ x∈q,Cov st x
 edge:∀ x∈q,w5r st x
 sub:∀ y∈st,y∈q
theorem y2f (p:Pt) {t s:Pt} {r:List Pt} (h:cr s t p≤0):pop p (t::s::r)=pop p (s::r):=by
 rw [pop]; simp [h]
theorem y2e (p:Pt) {t s:Pt} {r:List Pt} (h:¬ cr s t p≤0):pop p (t::s::r)=t::s::r:=by
 rw [pop]; simp [h]
theorem y43 (p t:Pt):pop p [t]=[t]:=by rw [pop]; simp
theorem x91 {p:Pt}:∀ {st:List Pt},x2t (p::st)→Conv st→(∀ t s r,st=t::s::r→0<cr s t p)→v7c st p
 |[],_,_,_=>trivial
 |[_],_,_,_=>trivial
 |[t,s],_,_,h=>⟨h t s [] rfl,trivial⟩
 |t::s::r::l,hd,hc,h=>by
  have h1:=h t s _ rfl
  refine ⟨h1,x91 (st:=s::r::l) ⟨hd.2.1.trans hd.1,hd.2.2⟩ hc.2 ?_⟩
  intro t' s' r' e
  cases e
  have a:=hc.1
  have e1:0<crs (sb s r) (sb t s):=by rw [x6e]; exact a
  have e2:0<crs (sb t s) (sb p t):=by rw [x6e]; exact h1
  have:=z2w (show Pos (sb s r) from hd.2.2.1) (show Pos (sb t s) from hd.2.1) (show Pos (sb p t) from hd.1) (by omega) (by omega) (.inl e1)
  rw [v5e r s t p]; omega
theorem w6i {t:Pt}:∀ {l:List Pt} {x:Pt},x2t (t::l)→Cov (t::l) x→Le x t
 |[],x,_,h=> .inl h
 |s::r,x,hd,h=>by
  rcases h with h|⟨_,b,_⟩|h
  ·exact .inl h
  ·exact .inr b
  ·rcases w6i hd.2 h with h|h
   ·exact .inr (h▸hd.1)
   ·exact .inr (h.trans hd.1)
theorem x19 {q:List Pt} {p:Pt}:∀ (st:List Pt),st≠[]→x2t (p::st)→Conv st→(∀ x∈q,Cov (p::st) x)→(∀ x∈q,w5r st x)→
  ∃ t r,pop p st=t::r∧x2t (p::t::r)∧Conv (p::t::r)∧(∀ x∈q,Cov (p::t::r) x)∧(∀ x∈q,w5r (t::r) x)∧(∀ y∈t::r,y∈st)∧(∀ t' s' r',t::r=t'::s'::r'→0<cr s' t' p)
 |[t],_,hd,hc,hv,he=>⟨t,[],y43 p t,hd,trivial,hv,he,fun y h=>h,fun _ _ _ e=>by cases e⟩
 |t::s::r,_,hd,hc,hv,he=>by
  by_cases h:cr s t p≤0
  ·obtain ⟨t',r',g1,g2,g3,g4,g5,g6,g7⟩:=x19 (s::r) (by simp) ⟨hd.2.1.trans hd.1,hd.2.2⟩ hc.tail (fun x hx=>w4v hd.2.1 hd.1 h (hv x hx)) (fun x hx=>(he x hx).tail)
   exact ⟨t',r',by rw [y2f p h]; exact g1,g2,g3,g4,g5,fun y hy=>List.mem_cons_of_mem _ (g6 y hy),g7⟩
  ·refine ⟨t,s::r,y2e p h,hd,⟨by omega,hc⟩,hv,he,fun y h=>h,fun _ _ _ e=>by cases e; omega⟩
theorem x11 {p:Pt}:∀ {st:List Pt},v7c st p→w5r st p
 |[],_=>trivial
 |[_],_=>trivial
 |t::s::r,h=>⟨⟨by have:=h.1; omega,fun e=>by have:=h.1; omega⟩,x11 h.2⟩
theorem x76 {q st:List Pt} (hne:st≠[]) (h:x8p q st) {p:Pt} (hp:∀ x∈q,Lt x p):x8p (q++[p]) (push st p):=by
 have hdp:x2t (p::st):=by
  match st,hne,h with
  |t::r,_,h=>exact ⟨hp t (h.sub t (by simp)),h.desc⟩
 have hcv:∀ x∈q,Cov (p::st) x:=by
  intro x hx
  match st,hne,h.cov x hx with
  |t::r,_,hc=>exact .inr (.inr hc)
 obtain ⟨t,r,g1,g2,g3,g4,g5,g6,g7⟩:=x19 st hne hdp h.conv hcv h.edge
 have hps:push st p=p::t::r:=by rw [push,g1]
 rw [hps]
 have hl:v7c (t::r) p:=x91 g2 g3.tail g7
 have htq:t∈q:=h.sub t (g6 t (by simp))
 refine ⟨g2,g3,fun x hx=>?_,fun x hx=>?_,fun y hy=>?_⟩
 ·rcases List.mem_append.1 hx with hx|hx
  ·exact g4 x hx
  ·simp at hx; subst hx; exact .inl rfl
 ·rcases List.mem_append.1 hx with hx|hx
  ·refine ⟨?_,g5 x hx⟩
   rcases g4 x hx with e|⟨a,b,c⟩|hc
   ·subst e; exact ⟨by rw [x6d]; omega,fun _=>⟨.inr g2.1, .inl rfl⟩⟩
   ·exact ⟨c,fun _=>⟨.inr a, .inr b⟩⟩
   ·
    rcases w6i g2.2 hc with e|hlt
    ·subst e; exact ⟨by rw [w4t]; omega,fun _=>⟨.inl rfl, .inr g2.1⟩⟩
    ·match r,g2,g5 x hx,g7,hc with
     |[],_,_,_,hc=>exact absurd hc hlt.ne
     |s::r,g2,ge,g7,_=>
      have e1:0≤crs (sb t x) (sb t s):=by rw [y9j]; exact ge.1.1
      have e2:0<crs (sb t s) (sb p t):=by rw [x6e]; exact g7 t s r rfl
      have:=z2w (show Pos (sb t x) from hlt) (show Pos (sb t s) from g2.2.1) (show Pos (sb p t) from g2.1) e1 (by omega) (.inr e2)
      rw [w4u] at this
      exact ⟨by omega,fun e=>by omega⟩
  ·simp at hx; subst hx
   exact ⟨⟨by rw [x6d]; omega,fun _=>⟨.inr g2.1, .inl rfl⟩⟩,x11 hl⟩
 ·rcases List.mem_cons.1 hy with e|hy
  ·subst e; simp
  ·exact List.mem_append.2 (.inl (h.sub y (g6 y hy)))
theorem w1p (p:Pt):x8p [p] [p]:=⟨trivial,trivial,fun x hx=>(by simpa using hx:x=p),fun x hx=>trivial,fun y hy=>hy⟩
theorem y7w:∀ (l q st:List Pt),st≠[]→x8p q st→(∀ x∈q,∀ y∈l,Lt x y)→l.Pairwise Lt→x8p (q++l) (l.foldl push st)∧l.foldl push st≠[]
 |[],q,st,hne,h,_,_=>by simpa using ⟨h,hne⟩
 |p::l,q,st,hne,h,hq,hl=>by
  have h1:=x76 hne h (fun x hx=>hq x hx p (by simp))
  have:=y7w l (q++[p]) (push st p) (by simp [push]) h1 (fun x hx y hy=>by
   rcases List.mem_append.1 hx with hx|hx
   ·exact hq x hx y (List.mem_cons_of_mem _ hy)
   ·simp at hx; subst hx; exact (List.pairwise_cons.1 hl).1 y hy) (List.pairwise_cons.1 hl).2
  simpa using this
end M06
end
noncomputable section
namespace Go.Am
def y9f:Ctr:=
 ⟨109,[.full 0 2, .int .i64, .int .i64, .clo 87 [] []],[.row [ci,ci]],[]⟩
def v6t:Prim→Tup (y9f).scs→Option (STup (scss (y9f).outs)):=
 fun _ _=>none
theorem x7w:z29 Go.Proofs.Try.prog 109:=enters_auto (b:=_) rfl (by kernel_rfl)
theorem v1n:CtrOk Go.Proofs.Try.prog y9f (v6t std):=⟨x7w,fun x y h=>by cases h⟩
def y9d:Ctr:=
 ⟨110,[.full 0 2, .int .i64, .int .i64, .clo 87 [] []],[.row [ci,ci]],[]⟩
def v6r:Prim→Tup (y9d).scs→Option (STup (scss (y9d).outs)):=
 fun _ _=>none
theorem x7u:z29 Go.Proofs.Try.prog 110:=enters_auto (b:=_) rfl (by kernel_rfl)
theorem v1l:CtrOk Go.Proofs.Try.prog y9d (v6r std):=⟨x7u,fun x y h=>by cases h⟩
def y9b:Ctr:=
 ⟨111,[.full 0 2, .int .i64, .int .i64, .clo 87 [] []],[.row [ci,ci]],[]⟩
def v6p:Prim→Tup (y9b).scs→Option (STup (scss (y9b).outs)):=
 fun _ _=>none
theorem x7s:z29 Go.Proofs.Try.prog 111:=enters_auto (b:=_) rfl (by kernel_rfl)
theorem v1j:CtrOk Go.Proofs.Try.prog y9b (v6p std):=⟨x7s,fun x y h=>by cases h⟩
def w07:Ctr:=
 ⟨117,[.int .u64],[],[(.ret,⟨[(0, .int .i64)],[],1⟩)]⟩
def v23:List LA:=
 []
def v3e:List JA:=
 [⟨117,[true,false,true,true],0,[(AX.normal,⟨[(0, .int .u64),(2, .int .i64)],[],25⟩)]⟩,
 ⟨117,[true,false,true],0,[(AX.normal,⟨[(0, .int .u64),(2, .int .i64)],[],25⟩)]⟩,
 ⟨117,[true,false,true,true,true],0,[(AX.normal,⟨[(0, .int .u64),(2, .int .i64)],[],25⟩)]⟩]
def w8k:List CF:=
 []
def v5u:Anns:=
 ⟨w8k,v3e,[]⟩
def v0k:(p:Prim)→T2→Option T0:=
 fun p x=>
 opt.bnd T5 _ (
 opt.run T5 (
 opt.ask _ (p.cmp .geq x.1 (4294967296:Int)) (
 opt.need _ (p.cmp .geq (32:Int) (0:Int))<|
 opt.ret _ ((p.ar .shr .u64 x.1 (32:Int)),((32:Int),()))) (
 opt.ret _ (x.1,((0:Int),()))))) fun a=>
 opt.bnd T5 _ (
 opt.run T5 (
 opt.ask _ (p.cmp .geq a.1 (65536:Int)) (
 opt.need _ (p.cmp .geq (16:Int) (0:Int))<|
 opt.ret _ ((p.ar .shr .u64 a.1 (16:Int)),((p.ar .add .i64 a.2.1 (16:Int)),()))) (
 opt.ret _ (a.1,(a.2.1,()))))) fun b=>
 opt.bnd T5 _ (
 opt.run T5 (
 opt.ask _ (p.cmp .geq b.1 (256:Int)) (
 opt.need _ (p.cmp .geq (8:Int) (0:Int))<|
 opt.ret _ ((p.ar .shr .u64 b.1 (8:Int)),((p.ar .add .i64 b.2.1 (8:Int)),()))) (
 opt.ret _ (b.1,(b.2.1,()))))) fun c=>
 opt.need _ (bif (p.cmp .geq (p.cvt .u8 c.1) (0:Int)) then (p.cmp .lss (p.cvt .u8 c.1) (p.ofNat 256)) else Bool.false)<|
 opt.ret _ ((p.ar .add .i64 c.2.1 (p.cvt .i64 (p.byte (ByteArray.mk #[0,1,2,2,3,3,3,3,4,4,4,4,4,4,4,4,5,5,5,5,5,5,5,5,5,5,5,5,5,5,5,5,6,6,6,6,6,6,6,6,6,6,6,6,6,6,6,6,6,6,6,6,6,6,6,6,6,6,6,6,6,6,6,6,7,7,7,7,7,7,7,7,7,7,7,7,7,7,7,7,7,7,7,7,7,7,7,7,7,7,7,7,7,7,7,7,7,7,7,7,7,7,7,7,7,7,7,7,7,7,7,7,7,7,7,7,7,7,7,7,7,7,7,7,7,7,7,7,8,8,8,8,8,8,8,8,8,8,8,8,8,8,8,8,8,8,8,8,8,8,8,8,8,8,8,8,8,8,8,8,8,8,8,8,8,8,8,8,8,8,8,8,8,8,8,8,8,8,8,8,8,8,8,8,8,8,8,8,8,8,8,8,8,8,8,8,8,8,8,8,8,8,8,8,8,8,8,8,8,8,8,8,8,8,8,8,8,8,8,8,8,8,8,8,8,8,8,8,8,8,8,8,8,8,8,8,8,8,8,8,8,8,8,8,8,8,8,8,8,8,8,8,8,8,8,8]) (p.cvt .u8 c.1)))),())
theorem v1h:CtrOk PG w07 (v0k std):=okF (a:=v5u) (l:=v23) (gN) (by kernel_rfl) fun _ _=>by kernel_rfl
def w1c:Ctr:=
 ⟨105,[.int .u64],[],[(.ret,⟨[(0, .int .i64)],[],1⟩)]⟩
def v28:List LA:=
 []
def v3i:List JA:=
 []
def w8p:List CF:=
 [⟨w07,v0k⟩]
def v5y:Anns:=
 ⟨w8p,v3i,[]⟩
def w5o:(p:Prim)→T2→Option T0:=
 fun p x=>
 opt.bnd T0 _ (v0k p (x.1,())) fun a=>
 opt.ret _ (a.1,())
theorem v1r:CtrOk PG w1c (w5o std):=okF (a:=v5y) (l:=v28) (gC v1h (gN)) (by kernel_rfl) fun _ _=>by kernel_rfl
def w1a:Ctr:=
 ⟨108,[.full 0 2, .int .i64, .int .i64, .clo 87 [] []],[.row [ci,ci]],[(.ret,⟨[(0, .tuple [])],[.row [ci,ci]],1⟩)]⟩
def v26:List LA:=
 [⟨108,[false,true],1,⟨⟨[(0, .full 0 2),(1, .int .i64),(2, .int .i64),(3, .clo 87 [] []),(8, .int .i64)],[.row [ci,ci]],53⟩,[((AX.exit 0),⟨[],[.row [ci,ci]],53⟩)]⟩⟩,
 ⟨108,[false,true,false,false,true,false,false,true],1,⟨⟨[(0, .full 0 2),(1, .int .i64),(2, .int .i64),(3, .clo 87 [] []),(8, .int .i64),(9, .int .i64)],[.row [ci,ci]],53⟩,[((AX.exit 2),⟨[(0, .full 0 2),(1, .int .i64),(2, .int .i64),(3, .clo 87 [] []),(8, .int .i64)],[.row [ci,ci]],53⟩)]⟩⟩]
def v3g:List JA:=
 []
def w8n:List CF:=
 [⟨v4j,G87⟩]
def v5w:Anns:=
 ⟨w8n,v3g,[]⟩
def z65 (it:It) (p:Prim):(LD×T14)→Option ((LD×T14)⊕(LD×T6)):=
 fun a=>opt.run _ (
 opt.ask _ (p.cmp .gtr a.2.2.2.2.1 a.2.1) (
 opt.need _ (bif (p.cmp .geq a.2.2.2.2.1 (0:Int)) then (p.cmp .lss a.2.2.2.2.1 (p.ofNat (p.len a.1))) else Bool.false)<|
 opt.need _ (p.rowOk a.1 (p.add 0 (p.nat a.2.2.2.2.1)) [ci,ci])<|
 opt.need _ (bif (p.cmp .geq (p.ar .sub .i64 a.2.2.2.2.1 (1:Int)) (0:Int)) then (p.cmp .lss (p.ar .sub .i64 a.2.2.2.2.1 (1:Int)) (p.ofNat (p.len a.1))) else Bool.false)<|
 opt.need _ (p.rowOk a.1 (p.add 0 (p.nat (p.ar .sub .i64 a.2.2.2.2.1 (1:Int)))) [ci,ci])<|
 opt.bnd T0 _ (g87 it p ((p.rdI a.1 (p.add 0 (p.nat a.2.2.2.2.1)) 0),((p.rdI a.1 (p.add 0 (p.nat a.2.2.2.2.1)) 1),((p.rdI a.1 (p.add 0 (p.nat (p.ar .sub .i64 a.2.2.2.2.1 (1:Int)))) 0),((p.rdI a.1 (p.add 0 (p.nat (p.ar .sub .i64 a.2.2.2.2.1 (1:Int)))) 1),()))))) fun b=>
 opt.ask _ (p.cmp .lss b.1 (0:Int)) (
 opt.need _ (bif (p.cmp .geq (p.ar .sub .i64 a.2.2.2.2.1 (1:Int)) (0:Int)) then (p.cmp .lss (p.ar .sub .i64 a.2.2.2.2.1 (1:Int)) (p.ofNat (p.len a.1))) else Bool.false)<|
 opt.need _ (p.rowOk a.1 (p.add 0 (p.nat (p.ar .sub .i64 a.2.2.2.2.1 (1:Int)))) [ci,ci])<|
 opt.need _ (bif (p.cmp .geq a.2.2.2.2.1 (0:Int)) then (p.cmp .lss a.2.2.2.2.1 (p.ofNat (p.len a.1))) else Bool.false)<|
 opt.need _ (p.rowOk a.1 (p.add 0 (p.nat a.2.2.2.2.1)) [ci,ci])<|
 opt.need _ (bif (p.cmp .geq a.2.2.2.2.1 (0:Int)) then (p.cmp .lss a.2.2.2.2.1 (p.ofNat (p.len a.1))) else Bool.false)<|
 opt.need _ (p.rowOk a.1 (p.add 0 (p.nat a.2.2.2.2.1)) [ci,ci])<|
 opt.need _ (bif (p.cmp .geq (p.ar .sub .i64 a.2.2.2.2.1 (1:Int)) (0:Int)) then (p.cmp .lss (p.ar .sub .i64 a.2.2.2.2.1 (1:Int)) (p.ofNat (p.len a.1))) else Bool.false)<|
 opt.need _ (p.rowOk (p.set a.1 (p.add 0 (p.nat a.2.2.2.2.1)) [(D.int .i64 (p.rdI a.1 (p.add 0 (p.nat (p.ar .sub .i64 a.2.2.2.2.1 (1:Int)))) 0)),(D.int .i64 (p.rdI a.1 (p.add 0 (p.nat (p.ar .sub .i64 a.2.2.2.2.1 (1:Int)))) 1))]) (p.add 0 (p.nat (p.ar .sub .i64 a.2.2.2.2.1 (1:Int)))) [ci,ci])<|
 opt.need _ (p.eqN 0 0)<|
 opt.need _ (p.eqN (p.len a.1) (p.len (p.set (p.set a.1 (p.add 0 (p.nat a.2.2.2.2.1)) [(D.int .i64 (p.rdI a.1 (p.add 0 (p.nat (p.ar .sub .i64 a.2.2.2.2.1 (1:Int)))) 0)),(D.int .i64 (p.rdI a.1 (p.add 0 (p.nat (p.ar .sub .i64 a.2.2.2.2.1 (1:Int)))) 1))]) (p.add 0 (p.nat (p.ar .sub .i64 a.2.2.2.2.1 (1:Int)))) [(D.int .i64 (p.rdI a.1 (p.add 0 (p.nat a.2.2.2.2.1)) 0)),(D.int .i64 (p.rdI a.1 (p.add 0 (p.nat a.2.2.2.2.1)) 1))])))<|
 opt.need _ (p.eqN (p.len a.1) (p.len (p.set (p.set a.1 (p.add 0 (p.nat a.2.2.2.2.1)) [(D.int .i64 (p.rdI a.1 (p.add 0 (p.nat (p.ar .sub .i64 a.2.2.2.2.1 (1:Int)))) 0)),(D.int .i64 (p.rdI a.1 (p.add 0 (p.nat (p.ar .sub .i64 a.2.2.2.2.1 (1:Int)))) 1))]) (p.add 0 (p.nat (p.ar .sub .i64 a.2.2.2.2.1 (1:Int)))) [(D.int .i64 (p.rdI a.1 (p.add 0 (p.nat a.2.2.2.2.1)) 0)),(D.int .i64 (p.rdI a.1 (p.add 0 (p.nat a.2.2.2.2.1)) 1))])))<|
 opt.ret _ (Sum.inl ((p.set (p.set a.1 (p.add 0 (p.nat a.2.2.2.2.1)) [(D.int .i64 (p.rdI a.1 (p.add 0 (p.nat (p.ar .sub .i64 a.2.2.2.2.1 (1:Int)))) 0)),(D.int .i64 (p.rdI a.1 (p.add 0 (p.nat (p.ar .sub .i64 a.2.2.2.2.1 (1:Int)))) 1))]) (p.add 0 (p.nat (p.ar .sub .i64 a.2.2.2.2.1 (1:Int)))) [(D.int .i64 (p.rdI a.1 (p.add 0 (p.nat a.2.2.2.2.1)) 0)),(D.int .i64 (p.rdI a.1 (p.add 0 (p.nat a.2.2.2.2.1)) 1))]),(a.2.1,(a.2.2.1,(a.2.2.2.1,((p.ar .sub .i64 a.2.2.2.2.1 (1:Int)),()))))))) (
 opt.need _ (p.eqN 0 0)<|
 opt.need _ (p.eqN (p.len a.1) (p.len a.1))<|
 opt.need _ (p.eqN (p.len a.1) (p.len a.1))<|
 opt.ret _ (Sum.inr (a.1,(a.2.1,(a.2.2.1,(a.2.2.2.1,()))))))) (
 opt.need _ (p.eqN 0 0)<|
 opt.need _ (p.eqN (p.len a.1) (p.len a.1))<|
 opt.need _ (p.eqN (p.len a.1) (p.len a.1))<|
 opt.ret _ (Sum.inr (a.1,(a.2.1,(a.2.2.1,(a.2.2.2.1,())))))))
def z9b (it:It) (p:Prim):(LD×T6)→Option ((LD×T6)⊕(LD×Unit)):=
 fun a=>opt.run _ (
 opt.ask _ (p.cmp .lss a.2.2.2.1 a.2.2.1) (
 opt.need _ (p.eqN 0 0)<|
 opt.need _ (p.eqN (p.len a.1) (p.len a.1))<|
 opt.need _ (p.eqN (p.len a.1) (p.len a.1))<|
 opt.bnd ((LD×T6)) _ (
 it _ _ (z65 it p) (a.1,(a.2.1,(a.2.2.1,(a.2.2.2.1,(a.2.2.2.1,())))))) fun b=>
 opt.need _ (p.eqN 0 0)<|
 opt.need _ (p.eqN (p.len b.1) (p.len b.1))<|
 opt.need _ (p.eqN (p.len b.1) (p.len b.1))<|
 opt.ret _ (Sum.inl (b.1,(b.2.1,(b.2.2.1,((p.ar .add .i64 b.2.2.2.1 (1:Int)),())))))) (
 opt.ret _ (Sum.inr (a.1,()))))
def w0c (it:It):(p:Prim)→(LD×T4)→Option ((LD×Unit)):=
 fun p x=>
 opt.need _ (p.eqN 0 0)<|
 opt.need _ (p.eqN (p.len x.1) (p.len x.1))<|
 opt.need _ (p.eqN (p.len x.1) (p.len x.1))<|
 opt.bnd ((LD×Unit)) _ (
 it _ _ (z9b it p) (x.1,(x.2.1,(x.2.2.1,((p.ar .add .i64 x.2.1 (1:Int)),()))))) fun a=>
 opt.ret _ (a.1,())
def w18:=w0c it0
theorem v1p:CtrOk PG w1a (w18 std):=okF (a:=v5w) (l:=v26) (gC u1r (gN)) (by kernel_rfl) fun _ _=>by kernel_rfl
def w1e:Ctr:=
 ⟨104,[.full 0 2, .int .i64, .int .i64, .int .i64, .clo 87 [] []],[.row [ci,ci]],[(.ret,⟨[(0, .tuple [])],[.row [ci,ci]],1⟩)]⟩
def v3a:List LA:=
 [⟨104,[false,true,true],1,⟨⟨[(0, .full 0 2),(1, .int .i64),(2, .int .i64),(3, .int .i64),(4, .clo 87 [] []),(10, .bool),(11, .bool)],[.row [ci,ci]],148⟩,[(AX.ret,⟨[],[.row [ci,ci]],148⟩)]⟩⟩]
def v3k:List JA:=
 []
def w8r:List CF:=
 [⟨y9b,v6p⟩,⟨y9d,v6r⟩,⟨y9f,v6t⟩,⟨w1a,w18⟩]
def v51:Anns:=
 ⟨w8r,v3k,[]⟩
def y5u (it:It) (p:Prim):(LD×T35)→Option ((LD×T35)⊕(LD×Unit)):=
 fun a=>opt.run _ (
 opt.ask _ (p.cmp .leq (p.ar .sub .i64 a.2.2.1 a.2.1) (12:Int)) (
 opt.need _ (p.eqN 0 0)<|
 opt.need _ (p.eqN (p.len a.1) (p.len a.1))<|
 opt.need _ (p.eqN (p.len a.1) (p.len a.1))<|
 opt.bnd ((LD×Unit)) _ (w0c it p (a.1,(a.2.1,(a.2.2.1,())))) fun b=>
 opt.ret _ (Sum.inr (b.1,()))) (
 opt.ask _ (p.cmp .eql a.2.2.2.1 (0:Int)) (
 opt.need _ (p.eqN 0 0)<|
 opt.need _ (p.eqN (p.len a.1) (p.len a.1))<|
 opt.need _ (p.eqN (p.len a.1) (p.len a.1))<|
 opt.no _ 81) (
 opt.ask _ (bif a.2.2.2.2.1 then Bool.false else Bool.true) (
 opt.need _ (p.eqN 0 0)<|
 opt.need _ (p.eqN (p.len a.1) (p.len a.1))<|
 opt.need _ (p.eqN (p.len a.1) (p.len a.1))<|
 opt.no _ 81) (
 opt.need _ (p.eqN 0 0)<|
 opt.need _ (p.eqN (p.len a.1) (p.len a.1))<|
 opt.need _ (p.eqN (p.len a.1) (p.len a.1))<|
 opt.no _ 81))))
def w0e (it:It):(p:Prim)→(LD×T6)→Option ((LD×Unit)):=
 fun p x=>
 opt.need _ (p.eqN 0 0)<|
 opt.need _ (p.eqN (p.len x.1) (p.len x.1))<|
 opt.need _ (p.eqN (p.len x.1) (p.len x.1))<|
 opt.bnd ((LD×Unit)) _ (
 it _ _ (y5u it p) (x.1,(x.2.1,(x.2.2.1,(x.2.2.2.1,(Bool.true,(Bool.true,()))))))) fun a=>
 opt.ret _ (a.1,())
def v6l:=w0e it0
theorem v1t:CtrOk PG w1e (v6l std):=okF (a:=v51) (l:=v3a) (gC v1j (gC v1l (gC v1n (gC v1p (gN))))) (by kernel_rfl) fun _ _=>by kernel_rfl
def w03:Ctr:=
 ⟨97,[.full 0 2, .clo 87 [] []],[.row [ci,ci]],[(.ret,⟨[(0, .tuple [])],[.row [ci,ci]],1⟩)]⟩
def v20:List LA:=
 []
def v3c:List JA:=
 []
def w8h:List CF:=
 [⟨w1e,v6l⟩,⟨w1c,w5o⟩]
def v5s:Anns:=
 ⟨w8h,v3c,[]⟩
def w0a (it:It):(p:Prim)→(LD×Unit)→Option ((LD×Unit)):=
 fun p x=>
 opt.bnd T0 _ (w5o p ((p.cvt .u64 (p.ofNat (p.len x.1))),())) fun a=>
 opt.need _ (p.eqN 0 0)<|
 opt.need _ (p.eqN (p.len x.1) (p.len x.1))<|
 opt.need _ (p.eqN (p.len x.1) (p.len x.1))<|
 opt.bnd ((LD×Unit)) _ (w0e it p (x.1,((0:Int),((p.ofNat (p.len x.1)),(a.1,()))))) fun b=>
 opt.ret _ (b.1,())
def w5k:=w0a it0
theorem w51:CtrOk PG w03 (w5k std):=okF (a:=v5s) (l:=v20) (gC v1t (gC v1r (gN))) (by kernel_rfl) fun _ _=>by kernel_rfl
end Go.Am
end
noncomputable section
namespace Go.Am
def y9e:Ctr:=
 ⟨109,[.vec 0 2, .int .i64, .int .i64, .clo 98 [] []],[.row [ci,ci]],[]⟩
def v6s:Prim→Tup (y9e).scs→Option (STup (scss (y9e).outs)):=
 fun _ _=>none
theorem x7v:z29 Go.Proofs.Try.prog 109:=enters_auto (b:=_) rfl (by kernel_rfl)
theorem v1m:CtrOk Go.Proofs.Try.prog y9e (v6s std):=⟨x7v,fun x y h=>by cases h⟩
def y9c:Ctr:=
 ⟨110,[.vec 0 2, .int .i64, .int .i64, .clo 98 [] []],[.row [ci,ci]],[]⟩
def v6q:Prim→Tup (y9c).scs→Option (STup (scss (y9c).outs)):=
 fun _ _=>none
theorem x7t:z29 Go.Proofs.Try.prog 110:=enters_auto (b:=_) rfl (by kernel_rfl)
theorem v1k:CtrOk Go.Proofs.Try.prog y9c (v6q std):=⟨x7t,fun x y h=>by cases h⟩
def y9a:Ctr:=
 ⟨111,[.vec 0 2, .int .i64, .int .i64, .clo 98 [] []],[.row [ci,ci]],[]⟩
def v6o:Prim→Tup (y9a).scs→Option (STup (scss (y9a).outs)):=
 fun _ _=>none
theorem x7r:z29 Go.Proofs.Try.prog 111:=enters_auto (b:=_) rfl (by kernel_rfl)
theorem v1i:CtrOk Go.Proofs.Try.prog y9a (v6o std):=⟨x7r,fun x y h=>by cases h⟩
def w06:Ctr:=
 ⟨117,[.int .u64],[],[(.ret,⟨[(0, .int .i64)],[],1⟩)]⟩
def v21:List LA:=
 []
def v3d:List JA:=
 [⟨117,[true,false,true,true],0,[(AX.normal,⟨[(0, .int .u64),(2, .int .i64)],[],25⟩)]⟩,
 ⟨117,[true,false,true],0,[(AX.normal,⟨[(0, .int .u64),(2, .int .i64)],[],25⟩)]⟩,
 ⟨117,[true,false,true,true,true],0,[(AX.normal,⟨[(0, .int .u64),(2, .int .i64)],[],25⟩)]⟩]
def w8j:List CF:=
 []
def v5t:Anns:=
 ⟨w8j,v3d,[]⟩
def v0j:(p:Prim)→T2→Option T0:=
 fun p x=>
 opt.bnd T5 _ (
 opt.run T5 (
 opt.ask _ (p.cmp .geq x.1 (4294967296:Int)) (
 opt.need _ (p.cmp .geq (32:Int) (0:Int))<|
 opt.ret _ ((p.ar .shr .u64 x.1 (32:Int)),((32:Int),()))) (
 opt.ret _ (x.1,((0:Int),()))))) fun a=>
 opt.bnd T5 _ (
 opt.run T5 (
 opt.ask _ (p.cmp .geq a.1 (65536:Int)) (
 opt.need _ (p.cmp .geq (16:Int) (0:Int))<|
 opt.ret _ ((p.ar .shr .u64 a.1 (16:Int)),((p.ar .add .i64 a.2.1 (16:Int)),()))) (
 opt.ret _ (a.1,(a.2.1,()))))) fun b=>
 opt.bnd T5 _ (
 opt.run T5 (
 opt.ask _ (p.cmp .geq b.1 (256:Int)) (
 opt.need _ (p.cmp .geq (8:Int) (0:Int))<|
 opt.ret _ ((p.ar .shr .u64 b.1 (8:Int)),((p.ar .add .i64 b.2.1 (8:Int)),()))) (
 opt.ret _ (b.1,(b.2.1,()))))) fun c=>
 opt.need _ (bif (p.cmp .geq (p.cvt .u8 c.1) (0:Int)) then (p.cmp .lss (p.cvt .u8 c.1) (p.ofNat 256)) else Bool.false)<|
 opt.ret _ ((p.ar .add .i64 c.2.1 (p.cvt .i64 (p.byte (ByteArray.mk #[0,1,2,2,3,3,3,3,4,4,4,4,4,4,4,4,5,5,5,5,5,5,5,5,5,5,5,5,5,5,5,5,6,6,6,6,6,6,6,6,6,6,6,6,6,6,6,6,6,6,6,6,6,6,6,6,6,6,6,6,6,6,6,6,7,7,7,7,7,7,7,7,7,7,7,7,7,7,7,7,7,7,7,7,7,7,7,7,7,7,7,7,7,7,7,7,7,7,7,7,7,7,7,7,7,7,7,7,7,7,7,7,7,7,7,7,7,7,7,7,7,7,7,7,7,7,7,7,8,8,8,8,8,8,8,8,8,8,8,8,8,8,8,8,8,8,8,8,8,8,8,8,8,8,8,8,8,8,8,8,8,8,8,8,8,8,8,8,8,8,8,8,8,8,8,8,8,8,8,8,8,8,8,8,8,8,8,8,8,8,8,8,8,8,8,8,8,8,8,8,8,8,8,8,8,8,8,8,8,8,8,8,8,8,8,8,8,8,8,8,8,8,8,8,8,8,8,8,8,8,8,8,8,8,8,8,8,8,8,8,8,8,8,8,8,8,8,8,8,8,8,8,8,8,8,8]) (p.cvt .u8 c.1)))),())
theorem v1g:CtrOk PG w06 (v0j std):=okF (a:=v5t) (l:=v21) (gN) (by kernel_rfl) fun _ _=>by kernel_rfl
def w1b:Ctr:=
 ⟨105,[.int .u64],[],[(.ret,⟨[(0, .int .i64)],[],1⟩)]⟩
def v27:List LA:=
 []
def v3h:List JA:=
 []
def w8o:List CF:=
 [⟨w06,v0j⟩]
def v5x:Anns:=
 ⟨w8o,v3h,[]⟩
def w5n:(p:Prim)→T2→Option T0:=
 fun p x=>
 opt.bnd T0 _ (v0j p (x.1,())) fun a=>
 opt.ret _ (a.1,())
theorem v1q:CtrOk PG w1b (w5n std):=okF (a:=v5x) (l:=v27) (gC v1g (gN)) (by kernel_rfl) fun _ _=>by kernel_rfl
def w09:Ctr:=
 ⟨108,[.vec 0 2, .int .i64, .int .i64, .clo 98 [] []],[.row [ci,ci]],[(.ret,⟨[(0, .tuple [])],[.row [ci,ci]],1⟩)]⟩
def v24:List LA:=
 [⟨108,[false,true],1,⟨⟨[(0, .vec 0 2),(1, .int .i64),(2, .int .i64),(3, .clo 98 [] []),(8, .int .i64)],[.row [ci,ci]],53⟩,[((AX.exit 0),⟨[],[.row [ci,ci]],53⟩)]⟩⟩,
 ⟨108,[false,true,false,false,true,false,false,true],1,⟨⟨[(0, .vec 0 2),(1, .int .i64),(2, .int .i64),(3, .clo 98 [] []),(8, .int .i64),(9, .int .i64)],[.row [ci,ci]],53⟩,[((AX.exit 2),⟨[(0, .vec 0 2),(1, .int .i64),(2, .int .i64),(3, .clo 98 [] []),(8, .int .i64)],[.row [ci,ci]],53⟩)]⟩⟩]
def v3f:List JA:=
 []
def w8m:List CF:=
 [⟨w87,G98⟩]
def v5v:Anns:=
 ⟨w8m,v3f,[]⟩
def z9c (p:Prim):(LD×T14)→Option ((LD×T14)⊕(LD×T6)):=
 fun a=>opt.run _ (
 opt.ask _ (p.cmp .gtr a.2.2.2.2.1 a.2.1) (
 opt.need _ (bif (p.cmp .geq a.2.2.2.2.1 (0:Int)) then (p.cmp .lss a.2.2.2.2.1 (p.ofNat (p.len a.1))) else Bool.false)<|
 opt.need _ (p.rowOk a.1 (p.add 0 (p.nat a.2.2.2.2.1)) [ci,ci])<|
 opt.need _ (bif (p.cmp .geq (p.ar .sub .i64 a.2.2.2.2.1 (1:Int)) (0:Int)) then (p.cmp .lss (p.ar .sub .i64 a.2.2.2.2.1 (1:Int)) (p.ofNat (p.len a.1))) else Bool.false)<|
 opt.need _ (p.rowOk a.1 (p.add 0 (p.nat (p.ar .sub .i64 a.2.2.2.2.1 (1:Int)))) [ci,ci])<|
 opt.bnd T0 _ (G98 p ((p.rdI a.1 (p.add 0 (p.nat a.2.2.2.2.1)) 0),((p.rdI a.1 (p.add 0 (p.nat a.2.2.2.2.1)) 1),((p.rdI a.1 (p.add 0 (p.nat (p.ar .sub .i64 a.2.2.2.2.1 (1:Int)))) 0),((p.rdI a.1 (p.add 0 (p.nat (p.ar .sub .i64 a.2.2.2.2.1 (1:Int)))) 1),()))))) fun b=>
 opt.ask _ (p.cmp .lss b.1 (0:Int)) (
 opt.need _ (bif (p.cmp .geq (p.ar .sub .i64 a.2.2.2.2.1 (1:Int)) (0:Int)) then (p.cmp .lss (p.ar .sub .i64 a.2.2.2.2.1 (1:Int)) (p.ofNat (p.len a.1))) else Bool.false)<|
 opt.need _ (p.rowOk a.1 (p.add 0 (p.nat (p.ar .sub .i64 a.2.2.2.2.1 (1:Int)))) [ci,ci])<|
 opt.need _ (bif (p.cmp .geq a.2.2.2.2.1 (0:Int)) then (p.cmp .lss a.2.2.2.2.1 (p.ofNat (p.len a.1))) else Bool.false)<|
 opt.need _ (p.rowOk a.1 (p.add 0 (p.nat a.2.2.2.2.1)) [ci,ci])<|
 opt.need _ (bif (p.cmp .geq a.2.2.2.2.1 (0:Int)) then (p.cmp .lss a.2.2.2.2.1 (p.ofNat (p.len a.1))) else Bool.false)<|
 opt.need _ (p.rowOk a.1 (p.add 0 (p.nat a.2.2.2.2.1)) [ci,ci])<|
 opt.need _ (bif (p.cmp .geq (p.ar .sub .i64 a.2.2.2.2.1 (1:Int)) (0:Int)) then (p.cmp .lss (p.ar .sub .i64 a.2.2.2.2.1 (1:Int)) (p.ofNat (p.len a.1))) else Bool.false)<|
 opt.need _ (p.rowOk (p.set a.1 (p.add 0 (p.nat a.2.2.2.2.1)) [(D.int .i64 (p.rdI a.1 (p.add 0 (p.nat (p.ar .sub .i64 a.2.2.2.2.1 (1:Int)))) 0)),(D.int .i64 (p.rdI a.1 (p.add 0 (p.nat (p.ar .sub .i64 a.2.2.2.2.1 (1:Int)))) 1))]) (p.add 0 (p.nat (p.ar .sub .i64 a.2.2.2.2.1 (1:Int)))) [ci,ci])<|
 opt.need _ (p.eqN 0 0)<|
 opt.need _ (p.eqN (p.len a.1) (p.len (p.set (p.set a.1 (p.add 0 (p.nat a.2.2.2.2.1)) [(D.int .i64 (p.rdI a.1 (p.add 0 (p.nat (p.ar .sub .i64 a.2.2.2.2.1 (1:Int)))) 0)),(D.int .i64 (p.rdI a.1 (p.add 0 (p.nat (p.ar .sub .i64 a.2.2.2.2.1 (1:Int)))) 1))]) (p.add 0 (p.nat (p.ar .sub .i64 a.2.2.2.2.1 (1:Int)))) [(D.int .i64 (p.rdI a.1 (p.add 0 (p.nat a.2.2.2.2.1)) 0)),(D.int .i64 (p.rdI a.1 (p.add 0 (p.nat a.2.2.2.2.1)) 1))])))<|
 opt.ret _ (Sum.inl ((p.set (p.set a.1 (p.add 0 (p.nat a.2.2.2.2.1)) [(D.int .i64 (p.rdI a.1 (p.add 0 (p.nat (p.ar .sub .i64 a.2.2.2.2.1 (1:Int)))) 0)),(D.int .i64 (p.rdI a.1 (p.add 0 (p.nat (p.ar .sub .i64 a.2.2.2.2.1 (1:Int)))) 1))]) (p.add 0 (p.nat (p.ar .sub .i64 a.2.2.2.2.1 (1:Int)))) [(D.int .i64 (p.rdI a.1 (p.add 0 (p.nat a.2.2.2.2.1)) 0)),(D.int .i64 (p.rdI a.1 (p.add 0 (p.nat a.2.2.2.2.1)) 1))]),(a.2.1,(a.2.2.1,(a.2.2.2.1,((p.ar .sub .i64 a.2.2.2.2.1 (1:Int)),()))))))) (
 opt.need _ (p.eqN 0 0)<|
 opt.need _ (p.eqN (p.len a.1) (p.len a.1))<|
 opt.ret _ (Sum.inr (a.1,(a.2.1,(a.2.2.1,(a.2.2.2.1,()))))))) (
 opt.need _ (p.eqN 0 0)<|
 opt.need _ (p.eqN (p.len a.1) (p.len a.1))<|
 opt.ret _ (Sum.inr (a.1,(a.2.1,(a.2.2.1,(a.2.2.2.1,())))))))
def z9a (it:It) (p:Prim):(LD×T6)→Option ((LD×T6)⊕(LD×Unit)):=
 fun a=>opt.run _ (
 opt.ask _ (p.cmp .lss a.2.2.2.1 a.2.2.1) (
 opt.need _ (p.eqN 0 0)<|
 opt.need _ (p.eqN (p.len a.1) (p.len a.1))<|
 opt.bnd ((LD×T6)) _ (
 it _ _ (z9c p) (a.1,(a.2.1,(a.2.2.1,(a.2.2.2.1,(a.2.2.2.1,())))))) fun b=>
 opt.need _ (p.eqN 0 0)<|
 opt.need _ (p.eqN (p.len b.1) (p.len b.1))<|
 opt.ret _ (Sum.inl (b.1,(b.2.1,(b.2.2.1,((p.ar .add .i64 b.2.2.2.1 (1:Int)),())))))) (
 opt.ret _ (Sum.inr (a.1,()))))
def w0b (it:It):(p:Prim)→(LD×T4)→Option ((LD×Unit)):=
 fun p x=>
 opt.need _ (p.eqN 0 0)<|
 opt.need _ (p.eqN (p.len x.1) (p.len x.1))<|
 opt.bnd ((LD×Unit)) _ (
 it _ _ (z9a it p) (x.1,(x.2.1,(x.2.2.1,((p.ar .add .i64 x.2.1 (1:Int)),()))))) fun a=>
 opt.ret _ (a.1,())
def w17:=w0b it0
theorem v1o:CtrOk PG w09 (w17 std):=okF (a:=v5v) (l:=v24) (gC v7m (gN)) (by kernel_rfl) fun _ _=>by kernel_rfl
def w1d:Ctr:=
 ⟨104,[.vec 0 2, .int .i64, .int .i64, .int .i64, .clo 98 [] []],[.row [ci,ci]],[(.ret,⟨[(0, .tuple [])],[.row [ci,ci]],1⟩)]⟩
def v29:List LA:=
 [⟨104,[false,true,true],1,⟨⟨[(0, .vec 0 2),(1, .int .i64),(2, .int .i64),(3, .int .i64),(4, .clo 98 [] []),(10, .bool),(11, .bool)],[.row [ci,ci]],148⟩,[(AX.ret,⟨[],[.row [ci,ci]],148⟩)]⟩⟩]
def v3j:List JA:=
 []
def w8q:List CF:=
 [⟨y9a,v6o⟩,⟨y9c,v6q⟩,⟨y9e,v6s⟩,⟨w09,w17⟩]
def v5z:Anns:=
 ⟨w8q,v3j,[]⟩
def y5t (it:It) (p:Prim):(LD×T35)→Option ((LD×T35)⊕(LD×Unit)):=
 fun a=>opt.run _ (
 opt.ask _ (p.cmp .leq (p.ar .sub .i64 a.2.2.1 a.2.1) (12:Int)) (
 opt.need _ (p.eqN 0 0)<|
 opt.need _ (p.eqN (p.len a.1) (p.len a.1))<|
 opt.bnd ((LD×Unit)) _ (w0b it p (a.1,(a.2.1,(a.2.2.1,())))) fun b=>
 opt.ret _ (Sum.inr (b.1,()))) (
 opt.ask _ (p.cmp .eql a.2.2.2.1 (0:Int)) (
 opt.need _ (p.eqN 0 0)<|
 opt.need _ (p.eqN (p.len a.1) (p.len a.1))<|
 opt.no _ 81) (
 opt.ask _ (bif a.2.2.2.2.1 then Bool.false else Bool.true) (
 opt.need _ (p.eqN 0 0)<|
 opt.need _ (p.eqN (p.len a.1) (p.len a.1))<|
 opt.no _ 81) (
 opt.need _ (p.eqN 0 0)<|
 opt.need _ (p.eqN (p.len a.1) (p.len a.1))<|
 opt.no _ 81))))
def w0d (it:It):(p:Prim)→(LD×T6)→Option ((LD×Unit)):=
 fun p x=>
 opt.need _ (p.eqN 0 0)<|
 opt.need _ (p.eqN (p.len x.1) (p.len x.1))<|
 opt.bnd ((LD×Unit)) _ (
 it _ _ (y5t it p) (x.1,(x.2.1,(x.2.2.1,(x.2.2.2.1,(Bool.true,(Bool.true,()))))))) fun a=>
 opt.ret _ (a.1,())
def v6k:=w0d it0
theorem v1s:CtrOk PG w1d (v6k std):=okF (a:=v5z) (l:=v29) (gC v1i (gC v1k (gC v1m (gC v1o (gN))))) (by kernel_rfl) fun _ _=>by kernel_rfl
def w02:Ctr:=
 ⟨97,[.vec 0 2, .clo 98 [] []],[.row [ci,ci]],[(.ret,⟨[(0, .tuple [])],[.row [ci,ci]],1⟩)]⟩
def v2z:List LA:=
 []
def v3b:List JA:=
 []
def w8g:List CF:=
 [⟨w1d,v6k⟩,⟨w1b,w5n⟩]
def v5r:Anns:=
 ⟨w8g,v3b,[]⟩
def x7m (it:It):(p:Prim)→(LD×Unit)→Option ((LD×Unit)):=
 fun p x=>
 opt.bnd T0 _ (w5n p ((p.cvt .u64 (p.ofNat (p.len x.1))),())) fun a=>
 opt.need _ (p.eqN 0 0)<|
 opt.need _ (p.eqN (p.len x.1) (p.len x.1))<|
 opt.bnd ((LD×Unit)) _ (w0d it p (x.1,((0:Int),((p.ofNat (p.len x.1)),(a.1,()))))) fun b=>
 opt.ret _ (b.1,())
def w5j:=x7m it0
theorem w50:CtrOk PG w02 (w5j std):=okF (a:=v5r) (l:=v2z) (gC v1s (gC v1q (gN))) (by kernel_rfl) fun _ _=>by kernel_rfl
end Go.Am
end
section
namespace Go.Proofs
open Go.RowKit Go.Sort Go.Shelf
def x3y:Go.Shelf.Ren:=⟨fun|57=>123|46=>118|48=>120|47=>119|50=>122|49=>121|29=>117|28=>116|27=>115|26=>114|25=>113|24=>112|23=>111|22=>110|21=>109|20=>108|14=>104|15=>105|6=>97|n=>n,fun|77=>172|76=>171|66=>165|70=>169|9=>9|5=>5|55=>164|53=>162|50=>159|45=>154|46=>155|4=>4|0=>0|39=>149|3=>3|25=>131|24=>86|22=>82|n=>n,fun|n=>n⟩
theorem x5k : Go.Proofs.SlLaysF0.n6 Try.prog x3y :=
  { mixed := by kernel_rfl,
    f6 := by first | exact ⟨Try.f97.name, by decide, Try.func97.trans (congrArg some (by kernel_rfl))⟩ | exact Try.func97.trans (congrArg some (by kernel_rfl)),
    f14 := by first | exact ⟨Try.f104.name, by decide, Try.func104.trans (congrArg some (by kernel_rfl))⟩ | exact Try.func104.trans (congrArg some (by kernel_rfl)),
    f15 := by first | exact ⟨Try.f105.name, by decide, Try.func105.trans (congrArg some (by kernel_rfl))⟩ | exact Try.func105.trans (congrArg some (by kernel_rfl)),
    f20 := by first | exact ⟨Try.f108.name, by decide, Try.func108.trans (congrArg some (by kernel_rfl))⟩ | exact Try.func108.trans (congrArg some (by kernel_rfl)),
    f21 := by first | exact ⟨Try.f109.name, by decide, Try.func109.trans (congrArg some (by kernel_rfl))⟩ | exact Try.func109.trans (congrArg some (by kernel_rfl)),
    f22 := by first | exact ⟨Try.f110.name, by decide, Try.func110.trans (congrArg some (by kernel_rfl))⟩ | exact Try.func110.trans (congrArg some (by kernel_rfl)),
    f23 := by first | exact ⟨Try.f111.name, by decide, Try.func111.trans (congrArg some (by kernel_rfl))⟩ | exact Try.func111.trans (congrArg some (by kernel_rfl)),
    f24 := by first | exact ⟨Try.f112.name, by decide, Try.func112.trans (congrArg some (by kernel_rfl))⟩ | exact Try.func112.trans (congrArg some (by kernel_rfl)),
    f25 := by first | exact ⟨Try.f113.name, by decide, Try.func113.trans (congrArg some (by kernel_rfl))⟩ | exact Try.func113.trans (congrArg some (by kernel_rfl)),
    f26 := by first | exact ⟨Try.f114.name, by decide, Try.func114.trans (congrArg some (by kernel_rfl))⟩ | exact Try.func114.trans (congrArg some (by kernel_rfl)),
    f27 := by first | exact ⟨Try.f115.name, by decide, Try.func115.trans (congrArg some (by kernel_rfl))⟩ | exact Try.func115.trans (congrArg some (by kernel_rfl)),
    f28 := by first | exact ⟨Try.f116.name, by decide, Try.func116.trans (congrArg some (by kernel_rfl))⟩ | exact Try.func116.trans (congrArg some (by kernel_rfl)),
    f29 := by first | exact ⟨Try.f117.name, by decide, Try.func117.trans (congrArg some (by kernel_rfl))⟩ | exact Try.func117.trans (congrArg some (by kernel_rfl)),
    f46 := by first | exact ⟨Try.f118.name, by decide, Try.func118.trans (congrArg some (by kernel_rfl))⟩ | exact Try.func118.trans (congrArg some (by kernel_rfl)),
    f47 := by first | exact ⟨Try.f119.name, by decide, Try.func119.trans (congrArg some (by kernel_rfl))⟩ | exact Try.func119.trans (congrArg some (by kernel_rfl)),
    f48 := by first | exact ⟨Try.f120.name, by decide, Try.func120.trans (congrArg some (by kernel_rfl))⟩ | exact Try.func120.trans (congrArg some (by kernel_rfl)),
    f49 := by first | exact ⟨Try.f121.name, by decide, Try.func121.trans (congrArg some (by kernel_rfl))⟩ | exact Try.func121.trans (congrArg some (by kernel_rfl)),
    f50 := by first | exact ⟨Try.f122.name, by decide, Try.func122.trans (congrArg some (by kernel_rfl))⟩ | exact Try.func122.trans (congrArg some (by kernel_rfl)),
    f57 := by first | exact ⟨Try.f123.name, by decide, Try.func123.trans (congrArg some (by kernel_rfl))⟩ | exact Try.func123.trans (congrArg some (by kernel_rfl)),
    t0 := by exact Try.underlying0,
    a0 := by exact Try.isAgg0,
    z0 := by exact Try.sizeOf0,
    v0 := by exact Try.zeroValue0,
    t3 := by exact Try.underlying3,
    a3 := by exact Try.isAgg3,
    z3 := by exact Try.sizeOf3,
    v3 := by exact Try.zeroValue3,
    t4 := by exact Try.underlying4,
    a4 := by exact Try.isAgg4,
    z4 := by exact Try.sizeOf4,
    v4 := by exact Try.zeroValue4,
    t5 := by exact Try.underlying5,
    a5 := by exact Try.isAgg5,
    z5 := by exact Try.sizeOf5,
    v5 := by exact Try.zeroValue5,
    t9 := by exact Try.underlying9,
    a9 := by exact Try.isAgg9,
    z9 := by exact Try.sizeOf9,
    v9 := by exact Try.zeroValue9,
    t22 := by exact Try.underlying82,
    a22 := by exact Try.isAgg82,
    z22 := by exact Try.sizeOf82,
    v22 := by exact Try.zeroValue82,
    t25 := by exact Try.underlying131,
    a25 := by exact Try.isAgg131,
    z25 := by exact Try.sizeOf131,
    v25 := by exact Try.zeroValue131,
    t39 := by exact Try.underlying149,
    a39 := by exact Try.isAgg149,
    z39 := by exact Try.sizeOf149,
    v39 := by exact Try.zeroValue149,
    t45 := by exact Try.underlying154,
    a45 := by exact Try.isAgg154,
    z45 := by exact Try.sizeOf154,
    v45 := by exact Try.zeroValue154,
    t46 := by exact Try.underlying155,
    a46 := by exact Try.isAgg155,
    z46 := by exact Try.sizeOf155,
    v46 := by exact Try.zeroValue155,
    t50 := by exact Try.underlying159,
    a50 := by exact Try.isAgg159,
    z50 := by exact Try.sizeOf159,
    v50 := by exact Try.zeroValue159,
    t53 := by exact Try.underlying162,
    a53 := by exact Try.isAgg162,
    z53 := by exact Try.sizeOf162,
    v53 := by exact Try.zeroValue162,
    t55 := by exact Try.underlying164,
    a55 := by exact Try.isAgg164,
    z55 := by exact Try.sizeOf164,
    v55 := by exact Try.zeroValue164,
    t66 := by exact Try.underlying165,
    a66 := by exact Try.isAgg165,
    z66 := by exact Try.sizeOf165,
    v66 := by exact Try.zeroValue165,
    t70 := by exact Try.underlying169,
    a70 := by exact Try.isAgg169,
    z70 := by exact Try.sizeOf169,
    v70 := by exact Try.zeroValue169,
    t76 := by exact Try.underlying171,
    a76 := by exact Try.isAgg171,
    z76 := by exact Try.sizeOf171,
    v76 := by exact Try.zeroValue171,
    t77 := by exact Try.underlying172,
    a77 := by exact Try.isAgg172,
    z77 := by exact Try.sizeOf172,
    v77 := by exact Try.zeroValue172 }
end Go.Proofs
namespace Go.Am
open Go.Proofs Go.Sort Go.Shelf M06
theorem x4d {a b:Int}:x17 a b<0↔a<b:=by unfold x17; omega
theorem w1o {a b:Int}:x17 a b≠0↔a≠b:=by unfold x17; omega
theorem y8w {α:Type} {cf:α→α→Int} {x y:α}:ltOf cf x y=true↔cf x y<0:=decide_eq_true_iff
theorem w28 {x y:Int×Int}:x3m x y<0↔Lt x y:=by
 simp only [Lt,Pos,sb]
 unfold x3m
 by_cases h:x.1=y.1
 ·have:¬ x17 x.1 y.1≠0:=by rw [w1o]; omega
  rw [if_neg this,x4d]; omega
 ·have:x17 x.1 y.1≠0:=by rw [w1o]; omega
  rw [if_pos this,x4d]; omega
theorem z8w {x y:Int×Int}:ltOf x3m x y=true↔Lt x y:=y8w.trans w28
theorem x2z:SWO (ltOf x3m) where
 irrefl:=fun x=>by
  cases h:ltOf x3m x x with
  |false=>rfl
  |true=>exact (z8w.1 h).irrefl.elim
 trans:=fun x y z h1 h2=>z8w.2 ((z8w.1 h1).trans (z8w.1 h2))
 ntrans:=fun x y z h1 h2=>by
  cases h:ltOf x3m x z with
  |false=>rfl
  |true=>
   have h:=z8w.1 h
   have a:¬ Lt x y:=fun k=>by rw [z8w.2 k] at h1; cases h1
   have b:¬ Lt y z:=fun k=>by rw [z8w.2 k] at h2; cases h2
   exfalso
   rcases x5i x y with k|k|k
   ·exact a k
   ·exact b (k▸h)
   ·exact b (k.trans h)
abbrev Wy:Type:={ p:Int×Int // z3s p∧p≠(0,0) }
instance:Inhabited Wy:=⟨⟨(1,0),by unfold z3s; decide,by decide⟩⟩
def ng2 (a:Pt):Pt:=(-a.1, -a.2)
theorem z8h {p:Int×Int} (h:p≠(0,0)):(z2l p=false↔Pos p)∧(z2l p=true↔Pos (ng2 p)):=by
 obtain ⟨a,b⟩:=p
 have h:¬ (a=0∧b=0):=by simpa using h
 simp only [z2l,decide_eq_false_iff_not,decide_eq_true_eq,Pos,ng2]
 omega
theorem w4x {c:Int}:x17 0 c<0↔0<c:=x4d
theorem x0g {x y:Int×Int}:z57 x y<0↔(z2l x=false∧z2l y=true)∨(z2l x=z2l y∧0<crs x y):=by
 unfold z57
 have e:crs x y=x.1*y.2 - x.2*y.1:=rfl
 rw [e]
 cases hx:z2l x<;>cases hy:z2l y<;>simp [w4x]
theorem z5t {x y:Wy}:ltOf (fun x y:Wy=>z57 x.1 y.1) x y=true↔(z2l x.1=false∧z2l y.1=true)∨(z2l x.1=z2l y.1∧0<crs x.1 y.1):=y8w.trans x0g
theorem crs_ng (u v:Pt):crs (ng2 u) (ng2 v)=crs u v:=by simp only [crs,ng2]; grind
theorem y11 {x y z:Wy} (hxy:z2l x.1=z2l y.1) (hyz:z2l y.1=z2l z.1) (h1:0≤crs x.1 y.1) (h2:0≤crs y.1 z.1):0≤crs x.1 z.1∧(0<crs x.1 y.1∨0<crs y.1 z.1→0<crs x.1 z.1):=by
 cases hx:z2l x.1 with
 |false=>
  have a:=(z8h x.2.2).1.1 hx
  have b:=(z8h y.2.2).1.1 (hxy▸hx)
  have c:=(z8h z.2.2).1.1 (hyz▸hxy▸hx)
  exact ⟨z87 a b c h1 h2,z2w a b c h1 h2⟩
 |true=>
  have a:=(z8h x.2.2).2.1 hx
  have b:=(z8h y.2.2).2.1 (hxy▸hx)
  have c:=(z8h z.2.2).2.1 (hyz▸hxy▸hx)
  rw [←crs_ng] at h1 h2
  rw [←crs_ng x.1 z.1, ←crs_ng x.1 y.1, ←crs_ng y.1 z.1]
  exact ⟨z87 a b c h1 h2,z2w a b c h1 h2⟩
theorem z8g (u v:Pt):crs u v= - crs v u:=by simp only [crs]; grind
theorem y78:SWO (ltOf (fun x y:Wy=>z57 x.1 y.1)) where
 irrefl:=fun x=>by
  cases h:ltOf (fun x y:Wy=>z57 x.1 y.1) x x with
  |false=>rfl
  |true=>
   rcases z5t.1 h with ⟨a,b⟩|⟨_,b⟩
   ·rw [a] at b; cases b
   ·have:=z8g x.1 x.1; omega
 trans:=fun x y z h1 h2=>by
  rcases z5t.1 h1 with ⟨a,b⟩|⟨a,b⟩<;>rcases z5t.1 h2 with ⟨c,d⟩|⟨c,d⟩
  ·rw [b] at c; cases c
  ·exact z5t.2 (.inl ⟨a,c▸b⟩)
  ·exact z5t.2 (.inl ⟨a▸c,d⟩)
  ·exact z5t.2 (.inr ⟨a.trans c,(y11 a c (by omega) (by omega)).2 (.inl b)⟩)
 ntrans:=fun x y z h1 h2=>by
  cases h:ltOf (fun x y:Wy=>z57 x.1 y.1) x z with
  |false=>rfl
  |true=>
   exfalso
   have n1:¬ ((z2l x.1=false∧z2l y.1=true)∨(z2l x.1=z2l y.1∧0<crs x.1 y.1)):=fun k=>by rw [z5t.2 k] at h1; cases h1
   have n2:¬ ((z2l y.1=false∧z2l z.1=true)∨(z2l y.1=z2l z.1∧0<crs y.1 z.1)):=fun k=>by rw [z5t.2 k] at h2; cases h2
   have n3:=z5t.1 h
   cases hx:z2l x.1<;>cases hy:z2l y.1<;>cases hz:z2l z.1<;>rw [hx,hy] at n1<;>rw [hy,hz] at n2<;>rw [hx,hz] at n3<;>simp at n1 n2 n3
   ·have e1:=z8g x.1 y.1; have e2:=z8g y.1 z.1; have e3:=z8g x.1 z.1
    have:=(y11 (x:=z) (y:=y) (z:=x) (by rw [hz,hy]) (by rw [hy,hx]) (by omega) (by omega)).1
    omega
   ·have e1:=z8g x.1 y.1; have e2:=z8g y.1 z.1; have e3:=z8g x.1 z.1
    have:=(y11 (x:=z) (y:=y) (z:=x) (by rw [hz,hy]) (by rw [hy,hx]) (by omega) (by omega)).1
    omega
theorem v1d {α:Type} (f:α→Int×Int):∀ x,∀ v∈y7q f x,v.oneCell'=true:=by
 intro x v hv
 simp only [y7q,List.mem_cons,List.not_mem_nil,or_false] at hv
 rcases hv with rfl|rfl<;>rfl
theorem x6v:y9u Go.Proofs.Try.prog 97 87 x3m id:=fun blk off cap d w hc hH hb hs=>
 AnyQ.slices_SortFunc_eq x5k 2 Try.isAgg86 Try.sizeOf86 (y7q id) (fun _=>rfl) (v1d id) x3m x2z 87 #[] blk off cap d w (fun args w=>w4e args w) hc hH hb hs
theorem x6u:y9u Go.Proofs.Try.prog 97 98 (fun x y:Wy=>z57 x.1 y.1) Subtype.val:=fun blk off cap d w hc hH hb hs=>
 AnyQ.slices_SortFunc_eq x5k 2 Try.isAgg86 Try.sizeOf86 (y7q Subtype.val) (fun _=>rfl) (v1d Subtype.val) _ y78 98 #[] blk off cap d w (fun args w=>w4d args w) hc hH hb hs
theorem u0n (x y:Int×Int):z90 Go.Proofs.Try.prog 87 (toA [.agg (z38 id x), .agg (z38 id y)]) [] (.d (.int .i64 (x3m x y))) []:=
 (u1r.2 (x.1,x.2,y.1,y.2,()) (x3m x y,()) (w6r x y)).2
theorem u0m (x y:Wy):z90 Go.Proofs.Try.prog 98 (toA [.agg (z38 Subtype.val x), .agg (z38 Subtype.val y)]) [] (.d (.int .i64 (z57 x.1 y.1))) []:=
 (v7m.2 (x.1.1,x.1.2,y.1.1,y.1.2,()) (z57 x.1 y.1,()) (w16 x.2.1 y.2.1)).2
def dPt:List D→Option (Int×Int)
 |[.int .i64 a, .int .i64 b]=>some (a,b)
 |_=>none
def w6b:List (List D)→Option (List (Int×Int))
 |[]=>some []
 |r::l=>match dPt r,w6b l with
  |some p,some t=>some (p::t)
  |_,_=>none
theorem v4b {r:List D} {p:Int×Int} (h:dPt r=some p):r=z38 id p:=by
 unfold dPt at h
 split at h
 ·cases h; rfl
 ·cases h
theorem x39:∀ {es:List (List D)} {l:List (Int×Int)},w6b es=some l→es=l.map (z38 id)
 |[],l,h=>by cases h; rfl
 |r::es,l,h=>by
  simp only [w6b] at h
  cases hp:dPt r with
  |none=>rw [hp] at h; cases h
  |some p=>
   rw [hp] at h
   cases ht:w6b es with
   |none=>rw [ht] at h; cases h
   |some t=>
    rw [ht] at h; cases h
    rw [List.map_cons, ←v4b hp, ←x39 ht]
instance (p:Int×Int):Decidable (z3s p):=by unfold z3s; infer_instance
def dWy:List (Int×Int)→Option (List Wy)
 |[]=>some []
 |p::l=>match dWy l with
  |some t=>if h:z3s p∧p≠(0,0) then some (⟨p,h⟩::t) else none
  |none=>none
theorem w6a:∀ {l:List (Int×Int)} {t:List Wy},dWy l=some t→l=t.map Subtype.val
 |[],t,h=>by cases h; rfl
 |p::l,t,h=>by
  simp only [dWy] at h
  cases ht:dWy l with
  |none=>rw [ht] at h; cases h
  |some u=>
   rw [ht] at h
   simp only at h
   split at h
   ·cases h; rw [w6a ht]; rfl
   ·cases h
def v7k (x:List (List D)×Unit):Option (List (List D)×Unit):=
 match w6b x.1 with
 |some (p::l)=>if l.length≤1000000 then some ((pdq (ltOf x3m) (p::l).toArray 0 (p::l).toArray.size (Lib.bitLen (p::l).toArray.size) true true).toList.map (z38 id),()) else none
 |_=>none
def v1b (x:List (List D)×Unit):Option (List (List D)×Unit):=
 match (w6b x.1).bind dWy with
 |some (p::l)=>if l.length≤1000000 then some ((pdq (ltOf (fun x y:Wy=>z57 x.1 y.1)) (p::l).toArray 0 (p::l).toArray.size (Lib.bitLen (p::l).toArray.size) true true).toList.map (z38 Subtype.val),()) else none
 |_=>none
noncomputable def x6c:Ctr:=w03
noncomputable def x6b:Ctr:=w02
noncomputable def v3v (it:It):(p:Prim)→(List (List (Go.Am.D))×Unit)→Option ((List (List (Go.Am.D))×Unit)):=
 fun p x=>bif Nat.ble x.1.length 12 then (w0a it p x) else (v7k x)
noncomputable def u2r:=v3v it0
noncomputable def u2v:Prim→Tup (x6c).scs→Option (STup (scss (x6c).outs)):=
 fun p x=>u2r p x
noncomputable def v3u (it:It):(p:Prim)→(List (List (Go.Am.D))×Unit)→Option ((List (List (Go.Am.D))×Unit)):=
 fun p x=>bif Nat.ble x.1.length 12 then (x7m it p x) else (v1b x)
noncomputable def u2q:=v3u it0
noncomputable def u2u:Prim→Tup (x6b).scs→Option (STup (scss (x6b).outs)):=
 fun p x=>u2q p x
theorem v7o:CtrOk Go.Proofs.Try.prog x6c (u2v std):=by
 refine ⟨w51.1,fun x y hy=>?_⟩
 obtain ⟨es,u⟩:=x
 change (bif Nat.ble es.length 12 then (w5k std (es,())) else v7k (es,()))=some y at hy
 cases hb:Nat.ble es.length 12 with
 |true=>rw [hb] at hy; exact w51.2 (es,()) y hy
 |false=>
  rw [hb] at hy
  simp only [cond_false,v7k] at hy
  split at hy
  ·rename_i p l hd
   split at hy
   ·rename_i hl
    cases hy
    have he:=x39 hd
    have key:=x01 (P:=Go.Proofs.Try.prog) x2z x6v u0n (d:=(p::l).toArray) (by simp) (by simp; omega) (some (p::l).toArray.size)
    have hes:es=(p::l).toArray.toList.map (z38 id):=he
    have hlen:(p::l).toArray.size=es.length:=by rw [he]; simp
    rw [←hes] at key
    refine ⟨by show 1≤1; omega,?_⟩
    have key':=key
    rw [hlen] at key'
    rw [hlen]
    exact key'
   ·cases hy
  ·cases hy
theorem v7n:CtrOk Go.Proofs.Try.prog x6b (u2u std):=by
 refine ⟨w50.1,fun x y hy=>?_⟩
 obtain ⟨es,u⟩:=x
 change (bif Nat.ble es.length 12 then (w5j std (es,())) else v1b (es,()))=some y at hy
 cases hb:Nat.ble es.length 12 with
 |true=>rw [hb] at hy; exact w50.2 (es,()) y hy
 |false=>
  rw [hb] at hy
  simp only [cond_false,v1b] at hy
  split at hy
  ·rename_i p l hd
   split at hy
   ·rename_i hl
    cases hy
    obtain ⟨ps,h1,h2⟩:=Option.bind_eq_some_iff.1 hd
    have he:=x39 h1
    have he2:=w6a h2
    have key:=x01 (P:=Go.Proofs.Try.prog) y78 x6u u0m (d:=(p::l).toArray) (by simp) (by simp; omega) none
    have hes:es=(p::l).toArray.toList.map (z38 Subtype.val):=by
     rw [he,he2,List.map_map]; rfl
    have hlen:(p::l).toArray.size=es.length:=by rw [hes]; simp
    rw [←hes] at key
    refine ⟨by show 1≤1; omega,?_⟩
    have key':=key
    rw [hlen] at key'
    rw [hlen]
    exact key'
   ·cases hy
  ·cases hy
end Go.Am
end
section
namespace Go.Am
open M06 Go.Sort Go.Proofs
namespace Sorto
theorem it0_eq {S R:Type} (b:S→Option (S⊕R)) (s:S):it0 S R b s=z4m b s:=rfl
section
variable {α:Type} [Inhabited α]
def encA (tp:α→Pt) (d:Array α):List (List D):=d.toList.map (z38 tp)
theorem encA_get {tp:α→Pt} {d:Array α} {j:Nat} (h:j<d.size):(encA tp d)[j]?=some (z38 tp d[j]!):=by
 simp [encA,h]
theorem encA_len (tp:α→Pt) (d:Array α):(encA tp d).length=d.size:=by simp [encA]
theorem swp_size (d:Array α) (i j:Nat):(swp d i j).size=d.size:=by simp [swp]
theorem encA_swp {tp:α→Pt} {d:Array α} {i j:Nat}:encA tp (swp d i j)=((encA tp d).set i (z38 tp d[j]!)).set j (z38 tp d[i]!):=by
 simp [encA,swp,List.map_set]
theorem insInner_size (lt:α→α→Bool) (a:Nat):∀ (j:Nat) (d:Array α),(insInner lt a j d).size=d.size
 |0,d=>rfl
 |j+1,d=>by
  simp only [insInner]
  split
  ·rw [insInner_size lt a j,swp_size]
  ·rfl
theorem cells_enR2 (tp:α→Pt) (x:α):z3m [CK.int IntKind.i64,CK.int IntKind.i64] (z38 tp x)=true:=rfl
theorem dI_enR20 (tp:α→Pt) (x:α):dI ((z38 tp x)[0]?.getD D.nilp)=(tp x).1:=rfl
theorem dI_enR21 (tp:α→Pt) (x:α):dI ((z38 tp x)[1]?.getD D.nilp)=(tp x).2:=rfl
theorem x7k {tp:α→Pt} {cf:α→α→Int} (hcf:∀ x y:α,G87 std ((tp x).1,(tp x).2,(tp y).1,(tp y).2,())=some (cf x y,())) (b i:Int):
  ∀ (j:Nat) (d:Array α),j<d.size→d.size≤1000000→z4m (z65 it0 std) (encA tp d,(0:Int),b,i,(j:Int),())=some (encA tp (insInner (ltOf cf) 0 j d),(0:Int),b,i,()):=by
 intro j
 induction j with
 |zero=>
  intro d hj hs
  rw [z0k]
  have:z65 it0 std (encA tp d,(0:Int),b,i,((0:Nat):Int),())=some (.inr (encA tp d,(0:Int),b,i,())):=by
   have hn:¬ ((0:Nat):Int)>0:=by omega
   simp only [z65,z01,z02,hn]
  rw [this]; rfl
 |succ j ih=>
  intro d hj hs
  rw [z0k]
  have hx:=encA_get (tp:=tp) hj
  have hy:=encA_get (tp:=tp) (show j<d.size by omega)
  have hl:=encA_len tp d
  have hw:IntKind.i64.wrap (((j+1:Nat):Int) - 1)=(j:Int):=by rw [z1k]<;>omega
  have hg:((j+1:Nat):Int)>0:=by omega
  have h0:((j+1:Nat):Int)≥0:=by omega
  have h1:((j+1:Nat):Int)<(d.size:Int):=by omega
  have h2:(j:Int)≥0:=by omega
  have h3:(j:Int)<(d.size:Int):=by omega
  have hsj:((encA tp d).set (j+1) (z38 tp d[j]!))[j]?=some (z38 tp d[j]!):=by
   rw [List.getElem?_set_ne (by omega),hy]
  have hc:=hcf d[j+1]! d[j]!
  unfold G87 at hc
  have hrow:∀ x:α,[D.int IntKind.i64 (tp x).1,D.int IntKind.i64 (tp x).2]=z38 tp x:=fun _=>rfl
  simp only [insInner]
  have hgt:(j+1>0):=by omega
  by_cases hlt:cf d[j+1]! d[j]! <0
  ·have hb:z65 it0 std (encA tp d,(0:Int),b,i,((j+1:Nat):Int),())=some (.inl (encA tp (swp d (j+1) j),(0:Int),b,i,(j:Int),())):=by
    simp only [z65,z01,z02,cells_enR2,dI_enR20,dI_enR21,z0o,hg,h0,h1,h2,h3,hw,hx,hy,hl,hc,hlt,hrow,hsj,List.length_set,encA_swp]
   rw [hb]
   have:=ih (swp d (j+1) j) (by rw [swp_size]; omega) (by rw [swp_size]; exact hs)
   simp only [this]
   have:(decide (j+1>0)&&ltOf cf d[j+1]! d[j]!)=true:=by simp [ltOf,hlt]
   rw [if_pos this]
  ·have hb:z65 it0 std (encA tp d,(0:Int),b,i,((j+1:Nat):Int),())=some (.inr (encA tp d,(0:Int),b,i,())):=by
    simp only [z65,z01,z02,cells_enR2,dI_enR20,dI_enR21,z0o,hg,h0,h1,h2,h3,hw,hx,hy,hl,hc,hlt,hrow,hsj,List.length_set]
   rw [hb]
   have:¬ (decide (j+1>0)&&ltOf cf d[j+1]! d[j]!)=true:=by simp [ltOf]; omega
   rw [if_neg this]
theorem x7j {tp:α→Pt} {cf:α→α→Int} (hcf:∀ x y:α,G87 std ((tp x).1,(tp x).2,(tp y).1,(tp y).2,())=some (cf x y,())) (n:Nat) (hn:n≤1000000):
  ∀ (k i:Nat) (d:Array α),n - i=k→d.size=n→z4m (z9b it0 std) (encA tp d,(0:Int),(n:Int),(i:Int),())=some (encA tp (insOuter (ltOf cf) 0 n i d),()):=by
 intro k
 induction k with
 |zero=>
  intro i d hk hs
  rw [z0k,insOuter,if_neg (by omega)]
  have:z9b it0 std (encA tp d,(0:Int),(n:Int),(i:Int),())=some (.inr (encA tp d,())):=by
   have hnn:¬ (i:Int)<(n:Int):=by omega
   simp only [z9b,z01,z02,hnn]
  rw [this]
 |succ k ih=>
  intro i d hk hs
  rw [z0k,insOuter,if_pos (by omega)]
  have hin:=x7k hcf (n:Int) (i:Int) i d (by omega) (by omega)
  have hw:=z1g (i:=i) (by omega)
  have hlt:(i:Int)<(n:Int):=by omega
  have:z9b it0 std (encA tp d,(0:Int),(n:Int),(i:Int),())=some (.inl (encA tp (insInner (ltOf cf) 0 i d),(0:Int),(n:Int),((i+1:Nat):Int),())):=by
   simp only [z9b,it0_eq,z01,z02,hlt,hin,z0f,hw]
  rw [this]
  exact ih (i+1) _ (by omega) (by rw [insInner_size]; exact hs)
theorem w31 {tp:α→Pt} {cf:α→α→Int} (hcf:∀ x y:α,G87 std ((tp x).1,(tp x).2,(tp y).1,(tp y).2,())=some (cf x y,())) (d:Array α) (hn:d.size≤1000000):
  w18 std (encA tp d,(0:Int),(d.size:Int),())=some (encA tp (insertionSort (ltOf cf) d 0 d.size),()):=by
 have h:=x7j hcf d.size hn (d.size - 1) 1 d rfl rfl
 have hw:IntKind.i64.wrap ((0:Int)+1)=1:=by decide
 unfold w18
 simp only [w0c,it0_eq,z01,z02,z0f,hw]
 rw [show ((1:Int))=((1:Nat):Int) from rfl,h]
 rfl
theorem pdq_small (lt:α→α→Bool) (d:Array α) (hd:d.size≤12) (l:Nat) (u v:Bool):pdq lt d 0 d.size l u v=insertionSort lt d 0 d.size:=by
 rw [pdq,if_pos (by omega)]
theorem sorto_small {tp:α→Pt} {cf:α→α→Int} (hcf:∀ x y:α,G87 std ((tp x).1,(tp x).2,(tp y).1,(tp y).2,())=some (cf x y,())) (d:Array α) (hd:d.size≤12):
  w5k std (encA tp d,())=some (encA tp (pdq (ltOf cf) d 0 d.size (Lib.bitLen d.size) true true),()):=by
 have h:=w31 hcf d (by omega)
 unfold w18 at h
 have hl:=encA_len tp d
 have h105:∃ y,w5o std (IntKind.u64.wrap (d.size:Int),())=some y:=by
  have hs:d.size=0∨d.size=1∨d.size=2∨d.size=3∨d.size=4∨d.size=5∨d.size=6∨d.size=7∨d.size=8∨d.size=9∨d.size=10∨d.size=11∨d.size=12:=by omega
  rcases hs with h|h|h|h|h|h|h|h|h|h|h|h|h<;>rw [h]<;>exact ⟨_,rfl⟩
 obtain ⟨y,h105⟩:=h105
 have hw:IntKind.i64.wrap ((d.size:Int) - 0)=(d.size:Int):=by rw [z1k]<;>omega
 have h12:(d.size:Int)≤12:=by omega
 have hb:∀ q:Int,y5u it0 std (encA tp d,(0:Int),(d.size:Int),q,true,true,())=some (.inr (encA tp (insertionSort (ltOf cf) d 0 d.size),())):=by
  intro q
  simp only [y5u,z01,z02,z0o,hw,h12,h]
 unfold w5k
 simp only [w0a,w0e,it0_eq,z01,z02,hl,h105]
 rw [z0k,hb,pdq_small _ _ hd]
 rfl
end
end Sorto
end Go.Am
end
section
namespace Go.Am
open M06 Go.Sort Go.Proofs
namespace Sortt
theorem it0_eq {S R:Type} (b:S→Option (S⊕R)) (s:S):it0 S R b s=z4m b s:=rfl
section
variable {α:Type} [Inhabited α]
def encA (tp:α→Pt) (d:Array α):List (List D):=d.toList.map (z38 tp)
theorem encA_get {tp:α→Pt} {d:Array α} {j:Nat} (h:j<d.size):(encA tp d)[j]?=some (z38 tp d[j]!):=by
 simp [encA,h]
theorem encA_len (tp:α→Pt) (d:Array α):(encA tp d).length=d.size:=by simp [encA]
theorem swp_size (d:Array α) (i j:Nat):(swp d i j).size=d.size:=by simp [swp]
theorem encA_swp {tp:α→Pt} {d:Array α} {i j:Nat}:encA tp (swp d i j)=((encA tp d).set i (z38 tp d[j]!)).set j (z38 tp d[i]!):=by
 simp [encA,swp,List.map_set]
theorem insInner_size (lt:α→α→Bool) (a:Nat):∀ (j:Nat) (d:Array α),(insInner lt a j d).size=d.size
 |0,d=>rfl
 |j+1,d=>by
  simp only [insInner]
  split
  ·rw [insInner_size lt a j,swp_size]
  ·rfl
theorem cells_enR2 (tp:α→Pt) (x:α):z3m [CK.int IntKind.i64,CK.int IntKind.i64] (z38 tp x)=true:=rfl
theorem dI_enR20 (tp:α→Pt) (x:α):dI ((z38 tp x)[0]?.getD D.nilp)=(tp x).1:=rfl
theorem dI_enR21 (tp:α→Pt) (x:α):dI ((z38 tp x)[1]?.getD D.nilp)=(tp x).2:=rfl
theorem x7i {tp:α→Pt} {cf:α→α→Int} (hcf:∀ x y:α,G98 std ((tp x).1,(tp x).2,(tp y).1,(tp y).2,())=some (cf x y,())) (b i:Int):
  ∀ (j:Nat) (d:Array α),j<d.size→d.size≤1000000→z4m (z9c std) (encA tp d,(0:Int),b,i,(j:Int),())=some (encA tp (insInner (ltOf cf) 0 j d),(0:Int),b,i,()):=by
 intro j
 induction j with
 |zero=>
  intro d hj hs
  rw [z0k]
  have:z9c std (encA tp d,(0:Int),b,i,((0:Nat):Int),())=some (.inr (encA tp d,(0:Int),b,i,())):=by
   have hn:¬ ((0:Nat):Int)>0:=by omega
   simp only [z9c,z01,z02,hn]
  rw [this]; rfl
 |succ j ih=>
  intro d hj hs
  rw [z0k]
  have hx:=encA_get (tp:=tp) hj
  have hy:=encA_get (tp:=tp) (show j<d.size by omega)
  have hl:=encA_len tp d
  have hw:IntKind.i64.wrap (((j+1:Nat):Int) - 1)=(j:Int):=by rw [z1k]<;>omega
  have hg:((j+1:Nat):Int)>0:=by omega
  have h0:((j+1:Nat):Int)≥0:=by omega
  have h1:((j+1:Nat):Int)<(d.size:Int):=by omega
  have h2:(j:Int)≥0:=by omega
  have h3:(j:Int)<(d.size:Int):=by omega
  have hsj:((encA tp d).set (j+1) (z38 tp d[j]!))[j]?=some (z38 tp d[j]!):=by
   rw [List.getElem?_set_ne (by omega),hy]
  have hc:=hcf d[j+1]! d[j]!
  have hrow:∀ x:α,[D.int IntKind.i64 (tp x).1,D.int IntKind.i64 (tp x).2]=z38 tp x:=fun _=>rfl
  simp only [insInner]
  have hgt:(j+1>0):=by omega
  by_cases hlt:cf d[j+1]! d[j]! <0
  ·have hb:z9c std (encA tp d,(0:Int),b,i,((j+1:Nat):Int),())=some (.inl (encA tp (swp d (j+1) j),(0:Int),b,i,(j:Int),())):=by
    simp only [z9c,z01,z02,cells_enR2,dI_enR20,dI_enR21,z0o,hg,h0,h1,h2,h3,hw,hx,hy,hl,hc,hlt,hrow,hsj,List.length_set,encA_swp]
   rw [hb]
   have:=ih (swp d (j+1) j) (by rw [swp_size]; omega) (by rw [swp_size]; exact hs)
   simp only [this]
   have:(decide (j+1>0)&&ltOf cf d[j+1]! d[j]!)=true:=by simp [ltOf,hlt]
   rw [if_pos this]
  ·have hb:z9c std (encA tp d,(0:Int),b,i,((j+1:Nat):Int),())=some (.inr (encA tp d,(0:Int),b,i,())):=by
    simp only [z9c,z01,z02,cells_enR2,dI_enR20,dI_enR21,z0o,hg,h0,h1,h2,h3,hw,hx,hy,hl,hc,hlt,hrow,hsj,List.length_set]
   rw [hb]
   have:¬ (decide (j+1>0)&&ltOf cf d[j+1]! d[j]!)=true:=by simp [ltOf]; omega
   rw [if_neg this]
theorem x7h {tp:α→Pt} {cf:α→α→Int} (hcf:∀ x y:α,G98 std ((tp x).1,(tp x).2,(tp y).1,(tp y).2,())=some (cf x y,())) (n:Nat) (hn:n≤1000000):
  ∀ (k i:Nat) (d:Array α),n - i=k→d.size=n→z4m (z9a it0 std) (encA tp d,(0:Int),(n:Int),(i:Int),())=some (encA tp (insOuter (ltOf cf) 0 n i d),()):=by
 intro k
 induction k with
 |zero=>
  intro i d hk hs
  rw [z0k,insOuter,if_neg (by omega)]
  have:z9a it0 std (encA tp d,(0:Int),(n:Int),(i:Int),())=some (.inr (encA tp d,())):=by
   have hnn:¬ (i:Int)<(n:Int):=by omega
   simp only [z9a,z01,z02,hnn]
  rw [this]
 |succ k ih=>
  intro i d hk hs
  rw [z0k,insOuter,if_pos (by omega)]
  have hin:=x7i hcf (n:Int) (i:Int) i d (by omega) (by omega)
  have hw:=z1g (i:=i) (by omega)
  have hlt:(i:Int)<(n:Int):=by omega
  have:z9a it0 std (encA tp d,(0:Int),(n:Int),(i:Int),())=some (.inl (encA tp (insInner (ltOf cf) 0 i d),(0:Int),(n:Int),((i+1:Nat):Int),())):=by
   simp only [z9a,it0_eq,z01,z02,hlt,hin,z0f,hw]
  rw [this]
  exact ih (i+1) _ (by omega) (by rw [insInner_size]; exact hs)
theorem w30 {tp:α→Pt} {cf:α→α→Int} (hcf:∀ x y:α,G98 std ((tp x).1,(tp x).2,(tp y).1,(tp y).2,())=some (cf x y,())) (d:Array α) (hn:d.size≤1000000):
  w17 std (encA tp d,(0:Int),(d.size:Int),())=some (encA tp (insertionSort (ltOf cf) d 0 d.size),()):=by
 have h:=x7h hcf d.size hn (d.size - 1) 1 d rfl rfl
 have hw:IntKind.i64.wrap ((0:Int)+1)=1:=by decide
 unfold w17
 simp only [w0b,it0_eq,z01,z02,z0f,hw]
 rw [show ((1:Int))=((1:Nat):Int) from rfl,h]
 rfl
theorem pdq_small (lt:α→α→Bool) (d:Array α) (hd:d.size≤12) (l:Nat) (u v:Bool):pdq lt d 0 d.size l u v=insertionSort lt d 0 d.size:=by
 rw [pdq,if_pos (by omega)]
theorem sortt_small {tp:α→Pt} {cf:α→α→Int} (hcf:∀ x y:α,G98 std ((tp x).1,(tp x).2,(tp y).1,(tp y).2,())=some (cf x y,())) (d:Array α) (hd:d.size≤12):
  w5j std (encA tp d,())=some (encA tp (pdq (ltOf cf) d 0 d.size (Lib.bitLen d.size) true true),()):=by
 have h:=w30 hcf d (by omega)
 unfold w17 at h
 have hl:=encA_len tp d
 have h105:∃ y,w5n std (IntKind.u64.wrap (d.size:Int),())=some y:=by
  have hs:d.size=0∨d.size=1∨d.size=2∨d.size=3∨d.size=4∨d.size=5∨d.size=6∨d.size=7∨d.size=8∨d.size=9∨d.size=10∨d.size=11∨d.size=12:=by omega
  rcases hs with h|h|h|h|h|h|h|h|h|h|h|h|h<;>rw [h]<;>exact ⟨_,rfl⟩
 obtain ⟨y,h105⟩:=h105
 have hw:IntKind.i64.wrap ((d.size:Int) - 0)=(d.size:Int):=by rw [z1k]<;>omega
 have h12:(d.size:Int)≤12:=by omega
 have hb:∀ q:Int,y5t it0 std (encA tp d,(0:Int),(d.size:Int),q,true,true,())=some (.inr (encA tp (insertionSort (ltOf cf) d 0 d.size),())):=by
  intro q
  simp only [y5t,z01,z02,z0o,hw,h12,h]
 unfold w5j
 simp only [x7m,w0d,it0_eq,z01,z02,hl,h105]
 rw [z0k,hb,pdq_small _ _ hd]
 rfl
end
end Sortt
end Go.Am
end
section
namespace Go.Am
open M06 Go.Sort Go.Proofs
theorem y61 {α:Type} [Inhabited α] {d d':Array α} (h:PermIn 0 d.size d d'):d'.toList.Perm d.toList:=by
 have:=h.2.2
 have e1:d'.extract 0 d.size=d':=by rw [←h.1]; simp
 have e2:d.extract 0 d.size=d:=by simp
 rw [e1,e2] at this; exact this
theorem y2z {α:Type} [Inhabited α] {lt:α→α→Bool} {d d':Array α} (hs:d'.size=d.size) (h:SortedIn lt 0 d.size d'):d'.toList.Pairwise (fun a b=>lt b a=false):=by
 rw [List.pairwise_iff_getElem]
 intro i j hi hj hij
 have hi':i<d'.size:=by simpa using hi
 have hj':j<d'.size:=by simpa using hj
 have:=h i j (Nat.zero_le _) hij (by omega)
 rw [getElem!_pos d' i hi',getElem!_pos d' j hj'] at this
 simpa using this
theorem v07 (l:List Pt) (hl:l.length≤12):∃ l',u2r std (z0b l,())=some (z0b l',())∧l'.Perm l∧l'.Pairwise (fun a b=>¬ Lt b a):=by
 have h:=Sorto.sorto_small (tp:=id) (cf:=x3m) (fun x y=>w6r x y) l.toArray (by simpa using hl)
 have hp:=pdq_sorts (ltOf x3m) x2z l.toArray 0 l.toArray.size (Lib.bitLen l.toArray.size) true true (Nat.zero_le _) (Nat.le_refl _) (Or.inl rfl)
 generalize hd:pdq (ltOf x3m) l.toArray 0 l.toArray.size (Lib.bitLen l.toArray.size) true true=d' at h hp
 refine ⟨d'.toList,?_,y61 hp.1,?_⟩
 ·have hb:Nat.ble (z0b l).length 12=true:=by simp [z0b]; exact hl
  show (bif Nat.ble (z0b l).length 12 then _ else _)=_
  rw [hb]
  exact h
 ·refine (y2z hp.1.1 hp.2).imp fun hab hlt=>?_
  rw [z8w.2 hlt] at hab; cases hab
theorem x56:∀ {l:List Pt},(∀ w∈l,z3s w∧w≠(0,0))→∃ t,dWy l=some t∧t.map Subtype.val=l
 |[],_=>⟨[],rfl,rfl⟩
 |p::l,h=>by
  obtain ⟨t,h1,h2⟩:=x56 (l:=l) (fun w hw=>h w (List.mem_cons_of_mem _ hw))
  refine ⟨⟨p,h p (by simp)⟩::t,?_,by simp [h2]⟩
  simp only [dWy,h1,dif_pos (h p (List.mem_cons_self ..))]
theorem x15:∀ (l:List Pt),w6b (z0b l)=some l
 |[]=>rfl
 |p::l=>by
  show (match dPt (eP p),w6b (z0b l) with|some q,some t=>some (q::t)|_,_=>none)=_
  rw [x15 l]
  rfl
theorem v06 (l:List Pt) (hw:∀ w∈l,z3s w∧w≠(0,0)) (hl:l.length≤1000000):∃ l',u2q std (z0b l,())=some (z0b l',())∧l'.Perm l∧l'.Pairwise (fun a b=>¬ z57 b a<0):=by
 obtain ⟨t,h1,h2⟩:=x56 hw
 have htl:t.length=l.length:=by rw [←h2]; simp
 have hp:=pdq_sorts (ltOf (fun x y:Wy=>z57 x.1 y.1)) y78 t.toArray 0 t.toArray.size (Lib.bitLen t.toArray.size) true true (Nat.zero_le _) (Nat.le_refl _) (Or.inl rfl)
 have henc:z0b l=Sortt.encA Subtype.val t.toArray:=by
  rw [←h2]
  simp only [z0b,Sortt.encA,List.map_map]
  rfl
 generalize hd:pdq (ltOf (fun x y:Wy=>z57 x.1 y.1)) t.toArray 0 t.toArray.size (Lib.bitLen t.toArray.size) true true=d' at hp
 have hfin:(d'.toList.map Subtype.val).Perm l∧(d'.toList.map Subtype.val).Pairwise (fun a b=>¬ z57 b a<0):=by
  refine ⟨?_,?_⟩
  ·have:=(y61 hp.1).map Subtype.val
   rw [←h2]; simpa using this
  ·rw [List.pairwise_map]
   refine (y2z hp.1.1 hp.2).imp fun hab hlt=>?_
   rw [y8w (cf:=fun x y:Wy=>z57 x.1 y.1).2 hlt] at hab; cases hab
 refine ⟨d'.toList.map Subtype.val,?_,hfin.1,hfin.2⟩
 have hres:z0b (d'.toList.map Subtype.val)=d'.toList.map (z38 Subtype.val):=by
  simp only [z0b,List.map_map]; rfl
 show (bif Nat.ble (z0b l).length 12 then x7m it0 std (z0b l,()) else v1b (z0b l,()))=_
 by_cases h12:l.length≤12
 ·have hb:Nat.ble (z0b l).length 12=true:=by simp [z0b]; exact h12
  rw [hb]
  have h:=Sortt.sortt_small (tp:=Subtype.val) (cf:=fun x y:Wy=>z57 x.1 y.1) (fun x y=>w16 x.2.1 y.2.1) t.toArray (by simp; omega)
  rw [hd, ←henc] at h
  rw [hres]
  exact h
 ·have hb:Nat.ble (z0b l).length 12=false:=by
   have:¬ (z0b l).length≤12:=by simpa [z0b] using h12
   cases hq:Nat.ble (z0b l).length 12 with
   |false=>rfl
   |true=>exact absurd (Nat.le_of_ble_eq_true hq) this
  rw [hb]
  simp only [cond_false,v1b,x15,Option.bind_some,h1]
  match t,h1,htl,hd with
  |[],_,htl,_=>simp at htl; omega
  |p::t,_,htl,hd=>
   simp only
   rw [if_pos (by simp at htl; omega),hd,hres]
end Go.Am
end
section
namespace Go.Am
open M06
def y1f (l:List Pt) (hs:List (List Pt)):Prop:=20<l.length∨8<hs.length∨∃ h∈hs,20<h.length
instance (l:List Pt) (hs:List (List Pt)):Decidable (y1f l hs):=by unfold y1f; infer_instance
theorem y5b {α:Type} {l:List α} {i:Nat} {m d:α} (h:l[i]?=some m):l.getD i d=m:=by simp [List.getD_eq_getElem?_getD,h]
theorem y1s {α:Type} {l:List α} {d:α} {P:α→Prop} (h:∀ i,i<l.length→P (l.getD i d)):∀ p∈l,P p:=fun p hp=>by
 obtain ⟨i,hi'⟩:=List.getElem?_of_mem hp
 have:=h i (List.getElem?_eq_some_iff.1 hi').1
 rwa [y5b hi'] at this
theorem y1g {α:Type} {l:List α} {i:Nat} (d:α) (h:i<l.length):l.getD i d∈l:=by
 obtain ⟨m,hm⟩:=z0q h
 rw [y5b hm]; exact List.mem_of_getElem? hm
theorem v6i (l:List Pt) (hs:List (List Pt)):G14 std (z0b l,z0y hs,())=some (decide (y1f l hs),()):=by
 unfold G14
 have h0:(if (l.length:Int)>20 then some (z0b l,z0y hs,true,()) else some (z0b l,z0y hs,decide ((hs.length:Int)>8),()))=some (z0b l,z0y hs,decide (20<l.length∨8<hs.length),()):=by
  by_cases h1:20<l.length
  ·have:(l.length:Int)>20:=by omega
   simp [this,h1]
  ·have:¬ (l.length:Int)>20:=by omega
   simp only [this,h1,if_false,false_or]
   congr 4
   rw [decide_eq_decide]; omega
 have e1:std.ofNat (std.len (z0b l))=(l.length:Int):=by simp [z2j,z4r,z0b]
 have e2:std.ofNat (std.len (z0y hs))=(hs.length:Int):=by simp [z2j,z4r,z0y]
 simp only [g14,it0,z4g,z7s,z5d,z5m,z7e,z9d,e1,e2,y4p,decide_eq_true_eq,h0,Option.bind_some]
 by_cases hg:20<l.length∨8<hs.length
 ·have:y1f l hs:=hg.elim .inl fun h=> .inr (.inl h)
  simp only [hg,if_true,decide_eq_true this]
 ·have hl8:hs.length≤8:=by omega
  have key:=z3w (b:=w5f std) hs.length (fun i=>(z0b l,z0y hs,(i:Int),())) (fun i=>decide (20<(hs.getD i []).length)) (fun i=> .inl (true,())) (.inr ()) (fun i hi'=>by
   obtain ⟨m,hm⟩:=z0q hi'
   have hw:=z1g (i:=i) (by omega)
   have hlt:(i:Int)<hs.length:=by omega
   have h0:(0:Int)≤i:=by omega
   simp only [y5b hm,w5f,z01,z02,z0y,z48,y6l,hm,hlt,h0,ge_iff_le,z0f,hw,z0b]
   by_cases k:20<m.length
   ·have:(m.length:Int)>20:=by omega
    simp [k,this]
   ·have:¬ (m.length:Int)>20:=by omega
    simp [k,this]) (by
   have hn:¬ (hs.length:Int)<hs.length:=by omega
   simp only [w5f,z01,z02,z0y,hn])
  have e0:(z0b l,z0y hs,(0:Int),())=(z0b l,z0y hs,((0:Nat):Int),()):=rfl
  simp only [hg,if_false]
  rw [e0]
  rcases key with ⟨i,h1,h2,_,h4⟩|⟨h1,h2⟩
  ·have:y1f l hs:= .inr (.inr ⟨_,y1g [] h1,by simpa using h2⟩)
   rw [h4]
   simp only [z01,z02,decide_eq_true this]
  ·have:¬ y1f l hs:=by
    rintro (h|h|⟨h,hm,hh⟩)
    ·exact hg (.inl h)
    ·exact hg (.inr h)
    ·have:=y1s (P:=fun h=>¬ 20<h.length) (fun i hi=>by simpa using h1 i hi) h hm
     exact this hh
   rw [h2]
   simp only [z01,z02,decide_eq_false this]
def y1q (l:List Pt) (hs:List (List Pt)):Int:=
 if ¬ z6l l∨4<hs.length∨∃ h∈hs,¬ z6l h then 6 else if (¬ ∀ p∈l,z0s 0 1000 p)∨∃ h∈hs,¬ ∀ p∈h,z0s (-1000) 1000 p then 3 else 0
theorem w6z (l:List Pt) (hs:List (List Pt)):G18 std (z0b l,z0y hs,())=some (y1q l hs,()):=by
 unfold G18 y1q
 have e2:std.ofNat (std.len (z0y hs))=(hs.length:Int):=by simp [z2j,z4r,z0y]
 by_cases h1:z6l l
 case neg=>simp only [g18,it0,z01,z02,x6l,h1,not_false_eq_true,true_or]
 by_cases h2:4<hs.length
 case pos=>
  have:(hs.length:Int)>4:=by omega
  simp only [g18,it0,z4g,z7s,z5d,z5m,z7e,z9d,y1r,e2,y4p,x6l,h1,h2,this,not_true,false_or,true_or,or_true,decide_true,if_true,if_false,Option.bind_some,Bool.false_eq_true]
 have h2':¬ (hs.length:Int)>4:=by omega
 have key:=z3w (b:=w5d std) hs.length (fun i=>(z0b l,z0y hs,z0y hs,(hs.length:Int),(i:Int),())) (fun i=>!decide (z6l (hs.getD i []))) (fun i=> .inl (z0b l,z0y hs,(i:Int),())) (.inr (z0b l,z0y hs,())) (fun i hi'=>by
  obtain ⟨m,hm⟩:=z0q hi'
  have hw:=z1g (i:=i) (by omega)
  have hlt:(i:Int)<hs.length:=by omega
  have h0:(0:Int)≤i:=by omega
  simp only [y5b hm,w5d,z01,z02,z0y,z48,y6l,x6l,hm,hlt,h0,ge_iff_le,z0f,hw]
  by_cases k:z6l m
  ·simp [k]
  ·simp [k]) (by
  have hn:¬ (hs.length:Int)<hs.length:=by omega
  simp only [w5d,z01,z02,hn])
 have e0:(z0b l,z0y hs,z0y hs,(hs.length:Int),(0:Int),())=(z0b l,z0y hs,z0y hs,(hs.length:Int),((0:Nat):Int),()):=rfl
 simp only [g18,it0,z4g,z7s,z5d,z5m,z7e,z9d,y1r,e2,y4p,x6l,h1,h2',h2,not_true,false_or,decide_true,if_true,if_false,Option.bind_some,Bool.false_eq_true,decide_false]
 rw [e0]
 rcases key with ⟨i,i1,i2,_,i4⟩|⟨i1,i2⟩
 ·have:∃ h∈hs,¬ z6l h:=⟨_,y1g [] i1,by simpa using i2⟩
  have h0:(0:Int)≤i:=by omega
  simp only [i4,Option.bind_some,Sum.elim_inl,y17,ge_iff_le,h0,decide_true,if_true,this]
 ·have hall:=y1s (P:=fun h=>z6l h) (fun i hi=>by simpa using i1 i hi)
  have hno:¬ ∃ h∈hs,¬ z6l h:=fun ⟨h,hm,hn⟩=>hn (hall h hm)
  simp only [i2,Option.bind_some,Sum.elim_inr,y17,show ¬ (-1:Int)≥0 by decide,decide_false,Bool.false_eq_true,if_false,hno]
  have g0:g53 it0 std (0,1000,z0b l,())=some (decide (∀ p∈l,z0s 0 1000 p),()):=x6k 0 1000 l (by have:=h1.2; omega)
  rw [g0]
  by_cases h3:∀ p∈l,z0s 0 1000 p
  case neg=>simp only [Option.bind_some,decide_eq_false h3,decide_false,Bool.false_eq_true,if_false,if_true,h3,not_false_eq_true,true_or]
  have key2:=z3w (b:=x8e it0 std) hs.length (fun i=>(z0b l,z0y hs,z0y hs,(hs.length:Int),(i:Int),())) (fun i=>!decide (∀ p∈hs.getD i [],z0s (-1000) 1000 p)) (fun i=> .inl (z0b l,z0y hs,(i:Int),())) (.inr (z0b l,z0y hs,())) (fun i hi'=>by
   obtain ⟨m,hm⟩:=z0q hi'
   have hw:=z1g (i:=i) (by omega)
   have hlt:(i:Int)<hs.length:=by omega
   have h0:(0:Int)≤i:=by omega
   have g1:g53 it0 std (-1000,1000,z0b m,())=some (decide (∀ p∈m,z0s (-1000) 1000 p),()):=x6k (-1000) 1000 m (by have:=(hall m (List.mem_of_getElem? hm)).2; omega)
   simp only [y5b hm,x8e,z01,z02,z0y,z48,y6l,g1,hm,hlt,h0,ge_iff_le,z0f,hw]
   by_cases k:∀ p∈m,z0s (-1000) 1000 p
   ·rw [if_pos k,if_neg (by simp),if_neg (fun h=>h k)]
   ·rw [if_neg k,if_pos rfl,if_pos k]) (by
   have hn:¬ (hs.length:Int)<hs.length:=by omega
   simp only [x8e,z01,z02,hn])
  simp only [Option.bind_some,decide_eq_true h3,if_true,Bool.false_eq_true,if_false,e2]
  rw [e0]
  rcases key2 with ⟨i,j1,j2,_,j4⟩|⟨j1,j2⟩
  ·have:∃ h∈hs,¬ ∀ p∈h,z0s (-1000) 1000 p:=⟨_,y1g [] j1,by simpa only [Bool.not_eq_true',decide_eq_false_iff_not] using j2⟩
   have h0:(0:Int)≤i:=by omega
   simp only [j4,Option.bind_some,Sum.elim_inl,ge_iff_le,h0,decide_true,if_true,this,or_true]
  ·have hall2:=y1s (P:=fun h=>∀ p∈h,z0s (-1000) 1000 p) (fun i hi=>by have:=j1 i hi; simpa only [Bool.not_eq_false',decide_eq_true_eq] using this)
   have hno2:¬ ∃ h∈hs,¬ ∀ p∈h,z0s (-1000) 1000 p:=fun ⟨h,hm,hn⟩=>hn (hall2 h hm)
   have h3':¬ ¬ ∀ p∈l,z0s 0 1000 p:=fun h=>h h3
   simp only [j2,Option.bind_some,Sum.elim_inr,if_false,decide_false,Bool.false_eq_true,hno2,h3',or_false]
theorem v6g (l:List Pt) (hs:List (List Pt)):G19 std (z0b l,z0y hs,())=some (y1q l hs,()):=by
 unfold G19 y1q
 have e2:std.ofNat (std.len (z0y hs))=(hs.length:Int):=by simp [z2j,z4r,z0y]
 by_cases h1:z6l l
 case neg=>simp only [g19,it0,z01,z02,x6j,h1,not_false_eq_true,true_or]
 by_cases h2:4<hs.length
 case pos=>
  have:(hs.length:Int)>4:=by omega
  simp only [g19,it0,z4g,z7s,z5d,z5m,z7e,z9d,y1r,e2,y4p,x6j,h1,h2,this,not_true,false_or,true_or,or_true,decide_true,if_true,if_false,Option.bind_some,Bool.false_eq_true]
 have h2':¬ (hs.length:Int)>4:=by omega
 have key:=z3w (b:=w5c std) hs.length (fun i=>(z0b l,z0y hs,(i:Int),())) (fun i=>!decide (z6l (hs.getD i []))) (fun i=> .inl (6,())) (.inr (z0b l,z0y hs,())) (fun i hi'=>by
  obtain ⟨m,hm⟩:=z0q hi'
  have hw:=z1g (i:=i) (by omega)
  have hlt:(i:Int)<hs.length:=by omega
  have h0:(0:Int)≤i:=by omega
  simp only [y5b hm,w5c,z01,z02,z0y,z48,y6l,x6j,hm,hlt,h0,ge_iff_le,z0f,hw]
  by_cases k:z6l m
  ·simp [k]
  ·simp [k]) (by
  have hn:¬ (hs.length:Int)<hs.length:=by omega
  simp only [w5c,z01,z02,z0y,hn])
 have e0:(z0b l,z0y hs,(0:Int),())=(z0b l,z0y hs,((0:Nat):Int),()):=rfl
 simp only [g19,it0,z4g,z7s,z5d,z5m,z7e,z9d,y1r,e2,y4p,x6j,h1,h2',h2,not_true,false_or,decide_true,if_true,if_false,Option.bind_some,Bool.false_eq_true,decide_false]
 rw [e0]
 rcases key with ⟨i,i1,i2,_,i4⟩|⟨i1,i2⟩
 ·have:∃ h∈hs,¬ z6l h:=⟨_,y1g [] i1,by simpa using i2⟩
  simp only [i4,Option.bind_some,Sum.elim_inl,if_true,this]
 ·have hall:=y1s (P:=fun h=>z6l h) (fun i hi=>by simpa using i1 i hi)
  have hno:¬ ∃ h∈hs,¬ z6l h:=fun ⟨h,hm,hn⟩=>hn (hall h hm)
  simp only [i2,Option.bind_some,Sum.elim_inr,Bool.false_eq_true,if_false,hno]
  have g0:g56 it0 std (z0b l,0,1000,())=some (decide (∀ p∈l,z0s 0 1000 p),()):=w6w 0 1000 l (by have:=h1.2; omega)
  rw [g0]
  by_cases h3:∀ p∈l,z0s 0 1000 p
  case neg=>simp only [Option.bind_some,decide_eq_false h3,decide_false,Bool.false_eq_true,if_false,if_true,h3,not_false_eq_true,true_or]
  have key2:=z3w (b:=x8d it0 std) hs.length (fun i=>(z0b l,z0y hs,(i:Int),())) (fun i=>!decide (∀ p∈hs.getD i [],z0s (-1000) 1000 p)) (fun i=> .inl (3,())) (.inr ()) (fun i hi'=>by
   obtain ⟨m,hm⟩:=z0q hi'
   have hw:=z1g (i:=i) (by omega)
   have hlt:(i:Int)<hs.length:=by omega
   have h0:(0:Int)≤i:=by omega
   have g1:g56 it0 std (z0b m, -1000,1000,())=some (decide (∀ p∈m,z0s (-1000) 1000 p),()):=w6w (-1000) 1000 m (by have:=(hall m (List.mem_of_getElem? hm)).2; omega)
   simp only [y5b hm,x8d,z01,z02,z0y,z48,y6l,g1,hm,hlt,h0,ge_iff_le,z0f,hw]
   by_cases k:∀ p∈m,z0s (-1000) 1000 p
   ·rw [if_pos k,if_neg (by simp),if_neg (fun h=>h k)]
   ·rw [if_neg k,if_pos rfl,if_pos k]) (by
   have hn:¬ (hs.length:Int)<hs.length:=by omega
   simp only [x8d,z01,z02,z0y,hn])
  simp only [Option.bind_some,decide_eq_true h3,if_true,Bool.false_eq_true,if_false]
  rw [e0]
  rcases key2 with ⟨i,j1,j2,_,j4⟩|⟨j1,j2⟩
  ·have:∃ h∈hs,¬ ∀ p∈h,z0s (-1000) 1000 p:=⟨_,y1g [] j1,by simpa only [Bool.not_eq_true',decide_eq_false_iff_not] using j2⟩
   simp only [j4,Option.bind_some,Sum.elim_inl,if_true,this,or_true]
  ·have hall2:=y1s (P:=fun h=>∀ p∈h,z0s (-1000) 1000 p) (fun i hi=>by have:=j1 i hi; simpa only [Bool.not_eq_false',decide_eq_true_eq] using this)
   have hno2:¬ ∃ h∈hs,¬ ∀ p∈h,z0s (-1000) 1000 p:=fun ⟨h,hm,hn⟩=>hn (hall2 h hm)
   have h3':¬ ¬ ∀ p∈l,z0s 0 1000 p:=fun h=>h h3
   simp only [j2,Option.bind_some,Sum.elim_inr,if_false,Bool.false_eq_true,hno2,h3',or_false]
end Go.Am
end
noncomputable section
namespace Go.Am
def v4i:Ctr:=
 ⟨88,[.list 2],[],[(.ret,⟨[(0, .slc 0 2)],[.row [ci,ci]],1⟩)]⟩
def la88:List LA:=
 [⟨88,[false,true,false,true,true],0,⟨⟨[(3, .vec 0 2),(6, .list 2),(7, .int .i64),(8, .int .i64)],[.row [ci,ci]],61⟩,[((AX.exit 0),⟨[(3, .vec 0 2)],[.row [ci,ci]],61⟩)]⟩⟩,
 ⟨88,[false,false,true,false,false,true,true,false,false,true,false,true,true],0,⟨⟨[(3, .sl 0 2),(5, .bptr 1 0),(6, .list 2),(7, .int .i64),(8, .int .i64)],[.row [ci,ci], .box [.int .i64, .int .i64]],61⟩,[((AX.exit 2),⟨[(3, .sl 0 2),(5, .bptr 1 0),(6, .list 2),(7, .int .i64),(8, .int .i64)],[.row [ci,ci], .box [.int .i64, .int .i64]],61⟩)]⟩⟩]
def ja88:List JA:=
 []
def v85:List CF:=
 []
def an88:Anns:=
 ⟨v85,ja88,[]⟩
def y6p (p:Prim):(LD×T36)→Option ((LD×T36)⊕(LD×T36)):=
 fun a=>opt.run _ (
 opt.ask _ (p.cmp .gtr (p.ofNat a.2.2.2.2.1) (1:Int)) (
 opt.need _ (bif (p.cmp .geq (p.ar .sub .i64 (p.ofNat a.2.2.2.2.1) (1:Int)) (0:Int)) then (p.cmp .lss (p.ar .sub .i64 (p.ofNat a.2.2.2.2.1) (1:Int)) (p.ofNat a.2.2.2.2.1)) else Bool.false)<|
 opt.need _ (p.rowOk a.1 (p.add a.2.2.2.1 (p.nat (p.ar .sub .i64 (p.ofNat a.2.2.2.2.1) (1:Int)))) [ci,ci])<|
 opt.need _ (bif (p.cmp .geq (p.ar .sub .i64 (p.ofNat a.2.2.2.2.1) (2:Int)) (0:Int)) then (p.cmp .lss (p.ar .sub .i64 (p.ofNat a.2.2.2.2.1) (2:Int)) (p.ofNat a.2.2.2.2.1)) else Bool.false)<|
 opt.need _ (p.rowOk a.1 (p.add a.2.2.2.1 (p.nat (p.ar .sub .i64 (p.ofNat a.2.2.2.2.1) (2:Int)))) [ci,ci])<|
 opt.need _ (bif (p.cmp .geq (p.ar .sub .i64 (p.ofNat a.2.2.2.2.1) (2:Int)) (0:Int)) then (p.cmp .lss (p.ar .sub .i64 (p.ofNat a.2.2.2.2.1) (2:Int)) (p.ofNat a.2.2.2.2.1)) else Bool.false)<|
 opt.need _ (p.rowOk a.1 (p.add a.2.2.2.1 (p.nat (p.ar .sub .i64 (p.ofNat a.2.2.2.2.1) (2:Int)))) [ci,ci])<|
 opt.ask _ (p.cmp .leq (p.ar .sub .i64 (p.ar .mul .i64 (p.ar .sub .i64 (p.rdI a.1 (p.add a.2.2.2.1 (p.nat (p.ar .sub .i64 (p.ofNat a.2.2.2.2.1) (1:Int)))) 0) (p.rdI a.1 (p.add a.2.2.2.1 (p.nat (p.ar .sub .i64 (p.ofNat a.2.2.2.2.1) (2:Int)))) 0)) (p.ar .sub .i64 a.2.2.1 (p.rdI a.1 (p.add a.2.2.2.1 (p.nat (p.ar .sub .i64 (p.ofNat a.2.2.2.2.1) (2:Int)))) 1))) (p.ar .mul .i64 (p.ar .sub .i64 (p.rdI a.1 (p.add a.2.2.2.1 (p.nat (p.ar .sub .i64 (p.ofNat a.2.2.2.2.1) (1:Int)))) 1) (p.rdI a.1 (p.add a.2.2.2.1 (p.nat (p.ar .sub .i64 (p.ofNat a.2.2.2.2.1) (2:Int)))) 1)) (p.ar .sub .i64 a.2.1 (p.rdI a.1 (p.add a.2.2.2.1 (p.nat (p.ar .sub .i64 (p.ofNat a.2.2.2.2.1) (2:Int)))) 0)))) (0:Int)) (
 opt.need _ (p.and (p.cmp .geq (0:Int) (0:Int)) (p.and (p.cmp .leq (0:Int) (p.ar .sub .i64 (p.ofNat a.2.2.2.2.1) (1:Int))) (p.and (p.cmp .leq (p.ar .sub .i64 (p.ofNat a.2.2.2.2.1) (1:Int)) (p.ar .sub .i64 (p.ofNat a.2.2.2.2.1) (1:Int))) (p.cmp .leq (p.ar .sub .i64 (p.ofNat a.2.2.2.2.1) (1:Int)) (p.ofNat a.2.2.2.2.1)))))<|
 opt.need _ (p.leN (p.add (p.add a.2.2.2.1 (p.nat (0:Int))) (p.sub (p.nat (p.ar .sub .i64 (p.ofNat a.2.2.2.2.1) (1:Int))) (p.nat (0:Int)))) (p.len a.1))<|
 opt.ret _ (Sum.inl (a.1,(a.2.1,(a.2.2.1,((p.add a.2.2.2.1 (p.nat (0:Int))),((p.sub (p.nat (p.ar .sub .i64 (p.ofNat a.2.2.2.2.1) (1:Int))) (p.nat (0:Int))),(a.2.2.2.2.2.1,(a.2.2.2.2.2.2.1,(a.2.2.2.2.2.2.2.1,())))))))))) (
 opt.ret _ (Sum.inr (a.1,(a.2.1,(a.2.2.1,(a.2.2.2.1,(a.2.2.2.2.1,(a.2.2.2.2.2.1,(a.2.2.2.2.2.2.1,(a.2.2.2.2.2.2.2.1,()))))))))))) (
 opt.ret _ (Sum.inr (a.1,(a.2.1,(a.2.2.1,(a.2.2.2.1,(a.2.2.2.2.1,(a.2.2.2.2.2.1,(a.2.2.2.2.2.2.1,(a.2.2.2.2.2.2.2.1,())))))))))))
def x8b (it:It) (p:Prim):(LD×(LD×T4))→Option ((LD×(LD×T4))⊕(LD×Unit)):=
 fun a=>opt.run _ (
 opt.ask _ (p.cmp .lss a.2.2.2.1 a.2.2.1) (
 opt.need _ (p.rowOk a.2.1 (p.nat a.2.2.2.1) [ci,ci])<|
 opt.need _ (p.cmp .geq a.2.2.2.1 (0:Int))<|
 opt.bnd ((LD×T36)) _ (
 it _ _ (y6p p) (a.1,((p.rdI a.2.1 (p.nat a.2.2.2.1) 0),((p.rdI a.2.1 (p.nat a.2.2.2.1) 1),(0,((p.len a.1),(a.2.1,(a.2.2.1,(a.2.2.2.1,()))))))))) fun b=>
 opt.need _ (p.and (p.leN (p.add 0 1) (p.len [[(D.int .i64 b.2.1),(D.int .i64 b.2.2.1)]])) (p.and (p.leN (p.add b.2.2.2.1 b.2.2.2.2.1) (p.len b.1)) (p.and (p.leN 1 1) (p.leN (p.add b.2.2.2.2.1 1) 1000000))))<|
 opt.need _ (p.eqN 0 0)<|
 opt.need _ (p.eqN (p.add b.2.2.2.2.1 1) (p.len (p.app (p.cut b.1 b.2.2.2.1 b.2.2.2.2.1) (p.cut [[(D.int .i64 b.2.1),(D.int .i64 b.2.2.1)]] 0 1))))<|
 opt.ret _ (Sum.inl ((p.app (p.cut b.1 b.2.2.2.1 b.2.2.2.2.1) (p.cut [[(D.int .i64 b.2.1),(D.int .i64 b.2.2.1)]] 0 1)),(b.2.2.2.2.2.1,(b.2.2.2.2.2.2.1,((p.ar .add .i64 b.2.2.2.2.2.2.2.1 (1:Int)),())))))) (
 opt.need _ (p.eqN 0 0)<|
 opt.need _ (p.eqN (p.len a.1) (p.len a.1))<|
 opt.ret _ (Sum.inr (a.1,()))))
def g88 (it:It):(p:Prim)→(LD×Unit)→Option ((LD×T9)):=
 fun p x=>
 opt.bnd ((LD×Unit)) _ (
 it _ _ (x8b it p) ([],(x.1,((p.ofNat (p.len x.1)),((0:Int),()))))) fun a=>
 opt.need _ (p.and (p.cmp .geq (0:Int) (0:Int)) (p.and (p.cmp .leq (0:Int) (p.ar .sub .i64 (p.ofNat (p.len a.1)) (1:Int))) (p.and (p.cmp .leq (p.ar .sub .i64 (p.ofNat (p.len a.1)) (1:Int)) (p.ar .sub .i64 (p.ofNat (p.len a.1)) (1:Int))) (p.cmp .leq (p.ar .sub .i64 (p.ofNat (p.len a.1)) (1:Int)) (p.ofNat (p.len a.1))))))<|
 opt.ret _ (a.1,((p.add 0 (p.nat (0:Int))),((p.sub (p.nat (p.ar .sub .i64 (p.ofNat (p.len a.1)) (1:Int))) (p.nat (0:Int))),((p.sub (p.nat (p.ar .sub .i64 (p.ofNat (p.len a.1)) (1:Int))) (p.nat (0:Int))),()))))
def G88:=g88 it0
theorem ok88:CtrOk PG v4i (G88 std):=okF (a:=an88) (l:=la88) (gN) (by kernel_rfl) fun _ _=>by kernel_rfl
def w6h:Ctr:=
 ⟨101,[.slc 0 2],[.row [ci,ci]],[(.ret,⟨[(0, .slc 0 2)],[.row [ci,ci]],1⟩)]⟩
def v8g:List LA:=
 [⟨101,[false,true,false,true,true],1,⟨⟨[(0, .slc 0 2),(3, .int .i64)],[.row [ci,ci]],61⟩,[(AX.ret,⟨[(2, .slc 0 2)],[.row [ci,ci]],61⟩),((AX.exit 0),⟨[(0, .slc 0 2)],[.row [ci,ci]],61⟩)]⟩⟩,
 ⟨101,[false,true,false,true,false,true,false,false,true,false,false,true,false,true,true],1,⟨⟨[(0, .slc 0 2),(3, .int .i64),(4, .slc 0 2),(5, .int .i64)],[.row [ci,ci]],61⟩,[((AX.exit 2),⟨[(0, .slc 0 2),(3, .int .i64)],[.row [ci,ci]],61⟩)]⟩⟩]
def v8n:List JA:=
 [⟨101,[true,false,false,true,false,false,true,false,true,false,true,false,false,true,false,false,true,false,true,true],1,[(AX.normal,⟨[(0, .slc 0 2),(3, .int .i64),(4, .slc 0 2),(5, .int .i64)],[.row [ci,ci]],61⟩)]⟩]
def v3t:List CF:=
 []
def u1j:Anns:=
 ⟨v3t,v8n,[]⟩
def y5z (p:Prim):(LD×T37)→Option ((LD×T37)⊕(LD×T38)):=
 fun a=>opt.run _ (
 opt.ask _ (p.cmp .lss a.2.2.2.2.2.2.2.2.1 (p.ofNat a.2.2.2.2.2.2.1)) (
 opt.need _ (bif (p.cmp .geq a.2.2.2.2.2.2.2.2.1 (0:Int)) then (p.cmp .lss a.2.2.2.2.2.2.2.2.1 (p.ofNat a.2.2.2.2.2.2.1)) else Bool.false)<|
 opt.need _ (p.rowOk a.1 (p.add a.2.2.2.2.2.1 (p.nat a.2.2.2.2.2.2.2.2.1)) [ci,ci])<|
 opt.need _ (bif (p.cmp .geq (p.ar .sub .i64 a.2.2.2.2.2.2.2.2.1 (1:Int)) (0:Int)) then (p.cmp .lss (p.ar .sub .i64 a.2.2.2.2.2.2.2.2.1 (1:Int)) (p.ofNat a.2.2.2.2.2.2.1)) else Bool.false)<|
 opt.need _ (p.rowOk a.1 (p.add a.2.2.2.2.2.1 (p.nat (p.ar .sub .i64 a.2.2.2.2.2.2.2.2.1 (1:Int)))) [ci,ci])<|
 opt.bnd ((LD×T37)) _ (
 opt.run ((LD×T37)) (
 opt.ask _ (bif (bif (p.cmp .eql (p.rdI a.1 (p.add a.2.2.2.2.2.1 (p.nat a.2.2.2.2.2.2.2.2.1)) 0) (p.rdI a.1 (p.add a.2.2.2.2.2.1 (p.nat (p.ar .sub .i64 a.2.2.2.2.2.2.2.2.1 (1:Int)))) 0)) then (bif (p.cmp .eql (p.rdI a.1 (p.add a.2.2.2.2.2.1 (p.nat a.2.2.2.2.2.2.2.2.1)) 1) (p.rdI a.1 (p.add a.2.2.2.2.2.1 (p.nat (p.ar .sub .i64 a.2.2.2.2.2.2.2.2.1 (1:Int)))) 1)) then Bool.true else Bool.false) else Bool.false) then Bool.false else Bool.true) (
 opt.need _ (bif (p.cmp .geq a.2.2.2.2.2.2.2.2.1 (0:Int)) then (p.cmp .lss a.2.2.2.2.2.2.2.2.1 (p.ofNat a.2.2.2.2.2.2.1)) else Bool.false)<|
 opt.need _ (p.rowOk a.1 (p.add a.2.2.2.2.2.1 (p.nat a.2.2.2.2.2.2.2.2.1)) [ci,ci])<|
 opt.need _ (bif (p.cmp .geq a.2.2.2.2.1 (0:Int)) then (p.cmp .lss a.2.2.2.2.1 (p.ofNat a.2.2.1)) else Bool.false)<|
 opt.need _ (p.rowOk a.1 (p.add a.2.1 (p.nat a.2.2.2.2.1)) [ci,ci])<|
 opt.ret _ ((p.set a.1 (p.add a.2.1 (p.nat a.2.2.2.2.1)) [(D.int .i64 (p.rdI a.1 (p.add a.2.2.2.2.2.1 (p.nat a.2.2.2.2.2.2.2.2.1)) 0)),(D.int .i64 (p.rdI a.1 (p.add a.2.2.2.2.2.1 (p.nat a.2.2.2.2.2.2.2.2.1)) 1))]),(a.2.1,(a.2.2.1,(a.2.2.2.1,((p.ar .add .i64 a.2.2.2.2.1 (1:Int)),(a.2.2.2.2.2.1,(a.2.2.2.2.2.2.1,(a.2.2.2.2.2.2.2.1,(a.2.2.2.2.2.2.2.2.1,())))))))))) (
 opt.ret _ (a.1,(a.2.1,(a.2.2.1,(a.2.2.2.1,(a.2.2.2.2.1,(a.2.2.2.2.2.1,(a.2.2.2.2.2.2.1,(a.2.2.2.2.2.2.2.1,(a.2.2.2.2.2.2.2.2.1,())))))))))))) fun b=>
 opt.ret _ (Sum.inl (b.1,(b.2.1,(b.2.2.1,(b.2.2.2.1,(b.2.2.2.2.1,(b.2.2.2.2.2.1,(b.2.2.2.2.2.2.1,(b.2.2.2.2.2.2.2.1,((p.ar .add .i64 b.2.2.2.2.2.2.2.2.1 (1:Int)),()))))))))))) (
 opt.ret _ (Sum.inr (a.1,(a.2.1,(a.2.2.1,(a.2.2.2.1,(a.2.2.2.2.1,()))))))))
def y28 (it:It) (p:Prim):(LD×T38)→Option ((LD×T38)⊕((LD×T9)⊕(LD×T9))):=
 fun a=>opt.run _ (
 opt.ask _ (p.cmp .lss a.2.2.2.2.1 (p.ofNat a.2.2.1)) (
 opt.need _ (bif (p.cmp .geq a.2.2.2.2.1 (0:Int)) then (p.cmp .lss a.2.2.2.2.1 (p.ofNat a.2.2.1)) else Bool.false)<|
 opt.need _ (p.rowOk a.1 (p.add a.2.1 (p.nat a.2.2.2.2.1)) [ci,ci])<|
 opt.need _ (bif (p.cmp .geq (p.ar .sub .i64 a.2.2.2.2.1 (1:Int)) (0:Int)) then (p.cmp .lss (p.ar .sub .i64 a.2.2.2.2.1 (1:Int)) (p.ofNat a.2.2.1)) else Bool.false)<|
 opt.need _ (p.rowOk a.1 (p.add a.2.1 (p.nat (p.ar .sub .i64 a.2.2.2.2.1 (1:Int)))) [ci,ci])<|
 opt.ask _ (bif (p.cmp .eql (p.rdI a.1 (p.add a.2.1 (p.nat a.2.2.2.2.1)) 0) (p.rdI a.1 (p.add a.2.1 (p.nat (p.ar .sub .i64 a.2.2.2.2.1 (1:Int)))) 0)) then (bif (p.cmp .eql (p.rdI a.1 (p.add a.2.1 (p.nat a.2.2.2.2.1)) 1) (p.rdI a.1 (p.add a.2.1 (p.nat (p.ar .sub .i64 a.2.2.2.2.1 (1:Int)))) 1)) then Bool.true else Bool.false) else Bool.false) (
 opt.need _ (p.and (p.cmp .geq a.2.2.2.2.1 (0:Int)) (p.and (p.cmp .leq a.2.2.2.2.1 (p.ofNat a.2.2.1)) (p.cmp .leq (p.ofNat a.2.2.1) (p.ofNat a.2.2.1))))<|
 opt.bnd ((LD×T38)) _ (
 it _ _ (y5z p) (a.1,(a.2.1,(a.2.2.1,(a.2.2.2.1,(a.2.2.2.2.1,((p.add a.2.1 (p.nat a.2.2.2.2.1)),((p.sub (p.nat (p.ofNat a.2.2.1)) (p.nat a.2.2.2.2.1)),((p.sub a.2.2.2.1 (p.nat a.2.2.2.2.1)),((1:Int),())))))))))) fun b=>
 opt.need _ (p.and (p.cmp .geq b.2.2.2.2.1 (0:Int)) (p.and (p.cmp .leq b.2.2.2.2.1 (p.ofNat b.2.2.1)) (p.cmp .leq (p.ofNat b.2.2.1) (p.ofNat b.2.2.1))))<|
 opt.need _ (p.leN (p.add (p.add b.2.1 (p.nat b.2.2.2.2.1)) (p.sub (p.nat (p.ofNat b.2.2.1)) (p.nat b.2.2.2.2.1))) (p.len b.1))<|
 opt.need _ (p.and (p.cmp .geq (0:Int) (0:Int)) (p.and (p.cmp .leq (0:Int) b.2.2.2.2.1) (p.cmp .leq b.2.2.2.2.1 (p.ofNat b.2.2.1))))<|
 opt.ret _ (Sum.inr (Sum.inl ((p.splice b.1 (p.add b.2.1 (p.nat b.2.2.2.2.1)) (p.rep (p.sub (p.nat (p.ofNat b.2.2.1)) (p.nat b.2.2.2.2.1)) [k4k,k4k])),((p.add b.2.1 (p.nat (0:Int))),((p.sub (p.nat b.2.2.2.2.1) (p.nat (0:Int))),((p.sub b.2.2.2.1 (p.nat (0:Int))),()))))))) (
 opt.ret _ (Sum.inl (a.1,(a.2.1,(a.2.2.1,(a.2.2.2.1,((p.ar .add .i64 a.2.2.2.2.1 (1:Int)),())))))))) (
 opt.ret _ (Sum.inr (Sum.inr (a.1,(a.2.1,(a.2.2.1,(a.2.2.2.1,()))))))))
def w8s (it:It):(p:Prim)→(LD×T9)→Option ((LD×T9)):=
 fun p x=>
 opt.ask _ (p.cmp .lss (p.ofNat x.2.2.1) (2:Int)) (
 opt.ret _ (x.1,(x.2.1,(x.2.2.1,(x.2.2.2.1,()))))) (
 opt.alt ((LD×T9)) ((LD×T9)) _ (
 it _ _ (y28 it p) (x.1,(x.2.1,(x.2.2.1,(x.2.2.2.1,((1:Int),())))))) (fun a=>
 opt.ret _ (a.1,(a.2.1,(a.2.2.1,(a.2.2.2.1,()))))) (fun b=>
 opt.bnd ((LD×T9)) _ (some b) fun c=>
 opt.ret _ (c.1,(c.2.1,(c.2.2.1,(c.2.2.2.1,()))))))
def v7d:=w8s it0
theorem v7u:CtrOk PG w6h (v7d std):=okF (a:=u1j) (l:=v8g) (gN) (by kernel_rfl) fun _ _=>by kernel_rfl
def v4k:Ctr:=
 ⟨86,[.list 2, .clo 87 [] []],[],[(.ret,⟨[(0, .slc 0 2)],[.row [ci,ci]],1⟩)]⟩
def la86:List LA:=
 []
def ja86:List JA:=
 []
def v87:List CF:=
 [⟨w6h,v7d⟩,⟨x6c,u2v⟩]
def an86:Anns:=
 ⟨v87,ja86,[]⟩
def g86 (it:It):(p:Prim)→(LD×Unit)→Option ((LD×T9)):=
 fun p x=>
 opt.need _ (p.and (p.cmp .geq (p.ofNat (p.len x.1)) (0:Int)) (p.and (p.cmp .leq (p.ofNat (p.len x.1)) (p.ofNat (p.len x.1))) (p.cmp .leq (p.ofNat (p.len x.1)) (1000000:Int))))<|
 opt.need _ (p.and Bool.true (p.and (p.leN (p.len x.1) (p.nat (p.ofNat (p.len x.1)))) (p.leN (p.add 0 (p.nat (p.ofNat (p.len x.1)))) (p.len (p.rep (p.nat (p.ofNat (p.len x.1))) [k4k,k4k])))))<|
 opt.need _ (p.eqN 0 0)<|
 opt.need _ (p.eqN (p.nat (p.ofNat (p.len x.1))) (p.len (p.splice (p.rep (p.nat (p.ofNat (p.len x.1))) [k4k,k4k]) 0 x.1)))<|
 opt.need _ (p.eqN (p.nat (p.ofNat (p.len x.1))) (p.len (p.splice (p.rep (p.nat (p.ofNat (p.len x.1))) [k4k,k4k]) 0 x.1)))<|
 opt.bnd ((LD×Unit)) _ (v3v it p ((p.splice (p.rep (p.nat (p.ofNat (p.len x.1))) [k4k,k4k]) 0 x.1),())) fun a=>
 opt.bnd ((LD×T9)) _ (w8s it p (a.1,(0,((p.nat (p.ofNat (p.len x.1))),((p.nat (p.ofNat (p.len x.1))),()))))) fun b=>
 opt.ret _ (b.1,(b.2.1,(b.2.2.1,(b.2.2.2.1,()))))
def G86:=g86 it0
theorem ok86:CtrOk PG v4k (G86 std):=okF (a:=an86) (l:=la86) (gC v7u (gC v7o (gN))) (by kernel_rfl) fun _ _=>by kernel_rfl
def v4h:Ctr:=
 ⟨89,[.slc 0 2],[.row [ci,ci]],[(.ret,⟨[(0, .tuple [])],[.row [ci,ci]],1⟩)]⟩
def la89:List LA:=
 [⟨89,[false,true],1,⟨⟨[(0, .slc 0 2),(2, .int .i64),(3, .int .i64)],[.row [ci,ci]],28⟩,[((AX.exit 0),⟨[],[.row [ci,ci]],28⟩)]⟩⟩]
def ja89:List JA:=
 []
def v84:List CF:=
 []
def an89:Anns:=
 ⟨v84,ja89,[]⟩
def w47 (p:Prim):(LD×T76)→Option ((LD×T76)⊕(LD×Unit)):=
 fun a=>opt.run _ (
 opt.ask _ (p.cmp .lss a.2.2.2.2.1 a.2.2.2.2.2.1) (
 opt.need _ (bif (p.cmp .geq a.2.2.2.2.2.1 (0:Int)) then (p.cmp .lss a.2.2.2.2.2.1 (p.ofNat a.2.2.1)) else Bool.false)<|
 opt.need _ (p.rowOk a.1 (p.add a.2.1 (p.nat a.2.2.2.2.2.1)) [ci,ci])<|
 opt.need _ (bif (p.cmp .geq a.2.2.2.2.1 (0:Int)) then (p.cmp .lss a.2.2.2.2.1 (p.ofNat a.2.2.1)) else Bool.false)<|
 opt.need _ (p.rowOk a.1 (p.add a.2.1 (p.nat a.2.2.2.2.1)) [ci,ci])<|
 opt.need _ (bif (p.cmp .geq a.2.2.2.2.1 (0:Int)) then (p.cmp .lss a.2.2.2.2.1 (p.ofNat a.2.2.1)) else Bool.false)<|
 opt.need _ (p.rowOk a.1 (p.add a.2.1 (p.nat a.2.2.2.2.1)) [ci,ci])<|
 opt.need _ (bif (p.cmp .geq a.2.2.2.2.2.1 (0:Int)) then (p.cmp .lss a.2.2.2.2.2.1 (p.ofNat a.2.2.1)) else Bool.false)<|
 opt.need _ (p.rowOk (p.set a.1 (p.add a.2.1 (p.nat a.2.2.2.2.1)) [(D.int .i64 (p.rdI a.1 (p.add a.2.1 (p.nat a.2.2.2.2.2.1)) 0)),(D.int .i64 (p.rdI a.1 (p.add a.2.1 (p.nat a.2.2.2.2.2.1)) 1))]) (p.add a.2.1 (p.nat a.2.2.2.2.2.1)) [ci,ci])<|
 opt.ret _ (Sum.inl ((p.set (p.set a.1 (p.add a.2.1 (p.nat a.2.2.2.2.1)) [(D.int .i64 (p.rdI a.1 (p.add a.2.1 (p.nat a.2.2.2.2.2.1)) 0)),(D.int .i64 (p.rdI a.1 (p.add a.2.1 (p.nat a.2.2.2.2.2.1)) 1))]) (p.add a.2.1 (p.nat a.2.2.2.2.2.1)) [(D.int .i64 (p.rdI a.1 (p.add a.2.1 (p.nat a.2.2.2.2.1)) 0)),(D.int .i64 (p.rdI a.1 (p.add a.2.1 (p.nat a.2.2.2.2.1)) 1))]),(a.2.1,(a.2.2.1,(a.2.2.2.1,((p.ar .add .i64 a.2.2.2.2.1 (1:Int)),((p.ar .sub .i64 a.2.2.2.2.2.1 (1:Int)),())))))))) (
 opt.ret _ (Sum.inr (a.1,()))))
def g89 (it:It):(p:Prim)→(LD×T9)→Option ((LD×Unit)):=
 fun p x=>
 opt.bnd ((LD×Unit)) _ (
 it _ _ (w47 p) (x.1,(x.2.1,(x.2.2.1,(x.2.2.2.1,((0:Int),((p.ar .sub .i64 (p.ofNat x.2.2.1) (1:Int)),()))))))) fun a=>
 opt.ret _ (a.1,())
def G89:=g89 it0
theorem ok89:CtrOk PG v4h (G89 std):=okF (a:=an89) (l:=la89) (gN) (by kernel_rfl) fun _ _=>by kernel_rfl
def w9d:Ctr:=
 ⟨59,[.list 2],[],[(.ret,⟨[(0, .list 2)],[],1⟩)]⟩
def la59:List LA:=
 []
def ja59:List JA:=
 []
def v9m:List CF:=
 [⟨v4h,G89⟩,⟨v4i,G88⟩,⟨v4k,G86⟩]
def an59:Anns:=
 ⟨v9m,ja59,[]⟩
def g59 (it:It):(p:Prim)→(LD×Unit)→Option ((LD×Unit)):=
 fun p x=>
 opt.bnd ((LD×T9)) _ (g86 it p (x.1,())) fun a=>
 opt.ask _ (p.cmp .eql (p.ofNat a.2.2.1) (1:Int)) (
 opt.need _ (p.leN (p.add a.2.1 a.2.2.1) (p.len a.1))<|
 opt.ret _ ((p.cut a.1 a.2.1 a.2.2.1),())) (
 opt.need _ (p.and (p.leN (p.add a.2.1 a.2.2.1) (p.len a.1)) Bool.true)<|
 opt.bnd ((LD×T9)) _ (g88 it p ((p.cut a.1 a.2.1 a.2.2.1),())) fun b=>
 opt.need _ (p.plain b.1)<|
 opt.bnd ((LD×Unit)) _ (g89 it p (a.1,(a.2.1,(a.2.2.1,(a.2.2.2.1,()))))) fun c=>
 opt.need _ (p.and (p.leN (p.add a.2.1 a.2.2.1) (p.len c.1)) Bool.true)<|
 opt.bnd ((LD×T9)) _ (g88 it p ((p.cut c.1 a.2.1 a.2.2.1),())) fun d=>
 opt.need _ (p.plain d.1)<|
 opt.ask _ (p.leN (p.add b.2.2.1 d.2.2.1) b.2.2.2.1) (
 opt.need _ (p.and (p.leN (p.add d.2.1 d.2.2.1) (p.len d.1)) (p.and (p.leN (p.add b.2.1 b.2.2.1) (p.len b.1)) (p.and (p.leN 1 d.2.2.1) (p.leN (p.add b.2.1 b.2.2.2.1) (p.len b.1)))))<|
 opt.need _ (p.leN (p.add b.2.1 (p.add b.2.2.1 d.2.2.1)) (p.len (p.splice b.1 (p.add b.2.1 b.2.2.1) (p.cut d.1 d.2.1 d.2.2.1))))<|
 opt.ret _ ((p.cut (p.splice b.1 (p.add b.2.1 b.2.2.1) (p.cut d.1 d.2.1 d.2.2.1)) b.2.1 (p.add b.2.2.1 d.2.2.1)),())) (
 opt.need _ (p.and (p.leN (p.add d.2.1 d.2.2.1) (p.len d.1)) (p.and (p.leN (p.add b.2.1 b.2.2.1) (p.len b.1)) (p.and (p.leN 1 d.2.2.1) (p.leN (p.add b.2.2.1 d.2.2.1) 1000000))))<|
 opt.need _ (p.leN (p.add 0 (p.add b.2.2.1 d.2.2.1)) (p.len (p.app (p.cut b.1 b.2.1 b.2.2.1) (p.cut d.1 d.2.1 d.2.2.1))))<|
 opt.ret _ ((p.cut (p.app (p.cut b.1 b.2.1 b.2.2.1) (p.cut d.1 d.2.1 d.2.2.1)) 0 (p.add b.2.2.1 d.2.2.1)),())))
def G59:=g59 it0
theorem u1w:CtrOk PG w9d (G59 std):=okF (a:=an59) (l:=la59) (gC ok89 (gC ok88 (gC ok86 (gN)))) (by kernel_rfl) fun _ _=>by kernel_rfl
end Go.Am
end
section
namespace Go.Am
open M06
theorem it0_eq {S R:Type} (b:S→Option (S⊕R)) (s:S):it0 S R b s=z4m b s:=rfl
def x8k (q l:List Pt):Prop:=q.Pairwise Lt∧∀ x,x∈q↔x∈l
theorem z1f {α:Type} {l:List α} {i:Nat} {x:α} (h:l[i]?=some x):l.take (i+1)=l.take i++[x]:=by
 rw [List.take_add_one,h]; rfl
theorem x0c {q l:List Pt} {i:Nat} {x:Pt} (h:x8k q (l.take i)) (hx:l[i]?=some x) (hy:x∈l.take i):x8k q (l.take (i+1)):=by
 refine ⟨h.1,fun z=>?_⟩
 rw [h.2 z,z1f hx]
 simp only [List.mem_append,List.mem_singleton]
 exact ⟨.inl,fun h=>h.elim id fun e=>e▸hy⟩
theorem x0d {q l:List Pt} {i:Nat} {x y:Pt} (hs:l.Pairwise (fun a b=>¬ Lt b a)) (h:x8k q (l.take (i+1))) (hy:l[i]?=some y) (hx:l[i+1]?=some x) (hne:x≠y):x8k (q++[x]) (l.take (i+2)):=by
 have hs':=List.pairwise_iff_getElem.1 hs
 obtain ⟨i1,e1⟩:=List.getElem?_eq_some_iff.1 hx
 obtain ⟨i0,e0⟩:=List.getElem?_eq_some_iff.1 hy
 have hlt:Lt y x:=by
  have:=hs' i (i+1) i0 i1 (by omega)
  rw [e0,e1] at this
  rcases x5i y x with h|h|h
  ·exact h
  ·exact absurd h.symm hne
  ·exact absurd h this
 refine ⟨List.pairwise_append.2 ⟨h.1,by simp,fun a ha b hb=>?_⟩,fun z=>?_⟩
 ·simp at hb; subst hb
  have ha':=(h.2 a).1 ha
  obtain ⟨j,hj⟩:=List.getElem?_of_mem ha'
  have hj1:j<i+1:=by
   have:=(List.getElem?_eq_some_iff.1 hj).1
   rw [List.length_take] at this; omega
  rw [List.getElem?_take_of_lt hj1] at hj
  obtain ⟨j0,ej⟩:=List.getElem?_eq_some_iff.1 hj
  by_cases hji:j=i
  ·subst hji
   rw [e0] at ej; subst ej; exact hlt
  ·have:=hs' j i j0 i0 (by omega)
   rw [ej,e0] at this
   rcases x5i a y with h|h|h
   ·exact h.trans hlt
   ·exact h▸hlt
   ·exact absurd h this
 ·rw [z1f hx]
  simp only [List.mem_append,List.mem_singleton,h.2 z]
theorem x53 {p q:Pt}:(p.1=q.1∧p.2=q.2)↔p=q:=⟨fun h=>Prod.ext h.1 h.2,fun h=>by rw [h]; exact ⟨rfl,rfl⟩⟩
theorem z0w {l:List Pt} {i:Nat} {p:Pt} (h:l[i]?=some p):(z0b l)[i]?=some (eP p):=by simp [z0b,h]
theorem z0v (l:List Pt) (i:Nat) (p:Pt):(z0b l).set i (eP p)=z0b (l.set i p):=by simp [z0b,List.map_set]
theorem z0e (l:List Pt):(z0b l).length=l.length:=by simp [z0b]
theorem z27 (p:Pt):[D.int IntKind.i64 p.1,D.int IntKind.i64 p.2]=eP p:=rfl
theorem x8o {l:List Pt} (hs:l.Pairwise (fun a b=>¬ Lt b a)) (hn:l.length≤1000000) {k0:Nat} (hk1:1≤k0) (hk0:k0<l.length) (h0:x8k (l.take k0) (l.take (k0+1))) (cap:Nat):
  ∃ (L:List Pt) (k:Nat),z4m (y5z std) (z0b l,(0:Nat),l.length,cap,(k0:Int),k0,l.length - k0,cap - k0,(1:Int),())=some (z0b L,(0:Nat),l.length,cap,(k:Int),())∧L.length=l.length∧1≤k∧k≤l.length∧x8k (L.take k) l:=by
 have key:=z9r (b:=y5z std) (l.length - k0) (fun (t:List Pt×Nat) (i:Nat)=>(z0b t.1,(0:Nat),l.length,cap,(t.2:Int),k0,l.length - k0,cap - k0,(i:Int),()))
  (fun t i=>1≤i∧t.1.length=l.length∧1≤t.2∧t.2≤k0+i - 1∧(∀ j,k0+i - 1≤j→t.1[j]?=l[j]?)∧x8k (t.1.take t.2) (l.take (k0+i)))
  (fun r=>∃ (L:List Pt) (k:Nat),r=(z0b L,(0:Nat),l.length,cap,(k:Int),())∧L.length=l.length∧1≤k∧k≤l.length∧x8k (L.take k) l) ?_ ?_ (l,k0) 1 (by omega) ⟨Nat.le_refl _,rfl,hk1,by omega,fun _ _=>rfl,h0⟩
 ·obtain ⟨r,hr,L,k,rfl,h1,h2,h3,h4⟩:=key
  exact ⟨L,k,hr,h1,h2,h3,h4⟩
 ·rintro ⟨L,k⟩ i hi ⟨hi1,hL,hk,hki,hrest,hu⟩
  simp only at hL hk hki hrest hu
  left
  obtain ⟨x,hx⟩:=z0q (l:=l) (i:=k0+i) (by omega)
  obtain ⟨y,hy⟩:=z0q (l:=l) (i:=k0+i - 1) (by omega)
  have hLx:L[k0+i]?=some x:=by rw [hrest _ (by omega)]; exact hx
  have hLy:L[k0+(i - 1)]?=some y:=by
   have e:k0+(i - 1)=k0+i - 1:=by omega
   rw [e,hrest _ (by omega)]; exact hy
  have hLk:∃ z,L[k]?=some z:=z0q (by omega)
  obtain ⟨z,hz⟩:=hLk
  have c1:(i:Int)<((l.length - k0:Nat):Int):=by omega
  have c2:(i:Int)≥0:=by omega
  have c3:(i:Int) - 1≥0:=by omega
  have c4:(i:Int) - 1<((l.length - k0:Nat):Int):=by omega
  have hw:=z1g (i:=i) (by omega)
  have hwk:=z1g (i:=k) (by omega)
  have hw1:IntKind.i64.wrap ((i:Int) - 1)=((i - 1:Nat):Int):=by rw [z1k]<;>omega
  have c3':((i - 1:Nat):Int)≥0:=by omega
  have c4':((i - 1:Nat):Int)<((l.length - k0:Nat):Int):=by omega
  have c5:(k:Int)≥0:=by omega
  have c6:(k:Int)<(l.length:Int):=by omega
  have gx:=z0w hLx
  have gy:=z0w hLy
  have gz:=z0w hz
  have ey:l[k0+i - 1]?=some y:=hy
  have e1:k0+i - 1+1=k0+i:=by omega
  by_cases hxy:x=y
  ·refine ⟨(L,k),?_,by omega,hL,hk,by omega,fun j hj=>hrest j (by omega),?_⟩
   ·have:=x53.2 hxy
    simp only [y5z,z01,z02,z0p,z1b,z1a,z27,z0v,z0e,z0o,z0f,hw,hw1,c1,c2,c3',c4',gx,gy,this.1,this.2]
   ·have hm:x∈l.take (k0+i):=by
     rw [hxy]
     have:(l.take (k0+i))[k0+i - 1]?=some y:=by rw [List.getElem?_take_of_lt (by omega)]; exact hy
     exact List.mem_of_getElem? this
    exact x0c hu hx hm
  ·refine ⟨(L.set k x,k+1),?_,by omega,by simpa using hL,by omega,by omega,fun j hj=>?_,?_⟩
   ·by_cases k1:x.1=y.1
    ·have k2:¬ x.2=y.2:=fun h=>hxy (x53.1 ⟨k1,h⟩)
     simp only [y5z,z01,z02,z0p,z1b,z1a,z27,z0v,z0e,z0o,z0f,hw,hw1,hwk,c1,c2,c3',c4',c5,c6,gx,gy,gz,eq_true k1,eq_false k2]
    ·simp only [y5z,z01,z02,z0p,z1b,z1a,z27,z0v,z0e,z0o,z0f,hw,hw1,hwk,c1,c2,c3',c4',c5,c6,gx,gy,gz,eq_false k1]
   ·simp only at hj⊢
    rw [List.getElem?_set_ne (by omega)]; exact hrest j (by omega)
   ·simp only
    have ht:(L.set k x).take (k+1)=L.take k++[x]:=by
     rw [List.take_add_one,List.take_set_of_le (Nat.le_refl _),List.getElem?_set_self (by omega)]; rfl
    rw [ht]
    have hu':x8k (L.take k) (l.take (k0+i - 1+1)):=by rw [e1]; exact hu
    have:=x0d hs hu' hy (by rw [e1]; exact hx) hxy
    have e2:k0+i - 1+2=k0+(i+1):=by omega
    rw [e2] at this; exact this
 ·rintro ⟨L,k⟩ ⟨hi1,hL,hk,hki,hrest,hu⟩
  simp only at hL hk hki hrest hu
  have hn:¬ (((l.length - k0:Nat):Int)<((l.length - k0:Nat):Int)):=by omega
  refine ⟨(z0b L,(0:Nat),l.length,cap,(k:Int),()),?_,L,k,rfl,hL,hk,by omega,?_⟩
  ·simp only [y5z,z01,z02,hn]
  ·have e:k0+(l.length - k0)=l.length:=by omega
   rw [e,List.take_length] at hu; exact hu
theorem v0n {l:List Pt} (hs:l.Pairwise (fun a b=>¬ Lt b a)) (hn:l.length≤1000000):
  ∃ (L:List Pt) (m:Nat),v7d std (z0b l,(0:Nat),l.length,l.length,())=some (z0b L,(0:Nat),m,l.length,())∧L.length=l.length∧m≤l.length∧x8k (L.take m) l:=by
 unfold v7d
 by_cases h2:l.length<2
 ·refine ⟨l,l.length,?_,rfl,Nat.le_refl _,?_⟩
  ·have:(l.length:Int)<2:=by omega
   simp only [w8s,z01,z02,this]
  ·rw [List.take_length]
   refine ⟨?_,fun _=>Iff.rfl⟩
   match l,h2 with
   |[],_=>exact .nil
   |[a],_=>simp
   |a::b::r,h2=>simp at h2; omega
 have h2':¬ (l.length:Int)<2:=by omega
 have key:=z9r (b:=y28 it0 std) l.length (fun (_:Unit) (i:Nat)=>(z0b l,(0:Nat),l.length,l.length,(i:Int),()))
  (fun _ i=>1≤i∧x8k (l.take i) (l.take i))
  (fun r=>∃ (L:List Pt) (m:Nat),(r= .inl (z0b L,(0:Nat),m,l.length,())∨r= .inr (z0b L,(0:Nat),m,l.length,()))∧L.length=l.length∧m≤l.length∧x8k (L.take m) l) ?_ ?_ () 1 (by omega) ⟨Nat.le_refl _,?_⟩
 ·obtain ⟨r,hr,L,m,h,h3,h4,h5⟩:=key
  refine ⟨L,m,?_,h3,h4,h5⟩
  simp only [w8s,it0_eq,z01,z02,h2']
  have e0:((1:Nat):Int)=1:=rfl
  rw [e0] at hr
  rw [hr]
  rcases h with rfl|rfl<;>rfl
 ·rintro _ i hi ⟨hi1,hu⟩
  obtain ⟨x,hx⟩:=z0q (l:=l) (i:=i) hi
  obtain ⟨y,hy⟩:=z0q (l:=l) (i:=i - 1) (by omega)
  have c1:(i:Int)<(l.length:Int):=by omega
  have c2:(i:Int)≥0:=by omega
  have hw:=z1g (i:=i) (by omega)
  have hw1:IntKind.i64.wrap ((i:Int) - 1)=((i - 1:Nat):Int):=by rw [z1k]<;>omega
  have c3':((i - 1:Nat):Int)≥0:=by omega
  have c4':((i - 1:Nat):Int)<(l.length:Int):=by omega
  have gx:=z0w hx
  have gy:=z0w hy
  have e1:i - 1+1=i:=by omega
  by_cases hxy:x=y
  ·right
   have hm:x∈l.take i:=by
    rw [hxy]
    have:(l.take i)[i - 1]?=some y:=by rw [List.getElem?_take_of_lt (by omega)]; exact hy
    exact List.mem_of_getElem? this
   obtain ⟨L,k,hit,hL,hk,hkl,hU⟩:=x8o hs hn hi1 hi (x0c hu hx hm) l.length
   have d1:(k:Int)≥0:=by omega
   have d2:(k:Int)≤(l.length:Int):=by omega
   have d3:k+(l.length - k)≤l.length:=by omega
   have c5:(i:Int)≤(l.length:Int):=by omega
   have c6:(l.length:Int)≤(l.length:Int):=by omega
   have c7:(0:Int)≥0:=by omega
   have c8:(0:Int)≤(k:Int):=by omega
   have:=x53.2 hxy
   have hz:[D.int IntKind.i64 (0:Int),D.int IntKind.i64 (0:Int)]=eP (0,0):=rfl
   have hsp:z0b L=z0b L:=rfl
   refine ⟨.inl (z0b (L.take k++List.replicate (l.length - k) (0,0)++L.drop (k+(l.length - k))),(0:Nat),k,l.length,()),?_,_,_, .inl rfl,?_,hkl,?_⟩
   ·simp only [y28,it0_eq,z01,z02,z0p,z1b,z1a,z27,z0v,z0e,z0o,z0f,hw,hw1,c1,c2,c3',c4',c5,c6,c7,c8,d1,d2,d3,gx,gy,this.1,this.2,hit,hL,Int.toNat_zero,Nat.sub_zero,hz,List.length_replicate,Nat.add_zero]
    simp [z0b]
   ·simp [hL]; omega
   ·rw [List.take_append_of_le_length (by simp; omega),List.take_append_of_le_length (by simp; omega),List.take_take,Nat.min_self]
    exact hU
  ·left
   refine ⟨(),?_,by omega,?_⟩
   ·by_cases k1:x.1=y.1
    ·have k2:¬ x.2=y.2:=fun h=>hxy (x53.1 ⟨k1,h⟩)
     simp only [y28,it0_eq,z01,z02,z0p,z1b,z1a,z27,z0v,z0e,z0o,z0f,hw,hw1,c1,c2,c3',c4',gx,gy,k1,k2]
    ·simp only [y28,it0_eq,z01,z02,z0p,z1b,z1a,z27,z0v,z0e,z0o,z0f,hw,hw1,c1,c2,c3',c4',gx,gy,k1]
   ·have hu':x8k (l.take i) (l.take (i - 1+1)):=by rw [e1]; exact hu
    have:=x0d hs hu' hy (by rw [e1]; exact hx) hxy
    have e2:i - 1+2=i+1:=by omega
    rw [e2] at this
    rw [z1f hx] at this⊢
    exact this
 ·rintro _ ⟨hi1,hu⟩
  have hnn:¬ ((l.length:Int)<(l.length:Int)):=by omega
  refine ⟨.inr (z0b l,(0:Nat),l.length,l.length,()),?_,l,l.length, .inr rfl,rfl,Nat.le_refl _,?_⟩
  ·simp only [y28,it0_eq,z01,z02,hnn]
  ·rw [List.take_length] at hu⊢; exact hu
 ·match l,h2 with
  |a::r,_=>exact ⟨by simp,fun _=>Iff.rfl⟩
  |[],h2=>exact absurd (by simp) h2
end Go.Am
end
section
namespace M06
def far (a b:Pt):Int:=dt (sb a b) (sb a b)
def Nx (S:List Pt) (a b:Pt):Prop:=b∈S∧a≠b∧∀ x∈S,0≤cr a b x∧(cr a b x=0→0≤dt (sb b a) (sb x a)∧far a x≤far a b)
def Pth (S:List Pt):List Pt→Prop
 |a::b::l=>Nx S a b∧Pth S (b::l)
 |_=>True
def Cyc (S:List Pt):List Pt→Prop
 |[]=>False
 |c0::r=>c0∈S∧(∀ x∈S,Le c0 x)∧((r=[]∧∀ x∈S,x=c0)∨(r≠[]∧Pth S (c0::r++[c0])∧c0∉r))
theorem Pth.tail {S:List Pt} {a:Pt} {l:List Pt} (h:Pth S (a::l)):Pth S l:=by
 match l,h with
 |[],_=>trivial
 |_::_,h=>exact h.2
theorem y8q {S:List Pt} {m:Pt}:∀ {l r:List Pt},Pth S (l++[m])→Pth S (m::r)→Pth S (l++m::r)
 |[],r,_,h=>h
 |[a],r,h1,h2=>⟨h1.1,h2⟩
 |a::b::l,r,h1,h2=>⟨h1.1,y8q (l:=b::l) h1.2 h2⟩
theorem w99 {s t x:Pt} (hst:Lt s t) (h1:Le s x) (h2:Le x t) (hc:cr s t x=0):0≤dt (sb t s) (sb x s)∧far s x≤far s t:=by
 rcases h1 with rfl|h1
 ·refine ⟨by simp [dt,sb],?_⟩
  simp only [far,dt,sb]
  have a:=sqn (s.1 - t.1)
  have b:=sqn (s.2 - t.2)
  simp; omega
 obtain ⟨s1,s2⟩:=s; obtain ⟨t1,t2⟩:=t; obtain ⟨x1,x2⟩:=x
 simp only [Lt,Le,Pos,sb,cr,crs,far,dt,Prod.mk.injEq] at*
 generalize hT1:t1 - s1=T1 at*
 generalize hT2:t2 - s2=T2 at*
 generalize hX1:x1 - s1=X1 at*
 generalize hX2:x2 - s2=X2 at*
 have e1:s1 - x1= -X1:=by omega
 have e2:s2 - x2= -X2:=by omega
 have e3:s1 - t1= -T1:=by omega
 have e4:s2 - t2= -T2:=by omega
 rw [e1,e2,e3,e4]
 have k1:0≤T1:=by omega
 have k2:0≤X1∧X1≤T1:=by omega
 rcases Int.lt_or_eq_of_le k1 with hp|hz
 ·have q1:0≤X1*T1:=Int.mul_nonneg k2.1 k1
  have hcc:T1*X2=T2*X1:=by omega
  have q3:X1*X1≤T1*T1:=Int.mul_le_mul k2.2 k2.2 k2.1 k1
  have q2:(T2*X2)*T1=T2*T2*X1:=by grind
  have q4:0≤T2*T2*X1:=Int.mul_nonneg (sqn _) k2.1
  have q5:0≤T2*X2:=by
   refine Classical.byContradiction fun hn=>?_
   have:=Int.mul_neg_of_neg_of_pos (Int.not_le.1 hn) hp
   omega
  have q6:(X2*X2)*(T1*T1)=(T2*T2)*(X1*X1):=by grind
  have q7:(T2*T2)*(X1*X1)≤(T2*T2)*(T1*T1):=Int.mul_le_mul_of_nonneg_left q3 (sqn _)
  have q8:0<T1*T1:=Int.mul_pos hp hp
  have q9:X2*X2≤T2*T2:=by
   refine Classical.byContradiction fun hn=>?_
   have:=Int.mul_lt_mul_of_pos_right (Int.not_le.1 hn) q8
   omega
  refine ⟨?_,?_⟩
  ·have:T1*X1=X1*T1:=Int.mul_comm _ _
   omega
  ·simp only [Int.neg_mul_neg]; omega
 ·have hX:X1=0:=by omega
  subst hX
  rw [←hz]
  have r1:0≤X2:=by omega
  have r2:X2≤T2:=by omega
  have r3:0≤T2:=by omega
  refine ⟨?_,?_⟩
  ·have:=Int.mul_nonneg r3 r1; simp; exact this
  ·simp only [Int.neg_mul_neg]
   have:=Int.mul_le_mul r2 r2 r1 r3
   simp; omega
theorem y41 {S:List Pt}:∀ {st:List Pt},x2t st→(∀ x∈S,w5r st x)→(∀ y∈st,y∈S)→Pth S st.reverse
 |[],_,_,_=>trivial
 |[_],_,_,_=>trivial
 |t::s::r,hd,he,hs=>by
  have ih:=y41 (st:=s::r) hd.2 (fun x hx=>(he x hx).2) (fun y hy=>hs y (List.mem_cons_of_mem _ hy))
  rw [List.reverse_cons,List.reverse_cons] at*
  rw [List.append_assoc]
  refine y8q ih ⟨⟨hs t (by simp),hd.1.ne,fun x hx=>?_⟩,trivial⟩
  have e:=(he x hx).1
  exact ⟨e.1,fun h0=>w99 hd.1 (e.2 h0).1 (e.2 h0).2 h0⟩
def ng (a:Pt):Pt:=(-a.1, -a.2)
theorem x3r (a:Pt):ng (ng a)=a:=by simp [ng]
theorem w7s (a b c:Pt):cr (ng a) (ng b) (ng c)=cr a b c:=by simp only [cr,crs,sb,ng]; grind
theorem w7r (a b:Pt):Lt (ng a) (ng b)↔Lt b a:=by simp only [Lt,Pos,sb,ng]; omega
theorem w54 (a b:Pt):far (ng a) (ng b)=far a b:=by simp only [far,dt,sb,ng]; grind
theorem v7x (a b c:Pt):dt (sb (ng b) (ng a)) (sb (ng c) (ng a))=dt (sb b a) (sb c a):=by simp only [dt,sb,ng]; grind
theorem w53 {a b:Pt} (h:ng a=ng b):a=b:=by rw [←x3r a,h,x3r]
theorem w5w (p:Pt):∀ st:List Pt,pop (ng p) (st.map ng)=(pop p st).map ng
 |[]=>by simp [pop]
 |[t]=>by simp [y43]
 |t::s::r=>by
  have ih:=w5w p (s::r)
  simp only [List.map_cons] at ih⊢
  by_cases h:cr s t p≤0
  ·rw [y2f p h,y2f (ng p) (by rw [w7s]; exact h),ih]
  ·rw [y2e p h,y2e (ng p) (by rw [w7s]; exact h)]; rfl
theorem w0h:∀ (l st:List Pt),(l.map ng).foldl push (st.map ng)=(l.foldl push st).map ng
 |[],_=>rfl
 |p::l,st=>by
  simp only [List.map_cons,List.foldl_cons]
  rw [←w0h l (push st p)]
  congr 1
  simp only [push,List.map_cons,w5w]
theorem v7v {S:List Pt} {a b:Pt} (h:Nx (S.map ng) (ng a) (ng b)):Nx S a b:=by
 obtain ⟨h1,h2,h3⟩:=h
 refine ⟨?_,fun e=>h2 (by rw [e]),fun x hx=>?_⟩
 ·obtain ⟨y,hy,e⟩:=List.mem_map.1 h1
  rw [←w53 e]; exact hy
 ·have:=h3 (ng x) (List.mem_map.2 ⟨x,hx,rfl⟩)
  rwa [w7s,w54,w54,v7x] at this
theorem w5v {S:List Pt}:∀ {l:List Pt},Pth (S.map ng) (l.map ng)→Pth S l
 |[],_=>trivial
 |[_],_=>trivial
 |a::b::l,h=>⟨v7v h.1,w5v (l:=b::l) h.2⟩
end M06
end
section
namespace Go.Am
open M06
theorem x3c {s t p:Pt} (hs:z3s s) (ht:z3s t) (hp:z3s p):
  IntKind.i64.wrap (t.1 - s.1)=t.1 - s.1∧IntKind.i64.wrap (t.2 - s.2)=t.2 - s.2∧IntKind.i64.wrap (p.1 - s.1)=p.1 - s.1∧IntKind.i64.wrap (p.2 - s.2)=p.2 - s.2∧
  IntKind.i64.wrap ((t.1 - s.1)*(p.2 - s.2))=(t.1 - s.1)*(p.2 - s.2)∧IntKind.i64.wrap ((t.2 - s.2)*(p.1 - s.1))=(t.2 - s.2)*(p.1 - s.1)∧
  IntKind.i64.wrap ((t.1 - s.1)*(p.2 - s.2) - (t.2 - s.2)*(p.1 - s.1))=cr s t p:=by
 obtain ⟨a1,a2,a3,a4⟩:=hs
 obtain ⟨b1,b2,b3,b4⟩:=ht
 obtain ⟨c1,c2,c3,c4⟩:=hp
 have big:∀ {a b:Int}, -2097152≤a→a≤2097152→ -2097152≤b→b≤2097152→ -4398046511104≤a*b∧a*b≤4398046511104:=by
  intro a b h1 h2 h3 h4
  have e1:=Int.mul_nonneg (show 0≤2097152 - a by omega) (show 0≤2097152 - b by omega)
  have e2:=Int.mul_nonneg (show 0≤2097152+a by omega) (show 0≤2097152+b by omega)
  have e3:=Int.mul_nonneg (show 0≤2097152 - a by omega) (show 0≤2097152+b by omega)
  have e4:=Int.mul_nonneg (show 0≤2097152+a by omega) (show 0≤2097152 - b by omega)
  simp only [Int.sub_mul,Int.add_mul,Int.mul_sub,Int.mul_add] at e1 e2 e3 e4
  omega
 have m1:=big (a:=t.1 - s.1) (b:=p.2 - s.2) (by omega) (by omega) (by omega) (by omega)
 have m2:=big (a:=t.2 - s.2) (b:=p.1 - s.1) (by omega) (by omega) (by omega) (by omega)
 refine ⟨?_,?_,?_,?_,?_,?_,?_⟩
 any_goals (rw [z1k]<;>omega)
 rw [z1k _ (by omega) (by omega)]
 rfl
theorem w25 {L:List Pt} {p:Pt} (hp:z3s p) (hL:∀ x∈L,z3s x) (hLn:L.length≤1000000) (les:List (List D)) (n i:Int):
  ∀ (k:Nat) (s tl:List Pt),s.length=k→L=s.reverse++tl→
   z4m (y6p std) (z0b L,p.1,p.2,(0:Nat),s.length,les,n,i,())=some (z0b L,p.1,p.2,(0:Nat),(pop p s).length,les,n,i,()):=by
 intro k
 induction k with
 |zero=>
  intro s tl hk hl
  have:s=[]:=List.length_eq_zero_iff.1 hk
  subst this
  rw [z0k]
  have hn:¬ ((0:Nat):Int)>1:=by omega
  have:y6p std (z0b L,p.1,p.2,(0:Nat),([]:List Pt).length,les,n,i,())=some (.inr (z0b L,p.1,p.2,(0:Nat),0,les,n,i,())):=by
   simp only [y6p,z01,z02,hn]
  rw [this]
  have:pop p []=[]:=by simp [pop]
  rw [this]; rfl
 |succ k ih=>
  intro s tl hk hl
  match s,hk,hl with
  |[t],hk,hl=>
   rw [z0k]
   have hn:¬ ((1:Nat):Int)>1:=by omega
   have:y6p std (z0b L,p.1,p.2,(0:Nat),[t].length,les,n,i,())=some (.inr (z0b L,p.1,p.2,(0:Nat),1,les,n,i,())):=by
    simp only [y6p,z01,z02,hn]
   rw [this,y43]; rfl
  |t::s::r,hk,hl=>
   rw [z0k]
   have hlen:(t::s::r).length=r.length+2:=rfl
   rw [hlen]
   have hLl:L.length=r.length+2+tl.length:=by rw [hl]; simp; omega
   have ht:L[r.length+1]?=some t:=by
    rw [hl]
    simp only [List.reverse_cons,List.append_assoc,List.cons_append,List.nil_append]
    rw [List.getElem?_append_right (by simp)]
    simp
   have hs:L[r.length]?=some s:=by
    rw [hl]
    simp only [List.reverse_cons,List.append_assoc,List.cons_append,List.nil_append]
    rw [List.getElem?_append_right (by simp)]
    simp
   have gt:=z0w ht
   have gs:=z0w hs
   obtain ⟨w1,w2,w3,w4,w5,w6,w7⟩:=x3c (hL s (List.mem_of_getElem? hs)) (hL t (List.mem_of_getElem? ht)) hp
   have c1:((r.length+2:Nat):Int)>1:=by omega
   have v1:IntKind.i64.wrap (((r.length+2:Nat):Int) - 1)=((r.length+1:Nat):Int):=by rw [z1k]<;>omega
   have v2:IntKind.i64.wrap (((r.length+2:Nat):Int) - 2)=(r.length:Int):=by rw [z1k]<;>omega
   have c2:((r.length+1:Nat):Int)≥0:=by omega
   have c3:((r.length+1:Nat):Int)<((r.length+2:Nat):Int):=by omega
   have c4:(r.length:Int)≥0:=by omega
   have c5:(r.length:Int)<((r.length+2:Nat):Int):=by omega
   have c6:(0:Int)≤((r.length+1:Nat):Int):=by omega
   have c7:((r.length+1:Nat):Int)≤((r.length+2:Nat):Int):=by omega
   have c8:r.length+1≤L.length:=by omega
   have c9:(0:Int)≥0:=by omega
   have c10:((r.length+1:Nat):Int)≤((r.length+1:Nat):Int):=by omega
   by_cases hc:cr s t p≤0
   ·have hb:y6p std (z0b L,p.1,p.2,(0:Nat),r.length+2,les,n,i,())=some (.inl (z0b L,p.1,p.2,(0:Nat),r.length+1,les,n,i,())):=by
     simp only [y6p,z01,z02,z0p,z1b,z1a,z27,z0v,z0e,z0o,z09,v1,v2,c1,c2,c3,c4,c5,c6,c7,c8,c9,c10,gt,gs,w1,w2,w3,w4,w5,w6,w7,hc,Int.toNat_zero,Nat.sub_zero,Nat.add_zero]
    rw [hb,y2f p hc]
    exact ih (s::r) (t::tl) (by simpa using hk) (by rw [hl]; simp)
   ·have hb:y6p std (z0b L,p.1,p.2,(0:Nat),r.length+2,les,n,i,())=some (.inr (z0b L,p.1,p.2,(0:Nat),r.length+2,les,n,i,())):=by
     simp only [y6p,z01,z02,z0p,z1b,z1a,z27,z0v,z0e,z0o,z09,v1,v2,c1,c2,c3,c4,c5,c6,c7,c8,c9,c10,gt,gs,w1,w2,w3,w4,w5,w6,w7,hc,Int.toNat_zero,Nat.sub_zero,Nat.add_zero]
    rw [hb,y2e p hc]; rfl
theorem z9o (p:Pt):∀ s:List Pt,∃ a,s=a++pop p s
 |[]=>⟨[],by simp [pop]⟩
 |[t]=>⟨[],by rw [y43]; rfl⟩
 |t::s::r=>by
  by_cases h:cr s t p≤0
  ·obtain ⟨a,ha⟩:=z9o p (s::r)
   exact ⟨t::a,by rw [y2f p h,List.cons_append, ←ha]⟩
  ·exact ⟨[],by rw [y2e p h]; rfl⟩
theorem x7p {l st:List Pt} (hl:∀ x∈l,z3s x) (hst:∀ x∈st,z3s x):∀ x∈l.foldl push st,z3s x:=by
 induction l generalizing st with
 |nil=>exact hst
 |cons p l ih=>
  refine ih (fun x hx=>hl x (List.mem_cons_of_mem _ hx)) (fun x hx=>?_)
  rcases List.mem_cons.1 hx with rfl|hx
  ·exact hl _ (by simp)
  ·obtain ⟨a,ha⟩:=z9o p st
   exact hst x (by rw [ha]; exact List.mem_append_right _ hx)
theorem x5w {l st:List Pt}:(l.foldl push st).length≤st.length+l.length:=by
 induction l generalizing st with
 |nil=>simp
 |cons p l ih=>
  have h:=ih (st:=push st p)
  obtain ⟨a,ha⟩:=z9o p st
  have h2:(push st p).length=(pop p st).length+1:=rfl
  have h3:st.length=a.length+(pop p st).length:=by
   have:=congrArg List.length ha
   rwa [List.length_append] at this
  simp only [List.foldl_cons,List.length_cons]
  omega
def z3d (l:List Pt):List Pt:=(l.foldl push []).reverse
theorem w6q {l:List Pt} (hl:∀ x∈l,z3s x) (hn:l.length≤100000) (h1:1≤l.length):
  G88 std (z0b l,())=some (z0b (z3d l),(0:Nat),(z3d l).length - 1,(z3d l).length - 1,())∧1≤(z3d l).length∧(z3d l).length≤l.length:=by
 have hlen:(z3d l).length≤l.length:=by
  have:=x5w (l:=l) (st:=[])
  simp [z3d]; simpa using this
 have hpos:1≤(z3d l).length:=by
  match l,h1 with
  |p::r,_=>
   have:∀ (r st:List Pt),st≠[]→r.foldl push st≠[]:=by
    intro r
    induction r with
    |nil=>intro st h; exact h
    |cons q r ih=>intro st h; exact ih _ (by simp [push])
   have h2:=this r (push [] p) (by simp [push])
   have:(z3d (p::r))≠[]:=by simp only [z3d,List.foldl_cons]; simpa using h2
   exact List.length_pos_iff.2 this
 refine ⟨?_,hpos,hlen⟩
 have key:=y2k (b:=x8b it0 std) (fun (i:Nat)=>(z0b (z3d (l.take i)),z0b l,(l.length:Int),(i:Int),())) (fun i=>i≤l.length) (fun i=>l.length - i) (fun _=>(z0b (z3d l),())) (fun i hi=>by
  by_cases hlt:i<l.length
  ·left
   obtain ⟨p,hp⟩:=z0q hlt
   have hps:=hl p (List.mem_of_getElem? hp)
   have gp:=z0w hp
   have c1:(i:Int)<(l.length:Int):=by omega
   have c2:(i:Int)≥0:=by omega
   have hw:=z1g (i:=i) (by omega)
   have hst:∀ x∈z3d (l.take i),z3s x:=fun x hx=>x7p (l:=l.take i) (st:=[]) (fun y hy=>hl y (List.mem_of_mem_take hy)) (by simp) x (by simpa [z3d] using hx)
   have hll:(z3d (l.take i)).length≤i:=by
    have:=x5w (l:=l.take i) (st:=[])
    simp [z3d]; simp at this; omega
   have hloop:=w25 (L:=z3d (l.take i)) hps hst (by omega) (z0b l) (l.length:Int) (i:Int) _ ((l.take i).foldl push []) [] rfl (by simp [z3d])
   have hcl:((l.take i).foldl push []).length=(z3d (l.take i)).length:=by simp [z3d]
   rw [hcl] at hloop
   obtain ⟨a,ha⟩:=z9o p ((l.take i).foldl push [])
   generalize hq:pop p ((l.take i).foldl push [])=q at hloop ha
   have hch:z3d (l.take i)=q.reverse++a.reverse:=by simp only [z3d,ha,List.reverse_append]
   have hcut:(z0b (z3d (l.take i))).take q.length=z0b q.reverse:=by
    rw [hch]; simp [z0b]
   have hql:q.length≤(z3d (l.take i)).length:=by rw [hch]; simp
   have hnew:z3d (l.take (i+1))=q.reverse++[p]:=by
    rw [z3d,z1f hp,List.foldl_append]
    simp only [List.foldl_cons,List.foldl_nil,push,hq,List.reverse_cons]
   refine ⟨i+1,?_,by omega,by omega,rfl⟩
   rw [hnew]
   have d1:q.length+1≤1000000:=by omega
   have d2:z0b q.reverse++[eP p]=z0b (q.reverse++[p]):=by simp [z0b]
   have d4:q.length+1=(q.reverse++[p]).length:=by simp
   have d3:(z0b q.reverse++[eP p]).length=q.length+1:=by simp [z0b]
   simp only [x8b,it0_eq,z01,z02,z0p,z1b,z1a,z27,z0v,z0e,z0f,hw,c1,c2,gp,hloop,List.drop_zero,hcut,hql,d1,List.take_succ_cons,List.take_zero,d3,Nat.le_refl,d2, ←d4]
  ·right
   have:i=l.length:=by omega
   subst this
   have hn:¬ ((l.length:Int)<(l.length:Int)):=by omega
   simp only [x8b,it0_eq,z01,z02,hn,List.take_length]) 0 (Nat.zero_le _)
 have e0:(z0b (z3d (l.take 0)),z0b l,(l.length:Int),((0:Nat):Int),())=(([]:List (List D)),z0b l,std.ofNat (std.len (z0b l)),(0:Int),()):=by
  simp [z3d,z0b,z2j,z4r]
 rw [e0] at key
 have v1:IntKind.i64.wrap (((z3d l).length:Int) - 1)=(((z3d l).length - 1:Nat):Int):=by rw [z1k]<;>omega
 have c1:(0:Int)≤(((z3d l).length - 1:Nat):Int):=by omega
 have c2:(((z3d l).length - 1:Nat):Int)≤((z3d l).length:Int):=by omega
 have c3:(((z3d l).length - 1:Nat):Int)≤(((z3d l).length - 1:Nat):Int):=by omega
 have c4:(0:Int)≥0:=by omega
 unfold G88
 simp only [z2j,z4r] at key
 simp only [g88,it0_eq,z2j,z4r,z4g,z5d,z5m,key,Option.bind_some]
 simp only [z01,z02,z0e,z0o,v1,c1,c2,c3,c4,Int.toNat_zero,Nat.sub_zero,Nat.add_zero]
end Go.Am
end
section
namespace M06
theorem lag (u v:Pt):dt u u*dt v v=dt u v*dt u v+crs u v*crs u v:=by simp only [dt,crs]; grind
theorem z63 (u:Pt):0≤dt u u:=by have:=sqn u.1; have:=sqn u.2; simp only [dt]; omega
theorem z1e {u:Pt} (h:u≠(0,0)):0<dt u u:=by
 have a:=sqn u.1
 have b:=sqn u.2
 refine Classical.byContradiction fun hc=>h ?_
 simp only [dt] at hc
 have e1:u.1*u.1=0:=by omega
 have e2:u.2*u.2=0:=by omega
 exact Prod.ext (by rcases Int.mul_eq_zero.1 e1 with h|h<;>exact h) (by rcases Int.mul_eq_zero.1 e2 with h|h<;>exact h)
theorem z2h {a b:Pt}:sb a b=(0,0)↔a=b:=by
 simp only [sb,Prod.mk.injEq]
 exact ⟨fun h=>Prod.ext (by omega) (by omega),fun h=>by subst h; omega⟩
structure y91 (S:List Pt) (d a b:Pt):Prop where
 ina:a∈S
 inb:b∈S
 par:crs d (sb b a)=0
 left:∀ x∈S,0≤crs d (sb x a)
 on:∀ x∈S,crs d (sb x a)=0→0≤dt d (sb x a)∧0≤dt d (sb b x)
theorem y5v {d v:Pt} (hd:d≠(0,0)) (h1:crs d v=0) (h2:dt d v=0):v=(0,0):=by
 have:=lag d v
 rw [h1,h2] at this
 have hp:=z1e hd
 refine Classical.byContradiction fun hv=>?_
 have:=Int.mul_pos hp (z1e hv)
 omega
theorem y91.sum {A B:List Pt} {T:List Pt} (hT:∀ z,z∈T↔∃ x∈A,∃ y∈B,z=ad x y) {d a b a' b':Pt} (h:y91 A d a b) (h':y91 B d a' b'):y91 T d (ad a a') (ad b b'):=by
 have add1:∀ x y p q:Pt,crs d (sb (ad x y) (ad p q))=crs d (sb x p)+crs d (sb y q):=by intros; simp only [crs,sb,ad]; grind
 have add2:∀ x y p q:Pt,dt d (sb (ad x y) (ad p q))=dt d (sb x p)+dt d (sb y q):=by intros; simp only [dt,sb,ad]; grind
 refine ⟨(hT _).2 ⟨_,h.ina,_,h'.ina,rfl⟩,(hT _).2 ⟨_,h.inb,_,h'.inb,rfl⟩,?_,?_,?_⟩
 ·rw [add1,h.par,h'.par]; rfl
 ·intro z hz
  obtain ⟨x,hx,y,hy,rfl⟩:=(hT z).1 hz
  rw [add1]
  have:=h.left x hx; have:=h'.left y hy; omega
 ·intro z hz hz0
  obtain ⟨x,hx,y,hy,rfl⟩:=(hT z).1 hz
  rw [add1] at hz0
  have l1:=h.left x hx
  have l2:=h'.left y hy
  have o1:=h.on x hx (by omega)
  have o2:=h'.on y hy (by omega)
  rw [add2,add2]; omega
theorem y91.sub {S T:List Pt} {d a b:Pt} (h:y91 S d a b) (hs:∀ x∈T,x∈S) (ha:a∈T) (hb:b∈T):y91 T d a b:=
 ⟨ha,hb,h.par,fun x hx=>h.left x (hs x hx),fun x hx=>h.on x (hs x hx)⟩
def z68 (u v:Pt):Prop:=crs u v=0∧0<dt u v
theorem z68.mul {u v:Pt} (h:z68 u v) (w:Pt):dt u u*crs v w=dt u v*crs u w∧dt u u*dt v w=dt u v*dt u w:=by
 have h0:=h.1
 simp only [crs,dt] at*
 constructor<;>grind
theorem z68.ne {u v:Pt} (h:z68 u v):u≠(0,0):=by
 rintro rfl; have:=h.2; simp [dt] at this
theorem z68.symm {u v:Pt} (h:z68 u v):z68 v u:=by
 refine ⟨?_,?_⟩
 ·have:=h.1; simp only [crs] at*; grind
 ·have:=h.2; simp only [dt] at*; rw [Int.mul_comm v.1,Int.mul_comm v.2]; exact this
theorem z79 {a b c d:Int} (ha:0<a) (hc:0<c) (h:a*b=c*d):(0≤b↔0≤d)∧(b=0↔d=0):=by
 have p:∀ {x y z w:Int},0<x→0<z→x*y=z*w→0≤y→0≤w:=by
  intro x y z w hx hz h hy
  refine Classical.byContradiction fun hn=>?_
  have:=Int.mul_nonneg (Int.le_of_lt hx) hy
  have:=Int.mul_neg_of_pos_of_neg hz (Int.not_le.1 hn)
  omega
 have q:∀ {x y z w:Int},0<z→x*y=z*w→y=0→w=0:=by
  intro x y z w hz h hy
  rw [hy,Int.mul_zero] at h
  rcases Int.mul_eq_zero.1 h.symm with h|h
  ·omega
  ·exact h
 exact ⟨⟨p ha hc h,p hc ha h.symm⟩,⟨q hc h,q ha h.symm⟩⟩
theorem y91.same {S:List Pt} {d e a b:Pt} (h:y91 S d a b) (hs:z68 d e):y91 S e a b:=by
 have hd:=z1e hs.ne
 have k:∀ w,(0≤crs e w↔0≤crs d w)∧(crs e w=0↔crs d w=0):=fun w=>z79 hd hs.2 (hs.mul w).1
 have k2:∀ w,(0≤dt e w↔0≤dt d w)∧(dt e w=0↔dt d w=0):=fun w=>z79 hd hs.2 (hs.mul w).2
 refine ⟨h.ina,h.inb,(k _).2.2 h.par,fun x hx=>(k _).1.2 (h.left x hx),fun x hx h0=>?_⟩
 have:=h.on x hx ((k _).2.1 h0)
 exact ⟨(k2 _).1.2 this.1,(k2 _).1.2 this.2⟩
theorem y8y {a b:Int} (hb:0≤b) (h:a*a≤b*b):a≤b:=by
 refine Classical.byContradiction fun hn=>?_
 have:b<a:=by omega
 have:=Int.mul_lt_mul_of_pos_left this (show 0<a by omega)
 have:=Int.mul_le_mul_of_nonneg_right (show b≤a by omega) hb
 have:=Int.mul_comm a b
 omega
theorem y5k {a b x:Pt} (hab:a≠b) (h0:cr a b x=0) (h1:0≤dt (sb b a) (sb x a)):far a x≤far a b↔0≤dt (sb b a) (sb b x):=by
 have hne:sb b a≠(0,0):=fun h=>hab (z2h.1 h).symm
 have hp:=z1e hne
 have e1:far a x=dt (sb x a) (sb x a):=by simp only [far,dt,sb]; grind
 have e2:far a b=dt (sb b a) (sb b a):=by simp only [far,dt,sb]; grind
 have e3:dt (sb b a) (sb b x)=dt (sb b a) (sb b a) - dt (sb b a) (sb x a):=by simp only [dt,sb]; grind
 have hl:=lag (sb b a) (sb x a)
 have h0':crs (sb b a) (sb x a)=0:=h0
 rw [h0'] at hl
 rw [e1,e2,e3]
 generalize dt (sb b a) (sb x a)=m at*
 generalize dt (sb b a) (sb b a)=n at*
 generalize dt (sb x a) (sb x a)=k at*
 have hl':n*k=m*m:=by omega
 constructor
 ·intro h
  have:n*k≤n*n:=Int.mul_le_mul_of_nonneg_left h (by omega)
  have:=y8y (a:=m) (b:=n) (by omega) (by omega)
  omega
 ·intro h
  have h2:m*m≤n*n:=Int.mul_le_mul (by omega) (by omega) h1 (by omega)
  refine Classical.byContradiction fun hn=>?_
  have:=Int.mul_lt_mul_of_pos_left (show n<k by omega) hp
  omega
theorem w7o {S:List Pt} {a b:Pt} (ha:a∈S) (h:Nx S a b):y91 S (sb b a) a b:=by
 obtain ⟨h1,h2,h3⟩:=h
 refine ⟨ha,h1,?_,fun x hx=>(h3 x hx).1,fun x hx h0=>?_⟩
 ·simp only [crs,sb]; grind
 ·have:=(h3 x hx).2 h0
  exact ⟨this.1,(y5k h2 h0 this.1).1 this.2⟩
theorem face_nx {S:List Pt} {d a b:Pt} (hd:d≠(0,0)) (h:y91 S d a b) (hab:a≠b):Nx S a b∧z68 d (sb b a):=by
 have hpos:0<dt d (sb b a):=by
  have h0:crs d (sb a a)=0:=by simp [crs,sb]
  have:=(h.on a h.ina h0).2
  refine Classical.byContradiction fun hn=>hab ?_
  exact (z2h.1 (y5v hd h.par (by omega))).symm
 have hs:z68 d (sb b a):=⟨h.par,hpos⟩
 have hf:=h.same hs
 refine ⟨⟨h.inb,hab,fun x hx=>⟨hf.left x hx,fun h0=>?_⟩⟩,hs⟩
 have:=hf.on x hx h0
 exact ⟨this.1,(y5k hab h0 this.1).2 this.2⟩
theorem y07 {S:List Pt} {a b b':Pt} (h:Nx S a b) (h':Nx S a b'):b=b':=by
 have c1:=h.2.2 b' h'.1
 have c2:=h'.2.2 b h.1
 have z:cr a b b'=0:=by have:=y5r a b b'; omega
 have z':cr a b' b=0:=by have:=y5r a b b'; omega
 have f1:=(c1.2 z).2
 have f2:=(c2.2 z').2
 have d1:=(y5k h.2.1 z (c1.2 z).1).1 f1
 have d2:=(y5k h'.2.1 z' (c2.2 z').1).1 f2
 have hf:dt (sb b' b) (sb b' b)=0:=by
  have e:dt (sb b' b) (sb b' b)= - dt (sb b a) (sb b' b)+dt (sb b' a) (sb b' b):=by simp only [dt,sb]; grind
  have e2:dt (sb b a) (sb b' b)= - dt (sb b a) (sb b b'):=by simp only [dt,sb]; grind
  have hl:0≤dt (sb b' b) (sb b' b):=z63 _
  have e3:dt (sb b a) (sb b' a)*2=far a b+far a b' - dt (sb b' b) (sb b' b):=by simp only [far,dt,sb]; grind
  have e4:dt (sb b a) (sb b b')=far a b - dt (sb b a) (sb b' a):=by simp only [far,dt,sb]; grind
  have e5:dt (sb b' a) (sb b' b)=far a b' - dt (sb b a) (sb b' a):=by simp only [far,dt,sb]; grind
  have hlag:=lag (sb b a) (sb b' a)
  have z0:crs (sb b a) (sb b' a)=0:=z
  have e6:dt (sb b a) (sb b a)=far a b:=by simp only [far,dt,sb]; grind
  have e7:dt (sb b' a) (sb b' a)=far a b':=by simp only [far,dt,sb]; grind
  rw [z0,e6,e7] at hlag
  have hfe:far a b=far a b':=by omega
  have hm:0≤dt (sb b a) (sb b' a):=(c1.2 z).1
  rw [←hfe] at hlag
  have hfn:0≤far a b:=by rw [←e6]; exact z63 _
  have hq:=y8y (a:=far a b) (b:=dt (sb b a) (sb b' a)) hm (by omega)
  omega
 refine Classical.byContradiction fun hne=>?_
 have:=z1e (u:=sb b' b) (fun h=>hne (z2h.1 h).symm)
 omega
theorem x3x {a b:Pt} (h1:Le a b) (h2:Le b a):a=b:=by
 rcases h1 with h|h1
 ·exact h
 ·rcases h2 with h|h2
  ·exact h.symm
  ·exact absurd h2 (fun h=>h1.asymm h)
theorem y2d {S:List Pt} {e:Pt}:∀ {l l':List Pt} {a:Pt},Pth S (a::l++[e])→Pth S (a::l'++[e])→e∉l→e∉l'→l=l'
 |[],[],a,_,_,_,_=>rfl
 |[],b::l',a,h,h',_,n'=>by
  have:=y07 h.1 h'.1
  exact absurd (by simp [this]) n'
 |b::l,[],a,h,h',n,_=>by
  have:=y07 h.1 h'.1
  exact absurd (by simp [this]) n
 |b::l,b'::l',a,h,h',n,n'=>by
  have e1:=y07 h.1 h'.1
  subst e1
  have:=y2d (l:=l) (l':=l') (a:=b) h.2 h'.2 (fun x=>n (List.mem_cons_of_mem _ x)) (fun x=>n' (List.mem_cons_of_mem _ x))
  rw [this]
theorem y7u {S c c':List Pt} (h:Cyc S c) (h':Cyc S c'):c=c':=by
 match c,c',h,h' with
 |c0::r,c0'::r',h,h'=>
  have e0:c0=c0':=x3x (h.2.1 _ h'.1) (h'.2.1 _ h.1)
  subst e0
  congr 1
  rcases h.2.2 with ⟨hr,hs⟩|⟨hr,hp,hn⟩
  ·rcases h'.2.2 with ⟨hr',_⟩|⟨hr',hp',hn'⟩
   ·rw [hr,hr']
   ·match r',hr',hp',hn' with
    |b::l,_,hp',hn'=>exact absurd (by simp [hs b hp'.1.1]) hn'
  ·rcases h'.2.2 with ⟨hr',hs'⟩|⟨hr',hp',hn'⟩
   ·match r,hr,hp,hn with
    |b::l,_,hp,hn=>exact absurd (by simp [hs' b hp.1.1]) hn
   ·exact y2d hp hp' hn hn'
theorem y0q {S c:List Pt} (h:Cyc S c):∀ x∈c,x∈S:=by
 have k:∀ (l:List Pt) (a:Pt),Pth S (a::l)→∀ x∈l,x∈S:=by
  intro l
  induction l with
  |nil=>intro a _ x hx; simp at hx
  |cons b l ih=>
   intro a h x hx
   rcases List.mem_cons.1 hx with rfl|hx
   ·exact h.1.1
   ·exact ih b h.2 x hx
 match c,h with
 |c0::r,h=>
  intro x hx
  rcases List.mem_cons.1 hx with rfl|hx
  ·exact h.1
  ·rcases h.2.2 with ⟨hr,_⟩|⟨_,hp,_⟩
   ·subst hr; simp at hx
   ·exact k (r++[c0]) c0 hp x (by simp [hx])
theorem v1v {S T:List Pt} {a b:Pt} (h:Nx S a b) (hs:∀ x∈T,x∈S) (hb:b∈T):Nx T a b:=
 ⟨hb,h.2.1,fun x hx=>h.2.2 x (hs x hx)⟩
theorem w84 {S T c:List Pt} (h:Cyc S c) (hs:∀ x∈T,x∈S) (hc:∀ x∈c,x∈T):Cyc T c:=by
 have k:∀ (l:List Pt) (a:Pt),Pth S (a::l)→(∀ x∈l,x∈T)→Pth T (a::l):=by
  intro l
  induction l with
  |nil=>intro a _ _; trivial
  |cons b l ih=>
   intro a h hx
   exact ⟨v1v h.1 hs (hx b (by simp)),ih b h.2 (fun x h=>hx x (List.mem_cons_of_mem _ h))⟩
 match c,h with
 |c0::r,h=>
  refine ⟨hc c0 (by simp),fun x hx=>h.2.1 x (hs x hx),?_⟩
  rcases h.2.2 with ⟨hr,h1⟩|⟨hr,hp,hn⟩
  ·exact .inl ⟨hr,fun x hx=>h1 x (hs x hx)⟩
  ·refine .inr ⟨hr,k (r++[c0]) c0 hp (fun x hx=>?_),hn⟩
   rcases List.mem_append.1 hx with hx|hx
   ·exact hc x (List.mem_cons_of_mem _ hx)
   ·simp at hx; subst hx; exact hc _ (by simp)
theorem x59 {S c:List Pt} (h:Cyc S c):Cyc c c:=w84 h (y0q h) (fun _ h=>h)
end M06
end
section
namespace M06
def Bef (u v:Pt):Prop:=(Pos u∧Pos (ng v))∨(Pos u∧Pos v∧0<crs u v)∨(Pos (ng u)∧Pos (ng v)∧0<crs u v)
def ways:List Pt→List Pt
 |a::b::l=>sb b a::ways (b::l)
 |_=>[]
def x4l:Pt→List Pt→List Pt
 |p,[]=>[p]
 |p,w::ws=>p::x4l (ad p w) ws
def wy:List Pt→List Pt
 |a::b::r=>ways (a::b::r++[a])
 |_=>[]
theorem u1k (a b:Pt):ad a (sb b a)=b:=by simp only [ad,sb]; exact Prod.ext (by simp; omega) (by simp; omega)
theorem y96:∀ (l:List Pt) (a:Pt),x4l a (ways (a::l))=a::l
 |[],a=>rfl
 |b::l,a=>by
  simp only [ways,x4l]
  rw [u1k,y96 l b]
theorem z7w:∀ (l r:List Pt) (m:Pt),ways (l++m::r)=ways (l++[m])++ways (m::r)
 |[],r,m=>by simp [ways]
 |[a],r,m=>by simp [ways]
 |a::b::l,r,m=>by
  have:=z7w (b::l) r m
  simp only [List.cons_append,ways] at this⊢
  rw [this]
theorem w7i {u v:Pt} (h1:Pos u) (h2:Pos v):Pos (ad u v):=by simp only [Pos,ad] at*; omega
theorem y42 (u:Pt) (h:u≠(0,0)):Pos u∨Pos (ng u):=by
 have:¬ (u.1=0∧u.2=0):=fun e=>h (Prod.ext e.1 e.2)
 simp only [Pos,ng]; omega
theorem z19 {u:Pt} (h1:Pos u) (h2:Pos (ng u)):False:=by simp only [Pos,ng] at*; omega
theorem z94 {u:Pt} (h:Pos u):u≠(0,0):=by rintro rfl; simp [Pos] at h
theorem crs_ng (u v:Pt):crs (ng u) (ng v)=crs u v:=by simp only [crs,ng]; grind
theorem y9i (u v:Pt):crs (ng u) v= - crs u v:=by simp only [crs,ng]; grind
theorem y9h (u v:Pt):crs u (ng v)= - crs u v:=by simp only [crs,ng]; grind
theorem z32 (u v:Pt):crs v u= - crs u v:=by simp only [crs]; grind
theorem y1y:∀ {st:List Pt},x2t st→Conv st→(ways st.reverse).Pairwise (fun u v=>0<crs u v)∧∀ w∈ways st.reverse,Pos w
 |[],_,_=>⟨.nil,by simp [ways]⟩
 |[_],_,_=>⟨.nil,by simp [ways]⟩
 |[t,s],hd,_=>⟨by simp [ways],fun w hw=>by simp [ways] at hw; subst hw; exact hd.1⟩
 |t::s::r::l,hd,hc=>by
  obtain ⟨h1,h2⟩:=y1y (st:=s::r::l) hd.2 hc.2
  have e:ways (t::s::r::l).reverse=ways (s::r::l).reverse++[sb t s]:=by
   have:=z7w (r::l).reverse [t] s
   simp only [List.reverse_cons,List.append_assoc,List.cons_append,List.nil_append] at this⊢
   rw [this]; rfl
  have e2:ways (s::r::l).reverse=ways (r::l).reverse++[sb s r]:=by
   have:=z7w l.reverse [s] r
   simp only [List.reverse_cons,List.append_assoc,List.cons_append,List.nil_append] at this⊢
   rw [this]; rfl
  have hpt:Pos (sb t s):=hd.1
  have hps:Pos (sb s r):=hd.2.1
  have hcc:0<crs (sb s r) (sb t s):=by rw [x6e]; exact hc.1
  refine ⟨?_,fun w hw=>?_⟩
  ·rw [e,List.pairwise_append]
   refine ⟨h1,by simp,fun u hu v hv=>?_⟩
   simp at hv; subst hv
   rw [e2] at hu
   rcases List.mem_append.1 hu with hu'|hu'
   ·have hu2:0<crs u (sb s r):=by
     rw [e2,List.pairwise_append] at h1
     exact h1.2.2 u hu' _ (by simp)
    exact z2w (h2 u (by rw [e2]; exact hu)) hps hpt (by omega) (by omega) (.inl hu2)
   ·simp at hu'; subst hu'; exact hcc
  ·rw [e] at hw
   rcases List.mem_append.1 hw with hw|hw
   ·exact h2 w hw
   ·simp at hw; subst hw; exact hpt
theorem x8v:∀ l:List Pt,ways (l.map ng)=(ways l).map ng
 |[]=>rfl
 |[_]=>rfl
 |a::b::l=>by
  have:=x8v (b::l)
  simp only [List.map_cons,ways] at this⊢
  rw [this]
  congr 1
  simp only [sb,ng]; exact Prod.ext (by simp; omega) (by simp; omega)
theorem w0i (p:Pt):∀ (l st:List Pt),(∃ r,(l++[p]).foldl push st=p::r):=by
 intro l st
 rw [List.foldl_append]
 exact ⟨_,rfl⟩
theorem x42 (p:Pt):∀ (st:List Pt),st≠[]→(pop p st)≠[]∧(pop p st).getLast?=st.getLast?
 |[t],_=>by rw [y43]; simp
 |t::s::r,_=>by
  by_cases h:cr s t p≤0
  ·rw [y2f p h]
   have:=x42 p (s::r) (by simp)
   refine ⟨this.1,this.2.trans ?_⟩
   simp [List.getLast?_cons_cons]
  ·rw [y2e p h]; simp
theorem x1n:∀ (l st:List Pt),st≠[]→(l.foldl push st)≠[]∧(l.foldl push st).getLast?=st.getLast?
 |[],st,h=>⟨h,rfl⟩
 |p::l,st,h=>by
  have h1:=x42 p st h
  have h2:=x1n l (push st p) (by simp [push])
  refine ⟨h2.1,h2.2.trans ?_⟩
  show (p::pop p st).getLast?=_
  rw [←h1.2]
  match hq:pop p st,h1.1 with
  |[],h=>exact absurd rfl h
  |a::q,_=>simp [List.getLast?_cons_cons]
def chn (l:List Pt):List Pt:=(l.foldl push []).reverse
theorem y9k {q:List Pt} {a z:Pt} {m:List Pt} (hq:q=a::m) (hz:q.getLast?=some z) (hs:q.Pairwise Lt):
  ∃ t,chn q=t++[z]∧(t++[z]).head?=some a∧x8p q (chn q).reverse:=by
 subst hq
 have hc:=y7w m [a] [a] (by simp) (w1p a) (fun x hx y hy=>by simp at hx; subst hx; exact (List.pairwise_cons.1 hs).1 y hy) (List.pairwise_cons.1 hs).2
 have he:(a::m).foldl push []=m.foldl push [a]:=by
  show m.foldl push (push [] a)=_
  have:push [] a=[a]:=by simp [push,pop]
  rw [this]
 have hrev:(chn (a::m)).reverse=m.foldl push [a]:=by rw [chn,List.reverse_reverse,he]
 have hl:=x1n m [a] (by simp)
 have hh:∃ r,m.foldl push [a]=z::r:=by
  rcases List.eq_nil_or_concat m with rfl|⟨m',x,rfl⟩
  ·simp at hz; subst hz; exact ⟨[],rfl⟩
  ·have:z=x:=by
    have:(a::(m'++[x])).getLast?=some x:=by
     rw [←List.cons_append,List.getLast?_append]; simp
    rw [List.concat_eq_append] at hz
    rw [this] at hz; exact (Option.some.inj hz).symm
   subst this
   rw [List.concat_eq_append]
   exact w0i z m' [a]
 obtain ⟨r,hr⟩:=hh
 refine ⟨r.reverse,?_,?_,by rw [hrev]; exact hc.1⟩
 ·rw [chn,he,hr,List.reverse_cons]
 ·have h2:=hl.2
  rw [hr] at h2
  rw [←List.reverse_cons,List.head?_reverse,h2]; rfl
theorem w6k (l:List Pt):chn (l.map ng)=(chn l).map ng:=by
 rw [chn,chn,show ([]:List Pt)=([]:List Pt).map ng from rfl,w0h,List.map_reverse]; rfl
def w57 (q:List Pt):List Pt:=if q.length=1 then q else (chn q).dropLast++(chn q.reverse).dropLast
theorem Le.trans {a b c:Pt} (h1:Le a b) (h2:Le b c):Le a c:=by
 rcases h1 with rfl|h1
 ·exact h2
 ·rcases h2 with rfl|h2
  ·exact .inr h1
  ·exact .inr (h1.trans h2)
theorem x55:∀ {st:List Pt} {z:Pt},x2t (st++[z])→∀ x∈st,Lt z x
 |[],_,_,x,hx=>by simp at hx
 |[t],z,h,x,hx=>by simp at hx; subst hx; exact h.1
 |t::s::r,z,h,x,hx=>by
  have ih:=x55 (st:=s::r) (z:=z) h.2
  rcases List.mem_cons.1 hx with rfl|hx
  ·exact (ih s (by simp)).trans h.1
  ·exact ih x hx
theorem x13:∀ {st:List Pt} {z:Pt},x2t (z::st)→∀ x∈st,Lt x z
 |[],_,_,x,hx=>by simp at hx
 |t::r,z,h,x,hx=>by
  rcases List.mem_cons.1 hx with rfl|hx
  ·exact h.1
  ·exact (x13 h.2 x hx).trans h.1
theorem x5p {S q:List Pt} (hne:q≠[]) (hs:q.Pairwise Lt) (hm:∀ x,x∈q↔x∈S):Cyc S (w57 q)∧(wy (w57 q)).Pairwise Bef:=by
 match q,hne with
 |[a],_=>
  have hS:∀ x∈S,x=a:=fun x hx=>by simpa using (hm x).2 hx
  refine ⟨⟨(hm a).1 (by simp),fun x hx=> .inl (hS x hx).symm, .inl ⟨rfl,hS⟩⟩,?_⟩
  simp [w57,wy]
 |a::b::m,_=>
  clear hne
  have hlen:(a::b::m).length≠1:=by simp
  generalize hq:a::b::m=q at hs hm hlen⊢
  obtain ⟨z,hz⟩:∃ z,q.getLast?=some z:=by subst hq; exact ⟨_,List.getLast?_eq_some_getLast (by simp)⟩
  have hzq:z∈q:=List.mem_of_getLast? hz
  have haz:Lt a z:=by
   subst hq
   rw [List.getLast?_cons_cons] at hz
   exact (List.pairwise_cons.1 hs).1 z (List.mem_of_getLast? hz)
  obtain ⟨t,h1,h2,h3⟩:=y9k (a:=a) (m:=b::m) hq.symm hz hs
  have hrz:(q.reverse.map ng).Pairwise Lt:=by
   rw [List.pairwise_map,List.pairwise_reverse]
   exact hs.imp fun h=>(w7r _ _).2 h
  obtain ⟨m',hm'⟩:∃ m',q.reverse.map ng=ng z::m':=by
   have:q.reverse.head?=some z:=by rw [List.head?_reverse]; exact hz
   match hqr:q.reverse,this with
   |x::r,h=>cases h; exact ⟨r.map ng,rfl⟩
  have hlast:(q.reverse.map ng).getLast?=some (ng a):=by
   rw [List.getLast?_map,List.getLast?_reverse, ←hq]; rfl
  obtain ⟨u,k1,k2,k3⟩:=y9k hm' hlast hrz
  rw [w6k] at k1 k3
  obtain ⟨v,hv⟩:∃ v,chn q.reverse=v++[a]∧u=v.map ng:=by
   have:chn q.reverse=(u++[ng a]).map ng:=by
    rw [←k1,List.map_map]
    have:(ng∘ng)=id:=funext x3r
    rw [this,List.map_id]
   refine ⟨u.map ng,by rw [this]; simp [x3r],?_⟩
   rw [List.map_map,show (ng∘ng)=id from funext x3r,List.map_id]
  obtain ⟨hv,hu⟩:=hv
  have hvh:(v++[a]).head?=some z:=by
   rw [hu] at k2
   have:((v++[a]).map ng).head?=some (ng z):=by simpa using k2
   rw [List.head?_map] at this
   cases hh:(v++[a]).head? with
   |none=>rw [hh] at this; cases this
   |some y=>rw [hh] at this; rw [w53 (Option.some.inj this)]
  have ht:∃ t',t=a::t':=by
   match t,h2 with
   |[],h2=>exact absurd (Option.some.inj h2).symm haz.ne
   |x::t',h2=>cases h2; exact ⟨t',rfl⟩
  have hv':∃ v',v=z::v':=by
   match v,hvh with
   |[],hvh=>exact absurd (Option.some.inj hvh) haz.ne
   |x::v',hvh=>cases hvh; exact ⟨v',rfl⟩
  obtain ⟨t',rfl⟩:=ht
  obtain ⟨v',rfl⟩:=hv'
  have hh:w57 q=a::t'++z::v':=by
   rw [w57,if_neg hlen,h1,hv,List.dropLast_concat,List.dropLast_concat]
  have p1:Pth S (a::t'++[z]):=by
   have:=y41 (S:=S) h3.desc (fun x hx=>h3.edge x ((hm x).2 hx)) (fun y hy=>(hm y).1 (h3.sub y hy))
   rwa [List.reverse_reverse,h1] at this
  have p2:Pth S (z::v'++[a]):=by
   have hsub:∀ x,x∈q.reverse.map ng↔x∈S.map ng:=fun x=>by
    simp only [List.mem_map,List.mem_reverse]
    exact ⟨fun ⟨y,h,e⟩=>⟨y,(hm y).1 h,e⟩,fun ⟨y,h,e⟩=>⟨y,(hm y).2 h,e⟩⟩
   have:=y41 (S:=S.map ng) k3.desc (fun x hx=>k3.edge x ((hsub x).2 hx)) (fun y hy=>(hsub y).1 (k3.sub y hy))
   rw [List.reverse_reverse,hv] at this
   exact w5v this
  have d1:x2t ((a::t'++[z]).reverse):=by have:=h3.desc; rwa [h1] at this
  have d2:x2t (((z::v'++[a]).map ng).reverse):=by have:=k3.desc; rwa [hv] at this
  have c1:Conv ((a::t'++[z]).reverse):=by have:=h3.conv; rwa [h1] at this
  have c2:Conv (((z::v'++[a]).map ng).reverse):=by have:=k3.conv; rwa [hv] at this
  have n1:∀ x∈t',Lt a x:=by
   intro x hx
   rw [List.cons_append,List.reverse_cons] at d1
   exact x55 d1 x (by simp [hx])
  have n2:∀ x∈v',Lt a x:=by
   intro x hx
   rw [List.map_append,List.reverse_append] at d2
   have:=x13 (st:=((z::v').map ng).reverse) (z:=ng a) d2 (ng x) (List.mem_reverse.2 (List.mem_map.2 ⟨x,by simp [hx],rfl⟩))
   exact (w7r _ _).1 this
  refine ⟨?_,?_⟩
  ·rw [hh]
   have haS:∀ x∈S,Le a x:=fun x hx=>by
    have:=(hm x).2 hx
    rw [←hq] at this
    rcases List.mem_cons.1 this with rfl|h
    ·exact .inl rfl
    ·rw [←hq] at hs; exact .inr ((List.pairwise_cons.1 hs).1 x h)
   refine ⟨(hm a).1 (by rw [←hq]; simp),haS, .inr ⟨by simp,?_,?_⟩⟩
   ·have:=y8q (l:=a::t') (m:=z) (r:=v'++[a]) p1 p2
    simpa using this
   ·intro hx
    rcases List.mem_append.1 hx with h|h
    ·exact (n1 a h).irrefl
    ·rcases List.mem_cons.1 h with h|h
     ·exact haz.ne h
     ·exact (n2 a h).irrefl
  ·rw [hh]
   have hw:wy (a::t'++z::v')=ways (a::t'++[z])++ways (z::v'++[a]):=by
    have:wy (a::t'++z::v')=ways (a::t'++z::(v'++[a])):=by
     cases t' with
     |nil=>simp [wy]
     |cons x t'=>simp [wy]
    rw [this,z7w]; rfl
   obtain ⟨w1,w2⟩:=y1y d1 c1
   rw [List.reverse_reverse] at w1 w2
   obtain ⟨w3,w4⟩:=y1y d2 c2
   rw [List.reverse_reverse,x8v] at w3 w4
   have w4':∀ w∈ways (z::v'++[a]),Pos (ng w):=fun w hw=>w4 _ (List.mem_map.2 ⟨w,hw,rfl⟩)
   rw [hw,List.pairwise_append]
   refine ⟨?_,?_,fun x hx y hy=> .inl ⟨w2 x hx,w4' y hy⟩⟩
   ·exact w1.imp_of_mem fun {x y} hx hy h=> .inr (.inl ⟨w2 x hx,w2 y hy,h⟩)
   ·rw [List.pairwise_map] at w3
    exact w3.imp_of_mem fun {x y} hx hy h=> .inr (.inr ⟨w4' x hx,w4' y hy,by rwa [crs_ng] at h⟩)
noncomputable def ins (p:Pt):List Pt→List Pt
 |[]=>[p]
 |a::l=>open Classical in if Lt p a then p::a::l else if p=a then a::l else a::ins p l
theorem x5m (p:Pt):∀ (l:List Pt),l.Pairwise Lt→(ins p l).Pairwise Lt∧∀ x,x∈ins p l↔x=p∨x∈l
 |[],_=>by simp [ins]
 |a::l,h=>by
  obtain ⟨h1,h2⟩:=x5m p l (List.pairwise_cons.1 h).2
  have h0:=(List.pairwise_cons.1 h).1
  rw [ins]
  split
  ·rename_i hp
   refine ⟨List.pairwise_cons.2 ⟨fun y hy=>?_,h⟩,fun x=>by simp⟩
   rcases List.mem_cons.1 hy with rfl|hy
   ·exact hp
   ·exact hp.trans (h0 y hy)
  ·rename_i hp
   split
   ·rename_i he
    subst he
    refine ⟨h,fun x=>?_⟩
    simp
   ·rename_i hne
    have hap:Lt a p:=by
     rcases x5i p a with h|h|h
     ·exact absurd h hp
     ·exact absurd h hne
     ·exact h
    refine ⟨List.pairwise_cons.2 ⟨fun y hy=>?_,h1⟩,fun x=>?_⟩
    ·rcases (h2 y).1 hy with rfl|hy
     ·exact hap
     ·exact h0 y hy
    ·simp only [List.mem_cons,h2]
     constructor
     ·rintro (h|h|h)
      ·exact .inr (.inl h)
      ·exact .inl h
      ·exact .inr (.inr h)
     ·rintro (h|h|h)
      ·exact .inr (.inl h)
      ·exact .inl h
      ·exact .inr (.inr h)
theorem y02:∀ (S:List Pt),∃ q:List Pt,q.Pairwise Lt∧∀ x,x∈q↔x∈S
 |[]=>⟨[], .nil,fun _=>Iff.rfl⟩
 |p::S=>by
  obtain ⟨q,h1,h2⟩:=y02 S
  obtain ⟨h3,h4⟩:=x5m p q h1
  exact ⟨ins p q,h3,fun x=>by rw [h4,h2]; simp⟩
theorem y7v {S:List Pt} (hne:S≠[]):∃ c,Cyc S c∧(wy c).Pairwise Bef:=by
 obtain ⟨q,h1,h2⟩:=y02 S
 have:q≠[]:=by
  rintro rfl
  match S,hne with
  |a::S,_=>have:=(h2 a).2 (by simp); simp at this
 exact ⟨_,x5p this h1 h2⟩
theorem w6c {S c:List Pt} (h:Cyc S c):S≠[]:=by
 match c,h with
 |c0::r,h=>intro e; have:=h.1; rw [e] at this; simp at this
theorem w85 {S c:List Pt} (h:Cyc S c):(wy c).Pairwise Bef:=by
 obtain ⟨c',h1,h2⟩:=y7v (w6c h)
 rw [y7u h h1]; exact h2
end M06
end
section
namespace M06
instance (u:Pt):Decidable (Pos u):=by unfold Pos; infer_instance
instance (u v:Pt):Decidable (Bef u v):=by unfold Bef; infer_instance
instance (u v:Pt):Decidable (z68 u v):=by unfold z68; infer_instance
def z1d (l:List Pt):Pt:=l.foldr ad (0,0)
def z7b (d:Pt) (l:List Pt):Pt:=z1d (l.filter (fun w=>decide (Bef w d)))
def z92 (d:Pt) (l:List Pt):Pt:=z1d (l.filter (fun w=>decide (z68 d w)))
theorem z1o (a:Pt):ad a (0,0)=a:=by simp [ad]
theorem x2u (a:Pt):ad (0,0) a=a:=by simp [ad]
theorem z2q (a b c:Pt):ad (ad a b) c=ad a (ad b c):=by simp only [ad]; exact Prod.ext (by simp; omega) (by simp; omega)
theorem w13 (a b:Pt):ad a b=ad b a:=by simp only [ad]; exact Prod.ext (by simp; omega) (by simp; omega)
theorem z2c:z1d []=(0,0):=rfl
theorem z0u (a:Pt) (l:List Pt):z1d (a::l)=ad a (z1d l):=rfl
theorem z2x (a b:List Pt):z1d (a++b)=ad (z1d a) (z1d b):=by
 induction a with
 |nil=>rw [List.nil_append,z2c,x2u]
 |cons x a ih=>rw [List.cons_append,z0u,z0u,ih,z2q]
theorem y4g {a b:List Pt} (h:a.Perm b):z1d a=z1d b:=by
 induction h with
 |nil=>rfl
 |cons x _ ih=>rw [z0u,z0u,ih]
 |swap x y l=>rw [z0u,z0u,z0u,z0u, ←z2q, ←z2q,w13 x y]
 |trans _ _ h1 h2=>exact h1.trans h2
theorem z7y (d:Pt) (a b:List Pt):z7b d (a++b)=ad (z7b d a) (z7b d b):=by rw [z7b,List.filter_append,z2x]; rfl
theorem y0a (d:Pt) (a b:List Pt):z92 d (a++b)=ad (z92 d a) (z92 d b):=by rw [z92,List.filter_append,z2x]; rfl
theorem x86 (d:Pt) {a b:List Pt} (h:a.Perm b):z7b d a=z7b d b:=y4g (h.filter _)
theorem x84 (d:Pt) {a b:List Pt} (h:a.Perm b):z92 d a=z92 d b:=y4g (h.filter _)
theorem Bef.ne1 {u v:Pt} (h:Bef u v):u≠(0,0):=by
 rcases h with h|h|h
 ·exact z94 h.1
 ·exact z94 h.1
 ·rintro rfl; exact z94 h.1 (by simp [ng])
theorem Bef.ne2 {u v:Pt} (h:Bef u v):v≠(0,0):=by
 rcases h with h|h|h
 ·rintro rfl; exact z94 h.2 (by simp [ng])
 ·exact z94 h.2.1
 ·rintro rfl; exact z94 h.2.1 (by simp [ng])
theorem Bef.trans {u v w:Pt} (h1:Bef u v) (h2:Bef v w):Bef u w:=by
 rcases h1 with ⟨a,b⟩|⟨a,b,c⟩|⟨a,b,c⟩
 ·rcases h2 with ⟨d,e⟩|⟨d,e,f⟩|⟨d,e,f⟩
  ·exact absurd d (fun h=>z19 h b)
  ·exact absurd d (fun h=>z19 h b)
  ·exact .inl ⟨a,e⟩
 ·rcases h2 with ⟨d,e⟩|⟨d,e,f⟩|⟨d,e,f⟩
  ·exact .inl ⟨a,e⟩
  ·exact .inr (.inl ⟨a,e,z2w a b e (by omega) (by omega) (.inl c)⟩)
  ·exact absurd b (fun h=>z19 h d)
 ·rcases h2 with ⟨d,e⟩|⟨d,e,f⟩|⟨d,e,f⟩
  ·exact absurd d (fun h=>z19 h b)
  ·exact absurd d (fun h=>z19 h b)
  ·refine .inr (.inr ⟨a,e,?_⟩)
   have:=z2w a b e (by rw [crs_ng]; omega) (by rw [crs_ng]; omega) (.inl (by rw [crs_ng]; exact c))
   rwa [crs_ng] at this
theorem Bef.irrefl {u:Pt} (h:Bef u u):False:=by
 rcases h with ⟨a,b⟩|⟨a,b,c⟩|⟨a,b,c⟩
 ·exact z19 a b
 ·simp only [crs] at c; have:=Int.mul_comm u.1 u.2; omega
 ·simp only [crs] at c; have:=Int.mul_comm u.1 u.2; omega
theorem Bef.asymm {u v:Pt} (h1:Bef u v) (h2:Bef v u):False:=(h1.trans h2).irrefl
theorem z42 {u v:Pt} (h:z68 u v) (hu:Pos u):Pos v:=by
 obtain ⟨h1,h2⟩:=h
 obtain ⟨u1,u2⟩:=u; obtain ⟨v1,v2⟩:=v
 simp only [Pos,crs,dt] at*
 rcases hu with hu|⟨hu,hu2⟩
 ·left
  refine Classical.byContradiction fun hn=>?_
  have a:=Int.mul_nonneg (Int.le_of_lt hu) (show 0≤ -v1 by omega)
  rw [Int.mul_neg] at a
  have e:u1*(u2*v2)=u2*u2*v1:=by grind
  have b:u2*u2*v1≤0:=by
   have:=Int.mul_nonneg (sqn u2) (show 0≤ -v1 by omega)
   rw [Int.mul_neg] at this; omega
  have c:0<u2*v2:=by omega
  have:=Int.mul_pos hu c
  omega
 ·right
  subst hu
  have hv1:v1=0:=by
   have:u2*v1=0:=by omega
   rcases Int.mul_eq_zero.1 this with h|h
   ·omega
   ·exact h
  refine ⟨hv1,?_⟩
  refine Classical.byContradiction fun hn=>?_
  have a:=Int.mul_nonneg (Int.le_of_lt hu2) (show 0≤ -v2 by omega)
  rw [Int.mul_neg] at a
  omega
theorem y2a {u v:Pt} (h:z68 u v):z68 (ng u) (ng v):=by
 refine ⟨by rw [crs_ng]; exact h.1,?_⟩
 have:=h.2
 simp only [dt,ng,Int.neg_mul_neg] at*; exact this
theorem z68.bef_r {u v w:Pt} (h:z68 v w) (hb:Bef u v):Bef u w:=by
 have k:∀ {u v w:Pt},z68 v w→0<crs u v→0<crs u w:=by
  intro u v w h h0
  have hm:=(h.mul u).1
  rw [z32 u v,z32 u w] at hm
  have:=z1e h.ne
  have:=h.2
  have e:dt v v*crs u w=dt v w*crs u v:=by rw [Int.mul_neg,Int.mul_neg] at hm; omega
  refine Classical.byContradiction fun hn=>?_
  have a:=Int.mul_pos h.2 h0
  have b:=Int.mul_nonneg (Int.le_of_lt (z1e h.ne)) (show 0≤ - crs u w by omega)
  rw [Int.mul_neg] at b; omega
 rcases hb with ⟨a,b⟩|⟨a,b,c⟩|⟨a,b,c⟩
 ·exact .inl ⟨a,z42 (y2a h) b⟩
 ·exact .inr (.inl ⟨a,z42 h b,k h c⟩)
 ·exact .inr (.inr ⟨a,z42 (y2a h) b,k h c⟩)
theorem z68.bef_l {u v w:Pt} (h:z68 v w) (hb:Bef v u):Bef w u:=by
 have k:∀ {u v w:Pt},z68 v w→0<crs v u→0<crs w u:=by
  intro u v w h h0
  have hm:=(h.mul u).1
  refine Classical.byContradiction fun hn=>?_
  have a:=Int.mul_pos h.2 h0
  have b:=Int.mul_nonneg (Int.le_of_lt (z1e h.ne)) (show 0≤ - crs w u by omega)
  rw [Int.mul_neg] at b; omega
 rcases hb with ⟨a,b⟩|⟨a,b,c⟩|⟨a,b,c⟩
 ·exact .inl ⟨z42 h a,b⟩
 ·exact .inr (.inl ⟨z42 h a,b,k h c⟩)
 ·exact .inr (.inr ⟨z42 (y2a h) a,b,k h c⟩)
theorem x4t {u v:Pt} (hu:Pos u) (hv:Pos v) (h:crs u v=0):z68 u v:=by
 refine ⟨h,?_⟩
 obtain ⟨u1,u2⟩:=u; obtain ⟨v1,v2⟩:=v
 simp only [Pos,crs,dt] at*
 rcases hu with hu|⟨hu,hu2⟩
 ·rcases hv with hv|⟨hv,hv2⟩
  ·have a:=Int.mul_pos hu hv
   have e:u1*(u2*v2)=u2*u2*v1:=by grind
   have b:=Int.mul_nonneg (sqn u2) (Int.le_of_lt hv)
   have c:0≤u2*v2:=by
    refine Classical.byContradiction fun hn=>?_
    have:=Int.mul_neg_of_pos_of_neg hu (show u2*v2<0 by omega)
    omega
   omega
  ·subst hv
   have:=Int.mul_pos hu hv2
   omega
 ·subst hu
  rcases hv with hv|⟨hv,hv2⟩
  ·have:=Int.mul_pos hu2 hv
   omega
  ·subst hv
   have:=Int.mul_pos hu2 hv2
   omega
theorem y2q {u v:Pt} (hu:u≠(0,0)) (hv:v≠(0,0)):Bef u v∨z68 u v∨Bef v u:=by
 rcases y42 u hu with pu|pu<;>rcases y42 v hv with pv|pv
 ·rcases Int.lt_trichotomy (crs u v) 0 with h|h|h
  ·exact .inr (.inr (.inr (.inl ⟨pv,pu,by rw [z32]; omega⟩)))
  ·exact .inr (.inl (x4t pu pv h))
  ·exact .inl (.inr (.inl ⟨pu,pv,h⟩))
 ·exact .inl (.inl ⟨pu,pv⟩)
 ·exact .inr (.inr (.inl ⟨pv,pu⟩))
 ·rcases Int.lt_trichotomy (crs u v) 0 with h|h|h
  ·exact .inr (.inr (.inr (.inr ⟨pv,pu,by rw [z32]; omega⟩)))
  ·refine .inr (.inl ?_)
   have:=y2a (x4t pu pv (by rw [crs_ng]; exact h))
   rwa [x3r,x3r] at this
  ·exact .inl (.inr (.inr ⟨pu,pv,h⟩))
theorem z68.not_bef {u v:Pt} (h:z68 u v):¬ Bef u v:=fun hb=>(h.symm.bef_r hb).irrefl
theorem z68.not_bef' {u v:Pt} (h:z68 u v):¬ Bef v u:=fun hb=>(h.bef_r hb).irrefl
theorem y39 (p:Pt) (ws:List Pt):∃ r,x4l p ws=p::r:=by
 cases ws with
 |nil=>exact ⟨[],rfl⟩
 |cons w ws=>exact ⟨_,rfl⟩
theorem y97:∀ (ws:List Pt) (p:Pt),(x4l p ws).getLast?=some (ad p (z1d ws))
 |[],p=>by rw [z2c,z1o]; rfl
 |w::ws,p=>by
  obtain ⟨r,hr⟩:=y39 (ad p w) ws
  have:=y97 ws (ad p w)
  rw [x4l,hr,List.getLast?_cons_cons, ←hr,this,z0u,z2q]
theorem z9n {S:List Pt}:∀ {E1:List Pt} {e:Pt} {E3:List Pt} {p:Pt},Pth S (x4l p (E1++e::E3))→Nx S (ad p (z1d E1)) (ad (ad p (z1d E1)) e)
 |[],e,E3,p,h=>by
  rw [z2c,z1o]
  obtain ⟨r,hr⟩:=y39 (ad p e) E3
  simp only [List.nil_append,x4l,hr] at h
  exact h.1
 |w::E1,e,E3,p,h=>by
  rw [z0u, ←z2q]
  simp only [List.cons_append,x4l] at h
  exact z9n (E1:=E1) h.tail
theorem y38 {S:List Pt}:∀ {E:List Pt} {p:Pt},p∈S→Pth S (x4l p E)→∀ E1 E3,E=E1++E3→ad p (z1d E1)∈S
 |E,p,hp,h,[],E3,_=>by rw [z2c,z1o]; exact hp
 |[],p,hp,h,w::E1,E3,he=>by cases he
 |w'::E,p,hp,h,w::E1,E3,he=>by
  simp only [List.cons_append,List.cons.injEq] at he
  obtain ⟨rfl,he⟩:=he
  rw [z0u, ←z2q]
  simp only [x4l] at h
  obtain ⟨r,hr⟩:=y39 (ad p w') E
  refine y38 (E:=E) ?_ h.tail E1 E3 he
  rw [hr] at h
  exact h.1.1
theorem x3e (a e:Pt):sb (ad a e) a=e:=by simp only [sb,ad]; exact Prod.ext (by simp; omega) (by simp; omega)
theorem x4c {S:List Pt} {a b c d:Pt} (h1:Nx S a b) (h2:Nx S b c) (hd1:0<crs (sb b a) d) (hd2:0<crs d (sb c b)):y91 S d b b:=by
 have key:∀ x∈S,0≤crs d (sb x b)∧(crs d (sb x b)=0→x=b):=by
  intro x hx
  have p1:0≤crs (sb b a) (sb x b):=by
   have:=(h1.2.2 x hx).1
   have e:cr a b x=crs (sb b a) (sb x b):=by simp only [cr,crs,sb]; grind
   omega
  have p2:0≤crs (sb c b) (sb x b):=(h2.2.2 x hx).1
  have hD:0≤crs (sb b a) (sb c b):=by
   have:=(h1.2.2 c h2.1).1
   have e:cr a b c=crs (sb b a) (sb c b):=by simp only [cr,crs,sb]; grind
   omega
  have p3:crs (sb c b) (sb x b)=0→0≤dt (sb c b) (sb x b):=fun h=>((h2.2.2 x hx).2 h).1
  have hn:sb c b≠(0,0):=fun h=>h2.2.1 (z2h.1 h).symm
  generalize sb b a=p at*
  generalize sb c b=n at*
  have hv:sb x b=(0,0)→x=b:=z2h.1
  generalize sb x b=v at*
  have id1:crs p n*crs d v=crs d n*crs p v+crs p d*crs n v:=by simp only [crs]; grind
  rcases Int.lt_or_eq_of_le hD with hD|hD
  ·have a1:=Int.mul_nonneg (Int.le_of_lt hd2) p1
   have a2:=Int.mul_nonneg (Int.le_of_lt hd1) p2
   refine ⟨?_,fun h0=>hv ?_⟩
   ·refine Classical.byContradiction fun hc=>?_
    have:=Int.mul_neg_of_pos_of_neg hD (Int.not_le.1 hc)
    omega
   ·rw [h0,Int.mul_zero] at id1
    have z1:crs d n*crs p v=0:=by omega
    have z2:crs p d*crs n v=0:=by omega
    have z1:crs p v=0:=by rcases Int.mul_eq_zero.1 z1 with h|h<;>omega
    have z2:crs n v=0:=by rcases Int.mul_eq_zero.1 z2 with h|h<;>omega
    have e1:crs p n*v.1=n.1*crs p v - p.1*crs n v:=by simp only [crs]; grind
    have e2:crs p n*v.2=n.2*crs p v - p.2*crs n v:=by simp only [crs]; grind
    rw [z1,z2] at e1 e2
    simp only [Int.mul_zero,Int.sub_zero] at e1 e2
    refine Prod.ext ?_ ?_
    ·rcases Int.mul_eq_zero.1 e1 with h|h
     ·omega
     ·exact h
    ·rcases Int.mul_eq_zero.1 e2 with h|h
     ·omega
     ·exact h
  ·have a1:=Int.mul_nonneg (Int.le_of_lt hd2) p1
   have a2:=Int.mul_nonneg (Int.le_of_lt hd1) p2
   rw [←hD,Int.zero_mul] at id1
   have z2:crs p d*crs n v=0:=by omega
   have z2:crs n v=0:=by rcases Int.mul_eq_zero.1 z2 with h|h<;>omega
   have hdt:=p3 z2
   have hnn:=z1e hn
   have id2:dt n n*crs d v=dt n v*crs d n+crs n v*dt n d:=by simp only [crs,dt]; grind
   rw [z2,Int.zero_mul,Int.add_zero] at id2
   have a3:=Int.mul_nonneg hdt (Int.le_of_lt hd2)
   refine ⟨?_,fun h0=>hv ?_⟩
   ·refine Classical.byContradiction fun hc=>?_
    have:=Int.mul_neg_of_pos_of_neg hnn (Int.not_le.1 hc)
    omega
   ·rw [h0,Int.mul_zero] at id2
    have:dt n v=0:=by rcases Int.mul_eq_zero.1 id2.symm with h|h<;>omega
    exact y5v hn z2 this
 have hb:b∈S:=h1.1
 refine ⟨hb,hb,by simp [crs,sb],fun x hx=>(key x hx).1,fun x hx h0=>?_⟩
 have:=(key x hx).2 h0
 subst this
 simp [dt,sb]
theorem x2e {p n d:Pt} (hpn:0≤crs p n) (h:(Bef p d∧Bef d n)∨(Bef d n∧Pos n∧Pos (ng p))∨(Bef p d∧Pos n∧Pos (ng p))):0<crs p d∧0<crs d n:=by
 have T:=@z2w
 rcases h with ⟨h1,h2⟩|⟨h1,h2,h3⟩|⟨h1,h2,h3⟩
 ·rcases h1 with ⟨a,b⟩|⟨a,b,c⟩|⟨a,b,c⟩
  ·rcases h2 with ⟨d',e⟩|⟨d',e,f⟩|⟨d',e,f⟩
   ·exact absurd d' (fun h=>z19 h b)
   ·exact absurd d' (fun h=>z19 h b)
   ·refine ⟨?_,f⟩
    have:=T b e a (by rw [crs_ng]; omega) (by rw [y9i,z32]; omega) (.inl (by rw [crs_ng]; exact f))
    rw [y9i,z32] at this; omega
  ·rcases h2 with ⟨d',e⟩|⟨d',e,f⟩|⟨d',e,f⟩
   ·refine ⟨c,?_⟩
    have:=T e a b (by rw [y9i,z32]; omega) (by omega) (.inr c)
    rw [y9i,z32] at this; omega
   ·exact ⟨c,f⟩
   ·exact absurd b (fun h=>z19 h d')
  ·rcases h2 with ⟨d',e⟩|⟨d',e,f⟩|⟨d',e,f⟩
   ·exact absurd d' (fun h=>z19 h b)
   ·exact absurd d' (fun h=>z19 h b)
   ·exact ⟨c,f⟩
 ·rcases h1 with ⟨a,b⟩|⟨a,b,c⟩|⟨a,b,c⟩
  ·exact absurd h2 (fun h=>z19 h b)
  ·refine ⟨?_,c⟩
   have:=T a h2 h3 (by omega) (by rw [y9h,z32]; omega) (.inl c)
   rw [y9h,z32] at this; omega
  ·exact absurd h2 (fun h=>z19 h b)
 ·rcases h1 with ⟨a,b⟩|⟨a,b,c⟩|⟨a,b,c⟩
  ·exact absurd a (fun h=>z19 h h3)
  ·exact absurd a (fun h=>z19 h h3)
  ·refine ⟨c,?_⟩
   have:=T h2 h3 b (by rw [y9h,z32]; omega) (by rw [crs_ng]; omega) (.inr (by rw [crs_ng]; exact c))
   rw [y9h,z32] at this; omega
theorem y7k {l:List Pt} {P:Pt→Bool} (h:∀ x∈l,P x=true):l.filter P=l:=List.filter_eq_self.2 h
theorem z4z {l:List Pt} {P:Pt→Bool} (h:∀ x∈l,P x=false):l.filter P=[]:=List.filter_eq_nil_iff.2 (fun x hx=>by rw [h x hx]; simp)
theorem x0y (d:Pt):∀ (E:List Pt),E.Pairwise Bef→∃ E1 E2,E=E1++E2∧(∀ x∈E1,Bef x d)∧(∀ x∈E2,¬ Bef x d)
 |[],_=>⟨[],[],rfl,by simp,by simp⟩
 |e::E,h=>by
  by_cases he:Bef e d
  ·obtain ⟨E1,E2,h1,h2,h3⟩:=x0y d E (List.pairwise_cons.1 h).2
   refine ⟨e::E1,E2,by rw [h1]; rfl,fun x hx=>?_,h3⟩
   rcases List.mem_cons.1 hx with rfl|hx
   ·exact he
   ·exact h2 x hx
  ·refine ⟨[],e::E,rfl,by simp,fun x hx hb=>?_⟩
   rcases List.mem_cons.1 hx with rfl|hx
   ·exact he hb
   ·exact he (((List.pairwise_cons.1 h).1 x hx).trans hb)
theorem x8w {S:List Pt}:∀ {l:List Pt},Pth S l→∀ w∈ways l,w≠(0,0)
 |[],_,w,hw=>by simp [ways] at hw
 |[_],_,w,hw=>by simp [ways] at hw
 |a::b::l,h,w,hw=>by
  rcases List.mem_cons.1 hw with rfl|hw
  ·exact fun e=>h.1.2.1 (z2h.1 e).symm
  ·exact x8w (l:=b::l) h.2 w hw
theorem y31 {S:List Pt} {a b:Pt} {r:List Pt} (h:Cyc S (a::b::r)):
  Pth S (x4l a (wy (a::b::r)))∧z1d (wy (a::b::r))=(0,0)∧(∀ w∈wy (a::b::r),w≠(0,0))∧wy (a::b::r)≠[]:=by
 have hp:Pth S (a::b::r++[a]):=by
  rcases h.2.2 with ⟨h,_⟩|⟨_,h,_⟩
  ·cases h
  ·exact h
 have hw:x4l a (wy (a::b::r))=a::b::r++[a]:=y96 (b::r++[a]) a
 refine ⟨by rw [hw]; exact hp,?_,x8w hp,by simp [wy,ways]⟩
 have:=y97 (wy (a::b::r)) a
 rw [hw] at this
 have h2:(a::b::r++[a]).getLast?=some a:=by rw [List.getLast?_append]; simp
 rw [h2] at this
 have:=Option.some.inj this
 simp only [ad] at this
 have e1:=congrArg Prod.fst this
 have e2:=congrArg Prod.snd this
 simp only at e1 e2
 exact Prod.ext (by simp; omega) (by simp; omega)
def hd0 (c:List Pt):Pt:=c.headD (0,0)
theorem w01 {S:List Pt} {a b:Pt} {r:List Pt} (h:Cyc S (a::b::r)) {d:Pt} (hd:d≠(0,0)):
  ∃ α,α∈S∧α=ad a (z7b d (wy (a::b::r)))∧((∃ β,Nx S α β∧z68 d (sb β α)∧ad α (z92 d (wy (a::b::r)))=β)∨
   (z92 d (wy (a::b::r))=(0,0)∧∃ q β,q∈S∧Nx S q α∧Nx S α β∧0<crs (sb α q) d∧0<crs d (sb β α))):=by
  obtain ⟨hp,hsum,hnz,hne⟩:=y31 h
  have hs:=w85 h
  have hc0:∀ x∈S,Le a x:=h.2.1
  have haS:a∈S:=h.1
  generalize wy (a::b::r)=E at*
  obtain ⟨E1,E2,rfl,hb1,hb2⟩:=x0y d E hs
  have hB:z7b d (E1++E2)=z1d E1:=by
   rw [z7y,z7b,z7b,y7k (fun x hx=>by simpa using hb1 x hx),z4z (fun x hx=>by simpa using hb2 x hx),z2c,z1o]
  have hS1:z92 d E1=(0,0):=by
   rw [z92,z4z (fun x hx=>?_)]; · rfl
   have:=hb1 x hx
   simp only [decide_eq_false_iff_not]
   exact fun hs=>hs.not_bef' this
  have hin:=y38 haS hp E1 E2 rfl
  rw [hB,y0a,hS1,x2u]
  refine ⟨_,hin,rfl,?_⟩
  by_cases hsame:∃ e E3,E2=e::E3∧z68 d e
  ·obtain ⟨e,E3,rfl,he⟩:=hsame
   have hS2:z92 d (e::E3)=e:=by
    have h3:∀ x∈E3,Bef e x:=by
     rw [List.pairwise_append] at hs
     exact (List.pairwise_cons.1 hs.2.1).1
    rw [z92,List.filter_cons_of_pos (by simpa using he),z4z (fun x hx=>?_),z0u,z2c,z1o]
    simp only [decide_eq_false_iff_not]
    exact fun hs=>hs.not_bef (he.symm.bef_l (h3 x hx))
   have hnx:=z9n hp
   exact .inl ⟨_,hnx,by rw [x3e]; exact he,by rw [hS2]⟩
  ·have hE2:∀ x∈E2,Bef d x:=by
    intro x hx
    have hxn:x≠(0,0):=hnz x (List.mem_append_right _ hx)
    rcases y2q hd hxn with h|h|h
    ·exact h
    ·
     match E2,hsame,hx,hb2 with
     |e::E3,hsame,hx,hb2=>
      rcases List.mem_cons.1 hx with rfl|hx
      ·exact absurd ⟨_,_,rfl,h⟩ hsame
      ·rw [List.pairwise_append] at hs
       have:=(List.pairwise_cons.1 hs.2.1).1 x hx
       exact absurd (h.symm.bef_r this) (hb2 e (by simp))
    ·exact absurd h (hb2 x hx)
   have hS2:z92 d E2=(0,0):=by
    rw [z92,z4z (fun x hx=>?_)]; · rfl
    simp only [decide_eq_false_iff_not]
    exact fun hs=>hs.not_bef (hE2 x hx)
   refine .inr ⟨hS2,?_⟩
   have hprev:∃ p q,q∈S∧Nx S q (ad a (z1d E1))∧sb (ad a (z1d E1)) q=p∧((E1≠[]∧Bef p d)∨(E1=[]∧Pos (ng p))):=by
    rcases List.eq_nil_or_concat E1 with rfl|⟨E',p,rfl⟩
    ·rcases List.eq_nil_or_concat E2 with rfl|⟨E',p,rfl⟩
     ·exact absurd rfl hne
     ·rw [List.concat_eq_append,List.nil_append] at hp hsum
      have hnx:=z9n (E1:=E') (e:=p) (E3:=[]) hp
      have e0:ad (ad a (z1d E')) p=a:=by
       rw [z2x,z0u,z2c,z1o] at hsum
       rw [z2q,hsum,z1o]
      rw [e0] at hnx
      refine ⟨p,_,y38 haS hp E' [p] rfl,by rw [z2c,z1o]; exact hnx,?_, .inr ⟨rfl,?_⟩⟩
      ·have:=x3e (ad a (z1d E')) p
       rw [e0] at this
       rw [z2c,z1o]; exact this
      ·have hq:ad a (z1d E')∈S:=y38 haS hp E' [p] rfl
       have hle:=hc0 _ hq
       have e1:=congrArg Prod.fst e0
       have e2:=congrArg Prod.snd e0
       have hp0:p≠(0,0):=hnz p (by simp)
       have hp1:¬ (p.1=0∧p.2=0):=fun e=>hp0 (Prod.ext e.1 e.2)
       rcases hle with hle|hle
       ·have e3:=congrArg Prod.fst hle
        have e4:=congrArg Prod.snd hle
        simp only [ad] at e1 e2 e3 e4
        exact absurd ⟨by omega,by omega⟩ hp1
       ·simp only [ad,Lt,Pos,sb,ng] at*
        omega
    ·rw [List.concat_eq_append] at*
     have hp':Pth S (x4l a (E'++p::E2)):=by simpa using hp
     have hnx:=z9n hp'
     have e0:ad a (z1d (E'++[p]))=ad (ad a (z1d E')) p:=by rw [z2x,z0u,z2c,z1o,z2q]
     rw [e0]
     exact ⟨p,_,y38 haS hp' E' (p::E2) rfl,hnx,x3e _ _, .inl ⟨by simp,hb1 p (by simp)⟩⟩
   have hnext:∃ n q,Nx S (ad a (z1d E1)) q∧sb q (ad a (z1d E1))=n∧((E2≠[]∧Bef d n∧(E1=[]→Pos n))∨(E2=[]∧Pos n)):=by
    match E2,hE2 with
    |[],hE2=>
     match E1,hne with
     |n::E1,hne=>
      rw [List.append_nil] at hp hsum
      have hnx:=z9n (E1:=[]) (e:=n) (E3:=E1) hp
      rw [z2c,z1o] at hnx
      rw [hsum,z1o]
      refine ⟨n,_,hnx,x3e _ _, .inr ⟨rfl,?_⟩⟩
      rcases hc0 _ hnx.1 with h|h
      ·exact absurd h hnx.2.1
      ·have h':Pos (sb (ad a n) a):=h
       rwa [x3e] at h'
    |n::E3,hE2=>
     have hnx:=z9n hp
     refine ⟨n,_,hnx,x3e _ _, .inl ⟨by simp,hE2 n (by simp),fun e=>?_⟩⟩
     subst e
     rw [z2c,z1o] at hnx
     rcases hc0 _ hnx.1 with h|h
     ·exact absurd h hnx.2.1
     ·have h':Pos (sb (ad a n) a):=h
      rwa [x3e] at h'
   obtain ⟨p,q,hqS,n1,rfl,p2⟩:=hprev
   obtain ⟨n,q',n2,rfl,p3⟩:=hnext
   have hpn:0≤crs (sb (ad a (z1d E1)) q) (sb q' (ad a (z1d E1))):=by
    have:=(n1.2.2 q' n2.1).1
    have e:cr q (ad a (z1d E1)) q'=crs (sb (ad a (z1d E1)) q) (sb q' (ad a (z1d E1))):=by simp only [cr,crs,sb]; grind
    omega
   have:=x2e hpn (d:=d) (by
    rcases p2 with ⟨a1,a2⟩|⟨a1,a2⟩
    ·rcases p3 with ⟨b1,b2,b3⟩|⟨b1,b2⟩
     ·exact .inl ⟨a2,b2⟩
     ·refine .inr (.inr ⟨a2,b2,?_⟩)
      subst b1
      rw [List.append_nil] at hsum hnz
      rcases y42 (sb (ad a (z1d E1)) q) a2.ne1 with hpp|hpp
      ·exfalso
       rw [hsum,z1o] at hpp n1
       rcases hc0 q hqS with h|h
       ·exact n1.2.1 h.symm
       ·exact h.asymm hpp
      ·exact hpp
    ·rcases p3 with ⟨b1,b2,b3⟩|⟨b1,b2⟩
     ·exact .inr (.inl ⟨b2,b3 a1,a2⟩)
     ·exact absurd (show E1++E2=[] by rw [a1,b1]; rfl) hne)
   exact ⟨_,_,hqS,n1,n2,this.1,this.2⟩
theorem y32 {S c:List Pt} (h:Cyc S c) {d:Pt} (hd:d≠(0,0)):y91 S d (ad (hd0 c) (z7b d (wy c))) (ad (ad (hd0 c) (z7b d (wy c))) (z92 d (wy c))):=by
 match c,h with
 |[a],h=>
  have hS:∀ x∈S,x=a:=by
   rcases h.2.2 with ⟨_,h⟩|⟨h,_⟩
   ·exact h
   ·exact absurd rfl h
  show y91 S d (ad a (0,0)) (ad (ad a (0,0)) (0,0))
  rw [z1o,z1o]
  refine ⟨h.1,h.1,by simp [crs,sb],fun x hx=>?_,fun x hx _=>?_⟩
  ·rw [hS x hx]; simp [crs,sb]
  ·rw [hS x hx]; simp [dt,sb]
 |a::b::r,h=>
  obtain ⟨α,h1,h2,h3⟩:=w01 h hd
  show y91 S d (ad a (z7b d (wy (a::b::r)))) (ad (ad a (z7b d (wy (a::b::r)))) (z92 d (wy (a::b::r))))
  rw [←h2]
  rcases h3 with ⟨β,k1,k2,k3⟩|⟨k1,q,β,k2,k3,k4,k5,k6⟩
  ·rw [k3]; exact (w7o h1 k1).same k2.symm
  ·rw [k1,z1o]; exact x4c k3 k4 k5 k6
end M06
end
section
namespace M06
def grp:Pt→List Pt→List Pt
 |_,[]=>[]
 |now,[w]=>[ad now w]
 |now,w::w'::ws=>if z68 w w' then grp (ad now w) (w'::ws) else ad now w::grp (ad now w) (w'::ws)
def w3c (s0:Pt) (ws:List Pt):List Pt:=if 1<(s0::grp s0 ws).length then (s0::grp s0 ws).dropLast else s0::grp s0 ws
theorem x5t:∀ (now w:Pt) (ws:List Pt),grp now (w::ws)≠[]
 |now,w,[]=>by simp [grp]
 |now,w,w'::ws=>by
  rw [grp]; split
  ·exact x5t _ _ _
  ·simp
theorem v5j {a b c:Pt} (h:Bef a b) (hc:c≠(0,0)) (h2:¬ Bef c b):Bef a c:=by
 rcases y2q h.ne2 hc with k|k|k
 ·exact h.trans k
 ·exact k.bef_r h
 ·exact absurd k h2
theorem v2y {a b c:Pt} (ha:a≠(0,0)) (h2:¬ Bef b a) (h:Bef b c):Bef a c:=by
 rcases y2q h.ne1 ha with k|k|k
 ·exact absurd k h2
 ·exact k.bef_l h
 ·exact k.trans h
theorem x0j {d:Pt}:∀ {l:List Pt},(∀ u∈l,Bef u d∨z68 d u)→z1d l=ad (z7b d l) (z92 d l)
 |[],_=>rfl
 |u::l,h=>by
  have ih:=x0j (l:=l) (fun x hx=>h x (List.mem_cons_of_mem _ hx))
  rcases h u (by simp) with hb|hs
  ·rw [z7b,z92,List.filter_cons_of_pos (by simpa using hb),List.filter_cons_of_neg (by simpa using fun hs:z68 d u=>hs.not_bef' hb),z0u,z0u,ih,z2q]
   rfl
  ·rw [z7b,z92,List.filter_cons_of_neg (by simpa using hs.not_bef'),List.filter_cons_of_pos (by simpa using hs),z0u,z0u,ih]
   show ad u (ad (z7b d l) (z92 d l))=ad (z7b d l) (ad u (z92 d l))
   rw [←z2q, ←z2q,w13 u]
theorem y4h {d:Pt} {l:List Pt} (h:∀ x∈l,¬ Bef x d):z7b d l=(0,0):=by
 rw [z7b,z4z (fun x hx=>by simpa using h x hx)]; rfl
theorem x85 {d:Pt} {l:List Pt} (h:∀ x∈l,¬ z68 d x):z92 d l=(0,0):=by
 rw [z92,z4z (fun x hx=>by simpa using h x hx)]; rfl
theorem w2q {d:Pt} {l:List Pt} (h:∀ x∈l,Bef x d):z7b d l=z1d l:=by
 rw [z7b,y7k (fun x hx=>by simpa using h x hx)]
theorem y06:∀ {l:List Pt},l≠[]→(∀ x∈l,Pos x)→Pos (z1d l)
 |[x],_,h=>by rw [z0u,z2c,z1o]; exact h x (by simp)
 |x::y::l,_,h=>by
  rw [z0u]
  exact w7i (h x (by simp)) (y06 (l:=y::l) (by simp) (fun z hz=>h z (List.mem_cons_of_mem _ hz)))
theorem x20:∀ (l:List Pt),z1d (l.map ng)=ng (z1d l)
 |[]=>by simp [z1d,ng]
 |x::l=>by
  rw [List.map_cons,z0u,z0u,x20 l]
  simp only [ad,ng]; exact Prod.ext (by simp; omega) (by simp; omega)
theorem w33 {T ws:List Pt} {s0:Pt} (hnz:∀ w∈ws,w≠(0,0)) (hs:ws.Pairwise (fun u v=>¬ Bef v u))
  (hf:∀ d,d≠(0,0)→y91 T d (ad s0 (z7b d ws)) (ad (ad s0 (z7b d ws)) (z92 d ws))):
  ∀ (ws2 ws1:List Pt) (w cur:Pt),ws=ws1++w::ws2→cur=ad s0 (z7b w ws)→
   Pth T (cur::grp (ad s0 (z1d ws1)) (w::ws2))∧(grp (ad s0 (z1d ws1)) (w::ws2)).getLast?=some (ad s0 (z1d ws))∧
   ∀ x∈(grp (ad s0 (z1d ws1)) (w::ws2)).dropLast,∃ l1 l2,ws=l1++l2∧l1≠[]∧l2≠[]∧x=ad s0 (z1d l1)∧∀ u∈l1,∀ v∈l2,Bef u v:=by
 have step:∀ (l1 l2:List Pt) (w:Pt),ws=l1++l2→w∈l1→(∀ u∈l1,¬ Bef w u)→(∀ v∈l2,Bef w v)→Nx T (ad s0 (z7b w ws)) (ad s0 (z1d l1)):=by
  intro l1 l2 w he hw h1 h2
  have hw0:w≠(0,0):=hnz w (by rw [he]; exact List.mem_append_left _ hw)
  have e1:z7b w ws=z7b w l1:=by
   rw [he,z7y,y4h (l:=l2) (fun x hx hb=>(h2 x hx).asymm hb),z1o]
  have e2:z92 w ws=z92 w l1:=by
   rw [he,y0a,x85 (l:=l2) (fun x hx hs=>hs.not_bef (h2 x hx)),z1o]
  have e3:z1d l1=ad (z7b w ws) (z92 w ws):=by
   rw [e1,e2]
   refine x0j fun u hu=>?_
   have hu0:u≠(0,0):=hnz u (by rw [he]; exact List.mem_append_left _ hu)
   rcases y2q hw0 hu0 with k|k|k
   ·exact absurd k (h1 u hu)
   ·exact .inr k
   ·exact .inl k
  have hF:=hf w hw0
  rw [z2q, ←e3] at hF
  refine (face_nx hw0 hF fun hab=>?_).1
  have hz:z92 w ws=(0,0):=by
   rw [e3, ←z2q] at hab
   have a1:=congrArg Prod.fst hab
   have a2:=congrArg Prod.snd hab
   simp only [ad] at a1 a2
   exact Prod.ext (by simp; omega) (by simp; omega)
  have hfil:(ws.filter (fun x=>decide (z68 w x)))≠[]:=by
   intro hn
   have hww:w∈ws:=by rw [he]; exact List.mem_append_left _ hw
   have:=List.filter_eq_nil_iff.1 hn w hww
   simp only [decide_eq_true_eq] at this
   refine this ⟨by simp only [crs]; have:=Int.mul_comm w.1 w.2; omega,?_⟩
   exact z1e hw0
  rcases y42 w hw0 with hp|hp
  ·have:=y06 hfil (fun x hx=>z42 (by simpa using (List.mem_filter.1 hx).2) hp)
   exact z94 this hz
  ·have:=y06 (l:=(ws.filter (fun x=>decide (z68 w x))).map ng) (by simpa using hfil) (fun x hx=>by
    obtain ⟨y,hy,rfl⟩:=List.mem_map.1 hx
    have hsy:z68 w y:=by simpa using (List.mem_filter.1 hy).2
    exact z42 (y2a hsy) hp)
   rw [x20] at this
   refine z94 this ?_
   show ng (z92 w ws)=_
   rw [hz]; rfl
 intro ws2
 induction ws2 with
 |nil=>
  intro ws1 w cur he hcur
  have hle:∀ u∈ws1++[w],¬ Bef w u:=by
   intro u hu hb
   rcases List.mem_append.1 hu with h|h
   ·rw [he,List.pairwise_append] at hs
    exact hs.2.2 u h w (by simp) hb
   ·simp at h; subst h; exact hb.irrefl
  have hn:=step (ws1++[w]) [] w (by rw [he]; simp) (by simp) hle (by simp)
  have e:ad (ad s0 (z1d ws1)) w=ad s0 (z1d (ws1++[w])):=by rw [z2x,z0u,z2c,z1o,z2q]
  refine ⟨⟨?_,trivial⟩,?_,by simp [grp]⟩
  ·rw [hcur,e]; exact hn
  ·simp only [grp,List.getLast?_singleton]
   rw [e,he]
 |cons w' ws2 ih=>
  intro ws1 w cur he hcur
  have he':ws=(ws1++[w])++w'::ws2:=by rw [he]; simp
  have e:ad (ad s0 (z1d ws1)) w=ad s0 (z1d (ws1++[w])):=by rw [z2x,z0u,z2c,z1o,z2q]
  have hw0:w≠(0,0):=hnz w (by rw [he]; simp)
  have hw0':w'≠(0,0):=hnz w' (by rw [he]; simp)
  by_cases hsame:z68 w w'
  ·rw [grp,if_pos hsame,e]
   refine ih (ws1++[w]) w' cur he' ?_
   rw [hcur]
   congr 1
   rw [z7b,z7b]
   congr 1
   refine List.filter_congr fun x _=>?_
   rw [decide_eq_decide]
   exact ⟨fun h=>hsame.bef_r h,fun h=>hsame.symm.bef_r h⟩
  ·rw [grp,if_neg hsame,e]
   have hww:Bef w w':=by
    rcases y2q hw0 hw0' with k|k|k
    ·exact k
    ·exact absurd k hsame
    ·rw [he',List.pairwise_append] at hs
     exact absurd k (hs.2.2 w (by simp) w' (by simp))
   have hle:∀ u∈ws1++[w],¬ Bef w u:=by
    intro u hu hb
    rcases List.mem_append.1 hu with h|h
    ·rw [he,List.pairwise_append] at hs
     exact hs.2.2 u h w (by simp) hb
    ·simp at h; subst h; exact hb.irrefl
   have hge:∀ v∈w'::ws2,¬ Bef v w':=by
    intro v hv hb
    rcases List.mem_cons.1 hv with h|h
    ·subst h; exact hb.irrefl
    ·rw [he',List.pairwise_append] at hs
     exact (List.pairwise_cons.1 hs.2.1).1 v h hb
   have hall:∀ u∈ws1++[w],∀ v∈w'::ws2,Bef u v:=by
    intro u hu v hv
    have h1:Bef w v:=v5j hww (hnz v (by rw [he']; exact List.mem_append_right _ hv)) (hge v hv)
    exact v2y (hnz u (by rw [he']; exact List.mem_append_left _ hu)) (hle u hu) h1
   have hn:=step (ws1++[w]) (w'::ws2) w he' (by simp) hle (fun v hv=>hall w (by simp) v hv)
   have hcur':ad s0 (z1d (ws1++[w]))=ad s0 (z7b w' ws):=by
    congr 1
    rw [he',z7y,y4h (l:=w'::ws2) hge,z1o,w2q (fun u hu=>hall u hu w' (by simp))]
   obtain ⟨i1,i2,i3⟩:=ih (ws1++[w]) w' _ he' hcur'
   refine ⟨⟨by rw [hcur]; exact hn,i1⟩,?_,?_⟩
   ·obtain ⟨a,r,hg⟩:∃ a r,grp (ad s0 (z1d (ws1++[w]))) (w'::ws2)=a::r:=by
     match hq:grp (ad s0 (z1d (ws1++[w]))) (w'::ws2) with
     |[]=>exact absurd hq (x5t _ _ _)
     |a::r=>exact ⟨a,r,rfl⟩
    rw [hg] at i2⊢
    rw [List.getLast?_cons_cons]; exact i2
   ·intro x hx
    obtain ⟨a,r,hg⟩:∃ a r,grp (ad s0 (z1d (ws1++[w]))) (w'::ws2)=a::r:=by
     match hq:grp (ad s0 (z1d (ws1++[w]))) (w'::ws2) with
     |[]=>exact absurd hq (x5t _ _ _)
     |a::r=>exact ⟨a,r,rfl⟩
    rw [hg] at hx i3
    rw [List.dropLast_cons_cons] at hx
    rcases List.mem_cons.1 hx with rfl|hx
    ·exact ⟨ws1++[w],w'::ws2,he',by simp,by simp,rfl,hall⟩
    ·exact i3 x hx
theorem w3b {A B T a b ws:List Pt} (hA:Cyc A a) (hB:Cyc B b) (hT:∀ z,z∈T↔∃ x∈A,∃ y∈B,z=ad x y) (hp:ws.Perm (wy a++wy b)) (hs:ws.Pairwise (fun u v=>¬ Bef v u)):
  Cyc T (w3c (ad (hd0 a) (hd0 b)) ws):=by
 have hf:∀ d,d≠(0,0)→y91 T d (ad (ad (hd0 a) (hd0 b)) (z7b d ws)) (ad (ad (ad (hd0 a) (hd0 b)) (z7b d ws)) (z92 d ws)):=by
  intro d hd
  have:=(y32 hA hd).sum hT (y32 hB hd)
  rw [x86 d hp,x84 d hp,z7y,y0a]
  have sw:∀ x y z w:Pt,ad (ad x y) (ad z w)=ad (ad x z) (ad y w):=by
   intros; simp only [ad]; exact Prod.ext (by simp; omega) (by simp; omega)
  rw [sw (hd0 a) (hd0 b) (z7b d (wy a)) (z7b d (wy b)),sw (ad (hd0 a) (z7b d (wy a))) (ad (hd0 b) (z7b d (wy b))) (z92 d (wy a)) (z92 d (wy b))]
  exact this
 have wprop:∀ {S c:List Pt},Cyc S c→z1d (wy c)=(0,0)∧(∀ w∈wy c,w≠(0,0))∧hd0 c∈S∧∀ x∈S,Le (hd0 c) x:=by
  intro S c h
  match c,h with
  |[x],h=>exact ⟨rfl,by simp [wy],h.1,h.2.1⟩
  |x::y::r,h=>
   have:=y31 h
   exact ⟨this.2.1,this.2.2.1,h.1,h.2.1⟩
 obtain ⟨a1,a2,a3,a4⟩:=wprop hA
 obtain ⟨b1,b2,b3,b4⟩:=wprop hB
 have hnz:∀ w∈ws,w≠(0,0):=fun w hw=>by
  rcases List.mem_append.1 (hp.mem_iff.1 hw) with h|h
  ·exact a2 w h
  ·exact b2 w h
 have hsum:z1d ws=(0,0):=by rw [y4g hp,z2x,a1,b1]; rfl
 generalize hs0:ad (hd0 a) (hd0 b)=s0 at*
 have hin:s0∈T:=(hT _).2 ⟨_,a3,_,b3,hs0.symm⟩
 have hle:∀ x∈T,Le s0 x:=by
  intro z hz
  obtain ⟨x,hx,y,hy,rfl⟩:=(hT z).1 hz
  have h1:=a4 x hx
  have h2:=b4 y hy
  rw [←hs0]
  generalize hd0 a=p at*
  generalize hd0 b=q at*
  rcases h1 with rfl|h1
  ·rcases h2 with rfl|h2
   ·exact .inl rfl
   ·right; simp only [Lt,Pos,sb,ad] at*; omega
  ·rcases h2 with rfl|h2
   ·right; simp only [Lt,Pos,sb,ad] at*; omega
   ·right; simp only [Lt,Pos,sb,ad] at*; omega
 match ws,hp,hs,hf,hnz,hsum with
 |[],hp,hs,hf,hnz,hsum=>
  have:w3c s0 []=[s0]:=by simp [w3c,grp]
  rw [this]
  refine ⟨hin,hle, .inl ⟨rfl,fun x hx=>?_⟩⟩
  have f1:=(hf (1,0) (by simp)).left x hx
  have f2:=(hf (-1,0) (by simp)).left x hx
  have f3:=(hf (0,1) (by simp)).left x hx
  have f4:=(hf (0, -1) (by simp)).left x hx
  simp only [z7b,z1d,List.filter_nil,List.foldr_nil,z1o,crs,sb] at f1 f2 f3 f4
  exact Prod.ext (by omega) (by omega)
 |w::ws,hp,hs,hf,hnz,hsum=>
  have hcur:s0=ad s0 (z7b w (w::ws)):=by
   rw [y4h (fun x hx hb=>?_),z1o]
   rcases List.mem_cons.1 hx with h|h
   ·subst h; exact hb.irrefl
   ·exact (List.pairwise_cons.1 hs).1 x h hb
  obtain ⟨p1,p2,p3⟩:=w33 hnz hs hf ws [] w s0 rfl hcur
  rw [z2c,z1o] at p1 p2 p3
  rw [hsum,z1o] at p2
  obtain ⟨r,hr⟩:∃ r,grp s0 (w::ws)=r++[s0]:=by
   have hne:=x5t s0 w ws
   refine ⟨(grp s0 (w::ws)).dropLast,?_⟩
   have:=List.dropLast_concat_getLast hne
   rw [List.getLast?_eq_some_getLast hne] at p2
   rw [Option.some.inj p2] at this
   exact this.symm
  rw [hr] at p1 p3
  have hm:w3c s0 (w::ws)=s0::r:=by
   rw [w3c,hr,if_pos (by simp), ←List.cons_append,List.dropLast_concat]
  rw [hm]
  rw [List.dropLast_concat] at p3
  refine ⟨hin,hle, .inr ⟨?_,p1,fun hmem=>?_⟩⟩
  ·rintro rfl
   exact p1.1.2.1 rfl
  ·obtain ⟨l1,l2,h1,h2,h3,h4,h5⟩:=p3 s0 hmem
   have hz1:z1d l1=(0,0):=by
    have a1:=congrArg Prod.fst h4
    have a2:=congrArg Prod.snd h4
    simp only [ad] at a1 a2
    exact Prod.ext (by simp; omega) (by simp; omega)
   have hz2:z1d l2=(0,0):=by rw [h1,z2x,hz1,x2u] at hsum; exact hsum
   by_cases hall:∀ u∈l1,Pos u
   ·exact z94 (y06 h2 hall) hz1
   ·have:∃ u∈l1,¬ Pos u:=Classical.byContradiction fun hn=>hall fun u hu=>Classical.byContradiction fun hp=>hn ⟨u,hu,hp⟩
    obtain ⟨u,hu,hup⟩:=this
    have hall2:∀ v∈l2.map ng,Pos v:=by
     intro v hv
     obtain ⟨y,hy,rfl⟩:=List.mem_map.1 hv
     rcases h5 u hu y hy with h|h|h
     ·exact h.2
     ·exact absurd h.1 hup
     ·exact h.2.1
    have:=y06 (by simpa using h3) hall2
    rw [x20,hz2] at this
    exact z94 this rfl
end M06
end
section
namespace Go.Am
open M06
theorem x62 (l:List Pt):std.plain (z0b l)=true:=by
 show List.all _ _=true
 rw [List.all_eq_true]
 intro r hr
 obtain ⟨p,_,rfl⟩:=List.mem_map.1 hr
 rfl
theorem w6t {l:List Pt} (hn:l.length≤100000):G60 std (z0b l,())=some (z0b l,()):=by
 have key:=y2k (b:=w48 std) (fun (i:Nat)=>(z0b (l.take i++List.replicate (l.length - i) (0,0)),z0b l,(l.length:Int),(i:Int),())) (fun i=>i≤l.length) (fun i=>l.length - i) (fun _=>(z0b l,())) (fun i hi=>by
  by_cases hlt:i<l.length
  ·left
   obtain ⟨p,hp⟩:=z0q hlt
   have gp:=z0w hp
   have c1:(i:Int)<(l.length:Int):=by omega
   have c2:(i:Int)≥0:=by omega
   have hw:=z1g (i:=i) (by omega)
   refine ⟨i+1,?_,by omega,by omega,rfl⟩
   have hle:(z0b (l.take i++List.replicate (l.length - i) (0,0))).length=l.length:=by simp [z0b]; omega
   have hset:(l.take i++List.replicate (l.length - i) (0,0)).set i p=l.take (i+1)++List.replicate (l.length - (i+1)) (0,0):=by
    rw [z1f hp,show l.length - i=(l.length - (i+1))+1 by omega,List.replicate_succ,List.append_assoc,List.set_append_right _ _ (by simp; omega)]
    congr 1
    have:i - (l.take i).length=0:=by simp; omega
    rw [this]; rfl
   have hle2:(l.take i++List.replicate (l.length - i) (0,0)).length=l.length:=by simp; omega
   have hle3:(l.take (i+1)++List.replicate (l.length - (i+1)) (0,0)).length=l.length:=by simp; omega
   obtain ⟨r,h4⟩:=z0q (l:=l.take i++List.replicate (l.length - i) (0,0)) (i:=i) (by omega)
   have g3:=z0w h4
   simp only [w48,z01,z02,z0p,z1b,z1a,z27,z0v,z0e,hle2,hle3,c1,c2,z0f,hw,gp,g3,hset]
  ·right
   have:i=l.length:=by omega
   subst this
   have hn:¬ ((l.length:Int)<(l.length:Int)):=by omega
   simp only [w48,z01,z02,hn,List.take_length,Nat.sub_self,List.replicate_zero,List.append_nil]) 0 (Nat.zero_le _)
 unfold G60
 have e0:z0b (l.take 0++List.replicate (l.length - 0) (0,0))=List.replicate l.length (eP (0,0)):=by simp [z0b]
 rw [e0] at key
 have z:[D.int IntKind.i64 (0:Int),D.int IntKind.i64 (0:Int)]=eP (0,0):=rfl
 have c0:(l.length:Int)≥0:=by omega
 have c1:(l.length:Int)≤(l.length:Int):=by omega
 have c2:(l.length:Int)≤1000000:=by omega
 simp only [g60,it0_eq,z01,z02,z0e,z,c0,c1,c2]
 have k0:((0:Nat):Int)=0:=rfl
 rw [k0] at key
 simp only [key,Option.bind_some,List.length_replicate,if_true,z0e,List.drop_zero,Nat.le_refl]
 rw [List.take_of_length_le (by rw [z0e]; exact Nat.le_refl _)]
def rvd (L:List Pt) (n i:Nat):List Pt:=(List.range L.length).map fun j=>if j<n∧(j<i∨n≤j+i) then L.getD (n - 1 - j) (0,0) else L.getD j (0,0)
theorem y2b {L:List Pt} {n i j:Nat} (hj:j<L.length):(rvd L n i)[j]?=some (if j<n∧(j<i∨n≤j+i) then L.getD (n - 1 - j) (0,0) else L.getD j (0,0)):=by
 simp [rvd,hj]
theorem z74 (L:List Pt) (n i:Nat):(rvd L n i).length=L.length:=by simp [rvd]
theorem y8x {α:Type} {a b:List α} (h:a.length=b.length) (k:∀ j,j<a.length→a[j]?=b[j]?):a=b:=by
 apply List.ext_getElem?
 intro j
 by_cases hj:j<a.length
 ·exact k j hj
 ·rw [List.getElem?_eq_none (by omega),List.getElem?_eq_none (by omega)]
theorem w2w (L:List Pt) (n:Nat):rvd L n 0=L:=by
 refine y8x (z74 _ _ _) fun j hj=>?_
 rw [z74] at hj
 rw [y2b hj,if_neg (by omega)]
 simp [List.getD_eq_getElem?_getD,hj]
theorem w7f {L:List Pt} {n i:Nat} (hn:n≤L.length) (hi:n≤2*i+1):rvd L n i=(L.take n).reverse++L.drop n:=by
 refine y8x (by rw [z74]; simp; omega) fun j hj=>?_
 rw [z74] at hj
 rw [y2b hj]
 by_cases h:j<n
 ·rw [List.getElem?_append_left (by simp; omega),List.getElem?_reverse (by simp; omega)]
  have:(List.take n L).length - 1 - j=n - 1 - j:=by simp; omega
  rw [this,List.getElem?_take_of_lt (by omega)]
  by_cases k:j<i∨n≤j+i
  ·rw [if_pos ⟨h,k⟩]
   have:n - 1 - j<L.length:=by omega
   simp [List.getD_eq_getElem?_getD,this]
  ·rw [if_neg (by omega)]
   have:n - 1 - j=j:=by omega
   rw [this]
   simp [List.getD_eq_getElem?_getD,hj]
 ·rw [if_neg (by omega),List.getElem?_append_right (by simp; omega)]
  have:n+(j - (List.take n L).reverse.length)=j:=by simp; omega
  rw [List.getElem?_drop,this]
  simp [List.getD_eq_getElem?_getD,hj]
theorem w2x {L:List Pt} {n i:Nat} (hn:n≤L.length) (hi:2*i+1<n):
  ∃ p q,(rvd L n i)[i]?=some p∧(rvd L n i)[n - 1 - i]?=some q∧((rvd L n i).set i q).set (n - 1 - i) p=rvd L n (i+1):=by
 have h1:=y2b (L:=L) (n:=n) (i:=i) (j:=i) (by omega)
 have h2:=y2b (L:=L) (n:=n) (i:=i) (j:=n - 1 - i) (by omega)
 rw [if_neg (by omega)] at h1 h2
 refine ⟨_,_,h1,h2,?_⟩
 refine y8x (by simp [z74]) fun j hj=>?_
 simp only [List.length_set,z74] at hj
 rw [y2b hj]
 by_cases e1:n - 1 - i=j
 ·subst e1
  rw [List.getElem?_set_self (by simp [z74]; omega),if_pos (by omega)]
  have:n - 1 - (n - 1 - i)=i:=by omega
  rw [this]
 ·rw [List.getElem?_set_ne e1]
  by_cases e2:i=j
  ·subst e2
   rw [List.getElem?_set_self (by simp [z74]; omega),if_pos (by omega)]
  ·rw [List.getElem?_set_ne e2,y2b hj]
   congr 1
   by_cases k:j<n∧(j<i∨n≤j+i)
   ·rw [if_pos k,if_pos (by omega)]
   ·rw [if_neg k,if_neg (by omega)]
theorem v58 {L:List Pt} {m cap:Nat} (hm:m≤L.length) (hn:L.length≤100000):
  G89 std (z0b L,(0:Nat),m,cap,())=some (z0b ((L.take m).reverse++L.drop m),()):=by
 have key:=y2k (b:=w47 std) (fun (i:Nat)=>(z0b (rvd L m i),(0:Nat),m,cap,(i:Int),(m:Int) - 1 - i,())) (fun i=>i≤m) (fun i=>m - i) (fun _=>(z0b ((L.take m).reverse++L.drop m),())) (fun i hi=>by
  by_cases hlt:2*i+1<m
  ·left
   refine ⟨i+1,?_,by omega,by omega,rfl⟩
   obtain ⟨p,q,h1,h2,h3⟩:=w2x hm hlt
   have ej:(m:Int) - 1 - i=((m - 1 - i:Nat):Int):=by omega
   have c1:(i:Int)<((m - 1 - i:Nat):Int):=by omega
   have c2:((m - 1 - i:Nat):Int)≥0:=by omega
   have c3:((m - 1 - i:Nat):Int)<(m:Int):=by omega
   have c4:(i:Int)≥0:=by omega
   have c5:(i:Int)<(m:Int):=by omega
   have hw:=z1g (i:=i) (by omega)
   have hw2:IntKind.i64.wrap (((m - 1 - i:Nat):Int) - 1)=(m:Int) - 1 - ((i+1:Nat):Int):=by rw [z1k]<;>omega
   have g1:=z0w h1
   have g2:=z0w h2
   have h4:∃ r,((rvd L m i).set i q)[m - 1 - i]?=some r:=z0q (by rw [List.length_set,z74]; omega)
   obtain ⟨r,h4⟩:=h4
   have g3:=z0w h4
   simp only [ej,w47,z01,z02,z0p,z1b,z1a,z27,z0v,z0e,c1,c2,c3,c4,c5,z0f,z0o,hw,hw2,g1,g2,g3,h3]
  ·right
   have hge:¬ ((i:Int)<(m:Int) - 1 - i):=by omega
   simp only [w47,z01,z02,hge]
   rw [w7f hm (by omega)]) 0 (Nat.zero_le _)
 unfold G89
 have hw:IntKind.i64.wrap ((m:Int) - 1)=(m:Int) - 1 - ((0:Nat):Int):=by rw [z1k]<;>omega
 rw [w2w] at key
 simp only [g89,it0_eq,z2j,z0o,hw,z5m,z5d]
 have k0:((0:Nat):Int)=0:=rfl
 simp only [k0] at key⊢
 simp only [key,Option.bind_some]
theorem w1q (l:List Pt):z3d l=chn l:=rfl
theorem w9m {q:List Pt} (hs:q.Pairwise Lt) (h2:2≤q.length):2≤(chn q).length∧2≤(chn q.reverse).length:=by
 have main:∀ {q:List Pt},q.Pairwise Lt→2≤q.length→2≤(chn q).length:=by
  intro q hs h2
  match q,h2 with
  |a::b::m,_=>
   obtain ⟨z,hz⟩:∃ z,(a::b::m).getLast?=some z:=⟨_,List.getLast?_eq_some_getLast (by simp)⟩
   have haz:Lt a z:=by
    have h:=hz
    rw [List.getLast?_cons_cons] at h
    exact (List.pairwise_cons.1 hs).1 z (List.mem_of_getLast? h)
   obtain ⟨t,h1,h3,_⟩:=y9k rfl hz hs
   rw [h1]
   match t,h3 with
   |[],h3=>exact absurd (Option.some.inj h3).symm haz.ne
   |x::t,_=>simp
 refine ⟨main hs h2,?_⟩
 have hrz:(q.reverse.map ng).Pairwise Lt:=by
  rw [List.pairwise_map,List.pairwise_reverse]
  exact hs.imp fun h=>(w7r _ _).2 h
 have:=main hrz (by simpa using h2)
 rw [w6k] at this
 simpa using this
theorem w6u {l:List Pt} (h1:1≤l.length) (h12:l.length≤12) (hl:∀ x∈l,z3s x):
  ∃ c,G59 std (z0b l,())=some (z0b c,())∧Cyc l c:=by
 obtain ⟨l',hs,hp,ho⟩:=v07 l h12
 have hlen:l'.length=l.length:=hp.length_eq
 obtain ⟨L,m,hg,hL,hm,hu⟩:=v0n (l:=l') ho (by omega)
 generalize hq:L.take m=q at hu
 have hql:q.length=m:=by rw [←hq]; simp; omega
 have hqm:∀ x,x∈q↔x∈l:=fun x=>(hu.2 x).trans hp.mem_iff
 have hqne:q≠[]:=by
  rintro rfl
  match l,h1 with
  |a::l,_=>have:=(hqm a).2 (by simp); simp at this
 have hm1:1≤m:=by rw [←hql]; exact List.length_pos_iff.2 hqne
 have hqs:∀ x∈q,z3s x:=fun x hx=>hl x ((hqm x).1 hx)
 obtain ⟨hc,_⟩:=x5p hqne hu.1 hqm
 refine ⟨w57 q,?_,hc⟩
 have e86:g86 it0 std (z0b l,())=some (z0b L,(0:Nat),m,l.length,()):=by
  have c0:(l.length:Int)≥0:=by omega
  have c1:(l.length:Int)≤(l.length:Int):=by omega
  have c2:(l.length:Int)≤1000000:=by omega
  have z:[D.int IntKind.i64 (0:Int),D.int IntKind.i64 (0:Int)]=eP (0,0):=rfl
  have hg':w8s it0 std (z0b l',(0:Nat),l.length,l.length,())=some (z0b L,(0:Nat),m,l.length,()):=by
   have:=hg
   rw [hlen] at this
   exact this
  have hs':v3v it0 std (z0b l,())=some (z0b l',()):=hs
  have hsp:List.take 0 (List.replicate l.length (eP (0,0)))++z0b l++List.drop (z0b l).length (List.replicate l.length (eP (0,0)))=z0b l:=by
   simp [z0e]
  simp only [g86,z01,z02,z0e,z,c0,c1,c2,Nat.le_refl,List.length_replicate]
  simp only [z0e] at hsp
  simp only [hsp,hs',Option.bind_some,hg',z0e,if_true]
 unfold G59
 have ht:(z0b L).take m=z0b q:=by rw [←hq]; simp [z0b]
 have cL:m≤L.length:=by omega
 by_cases hm':m=1
 ·have c1:(m:Int)=1:=by omega
  simp only [g59,e86,z01,z02,c1,cL,z0e,List.drop_zero,ht]
  rw [w57,if_pos (by omega)]
 ·have c1:¬ (m:Int)=1:=by omega
  have g1:=w6q hqs (by omega) (by omega)
  have hqr:∀ x∈q.reverse,z3s x:=fun x hx=>hqs x (by simpa using hx)
  have g2:=w6q hqr (by simp; omega) (by simp; omega)
  rw [w1q] at g1 g2
  have hl2:=w9m hu.1 (by omega)
  have g89:=v58 (L:=L) (m:=m) (cap:=l.length) cL (by omega)
  obtain ⟨g1,g1a,g1b⟩:=g1
  obtain ⟨g2,g2a,g2b⟩:=g2
  unfold G88 at g1 g2
  unfold G89 at g89
  have ht2:(z0b ((L.take m).reverse++L.drop m)).take m=z0b q.reverse:=by
   rw [hq]
   have:(z0b (q.reverse++L.drop m))=z0b q.reverse++z0b (L.drop m):=by simp [z0b]
   rw [this,List.take_append_of_le_length (by rw [z0e]; simp; omega),List.take_of_length_le (by rw [z0e]; simp; omega)]
  have cL2:m≤((L.take m).reverse++L.drop m).length:=by simp; omega
  have n1:¬ ((chn q).length - 1+((chn q.reverse).length - 1)≤(chn q).length - 1):=by omega
  have n2:(chn q.reverse).length - 1≤(chn q.reverse).length:=by omega
  have n3:(chn q).length - 1≤(chn q).length:=by omega
  have n4:1≤(chn q.reverse).length - 1:=by omega
  simp only [List.length_reverse] at g2b
  have n5:(chn q).length - 1+((chn q.reverse).length - 1)≤1000000:=by omega
  have hd:∀ c:List Pt,(z0b c).take (c.length - 1)=z0b c.dropLast:=by
   intro c; rw [List.dropLast_eq_take]; simp [z0b]
  have hfin:∀ a b:List Pt,z0b a++z0b b=z0b (a++b):=by intros; simp [z0b]
  have n6:(chn q).length - 1+((chn q.reverse).length - 1)≤((chn q).dropLast++(chn q.reverse).dropLast).length:=by simp
  have htk:(z0b ((chn q).dropLast++(chn q.reverse).dropLast)).take ((chn q).length - 1+((chn q.reverse).length - 1))=z0b ((chn q).dropLast++(chn q.reverse).dropLast):=by
   rw [List.take_of_length_le (by rw [z0e]; simp)]
  simp only [g59,e86,z01,z02,c1,cL,z0e,List.drop_zero,ht,g1,x62,g89,ht2,cL2,g2,n1,n2,n3,n4,n5,hd,hfin,n6,htk]
  rw [w57,if_neg (by omega)]
end Go.Am
end
noncomputable section
namespace Go.Am
def v4l:Ctr:=
 ⟨80,[.list 2, .list 2],[],[(.ret,⟨[(0, .list 2)],[],1⟩)]⟩
def la80:List LA:=
 [⟨80,[false,true,false,true,true],0,⟨⟨[(0, .list 2),(1, .list 2),(5, .bptr 0 0),(15, .full 1 1),(16, .int .i64),(17, .int .i64)],[.box [.vec 2 2], .row [(CK.list 2)], .row [ci,ci]],82⟩,[((AX.exit 0),⟨[(0, .list 2),(1, .list 2),(5, .bptr 0 0)],[.box [.vec 1 2], .row [ci,ci]],82⟩)]⟩⟩,
 ⟨94,[false,true],5,⟨⟨[(0, .yld 4),(1, .bptr 3 0),(6, .list 2),(7, .int .i64),(8, .int .i64)],[.box [.vec 5 2], .row [(CK.list 2)], .dead, .box [.list 2], .loop Go.LoopState.ready Option.none 80 [Bool.false,Bool.true,Bool.true,Bool.false,Bool.false,Bool.true,Bool.true,Bool.false,Bool.false,Bool.true,Bool.false,Bool.true,Bool.true] 82 [(22, .clo 94 [] [.bptr 3 0]),(16, .int .i64),(15, .full 1 1),(5, .bptr 0 0),(1, .list 2),(0, .list 2),(17, .int .i64)], .row [ci,ci]],33⟩,[(AX.ret,⟨[],[.box [.vec 5 2], .row [(CK.list 2)], .dead, .box [.list 2], .loop Go.LoopState.ready Option.none 80 [Bool.false,Bool.true,Bool.true,Bool.false,Bool.false,Bool.true,Bool.true,Bool.false,Bool.false,Bool.true,Bool.false,Bool.true,Bool.true] 82 [(22, .clo 94 [] [.bptr 3 0]),(16, .int .i64),(15, .full 1 1),(5, .bptr 0 0),(1, .list 2),(0, .list 2),(17, .int .i64)], .row [ci,ci]],33⟩),((AX.exit 0),⟨[],[.box [.vec 5 2], .row [(CK.list 2)], .dead, .box [.list 2], .loop Go.LoopState.ready Option.none 80 [Bool.false,Bool.true,Bool.true,Bool.false,Bool.false,Bool.true,Bool.true,Bool.false,Bool.false,Bool.true,Bool.false,Bool.true,Bool.true] 82 [(22, .clo 94 [] [.bptr 3 0]),(16, .int .i64),(15, .full 1 1),(5, .bptr 0 0),(1, .list 2),(0, .list 2),(17, .int .i64)], .row [ci,ci]],33⟩)]⟩⟩,
 ⟨80,[false,true,false,true,true,true,true,true,true],0,⟨⟨[(5, .bptr 0 0),(9, .bptr 1 0),(10, .sl 2 2),(42, .vec 3 2),(43, .int .i64),(44, .int .i64)],[.box [.vec 3 2], .box [.int .i64, .int .i64], .row [ci,ci], .row [ci,ci]],82⟩,[((AX.exit 4),⟨[(10, .sl 0 2)],[.row [ci,ci]],82⟩)]⟩⟩]
def ja80:List JA:=
 [⟨80,[true,true,false,false,true,true,false,false,true,false,true,true],0,[(AX.normal,⟨[(0, .list 2),(1, .list 2),(5, .bptr 0 0),(15, .full 1 1),(16, .int .i64),(17, .int .i64)],[.box [.vec 2 2], .row [(CK.list 2)], .row [ci,ci]],82⟩)]⟩,
 ⟨80,[false,true,true,false,false,true,false,true,true,true,true,true,true],0,[(AX.normal,⟨[(5, .bptr 0 0),(9, .bptr 1 0),(10, .sl 2 2),(42, .vec 3 2),(43, .int .i64),(44, .int .i64)],[.box [.vec 3 2], .box [.int .i64, .int .i64], .row [ci,ci], .row [ci,ci]],82⟩)]⟩,
 ⟨80,[true,false,true,true,true,true,true,true,true],0,[(AX.normal,⟨[(10, .sl 0 2)],[.row [ci,ci]],82⟩)]⟩]
def v88:List CF:=
 [⟨w87,G98⟩,⟨v4d,G99⟩,⟨x6b,u2u⟩]
def an80:Anns:=
 ⟨v88,ja80,[]⟩
def x2c (it:It) (p:Prim):(LD×(LD×T39))→Option ((LD×(LD×T39))⊕(LD×T24)):=
 fun a=>opt.run _ (
 opt.ask _ (p.cmp .lss a.2.2.2.2.2.2.2.1 a.2.2.2.2.2.2.1) (
 opt.bnd ((LD×(LD×T39))) _ (
 opt.run ((LD×(LD×T39))) (
 opt.need _ (bif (p.cmp .geq a.2.2.2.2.2.2.2.1 (0:Int)) then (p.cmp .lss a.2.2.2.2.2.2.2.1 (p.ofNat (p.len a.2.1))) else Bool.false)<|
 opt.need _ (p.rowOk a.2.1 (p.add 0 (p.nat a.2.2.2.2.2.2.2.1)) [ci,ci])<|
 opt.need _ (p.and (p.leN (p.add 0 2) (p.len [[(D.int .i64 a.2.2.1),(D.int .i64 a.2.2.2.1)],[(D.int .i64 (p.rdI a.2.1 (p.add 0 (p.nat a.2.2.2.2.2.2.2.1)) 0)),(D.int .i64 (p.rdI a.2.1 (p.add 0 (p.nat a.2.2.2.2.2.2.2.1)) 1))]])) Bool.true)<|
 opt.bnd T5 _ (g99 it p ((p.cut [[(D.int .i64 a.2.2.1),(D.int .i64 a.2.2.2.1)],[(D.int .i64 (p.rdI a.2.1 (p.add 0 (p.nat a.2.2.2.2.2.2.2.1)) 0)),(D.int .i64 (p.rdI a.2.1 (p.add 0 (p.nat a.2.2.2.2.2.2.2.1)) 1))]] 0 2),())) fun b=>
 opt.ask _ (p.cmp .lss (p.ar .add .i64 a.2.2.2.2.2.2.2.1 (1:Int)) (p.ofNat (p.len a.2.1))) (
 opt.need _ (bif (p.cmp .geq (p.ar .add .i64 a.2.2.2.2.2.2.2.1 (1:Int)) (0:Int)) then (p.cmp .lss (p.ar .add .i64 a.2.2.2.2.2.2.2.1 (1:Int)) (p.ofNat (p.len a.2.1))) else Bool.false)<|
 opt.need _ (p.rowOk a.2.1 (p.add 0 (p.nat (p.ar .add .i64 a.2.2.2.2.2.2.2.1 (1:Int)))) [ci,ci])<|
 opt.bnd T0 _ (G98 p ((p.rdI a.2.1 (p.add 0 (p.nat a.2.2.2.2.2.2.2.1)) 0),((p.rdI a.2.1 (p.add 0 (p.nat a.2.2.2.2.2.2.2.1)) 1),((p.rdI a.2.1 (p.add 0 (p.nat (p.ar .add .i64 a.2.2.2.2.2.2.2.1 (1:Int)))) 0),((p.rdI a.2.1 (p.add 0 (p.nat (p.ar .add .i64 a.2.2.2.2.2.2.2.1 (1:Int)))) 1),()))))) fun c=>
 opt.ask _ (p.cmp .eql c.1 (0:Int)) (
 opt.need _ (p.eqN 0 0)<|
 opt.need _ (p.eqN (p.len a.2.1) (p.len a.2.1))<|
 opt.need _ (p.eqN 0 0)<|
 opt.need _ (p.eqN (p.len a.2.1) (p.len a.2.1))<|
 opt.ret _ (a.1,(a.2.1,(b.1,(b.2.1,(a.2.2.2.2.1,(a.2.2.2.2.2.1,(a.2.2.2.2.2.2.1,(a.2.2.2.2.2.2.2.1,()))))))))) (
 opt.need _ (p.and (p.leN (p.add 0 1) (p.len [[(D.int .i64 b.1),(D.int .i64 b.2.1)]])) (p.and (p.leN (p.add a.2.2.2.2.1 a.2.2.2.2.2.1) (p.len a.1)) (p.and (p.leN 1 1) (p.leN (p.add a.2.2.2.2.2.1 1) 1000000))))<|
 opt.need _ (p.eqN 0 0)<|
 opt.need _ (p.eqN (p.len a.2.1) (p.len a.2.1))<|
 opt.need _ (p.eqN 0 0)<|
 opt.need _ (p.eqN (p.len a.2.1) (p.len a.2.1))<|
 opt.ret _ ((p.app (p.cut a.1 a.2.2.2.2.1 a.2.2.2.2.2.1) (p.cut [[(D.int .i64 b.1),(D.int .i64 b.2.1)]] 0 1)),(a.2.1,(b.1,(b.2.1,(0,((p.add a.2.2.2.2.2.1 1),(a.2.2.2.2.2.2.1,(a.2.2.2.2.2.2.2.1,())))))))))) (
 opt.need _ (p.and (p.leN (p.add 0 1) (p.len [[(D.int .i64 b.1),(D.int .i64 b.2.1)]])) (p.and (p.leN (p.add a.2.2.2.2.1 a.2.2.2.2.2.1) (p.len a.1)) (p.and (p.leN 1 1) (p.leN (p.add a.2.2.2.2.2.1 1) 1000000))))<|
 opt.need _ (p.eqN 0 0)<|
 opt.need _ (p.eqN (p.len a.2.1) (p.len a.2.1))<|
 opt.need _ (p.eqN 0 0)<|
 opt.need _ (p.eqN (p.len a.2.1) (p.len a.2.1))<|
 opt.ret _ ((p.app (p.cut a.1 a.2.2.2.2.1 a.2.2.2.2.2.1) (p.cut [[(D.int .i64 b.1),(D.int .i64 b.2.1)]] 0 1)),(a.2.1,(b.1,(b.2.1,(0,((p.add a.2.2.2.2.2.1 1),(a.2.2.2.2.2.2.1,(a.2.2.2.2.2.2.2.1,()))))))))))) fun d=>
 opt.need _ (p.eqN 0 0)<|
 opt.need _ (p.eqN (p.len d.2.1) (p.len d.2.1))<|
 opt.need _ (p.eqN 0 0)<|
 opt.need _ (p.eqN (p.len d.2.1) (p.len d.2.1))<|
 opt.ret _ (Sum.inl (d.1,(d.2.1,(d.2.2.1,(d.2.2.2.1,(d.2.2.2.2.1,(d.2.2.2.2.2.1,(d.2.2.2.2.2.2.1,((p.ar .add .i64 d.2.2.2.2.2.2.2.1 (1:Int)),())))))))))) (
 opt.ret _ (Sum.inr (a.1,(a.2.2.2.2.1,(a.2.2.2.2.2.1,()))))))
def y9r (p:Prim):(LD×(LD×(LD×T77)))→Option ((LD×(LD×(LD×T77)))⊕((LD×(LD×(LD×T31)))⊕(LD×(LD×(LD×T31))))):=
 fun a=>opt.run _ (
 opt.ask _ (p.cmp .lss a.2.2.2.2.2.2.2.2.2.1 a.2.2.2.2.2.2.2.2.1) (
 opt.need _ (p.rowOk a.2.2.2.2.2.2.2.1 (p.nat a.2.2.2.2.2.2.2.2.2.1) [ci,ci])<|
 opt.need _ (p.cmp .geq a.2.2.2.2.2.2.2.2.2.1 (0:Int))<|
 opt.need _ (p.cmp .neq (p.ofNat (p.len a.2.2.1)) (0:Int))<|
 opt.need _ (p.rowOk a.2.2.1 (p.nat (p.ar .rem .i64 (p.ar .add .i64 a.2.2.2.2.2.2.2.2.2.1 (1:Int)) (p.ofNat (p.len a.2.2.1)))) [ci,ci])<|
 opt.need _ (p.cmp .geq (p.ar .rem .i64 (p.ar .add .i64 a.2.2.2.2.2.2.2.2.2.1 (1:Int)) (p.ofNat (p.len a.2.2.1))) (0:Int))<|
 opt.ask _ (bif (p.cmp .eql (p.ar .sub .i64 (p.rdI a.2.2.1 (p.nat (p.ar .rem .i64 (p.ar .add .i64 a.2.2.2.2.2.2.2.2.2.1 (1:Int)) (p.ofNat (p.len a.2.2.1)))) 0) (p.rdI a.2.2.2.2.2.2.2.1 (p.nat a.2.2.2.2.2.2.2.2.2.1) 0)) (0:Int)) then (bif (p.cmp .eql (p.ar .sub .i64 (p.rdI a.2.2.1 (p.nat (p.ar .rem .i64 (p.ar .add .i64 a.2.2.2.2.2.2.2.2.2.1 (1:Int)) (p.ofNat (p.len a.2.2.1)))) 1) (p.rdI a.2.2.2.2.2.2.2.1 (p.nat a.2.2.2.2.2.2.2.2.2.1) 1)) (0:Int)) then Bool.true else Bool.false) else Bool.false) (
 opt.need _ (p.eqN 0 0)<|
 opt.need _ (p.eqN (p.len a.2.1) (p.len a.2.1))<|
 opt.need _ (p.eqN 0 0)<|
 opt.need _ (p.eqN (p.len a.1) (p.len a.1))<|
 opt.need _ (p.eqN (p.len a.1) (p.len a.1))<|
 opt.ret _ (Sum.inr (Sum.inl (a.1,(a.2.1,(a.2.2.1,(a.2.2.2.1,(a.2.2.2.2.1,(a.2.2.2.2.2.1,(a.2.2.2.2.2.2.1,())))))))))) (
 opt.need _ (p.and (p.leN (p.add 0 1) (p.len [[(D.int .i64 (p.ar .sub .i64 (p.rdI a.2.2.1 (p.nat (p.ar .rem .i64 (p.ar .add .i64 a.2.2.2.2.2.2.2.2.2.1 (1:Int)) (p.ofNat (p.len a.2.2.1)))) 0) (p.rdI a.2.2.2.2.2.2.2.1 (p.nat a.2.2.2.2.2.2.2.2.2.1) 0))),(D.int .i64 (p.ar .sub .i64 (p.rdI a.2.2.1 (p.nat (p.ar .rem .i64 (p.ar .add .i64 a.2.2.2.2.2.2.2.2.2.1 (1:Int)) (p.ofNat (p.len a.2.2.1)))) 1) (p.rdI a.2.2.2.2.2.2.2.1 (p.nat a.2.2.2.2.2.2.2.2.2.1) 1)))]])) (p.and (p.leN (p.add 0 (p.len a.2.1)) (p.len a.2.1)) (p.and (p.leN 1 1) (p.leN (p.add (p.len a.2.1) 1) 1000000))))<|
 opt.need _ (p.eqN 0 0)<|
 opt.need _ (p.eqN (p.add (p.len a.2.1) 1) (p.len (p.app (p.cut a.2.1 0 (p.len a.2.1)) (p.cut [[(D.int .i64 (p.ar .sub .i64 (p.rdI a.2.2.1 (p.nat (p.ar .rem .i64 (p.ar .add .i64 a.2.2.2.2.2.2.2.2.2.1 (1:Int)) (p.ofNat (p.len a.2.2.1)))) 0) (p.rdI a.2.2.2.2.2.2.2.1 (p.nat a.2.2.2.2.2.2.2.2.2.1) 0))),(D.int .i64 (p.ar .sub .i64 (p.rdI a.2.2.1 (p.nat (p.ar .rem .i64 (p.ar .add .i64 a.2.2.2.2.2.2.2.2.2.1 (1:Int)) (p.ofNat (p.len a.2.2.1)))) 1) (p.rdI a.2.2.2.2.2.2.2.1 (p.nat a.2.2.2.2.2.2.2.2.2.1) 1)))]] 0 1))))<|
 opt.need _ (p.eqN 0 0)<|
 opt.need _ (p.eqN (p.len a.1) (p.len a.1))<|
 opt.need _ (p.eqN (p.len a.1) (p.len a.1))<|
 opt.ret _ (Sum.inl (a.1,((p.app (p.cut a.2.1 0 (p.len a.2.1)) (p.cut [[(D.int .i64 (p.ar .sub .i64 (p.rdI a.2.2.1 (p.nat (p.ar .rem .i64 (p.ar .add .i64 a.2.2.2.2.2.2.2.2.2.1 (1:Int)) (p.ofNat (p.len a.2.2.1)))) 0) (p.rdI a.2.2.2.2.2.2.2.1 (p.nat a.2.2.2.2.2.2.2.2.2.1) 0))),(D.int .i64 (p.ar .sub .i64 (p.rdI a.2.2.1 (p.nat (p.ar .rem .i64 (p.ar .add .i64 a.2.2.2.2.2.2.2.2.2.1 (1:Int)) (p.ofNat (p.len a.2.2.1)))) 1) (p.rdI a.2.2.2.2.2.2.2.1 (p.nat a.2.2.2.2.2.2.2.2.2.1) 1)))]] 0 1)),(a.2.2.1,(a.2.2.2.1,(a.2.2.2.2.1,(a.2.2.2.2.2.1,(a.2.2.2.2.2.2.1,(a.2.2.2.2.2.2.2.1,(a.2.2.2.2.2.2.2.2.1,((p.ar .add .i64 a.2.2.2.2.2.2.2.2.2.1 (1:Int)),()))))))))))))) (
 opt.need _ (p.eqN 0 0)<|
 opt.need _ (p.eqN (p.len a.2.1) (p.len a.2.1))<|
 opt.need _ (p.eqN 0 0)<|
 opt.need _ (p.eqN (p.len a.1) (p.len a.1))<|
 opt.need _ (p.eqN (p.len a.1) (p.len a.1))<|
 opt.ret _ (Sum.inr (Sum.inr (a.1,(a.2.1,(a.2.2.1,(a.2.2.2.1,(a.2.2.2.2.1,(a.2.2.2.2.2.1,(a.2.2.2.2.2.2.1,())))))))))))
def y3m (it:It) (p:Prim):(LD×(LD×(LD×(LD×T4))))→Option ((LD×(LD×(LD×(LD×T4))))⊕(LD×(LD×(LD×Unit)))):=
 fun a=>opt.run _ (
 opt.ask _ (p.cmp .lss a.2.2.2.2.2.1 a.2.2.2.2.1) (
 opt.need _ (bif (p.cmp .geq a.2.2.2.2.2.1 (0:Int)) then (p.cmp .lss a.2.2.2.2.2.1 (p.ofNat (p.len a.1))) else Bool.false)<|
 opt.need _ (p.rowOk a.1 (p.add 0 (p.nat a.2.2.2.2.2.1)) [(CK.list 2)])<|
 opt.bnd ((LD×(LD×(LD×(LD×T4))))) _ (
 opt.run ((LD×(LD×(LD×(LD×T4))))) (
 opt.need _ (p.eqN 0 0)<|
 opt.need _ (p.eqN (p.len a.2.1) (p.len a.2.1))<|
 opt.need _ (p.eqN 0 0)<|
 opt.need _ (p.eqN (p.len a.1) (p.len a.1))<|
 opt.need _ (p.eqN (p.len a.1) (p.len a.1))<|
 opt.alt ((LD×(LD×(LD×T31)))) ((LD×(LD×(LD×T31)))) _ (
 it _ _ (y9r p) (a.1,(a.2.1,((p.rdL a.1 (p.add 0 (p.nat a.2.2.2.2.2.1)) 0),(a.2.2.2.2.1,(a.2.2.2.1,(a.2.2.1,(a.2.2.2.2.2.1,((p.rdL a.1 (p.add 0 (p.nat a.2.2.2.2.2.1)) 0),((p.ofNat (p.len (p.rdL a.1 (p.add 0 (p.nat a.2.2.2.2.2.1)) 0))),((0:Int),()))))))))))) (fun b=>
 opt.need _ (p.eqN 0 0)<|
 opt.need _ (p.eqN (p.len b.2.1) (p.len b.2.1))<|
 opt.need _ (p.eqN 0 0)<|
 opt.need _ (p.eqN (p.len a.1) (p.len b.1))<|
 opt.need _ (p.eqN (p.len a.1) (p.len b.1))<|
 opt.ret _ (b.1,(b.2.1,(a.2.2.1,(a.2.2.2.1,(a.2.2.2.2.1,(a.2.2.2.2.2.1,()))))))) (fun c=>
 opt.bnd ((LD×(LD×(LD×T31)))) _ (some c) fun d=>
 opt.need _ (p.eqN 0 0)<|
 opt.need _ (p.eqN (p.len d.2.1) (p.len d.2.1))<|
 opt.need _ (p.eqN 0 0)<|
 opt.need _ (p.eqN (p.len a.1) (p.len d.1))<|
 opt.need _ (p.eqN (p.len a.1) (p.len d.1))<|
 opt.ret _ (d.1,(d.2.1,(a.2.2.1,(a.2.2.2.1,(a.2.2.2.2.1,(a.2.2.2.2.2.1,()))))))))) fun e=>
 opt.need _ (p.eqN 0 0)<|
 opt.need _ (p.eqN (p.len e.2.1) (p.len e.2.1))<|
 opt.need _ (p.eqN 0 0)<|
 opt.need _ (p.eqN (p.len e.1) (p.len e.1))<|
 opt.need _ (p.eqN (p.len e.1) (p.len e.1))<|
 opt.ret _ (Sum.inl (e.1,(e.2.1,(e.2.2.1,(e.2.2.2.1,(e.2.2.2.2.1,((p.ar .add .i64 e.2.2.2.2.2.1 (1:Int)),())))))))) (
 opt.need _ (p.eqN 0 0)<|
 opt.need _ (p.eqN (p.len a.2.1) (p.len a.2.1))<|
 opt.ret _ (Sum.inr (a.2.1,(a.2.2.1,(a.2.2.2.1,()))))))
def g80 (it:It):(p:Prim)→(LD×(LD×Unit))→Option ((LD×Unit)):=
 fun p x=>
 opt.need _ (p.eqN 0 0)<|
 opt.need _ (p.eqN 2 (p.len [[(D.list Bool.false 2 x.1)],[(D.list Bool.false 2 x.2.1)]]))<|
 opt.need _ (p.eqN 2 (p.len [[(D.list Bool.false 2 x.1)],[(D.list Bool.false 2 x.2.1)]]))<|
 opt.bnd ((LD×(LD×(LD×Unit)))) _ (
 it _ _ (y3m it p) ([[(D.list Bool.false 2 x.1)],[(D.list Bool.false 2 x.2.1)]],([],(x.1,(x.2.1,((p.ofNat 2),((0:Int),()))))))) fun a=>
 opt.need _ (p.eqN 0 0)<|
 opt.need _ (p.eqN (p.len a.1) (p.len a.1))<|
 opt.bnd ((LD×Unit)) _ (v3u it p (a.1,())) fun b=>
 opt.need _ (p.rowOk a.2.1 (p.nat (0:Int)) [ci,ci])<|
 opt.need _ (p.rowOk a.2.2.1 (p.nat (0:Int)) [ci,ci])<|
 opt.need _ (p.and (p.leN (p.add 0 2) (p.len [[(D.int .i64 (p.rdI a.2.1 (p.nat (0:Int)) 0)),(D.int .i64 (p.rdI a.2.1 (p.nat (0:Int)) 1))],[(D.int .i64 (p.rdI a.2.2.1 (p.nat (0:Int)) 0)),(D.int .i64 (p.rdI a.2.2.1 (p.nat (0:Int)) 1))]])) Bool.true)<|
 opt.bnd T5 _ (g99 it p ((p.cut [[(D.int .i64 (p.rdI a.2.1 (p.nat (0:Int)) 0)),(D.int .i64 (p.rdI a.2.1 (p.nat (0:Int)) 1))],[(D.int .i64 (p.rdI a.2.2.1 (p.nat (0:Int)) 0)),(D.int .i64 (p.rdI a.2.2.1 (p.nat (0:Int)) 1))]] 0 2),())) fun c=>
 opt.need _ (p.eqN 0 0)<|
 opt.need _ (p.eqN (p.len a.1) (p.len b.1))<|
 opt.need _ (p.leN (p.add 0 1) (p.len [[(D.int .i64 c.1),(D.int .i64 c.2.1)]]))<|
 opt.need _ (p.eqN 0 0)<|
 opt.need _ (p.eqN (p.len a.1) (p.len b.1))<|
 opt.bnd ((LD×T24)) _ (
 it _ _ (x2c it p) ([[(D.int .i64 c.1),(D.int .i64 c.2.1)]],(b.1,(c.1,(c.2.1,(0,(1,((p.ofNat (p.len a.1)),((0:Int),()))))))))) fun d=>
 opt.bnd ((LD×T24)) _ (
 opt.run ((LD×T24)) (
 opt.ask _ (p.cmp .gtr (p.ofNat d.2.2.1) (1:Int)) (
 opt.need _ (p.and (p.cmp .geq (0:Int) (0:Int)) (p.and (p.cmp .leq (0:Int) (p.ar .sub .i64 (p.ofNat d.2.2.1) (1:Int))) (p.cmp .leq (p.ar .sub .i64 (p.ofNat d.2.2.1) (1:Int)) (p.ofNat d.2.2.1))))<|
 opt.ret _ (d.1,((p.add d.2.1 (p.nat (0:Int))),((p.sub (p.nat (p.ar .sub .i64 (p.ofNat d.2.2.1) (1:Int))) (p.nat (0:Int))),())))) (
 opt.ret _ (d.1,(d.2.1,(d.2.2.1,())))))) fun e=>
 opt.need _ (p.leN (p.add e.2.1 e.2.2.1) (p.len e.1))<|
 opt.ret _ ((p.cut e.1 e.2.1 e.2.2.1),())
def G80:=g80 it0
theorem ok80:CtrOk PG v4l (G80 std):=okF (a:=an80) (l:=la80) (gC v7m (gC ok99 (gC v7n (gN)))) (by kernel_rfl) fun _ _=>by kernel_rfl
end Go.Am
end
noncomputable section
namespace Go.Am
def x7z:Ctr:=
 ⟨48,[.agg [.list 2, .list 1]],[],[(.ret,⟨[(0, .tuple [.nilp, .int .i64])],[],1⟩),(.ret,⟨[(0, .tuple [.bptr 0 0, .int .i64])],[.box [.list 2, .list 1, .list 2]],1⟩)]⟩
def la48:List LA:=
 [⟨48,[false,true,false,true,true,true],0,⟨⟨[(5, .bptr 0 0),(24, .list 1),(25, .int .i64),(26, .int .i64)],[.box [.list 2, .list 1, .list 2]],43⟩,[((AX.exit 0),⟨[(5, .bptr 0 0)],[.box [.list 2, .list 1, .list 2]],43⟩)]⟩⟩]
def ja48:List JA:=
 []
def v9t:List CF:=
 [⟨v4l,G80⟩,⟨w9d,G59⟩,⟨w9c,G60⟩,⟨v5c,G18⟩]
def an48:Anns:=
 ⟨v9t,ja48,[]⟩
def x4f (it:It) (p:Prim):(LD×(LD×(LD×(LD×T4))))→Option ((LD×(LD×(LD×(LD×T4))))⊕(LD×(LD×(LD×Unit)))):=
 fun a=>opt.run _ (
 opt.ask _ (p.cmp .lss a.2.2.2.2.2.1 a.2.2.2.2.1) (
 opt.need _ (p.rowOk a.2.2.2.1 (p.nat a.2.2.2.2.2.1) [(CK.list 2)])<|
 opt.need _ (p.cmp .geq a.2.2.2.2.2.1 (0:Int))<|
 opt.bnd ((LD×Unit)) _ (g60 it p ((p.rdL a.2.2.2.1 (p.nat a.2.2.2.2.2.1) 0),())) fun b=>
 opt.bnd ((LD×Unit)) _ (g59 it p (b.1,())) fun c=>
 opt.bnd ((LD×Unit)) _ (g80 it p (a.2.2.1,(c.1,()))) fun d=>
 opt.ret _ (Sum.inl (a.1,(a.2.1,(d.1,(a.2.2.2.1,(a.2.2.2.2.1,((p.ar .add .i64 a.2.2.2.2.2.1 (1:Int)),())))))))) (
 opt.ret _ (Sum.inr (a.1,(a.2.1,(a.2.2.1,()))))))
def g48 (it:It):(p:Prim)→(LD×(LD×Unit))→Option (((Int×Unit)⊕(LD×(LD×(LD×(Int×Unit)))))):=
 fun p x=>
 opt.bnd T0 _ (g18 it p (x.1,(x.2.1,()))) fun a=>
 opt.ask _ (p.cmp .neq a.1 (0:Int)) (
 opt.ret _ (Sum.inl (a.1,()))) (
 opt.bnd ((LD×Unit)) _ (g60 it p (x.1,())) fun b=>
 opt.bnd ((LD×Unit)) _ (g59 it p (b.1,())) fun c=>
 opt.bnd ((LD×(LD×(LD×Unit)))) _ (
 it _ _ (x4f it p) (x.1,(x.2.1,(c.1,(x.2.1,((p.ofNat (p.len x.2.1)),((0:Int),()))))))) fun d=>
 opt.ret _ (Sum.inr (d.1,(d.2.1,(d.2.2.1,((0:Int),()))))))
def G48:=g48 it0
theorem v1f:CtrOk PG x7z (G48 std):=okF (a:=an48) (l:=la48) (gC ok80 (gC u1w (gC u1v (gC ok18 (gN))))) (by kernel_rfl) fun _ _=>by kernel_rfl
def w9j:Ctr:=
 ⟨16,[.agg [.list 2, .list 1]],[],[(.ret,⟨[(0, .tuple [.vec 0 2, .int .i64])],[.row [ci,ci]],1⟩)]⟩
def la16:List LA:=
 [⟨16,[false,true,false,true,true,true,true],0,⟨⟨[(6, .vec 0 2),(20, .list 2),(21, .int .i64),(22, .int .i64)],[.row [ci,ci]],36⟩,[((AX.exit 0),⟨[(6, .vec 0 2)],[.row [ci,ci]],36⟩)]⟩⟩]
def ja16:List JA:=
 []
def u0d:List CF:=
 [⟨x7z,G48⟩]
def an16:Anns:=
 ⟨u0d,ja16,[]⟩
def w5e (p:Prim):(LD×(LD×T4))→Option ((LD×(LD×T4))⊕(LD×Unit)):=
 fun a=>opt.run _ (
 opt.ask _ (p.cmp .lss a.2.2.2.1 a.2.2.1) (
 opt.need _ (p.rowOk a.2.1 (p.nat a.2.2.2.1) [ci,ci])<|
 opt.need _ (p.cmp .geq a.2.2.2.1 (0:Int))<|
 opt.need _ (p.and (p.leN (p.add 0 1) (p.len [[(D.int .i64 (p.rdI a.2.1 (p.nat a.2.2.2.1) 0)),(D.int .i64 (p.rdI a.2.1 (p.nat a.2.2.2.1) 1))]])) (p.and (p.leN (p.add 0 (p.len a.1)) (p.len a.1)) (p.and (p.leN 1 1) (p.leN (p.add (p.len a.1) 1) 1000000))))<|
 opt.need _ (p.eqN 0 0)<|
 opt.need _ (p.eqN (p.add (p.len a.1) 1) (p.len (p.app (p.cut a.1 0 (p.len a.1)) (p.cut [[(D.int .i64 (p.rdI a.2.1 (p.nat a.2.2.2.1) 0)),(D.int .i64 (p.rdI a.2.1 (p.nat a.2.2.2.1) 1))]] 0 1))))<|
 opt.ret _ (Sum.inl ((p.app (p.cut a.1 0 (p.len a.1)) (p.cut [[(D.int .i64 (p.rdI a.2.1 (p.nat a.2.2.2.1) 0)),(D.int .i64 (p.rdI a.2.1 (p.nat a.2.2.2.1) 1))]] 0 1)),(a.2.1,(a.2.2.1,((p.ar .add .i64 a.2.2.2.1 (1:Int)),())))))) (
 opt.need _ (p.eqN 0 0)<|
 opt.need _ (p.eqN (p.len a.1) (p.len a.1))<|
 opt.ret _ (Sum.inr (a.1,()))))
def g16 (it:It):(p:Prim)→(LD×(LD×Unit))→Option ((LD×T2)):=
 fun p x=>
 opt.alt T0 ((LD×(LD×(LD×T2)))) _ (g48 it p (x.1,(x.2.1,()))) (fun a=>
 opt.ask _ (p.cmp .neq a.1 (0:Int)) (
 opt.ret _ ([],(a.1,()))) (
 opt.no _ 41)) (fun b=>
 opt.bnd ((LD×(LD×(LD×T2)))) _ (some b) fun c=>
 opt.ask _ (p.cmp .neq c.2.2.2.1 (0:Int)) (
 opt.ret _ ([],(c.2.2.2.1,()))) (
 opt.bnd ((LD×Unit)) _ (
 it _ _ (w5e p) ([],(c.2.2.1,((p.ofNat (p.len c.2.2.1)),((0:Int),()))))) fun d=>
 opt.need _ (p.eqN 0 0)<|
 opt.need _ (p.eqN (p.len d.1) (p.len d.1))<|
 opt.ret _ (d.1,((0:Int),()))))
def G16:=g16 it0
theorem u2c:CtrOk PG w9j (G16 std):=okF (a:=an16) (l:=la16) (gC v1f (gN)) (by kernel_rfl) fun _ _=>by kernel_rfl
def x7y:Ctr:=
 ⟨62,[.agg [.list 2, .list 1], .agg [.list 2, .list 1]],[],[(.ret,⟨[(0, .tuple [.nilp, .nilp, .int .i64])],[],1⟩),(.ret,⟨[(0, .tuple [.nilp, .bptr 0 0, .int .i64])],[.box [.list 2, .list 1, .list 2]],1⟩),(.ret,⟨[(0, .tuple [.bptr 0 0, .nilp, .int .i64])],[.box [.list 2, .list 1, .list 2]],1⟩),(.ret,⟨[(0, .tuple [.bptr 0 0, .bptr 1 0, .int .i64])],[.box [.list 2, .list 1, .list 2], .box [.list 2, .list 1, .list 2]],1⟩)]⟩
def la62:List LA:=
 []
def ja62:List JA:=
 []
def v9j:List CF:=
 [⟨x7z,G48⟩]
def an62:Anns:=
 ⟨v9j,ja62,[]⟩
def g62 (it:It):(p:Prim)→(LD×(LD×(LD×(LD×Unit))))→Option (((Int×Unit)⊕((LD×(LD×(LD×(Int×Unit))))⊕((LD×(LD×(LD×(Int×Unit))))⊕(LD×(LD×(LD×(LD×(LD×(LD×(Int×Unit))))))))))):=
 fun p x=>
 opt.alt T0 ((LD×(LD×(LD×T2)))) _ (g48 it p (x.1,(x.2.1,()))) (fun a=>
 opt.ask _ (p.cmp .neq a.1 (0:Int)) (
 opt.ret _ (Sum.inl (a.1,()))) (
 opt.alt T0 ((LD×(LD×(LD×T2)))) _ (g48 it p (x.2.2.1,(x.2.2.2.1,()))) (fun b=>
 opt.ret _ (Sum.inl (b.1,()))) (fun c=>
 opt.bnd ((LD×(LD×(LD×T2)))) _ (some c) fun d=>
 opt.ret _ (Sum.inr (Sum.inl (d.1,(d.2.1,(d.2.2.1,(d.2.2.2.1,()))))))))) (fun e=>
 opt.bnd ((LD×(LD×(LD×T2)))) _ (some e) fun f=>
 opt.ask _ (p.cmp .neq f.2.2.2.1 (0:Int)) (
 opt.ret _ (Sum.inl (f.2.2.2.1,()))) (
 opt.alt T0 ((LD×(LD×(LD×T2)))) _ (g48 it p (x.2.2.1,(x.2.2.2.1,()))) (fun g=>
 opt.ret _ (Sum.inr (Sum.inr (Sum.inl (f.1,(f.2.1,(f.2.2.1,(g.1,())))))))) (fun h=>
 opt.bnd ((LD×(LD×(LD×T2)))) _ (some h) fun i=>
 opt.ret _ (Sum.inr (Sum.inr (Sum.inr (f.1,(f.2.1,(f.2.2.1,(i.1,(i.2.1,(i.2.2.1,(i.2.2.2.1,())))))))))))))
def G62:=g62 it0
theorem v1e:CtrOk PG x7y (G62 std):=okF (a:=an62) (l:=la62) (gC v1f (gN)) (by kernel_rfl) fun _ _=>by kernel_rfl
end Go.Am
end
section
namespace Go.Am
open M06
theorem y2t {x:Pt} (h:x≠(0,0)):(z2l x=false↔Pos x)∧(z2l x=true↔Pos (ng x)):=z8h h
theorem x4n {x y:Pt} (hx:x≠(0,0)) (hy:y≠(0,0)):z57 x y<0↔Bef x y:=by
 rw [x0g]
 obtain ⟨a1,a2⟩:=y2t hx
 obtain ⟨b1,b2⟩:=y2t hy
 unfold Bef
 rw [←a1, ←a2, ←b1, ←b2]
 cases z2l x<;>cases z2l y<;>simp
theorem x0f {x y:Pt} (hx:x≠(0,0)) (hy:y≠(0,0)):z57 x y=0↔z68 x y:=by
 have e1:=x4n hx hy
 constructor
 ·intro h
  rcases y2q hx hy with k|k|k
  ·have:=e1.2 k; omega
  ·exact k
  ·
   exfalso
   obtain ⟨a1,a2⟩:=y2t hx
   obtain ⟨b1,b2⟩:=y2t hy
   unfold z57 x17 at h
   rcases k with k|k|k
   ·have i1:=a2.2 k.2
    have i2:=b1.2 k.1
    simp [i1,i2] at h
   ·have i1:=a1.2 k.2.1
    have i2:=b1.2 k.1
    have:=k.2.2
    simp only [crs] at this
    have q1:¬ (0<x.1*y.2 - x.2*y.1):=by have:=Int.mul_comm x.1 y.2; have:=Int.mul_comm x.2 y.1; omega
    have q2:(0:Int)>x.1*y.2 - x.2*y.1:=by have:=Int.mul_comm x.1 y.2; have:=Int.mul_comm x.2 y.1; omega
    rw [if_neg (by rw [i1,i2]; simp),if_neg (by rw [i1,i2]; simp),if_neg q1,if_pos q2] at h
    cases h
   ·have i1:=a2.2 k.2.1
    have i2:=b2.2 k.1
    have:=k.2.2
    simp only [crs] at this
    have q1:¬ (0<x.1*y.2 - x.2*y.1):=by have:=Int.mul_comm x.1 y.2; have:=Int.mul_comm x.2 y.1; omega
    have q2:(0:Int)>x.1*y.2 - x.2*y.1:=by have:=Int.mul_comm x.1 y.2; have:=Int.mul_comm x.2 y.1; omega
    rw [if_neg (by rw [i1,i2]; simp),if_neg (by rw [i1,i2]; simp),if_neg q1,if_pos q2] at h
    cases h
 ·intro h
  obtain ⟨a1,a2⟩:=y2t hx
  obtain ⟨b1,b2⟩:=y2t hy
  have hb:z2l x=z2l y:=by
   rcases y42 x hx with p|p
   ·rw [a1.2 p,b1.2 (z42 h p)]
   ·rw [a2.2 p,b2.2 (z42 (y2a h) p)]
  have:=h.1
  simp only [crs] at this
  unfold z57 x17
  rw [hb,this]
  cases z2l y<;>simp
theorem w6p {x y:Pt} (hx:z3s x) (hy:z3s y):G99 std ([eP x,eP y],())=some ((ad x y).1,(ad x y).2,()):=by
 have inner:∀ (u v o1 o2 q1 q2 n i:Int) (L:List (List D)), -2097152≤o1→o1≤2097152→ -2097152≤o2→o2≤2097152→ -2097152≤q1→q1≤2097152→ -2097152≤q2→q2≤2097152→
   z4m (x2f std) (u,v,o1,o2,L,n,i,q1,q2,(0:Int),())=some (u,v,o1+q1,o2+q2,L,n,i,()):=by
  intro u v o1 o2 q1 q2 n i L h1 h2 h3 h4 h5 h6 h7 h8
  have w1:IntKind.i64.wrap (o1+q1)=o1+q1:=by rw [z1k]<;>omega
  have w2:IntKind.i64.wrap (o2+q2)=o2+q2:=by rw [z1k]<;>omega
  have v1:IntKind.i64.wrap 1=1:=by decide
  have v2:IntKind.i64.wrap 2=2:=by decide
  have s0:x2f std (u,v,o1,o2,L,n,i,q1,q2,(0:Int),())=some (.inl (u,v,o1+q1,o2,L,n,i,q1,q2,(1:Int),())):=by
   simp [x2f,z01,z02,z0f,w1,v1]
  have s1:x2f std (u,v,o1+q1,o2,L,n,i,q1,q2,(1:Int),())=some (.inl (u,v,o1+q1,o2+q2,L,n,i,q1,q2,(2:Int),())):=by
   simp [x2f,z01,z02,z0f,w2,v2]
  have s2:x2f std (u,v,o1+q1,o2+q2,L,n,i,q1,q2,(2:Int),())=some (.inr (u,v,o1+q1,o2+q2,L,n,i,())):=by
   simp [x2f,z01,z02]
  rw [z0k,s0]
  simp only
  rw [z0k,s1]
  simp only
  rw [z0k,s2]
 obtain ⟨x1,x2,x3,x4⟩:=hx
 obtain ⟨y1,y2,y3,y4⟩:=hy
 have v1:IntKind.i64.wrap ((0:Int)+1)=1:=by decide
 have v2:IntKind.i64.wrap ((1:Int)+1)=2:=by decide
 have t0:y9p it0 std ((0:Int),(0:Int),(0:Int),(0:Int),[eP x,eP y],(2:Int),(0:Int),())=some (.inl ((0:Int),(0:Int),x.1,x.2,[eP x,eP y],(2:Int),(1:Int),())):=by
  have:=inner 0 0 0 0 x.1 x.2 2 0 [eP x,eP y] (by omega) (by omega) (by omega) (by omega) (by omega) (by omega) (by omega) (by omega)
  simp only [Int.zero_add] at this
  have e1:std.rdI [eP x,eP y] 0 0=x.1:=rfl
  have e2:std.rdI [eP x,eP y] 0 1=x.2:=rfl
  have c1:(0:Int)<2:=by omega
  simp only [y9p,it0_eq,z4g,z7s,z5d,z5m,z7e,y0d,y16,Int.toNat_zero,e1,e2,this,Option.bind_some,z0f,v1,c1,decide_true,if_true,x0u]
  rfl
 have t1:y9p it0 std ((0:Int),(0:Int),x.1,x.2,[eP x,eP y],(2:Int),(1:Int),())=some (.inl ((0:Int),(0:Int),x.1+y.1,x.2+y.2,[eP x,eP y],(2:Int),(2:Int),())):=by
  have:=inner 0 0 x.1 x.2 y.1 y.2 2 1 [eP x,eP y] (by omega) (by omega) (by omega) (by omega) (by omega) (by omega) (by omega) (by omega)
  have e1:std.rdI [eP x,eP y] 1 0=y.1:=rfl
  have e2:std.rdI [eP x,eP y] 1 1=y.2:=rfl
  have e3:(1:Int).toNat=1:=rfl
  have c1:(1:Int)<2:=by omega
  simp only [y9p,it0_eq,z4g,z7s,z5d,z5m,z7e,y0d,y16,e3,e1,e2,this,Option.bind_some,z0f,v2,c1,decide_true,if_true,x0u]
  rfl
 have t2:y9p it0 std ((0:Int),(0:Int),x.1+y.1,x.2+y.2,[eP x,eP y],(2:Int),(2:Int),())=some (.inr ((0:Int),(0:Int),x.1+y.1,x.2+y.2,())):=by
  have c1:¬ (2:Int)<2:=by omega
  simp only [y9p,it0_eq,z4g,z7s,z5d,z5m,z7e,y0d,c1,decide_false,Bool.false_eq_true,if_false]
 unfold G99
 have e2:std.ofNat (std.len [eP x,eP y])=(2:Int):=rfl
 simp only [g99,it0_eq,e2,z5m,z5d]
 rw [z0k,t0]
 simp only
 rw [z0k,t1]
 simp only
 rw [z0k,t2]
 rfl
end Go.Am
end
