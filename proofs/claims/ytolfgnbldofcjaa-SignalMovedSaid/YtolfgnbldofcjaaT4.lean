/- Texts of this claim. -/
import Derived.Test.YtolfgnbldofcjaaT3
import Derived.Test.YtolfgnbldofcjaaProg
import Derived.KernelRfl
import Derived.Shelf.SlSortCmp.WholeK
set_option linter.unusedVariables false
set_option linter.unusedSimpArgs false
set_option linter.unusedSectionVars false
set_option maxRecDepth 100000
set_option maxHeartbeats 0
noncomputable section
namespace Go.Am
def v2l:Ctr:=
 ⟨55,[.list 2],[],[(.ret,⟨[(0, .bool)],[],1⟩)]⟩
def la55:List LA:=
 []
def ja55:List JA:=
 [⟨55,[false,true],0,[(AX.normal,⟨[(2, .bool)],[],11⟩)]⟩]
def v7g:List CF:=
 []
def an55:Anns:=
 ⟨v7g,ja55,[]⟩
def G55:(p:Prim)→(LD×Unit)→Option T2:=
 fun p x=>
 opt.bnd T2 _ (
 opt.run T2 (
 opt.ask _ (p.cmp .geq (p.ofNat (p.len x.1)) (1:Int)) (
 opt.ret _ ((p.cmp .leq (p.ofNat (p.len x.1)) (12:Int)),())) (
 opt.ret _ (Bool.false,())))) fun a=>
 opt.ret _ (a.1,())
theorem ok55:CtrOk PG v2l (G55 std):=okF (a:=an55) (l:=la55) (gN) (by kernel_rfl) fun _ _=>by kernel_rfl
def v2k:Ctr:=
 ⟨56,[.list 2, .int .i64, .int .i64],[],[(.ret,⟨[(0, .bool)],[],1⟩)]⟩
def la56:List LA:=
 [⟨56,[false,true,false,true],0,⟨⟨[(0, .list 2),(1, .int .i64),(2, .int .i64),(7, .int .i64)],[],48⟩,[(AX.ret,⟨[(6, .bool)],[],48⟩),((AX.exit 0),⟨[],[],48⟩)]⟩⟩]
def ja56:List JA:=
 [⟨56,[false,false,false,true,false,false,true,false,true],0,[(AX.normal,⟨[(0, .list 2),(1, .int .i64),(2, .int .i64),(7, .int .i64),(47, .bool)],[],48⟩)]⟩]
def v7f:List CF:=
 []
def an56:Anns:=
 ⟨v7f,ja56,[]⟩
def w27 (p:Prim):(LD×T5)→Option ((LD×T5)⊕T25):=
 fun a=>opt.run _ (
 opt.ask _ (p.cmp .lss a.2.2.2.1 (p.ofNat (p.len a.1))) (
 opt.bnd ((LD×T19)) _ (
 opt.run ((LD×T19)) (
 opt.need _ (p.rowOk a.1 (p.nat a.2.2.2.1) [ci,ci])<|
 opt.need _ (p.cmp .geq a.2.2.2.1 (0:Int))<|
 opt.ask _ (p.cmp .lss (p.rdI a.1 (p.nat a.2.2.2.1) 0) a.2.1) (
 opt.ret _ (a.1,(a.2.1,(a.2.2.1,(a.2.2.2.1,(Bool.true,())))))) (
 opt.need _ (p.rowOk a.1 (p.nat a.2.2.2.1) [ci,ci])<|
 opt.need _ (p.cmp .geq a.2.2.2.1 (0:Int))<|
 opt.ask _ (p.cmp .gtr (p.rdI a.1 (p.nat a.2.2.2.1) 0) a.2.2.1) (
 opt.ret _ (a.1,(a.2.1,(a.2.2.1,(a.2.2.2.1,(Bool.true,())))))) (
 opt.need _ (p.rowOk a.1 (p.nat a.2.2.2.1) [ci,ci])<|
 opt.need _ (p.cmp .geq a.2.2.2.1 (0:Int))<|
 opt.ask _ (p.cmp .lss (p.rdI a.1 (p.nat a.2.2.2.1) 1) a.2.1) (
 opt.ret _ (a.1,(a.2.1,(a.2.2.1,(a.2.2.2.1,(Bool.true,())))))) (
 opt.need _ (p.rowOk a.1 (p.nat a.2.2.2.1) [ci,ci])<|
 opt.need _ (p.cmp .geq a.2.2.2.1 (0:Int))<|
 opt.ret _ (a.1,(a.2.1,(a.2.2.1,(a.2.2.2.1,((p.cmp .gtr (p.rdI a.1 (p.nat a.2.2.2.1) 1) a.2.2.1),())))))))))) fun b=>
 opt.ask _ b.2.2.2.2.1 (
 opt.ret _ (Sum.inr (Sum.inl (Bool.false,())))) (
 opt.ret _ (Sum.inl (b.1,(b.2.1,(b.2.2.1,((p.ar .add .i64 b.2.2.2.1 (1:Int)),()))))))) (
 opt.ret _ (Sum.inr (Sum.inr ()))))
def g56 (it:It):(p:Prim)→(LD×T3)→Option T2:=
 fun p x=>
 opt.alt T2 (Unit) _ (
 it _ _ (w27 p) (x.1,(x.2.1,(x.2.2.1,((0:Int),()))))) (fun a=>
 opt.ret _ (a.1,())) (fun b=>
 opt.bnd (Unit) _ (some b) fun c=>
 opt.ret _ (Bool.true,()))
def G56:=g56 it0
theorem ok56:CtrOk PG v2k (G56 std):=okF (a:=an56) (l:=la56) (gN) (by kernel_rfl) fun _ _=>by kernel_rfl
def v17:Ctr:=
 ⟨90,[.agg [.int .i64, .int .i64], .agg [.int .i64, .int .i64], .agg [.int .i64, .int .i64]],[],[(.ret,⟨[(0, .int .i64)],[],1⟩)]⟩
def la90:List LA:=
 []
def ja90:List JA:=
 []
def v6t:List CF:=
 []
def an90:Anns:=
 ⟨v6t,ja90,[]⟩
def G90:(p:Prim)→T53→Option T0:=
 fun p x=>
 opt.ret _ ((p.ar .sub .i64 (p.ar .mul .i64 (p.ar .sub .i64 x.2.2.1 x.1) (p.ar .sub .i64 x.2.2.2.2.2.1 x.2.1)) (p.ar .mul .i64 (p.ar .sub .i64 x.2.2.2.1 x.2.1) (p.ar .sub .i64 x.2.2.2.2.1 x.1))),())
theorem ok90:CtrOk PG v17 (G90 std):=okF (a:=an90) (l:=la90) (gN) (by kernel_rfl) fun _ _=>by kernel_rfl
def v16:Ctr:=
 ⟨91,[.agg [.int .i64, .int .i64], .agg [.int .i64, .int .i64]],[],[(.ret,⟨[(0, .int .i64)],[],1⟩)]⟩
def la91:List LA:=
 []
def ja91:List JA:=
 []
def v6s:List CF:=
 []
def an91:Anns:=
 ⟨v6s,ja91,[]⟩
def G91:(p:Prim)→T9→Option T0:=
 fun p x=>
 opt.ret _ ((p.ar .add .i64 (p.ar .mul .i64 (p.ar .sub .i64 x.1 x.2.2.1) (p.ar .sub .i64 x.1 x.2.2.1)) (p.ar .mul .i64 (p.ar .sub .i64 x.2.1 x.2.2.2.1) (p.ar .sub .i64 x.2.1 x.2.2.2.1))),())
theorem ok91:CtrOk PG v16 (G91 std):=okF (a:=an91) (l:=la91) (gN) (by kernel_rfl) fun _ _=>by kernel_rfl
def v2i:Ctr:=
 ⟨61,[.list 2],[],[(.ret,⟨[(0, .list 2)],[],1⟩)]⟩
def la61:List LA:=
 [⟨61,[false,true,false,true,true],0,⟨⟨[(0, .list 2),(3, .bptr 0 0),(4, .int .i64)],[.box [.int .i64, .int .i64]],119⟩,[((AX.exit 0),⟨[(0, .list 2),(3, .bptr 0 0)],[.box [.int .i64, .int .i64]],119⟩)]⟩⟩,
 ⟨61,[false,true,true,true,true],0,⟨⟨[(0, .list 2),(3, .bptr 0 0),(5, .sl 1 2)],[.box [.int .i64, .int .i64], .row [ci,ci]],119⟩,[(AX.ret,⟨[(2, .sl 0 2)],[.row [ci,ci]],119⟩)]⟩⟩,
 ⟨61,[false,true,false,true,true,false,false,false,true,true,true,true],0,⟨⟨[(0, .list 2),(3, .bptr 0 0),(5, .sl 1 2),(6, .bptr 2 0),(7, .bptr 3 0),(8, .int .i64)],[.box [.int .i64, .int .i64], .row [ci,ci], .box [.int .i64, .int .i64], .box [.int .i64, .int .i64]],119⟩,[((AX.exit 4),⟨[(0, .list 2),(3, .bptr 0 0),(5, .sl 1 2),(6, .bptr 2 0),(7, .bptr 3 0)],[.box [.int .i64, .int .i64], .row [ci,ci], .box [.int .i64, .int .i64], .box [.int .i64, .int .i64]],119⟩)]⟩⟩]
def ja61:List JA:=
 [⟨61,[false,true,false,false,true,false,true,true],0,[(AX.normal,⟨[(0, .list 2),(3, .bptr 0 0),(4, .int .i64)],[.box [.int .i64, .int .i64]],119⟩)]⟩,
 ⟨61,[false,false,true,true,true,false,false,false,true,true,true,true],0,[(AX.normal,⟨[(0, .list 2),(3, .bptr 0 0),(5, .sl 1 2),(7, .bptr 2 0),(113, .bool)],[.box [.int .i64, .int .i64], .row [ci,ci], .box [.int .i64, .int .i64]],119⟩)]⟩,
 ⟨61,[true,false,false,true,false,false,true,false,true,true],0,[(AX.normal,⟨[(0, .list 2),(3, .bptr 0 0),(4, .int .i64)],[.box [.int .i64, .int .i64]],119⟩)]⟩,
 ⟨61,[false,true,false,false,true,false,true,true,false,false,false,true,true,true,true],0,[(AX.normal,⟨[(0, .list 2),(3, .bptr 0 0),(5, .sl 1 2),(6, .bptr 2 0),(7, .bptr 3 0),(8, .int .i64)],[.box [.int .i64, .int .i64], .row [ci,ci], .box [.int .i64, .int .i64], .box [.int .i64, .int .i64]],119⟩)]⟩,
 ⟨61,[true,true,true,false,false,true,false,false,true,false,true,true,false,false,false,true,true,true,true],0,[(AX.normal,⟨[(0, .list 2),(3, .bptr 0 0),(5, .sl 1 2),(6, .bptr 2 0),(7, .bptr 3 0),(8, .int .i64)],[.box [.int .i64, .int .i64], .row [ci,ci], .box [.int .i64, .int .i64], .box [.int .i64, .int .i64]],119⟩)]⟩]
def v7a:List CF:=
 [⟨v16,G91⟩,⟨v17,G90⟩]
def an61:Anns:=
 ⟨v7a,ja61,[]⟩
def v8k (p:Prim):(LD×T11)→Option ((LD×T11)⊕(LD×T54)):=
 fun a=>opt.run _ (
 opt.ask _ (p.cmp .lss a.2.2.2.2.2.2.2.2.2.2.1 (p.ofNat (p.len a.2.2.2.2.2.2.2.1))) (
 opt.bnd ((LD×T11)) _ (
 opt.run ((LD×T11)) (
 opt.need _ (p.rowOk a.2.2.2.2.2.2.2.1 (p.nat a.2.2.2.2.2.2.2.2.2.2.1) [ci,ci])<|
 opt.need _ (p.cmp .geq a.2.2.2.2.2.2.2.2.2.2.1 (0:Int))<|
 opt.ask _ (bif (p.cmp .eql (p.rdI a.2.2.2.2.2.2.2.1 (p.nat a.2.2.2.2.2.2.2.2.2.2.1) 0) a.2.2.2.1) then (bif (p.cmp .eql (p.rdI a.2.2.2.2.2.2.2.1 (p.nat a.2.2.2.2.2.2.2.2.2.2.1) 1) a.2.2.2.2.1) then Bool.true else Bool.false) else Bool.false) (
 opt.ret _ (a.1,(a.2.1,(a.2.2.1,(a.2.2.2.1,(a.2.2.2.2.1,(a.2.2.2.2.2.1,(a.2.2.2.2.2.2.1,(a.2.2.2.2.2.2.2.1,(a.2.2.2.2.2.2.2.2.1,(a.2.2.2.2.2.2.2.2.2.1,(a.2.2.2.2.2.2.2.2.2.2.1,())))))))))))) (
 opt.need _ (p.rowOk a.2.2.2.2.2.2.2.1 (p.nat a.2.2.2.2.2.2.2.2.2.2.1) [ci,ci])<|
 opt.need _ (p.cmp .geq a.2.2.2.2.2.2.2.2.2.2.1 (0:Int))<|
 opt.bnd T0 _ (G90 p (a.2.2.2.1,(a.2.2.2.2.1,(a.2.2.2.2.2.1,(a.2.2.2.2.2.2.1,((p.rdI a.2.2.2.2.2.2.2.1 (p.nat a.2.2.2.2.2.2.2.2.2.2.1) 0),((p.rdI a.2.2.2.2.2.2.2.1 (p.nat a.2.2.2.2.2.2.2.2.2.2.1) 1),()))))))) fun b=>
 opt.ask _ (bif (p.cmp .eql a.2.2.2.2.2.1 a.2.2.2.1) then (bif (p.cmp .eql a.2.2.2.2.2.2.1 a.2.2.2.2.1) then Bool.true else Bool.false) else Bool.false) (
 opt.bnd ((LD×T11)) _ (
 opt.run ((LD×T11)) (
 opt.need _ (p.rowOk a.2.2.2.2.2.2.2.1 (p.nat a.2.2.2.2.2.2.2.2.2.2.1) [ci,ci])<|
 opt.need _ (p.cmp .geq a.2.2.2.2.2.2.2.2.2.2.1 (0:Int))<|
 opt.ret _ (a.1,(a.2.1,(a.2.2.1,(a.2.2.2.1,(a.2.2.2.2.1,((p.rdI a.2.2.2.2.2.2.2.1 (p.nat a.2.2.2.2.2.2.2.2.2.2.1) 0),((p.rdI a.2.2.2.2.2.2.2.1 (p.nat a.2.2.2.2.2.2.2.2.2.2.1) 1),(a.2.2.2.2.2.2.2.1,(a.2.2.2.2.2.2.2.2.1,(a.2.2.2.2.2.2.2.2.2.1,(a.2.2.2.2.2.2.2.2.2.2.1,()))))))))))))) fun c=>
 opt.ret _ (c.1,(c.2.1,(c.2.2.1,(c.2.2.2.1,(c.2.2.2.2.1,(c.2.2.2.2.2.1,(c.2.2.2.2.2.2.1,(c.2.2.2.2.2.2.2.1,(c.2.2.2.2.2.2.2.2.1,(c.2.2.2.2.2.2.2.2.2.1,(c.2.2.2.2.2.2.2.2.2.2.1,())))))))))))) (
 opt.ask _ (p.cmp .lss b.1 (0:Int)) (
 opt.bnd ((LD×T11)) _ (
 opt.run ((LD×T11)) (
 opt.need _ (p.rowOk a.2.2.2.2.2.2.2.1 (p.nat a.2.2.2.2.2.2.2.2.2.2.1) [ci,ci])<|
 opt.need _ (p.cmp .geq a.2.2.2.2.2.2.2.2.2.2.1 (0:Int))<|
 opt.ret _ (a.1,(a.2.1,(a.2.2.1,(a.2.2.2.1,(a.2.2.2.2.1,((p.rdI a.2.2.2.2.2.2.2.1 (p.nat a.2.2.2.2.2.2.2.2.2.2.1) 0),((p.rdI a.2.2.2.2.2.2.2.1 (p.nat a.2.2.2.2.2.2.2.2.2.2.1) 1),(a.2.2.2.2.2.2.2.1,(a.2.2.2.2.2.2.2.2.1,(a.2.2.2.2.2.2.2.2.2.1,(a.2.2.2.2.2.2.2.2.2.2.1,()))))))))))))) fun d=>
 opt.ret _ (d.1,(d.2.1,(d.2.2.1,(d.2.2.2.1,(d.2.2.2.2.1,(d.2.2.2.2.2.1,(d.2.2.2.2.2.2.1,(d.2.2.2.2.2.2.2.1,(d.2.2.2.2.2.2.2.2.1,(d.2.2.2.2.2.2.2.2.2.1,(d.2.2.2.2.2.2.2.2.2.2.1,())))))))))))) (
 opt.ask _ (p.cmp .eql b.1 (0:Int)) (
 opt.need _ (p.rowOk a.2.2.2.2.2.2.2.1 (p.nat a.2.2.2.2.2.2.2.2.2.2.1) [ci,ci])<|
 opt.need _ (p.cmp .geq a.2.2.2.2.2.2.2.2.2.2.1 (0:Int))<|
 opt.bnd T0 _ (G91 p (a.2.2.2.1,(a.2.2.2.2.1,((p.rdI a.2.2.2.2.2.2.2.1 (p.nat a.2.2.2.2.2.2.2.2.2.2.1) 0),((p.rdI a.2.2.2.2.2.2.2.1 (p.nat a.2.2.2.2.2.2.2.2.2.2.1) 1),()))))) fun e=>
 opt.bnd T0 _ (G91 p (a.2.2.2.1,(a.2.2.2.2.1,(a.2.2.2.2.2.1,(a.2.2.2.2.2.2.1,()))))) fun f=>
 opt.bnd ((LD×T11)) _ (
 opt.run ((LD×T11)) (
 opt.ask _ (p.cmp .gtr e.1 f.1) (
 opt.need _ (p.rowOk a.2.2.2.2.2.2.2.1 (p.nat a.2.2.2.2.2.2.2.2.2.2.1) [ci,ci])<|
 opt.need _ (p.cmp .geq a.2.2.2.2.2.2.2.2.2.2.1 (0:Int))<|
 opt.ret _ (a.1,(a.2.1,(a.2.2.1,(a.2.2.2.1,(a.2.2.2.2.1,((p.rdI a.2.2.2.2.2.2.2.1 (p.nat a.2.2.2.2.2.2.2.2.2.2.1) 0),((p.rdI a.2.2.2.2.2.2.2.1 (p.nat a.2.2.2.2.2.2.2.2.2.2.1) 1),(a.2.2.2.2.2.2.2.1,(a.2.2.2.2.2.2.2.2.1,(a.2.2.2.2.2.2.2.2.2.1,(a.2.2.2.2.2.2.2.2.2.2.1,())))))))))))) (
 opt.ret _ (a.1,(a.2.1,(a.2.2.1,(a.2.2.2.1,(a.2.2.2.2.1,(a.2.2.2.2.2.1,(a.2.2.2.2.2.2.1,(a.2.2.2.2.2.2.2.1,(a.2.2.2.2.2.2.2.2.1,(a.2.2.2.2.2.2.2.2.2.1,(a.2.2.2.2.2.2.2.2.2.2.1,())))))))))))))) fun g=>
 opt.ret _ (g.1,(g.2.1,(g.2.2.1,(g.2.2.2.1,(g.2.2.2.2.1,(g.2.2.2.2.2.1,(g.2.2.2.2.2.2.1,(g.2.2.2.2.2.2.2.1,(g.2.2.2.2.2.2.2.2.1,(g.2.2.2.2.2.2.2.2.2.1,(g.2.2.2.2.2.2.2.2.2.2.1,())))))))))))) (
 opt.bnd ((LD×T11)) _ (
 opt.run ((LD×T11)) (
 opt.ret _ (a.1,(a.2.1,(a.2.2.1,(a.2.2.2.1,(a.2.2.2.2.1,(a.2.2.2.2.2.1,(a.2.2.2.2.2.2.1,(a.2.2.2.2.2.2.2.1,(a.2.2.2.2.2.2.2.2.1,(a.2.2.2.2.2.2.2.2.2.1,(a.2.2.2.2.2.2.2.2.2.2.1,()))))))))))))) fun h=>
 opt.ret _ (h.1,(h.2.1,(h.2.2.1,(h.2.2.2.1,(h.2.2.2.2.1,(h.2.2.2.2.2.1,(h.2.2.2.2.2.2.1,(h.2.2.2.2.2.2.2.1,(h.2.2.2.2.2.2.2.2.1,(h.2.2.2.2.2.2.2.2.2.1,(h.2.2.2.2.2.2.2.2.2.2.1,()))))))))))))))))) fun i=>
 opt.ret _ (Sum.inl (i.1,(i.2.1,(i.2.2.1,(i.2.2.2.1,(i.2.2.2.2.1,(i.2.2.2.2.2.1,(i.2.2.2.2.2.2.1,(i.2.2.2.2.2.2.2.1,(i.2.2.2.2.2.2.2.2.1,(i.2.2.2.2.2.2.2.2.2.1,((p.ar .add .i64 i.2.2.2.2.2.2.2.2.2.2.1 (1:Int)),()))))))))))))) (
 opt.ret _ (Sum.inr (a.1,(a.2.1,(a.2.2.1,(a.2.2.2.1,(a.2.2.2.2.1,(a.2.2.2.2.2.1,(a.2.2.2.2.2.2.1,(a.2.2.2.2.2.2.2.1,(a.2.2.2.2.2.2.2.2.1,(a.2.2.2.2.2.2.2.2.2.1,())))))))))))))
def w7k (it:It) (p:Prim):(LD×T55)→Option ((LD×T55)⊕(LD×T17)):=
 fun a=>opt.run _ (
 opt.need _ (bif (p.cmp .geq (p.ar .sub .i64 (p.ofNat a.2.2.2.2.2.1) (1:Int)) (0:Int)) then (p.cmp .lss (p.ar .sub .i64 (p.ofNat a.2.2.2.2.2.1) (1:Int)) (p.ofNat a.2.2.2.2.2.1)) else Bool.false)<|
 opt.need _ (p.rowOk a.1 (p.add a.2.2.2.2.1 (p.nat (p.ar .sub .i64 (p.ofNat a.2.2.2.2.2.1) (1:Int)))) [ci,ci])<|
 opt.bnd ((LD×T54)) _ (
 it _ _ (v8k p) (a.1,(a.2.1,(a.2.2.1,((p.rdI a.1 (p.add a.2.2.2.2.1 (p.nat (p.ar .sub .i64 (p.ofNat a.2.2.2.2.2.1) (1:Int)))) 0),((p.rdI a.1 (p.add a.2.2.2.2.1 (p.nat (p.ar .sub .i64 (p.ofNat a.2.2.2.2.2.1) (1:Int)))) 1),((p.rdI a.1 (p.add a.2.2.2.2.1 (p.nat (p.ar .sub .i64 (p.ofNat a.2.2.2.2.2.1) (1:Int)))) 0),((p.rdI a.1 (p.add a.2.2.2.2.1 (p.nat (p.ar .sub .i64 (p.ofNat a.2.2.2.2.2.1) (1:Int)))) 1),(a.2.2.2.1,(a.2.2.2.2.1,(a.2.2.2.2.2.1,((0:Int),())))))))))))) fun b=>
 opt.bnd ((LD×T56)) _ (
 opt.run ((LD×T56)) (
 opt.ask _ (bif (p.cmp .eql b.2.2.2.2.2.1 b.2.1) then (bif (p.cmp .eql b.2.2.2.2.2.2.1 b.2.2.1) then Bool.true else Bool.false) else Bool.false) (
 opt.ret _ (b.1,(b.2.1,(b.2.2.1,(b.2.2.2.2.2.1,(b.2.2.2.2.2.2.1,(b.2.2.2.2.2.2.2.1,(b.2.2.2.2.2.2.2.2.1,(b.2.2.2.2.2.2.2.2.2.1,(Bool.true,())))))))))) (
 opt.ret _ (b.1,(b.2.1,(b.2.2.1,(b.2.2.2.2.2.1,(b.2.2.2.2.2.2.1,(b.2.2.2.2.2.2.2.1,(b.2.2.2.2.2.2.2.2.1,(b.2.2.2.2.2.2.2.2.2.1,((bif (p.cmp .eql b.2.2.2.2.2.1 b.2.2.2.1) then (bif (p.cmp .eql b.2.2.2.2.2.2.1 b.2.2.2.2.1) then Bool.true else Bool.false) else Bool.false),())))))))))))) fun c=>
 opt.ask _ c.2.2.2.2.2.2.2.2.1 (
 opt.ret _ (Sum.inr (c.1,(c.2.2.2.2.2.2.1,(c.2.2.2.2.2.2.2.1,()))))) (
 opt.need _ (p.and (p.leN (p.add 0 1) (p.len [[(D.int .i64 c.2.2.2.1),(D.int .i64 c.2.2.2.2.1)]])) (p.and (p.leN (p.add c.2.2.2.2.2.2.1 c.2.2.2.2.2.2.2.1) (p.len c.1)) (p.and (p.leN 1 1) (p.leN (p.add c.2.2.2.2.2.2.2.1 1) 1000000))))<|
 opt.ret _ (Sum.inl ((p.app (p.cut c.1 c.2.2.2.2.2.2.1 c.2.2.2.2.2.2.2.1) (p.cut [[(D.int .i64 c.2.2.2.1),(D.int .i64 c.2.2.2.2.1)]] 0 1)),(c.2.1,(c.2.2.1,(c.2.2.2.2.2.1,(0,((p.add c.2.2.2.2.2.2.2.1 1),())))))))))
def v8l (p:Prim):(Int×(Int×(LD×(Int×Unit))))→Option ((Int×(Int×(LD×(Int×Unit))))⊕(Int×(Int×(LD×Unit)))):=
 fun a=>opt.run _ (
 opt.ask _ (p.cmp .lss a.2.2.2.1 (p.ofNat (p.len a.2.2.1))) (
 opt.bnd T14 _ (
 opt.run T14 (
 opt.need _ (p.rowOk a.2.2.1 (p.nat a.2.2.2.1) [ci,ci])<|
 opt.need _ (p.cmp .geq a.2.2.2.1 (0:Int))<|
 opt.ask _ (p.cmp .lss (p.rdI a.2.2.1 (p.nat a.2.2.2.1) 0) a.1) (
 opt.bnd T14 _ (
 opt.run T14 (
 opt.need _ (p.rowOk a.2.2.1 (p.nat a.2.2.2.1) [ci,ci])<|
 opt.need _ (p.cmp .geq a.2.2.2.1 (0:Int))<|
 opt.ret _ ((p.rdI a.2.2.1 (p.nat a.2.2.2.1) 0),((p.rdI a.2.2.1 (p.nat a.2.2.2.1) 1),(a.2.2.1,(a.2.2.2.1,())))))) fun b=>
 opt.ret _ (b.1,(b.2.1,(b.2.2.1,(b.2.2.2.1,()))))) (
 opt.need _ (p.rowOk a.2.2.1 (p.nat a.2.2.2.1) [ci,ci])<|
 opt.need _ (p.cmp .geq a.2.2.2.1 (0:Int))<|
 opt.ask _ (p.cmp .eql (p.rdI a.2.2.1 (p.nat a.2.2.2.1) 0) a.1) (
 opt.need _ (p.rowOk a.2.2.1 (p.nat a.2.2.2.1) [ci,ci])<|
 opt.need _ (p.cmp .geq a.2.2.2.1 (0:Int))<|
 opt.bnd T14 _ (
 opt.run T14 (
 opt.ask _ (p.cmp .lss (p.rdI a.2.2.1 (p.nat a.2.2.2.1) 1) a.2.1) (
 opt.need _ (p.rowOk a.2.2.1 (p.nat a.2.2.2.1) [ci,ci])<|
 opt.need _ (p.cmp .geq a.2.2.2.1 (0:Int))<|
 opt.ret _ ((p.rdI a.2.2.1 (p.nat a.2.2.2.1) 0),((p.rdI a.2.2.1 (p.nat a.2.2.2.1) 1),(a.2.2.1,(a.2.2.2.1,()))))) (
 opt.ret _ (a.1,(a.2.1,(a.2.2.1,(a.2.2.2.1,()))))))) fun c=>
 opt.ret _ (c.1,(c.2.1,(c.2.2.1,(c.2.2.2.1,()))))) (
 opt.bnd T14 _ (
 opt.run T14 (
 opt.ret _ (a.1,(a.2.1,(a.2.2.1,(a.2.2.2.1,())))))) fun d=>
 opt.ret _ (d.1,(d.2.1,(d.2.2.1,(d.2.2.2.1,())))))))) fun e=>
 opt.ret _ (Sum.inl (e.1,(e.2.1,(e.2.2.1,((p.ar .add .i64 e.2.2.2.1 (1:Int)),())))))) (
 opt.ret _ (Sum.inr (a.1,(a.2.1,(a.2.2.1,()))))))
def g61 (it:It):(p:Prim)→(LD×Unit)→Option ((LD×Unit)):=
 fun p x=>
 opt.need _ (p.rowOk x.1 (p.nat (0:Int)) [ci,ci])<|
 opt.bnd T21 _ (
 it _ _ (v8l p) ((p.rdI x.1 (p.nat (0:Int)) 0),((p.rdI x.1 (p.nat (0:Int)) 1),(x.1,((1:Int),()))))) fun a=>
 opt.need _ (p.leN (p.add 0 1) (p.len [[(D.int .i64 a.1),(D.int .i64 a.2.1)]]))<|
 opt.bnd ((LD×T17)) _ (
 it _ _ (w7k it p) ([[(D.int .i64 a.1),(D.int .i64 a.2.1)]],(a.1,(a.2.1,(a.2.2.1,(0,(1,()))))))) fun b=>
 opt.need _ (p.leN (p.add b.2.1 b.2.2.1) (p.len b.1))<|
 opt.ret _ ((p.cut b.1 b.2.1 b.2.2.1),())
def G61:=g61 it0
theorem ok61:CtrOk PG v2i (G61 std):=okF (a:=an61) (l:=la61) (gC ok91 (gC ok90 (gN))) (by kernel_rfl) fun _ _=>by kernel_rfl
def w7c:Ctr:=
 ⟨19,[.agg [.list 2, .list 1]],[],[(.ret,⟨[(0, .int .i64)],[],1⟩)]⟩
def la19:List LA:=
 [⟨19,[false,true,false,true,true],0,⟨⟨[(1, .bptr 0 0),(3, .int .i64)],[.box [.list 2, .list 1]],47⟩,[(AX.ret,⟨[(2, .int .i64)],[],47⟩),((AX.exit 0),⟨[(1, .bptr 0 0)],[.box [.list 2, .list 1]],47⟩)]⟩⟩,
 ⟨19,[false,true,false,true,true,true,true],0,⟨⟨[(1, .bptr 0 0),(4, .int .i64)],[.box [.list 2, .list 1]],47⟩,[(AX.ret,⟨[(2, .int .i64)],[],47⟩),((AX.exit 2),⟨[],[],47⟩)]⟩⟩]
def ja19:List JA:=
 [⟨19,[false,false,true],0,[(AX.normal,⟨[(1, .bptr 0 0),(14, .bool)],[.box [.list 2, .list 1]],47⟩)]⟩]
def v7y:List CF:=
 [⟨v2k,G56⟩,⟨v2l,G55⟩]
def an19:Anns:=
 ⟨v7y,ja19,[]⟩
def x6s (it:It) (p:Prim):(LD×(LD×T1))→Option ((LD×(LD×T1))⊕((Int×Unit)⊕Unit)):=
 fun a=>opt.run _ (
 opt.ask _ (p.cmp .lss a.2.2.1 (p.ofNat (p.len a.2.1))) (
 opt.need _ (p.rowOk a.2.1 (p.nat a.2.2.1) [(CK.list 2)])<|
 opt.need _ (p.cmp .geq a.2.2.1 (0:Int))<|
 opt.bnd T2 _ (g56 it p ((p.rdL a.2.1 (p.nat a.2.2.1) 0),((-1000:Int),((1000:Int),())))) fun b=>
 opt.ask _ (bif b.1 then Bool.false else Bool.true) (
 opt.ret _ (Sum.inr (Sum.inl ((3:Int),())))) (
 opt.ret _ (Sum.inl (a.1,(a.2.1,((p.ar .add .i64 a.2.2.1 (1:Int)),())))))) (
 opt.ret _ (Sum.inr (Sum.inr ()))))
def w3a (p:Prim):(LD×(LD×T1))→Option ((LD×(LD×T1))⊕((Int×Unit)⊕(LD×(LD×Unit)))):=
 fun a=>opt.run _ (
 opt.ask _ (p.cmp .lss a.2.2.1 (p.ofNat (p.len a.2.1))) (
 opt.need _ (p.rowOk a.2.1 (p.nat a.2.2.1) [(CK.list 2)])<|
 opt.need _ (p.cmp .geq a.2.2.1 (0:Int))<|
 opt.bnd T2 _ (G55 p ((p.rdL a.2.1 (p.nat a.2.2.1) 0),())) fun b=>
 opt.ask _ (bif b.1 then Bool.false else Bool.true) (
 opt.ret _ (Sum.inr (Sum.inl ((6:Int),())))) (
 opt.ret _ (Sum.inl (a.1,(a.2.1,((p.ar .add .i64 a.2.2.1 (1:Int)),())))))) (
 opt.ret _ (Sum.inr (Sum.inr (a.1,(a.2.1,()))))))
def g19 (it:It):(p:Prim)→(LD×(LD×Unit))→Option T0:=
 fun p x=>
 opt.bnd ((LD×(LD×T13))) _ (
 opt.run ((LD×(LD×T13))) (
 opt.bnd T2 _ (G55 p (x.1,())) fun a=>
 opt.ask _ (bif a.1 then Bool.false else Bool.true) (
 opt.ret _ (x.1,(x.2.1,(Bool.true,())))) (
 opt.ret _ (x.1,(x.2.1,((p.cmp .gtr (p.ofNat (p.len x.2.1)) (4:Int)),())))))) fun b=>
 opt.ask _ b.2.2.1 (
 opt.ret _ ((6:Int),())) (
 opt.alt T0 ((LD×(LD×Unit))) _ (
 it _ _ (w3a p) (b.1,(b.2.1,((0:Int),())))) (fun c=>
 opt.ret _ (c.1,())) (fun d=>
 opt.bnd ((LD×(LD×Unit))) _ (some d) fun e=>
 opt.bnd T2 _ (g56 it p (e.1,((0:Int),((1000:Int),())))) fun f=>
 opt.ask _ (bif f.1 then Bool.false else Bool.true) (
 opt.ret _ ((3:Int),())) (
 opt.alt T0 (Unit) _ (
 it _ _ (x6s it p) (e.1,(e.2.1,((0:Int),())))) (fun g=>
 opt.ret _ (g.1,())) (fun h=>
 opt.bnd (Unit) _ (some h) fun i=>
 opt.ret _ ((0:Int),())))))
def G19:=g19 it0
theorem v9g:CtrOk PG w7c (G19 std):=okF (a:=an19) (l:=la19) (gC ok56 (gC ok55 (gN))) (by kernel_rfl) fun _ _=>by kernel_rfl
def v2m:Ctr:=
 ⟨43,[.list 2, .agg [.int .i64, .int .i64, .int .i64]],[],[(.ret,⟨[(0, .bool)],[],1⟩)]⟩
def la43:List LA:=
 [⟨43,[false,true,false,true,true],0,⟨⟨[(0, .list 2),(3, .bptr 0 0),(5, .int .i64),(6, .int .i64)],[.box [.int .i64, .int .i64, .int .i64]],91⟩,[(AX.ret,⟨[(4, .bool)],[],91⟩),((AX.exit 0),⟨[],[],91⟩)]⟩⟩]
def ja43:List JA:=
 [⟨43,[false,true,false,false,true,false,true,true],0,[(AX.ret,⟨[(4, .bool)],[],91⟩),(AX.normal,⟨[(0, .list 2),(3, .bptr 0 0),(5, .int .i64),(6, .int .i64)],[.box [.int .i64, .int .i64, .int .i64]],91⟩)]⟩,
 ⟨43,[false,false,true,false,true,true,false,false,true,false,false,true,false,true,true],0,[(AX.normal,⟨[(4, .bool)],[],91⟩)]⟩,
 ⟨43,[false,true,true,true,true,true,false,false,true,false,false,true,false,true,true],0,[(AX.normal,⟨[(0, .list 2),(3, .bptr 0 0),(5, .int .i64),(6, .int .i64),(90, .bool)],[.box [.int .i64, .int .i64, .int .i64]],91⟩)]⟩]
def v7l:List CF:=
 []
def an43:Anns:=
 ⟨v7l,ja43,[]⟩
def v8o (p:Prim):T44→Option ((Int×(Int×(Int×(LD×(Int×(Int×Unit))))))⊕((Bool×Unit)⊕Unit)):=
 fun a=>opt.run _ (
 opt.ask _ (p.cmp .lss a.2.2.2.2.2.1 a.2.2.2.2.1) (
 opt.alt T2 T57 _ (
 opt.run (((Bool×Unit)⊕(Int×(Int×(Int×(LD×(Int×(Int×Unit)))))))) (
 opt.need _ (p.rowOk a.2.2.2.1 (p.nat a.2.2.2.2.2.1) [ci,ci])<|
 opt.need _ (p.cmp .geq a.2.2.2.2.2.1 (0:Int))<|
 opt.need _ (p.cmp .neq a.2.2.2.2.1 (0:Int))<|
 opt.need _ (p.rowOk a.2.2.2.1 (p.nat (p.ar .rem .i64 (p.ar .add .i64 a.2.2.2.2.2.1 (1:Int)) a.2.2.2.2.1)) [ci,ci])<|
 opt.need _ (p.cmp .geq (p.ar .rem .i64 (p.ar .add .i64 a.2.2.2.2.2.1 (1:Int)) a.2.2.2.2.1) (0:Int))<|
 opt.ask _ (p.cmp .eql a.2.2.2.2.1 (1:Int)) (
 opt.bnd T2 _ (
 opt.run T2 (
 opt.ask _ (p.cmp .eql (p.ar .sub .i64 a.1 (p.ar .mul .i64 (p.rdI a.2.2.2.1 (p.nat a.2.2.2.2.2.1) 0) a.2.2.1)) (0:Int)) (
 opt.ret _ ((p.cmp .eql (p.ar .sub .i64 a.2.1 (p.ar .mul .i64 (p.rdI a.2.2.2.1 (p.nat a.2.2.2.2.2.1) 1) a.2.2.1)) (0:Int)),())) (
 opt.ret _ (Bool.false,())))) fun b=>
 opt.ret _ (Sum.inl (b.1,()))) (
 opt.ask _ (p.cmp .lss (p.ar .sub .i64 (p.ar .mul .i64 (p.ar .sub .i64 (p.rdI a.2.2.2.1 (p.nat (p.ar .rem .i64 (p.ar .add .i64 a.2.2.2.2.2.1 (1:Int)) a.2.2.2.2.1)) 0) (p.rdI a.2.2.2.1 (p.nat a.2.2.2.2.2.1) 0)) (p.ar .sub .i64 a.2.1 (p.ar .mul .i64 (p.rdI a.2.2.2.1 (p.nat a.2.2.2.2.2.1) 1) a.2.2.1))) (p.ar .mul .i64 (p.ar .sub .i64 (p.rdI a.2.2.2.1 (p.nat (p.ar .rem .i64 (p.ar .add .i64 a.2.2.2.2.2.1 (1:Int)) a.2.2.2.2.1)) 1) (p.rdI a.2.2.2.1 (p.nat a.2.2.2.2.2.1) 1)) (p.ar .sub .i64 a.1 (p.ar .mul .i64 (p.rdI a.2.2.2.1 (p.nat a.2.2.2.2.2.1) 0) a.2.2.1)))) (0:Int)) (
 opt.ret _ (Sum.inl (Bool.false,()))) (
 opt.bnd T58 _ (
 opt.run T58 (
 opt.ask _ (p.cmp .eql a.2.2.2.2.1 (2:Int)) (
 opt.ret _ (a.1,(a.2.1,(a.2.2.1,(a.2.2.2.1,(a.2.2.2.2.1,(a.2.2.2.2.2.1,((p.cmp .lss (p.ar .add .i64 (p.ar .mul .i64 (p.ar .sub .i64 (p.rdI a.2.2.2.1 (p.nat (p.ar .rem .i64 (p.ar .add .i64 a.2.2.2.2.2.1 (1:Int)) a.2.2.2.2.1)) 0) (p.rdI a.2.2.2.1 (p.nat a.2.2.2.2.2.1) 0)) (p.ar .sub .i64 a.1 (p.ar .mul .i64 (p.rdI a.2.2.2.1 (p.nat a.2.2.2.2.2.1) 0) a.2.2.1))) (p.ar .mul .i64 (p.ar .sub .i64 (p.rdI a.2.2.2.1 (p.nat (p.ar .rem .i64 (p.ar .add .i64 a.2.2.2.2.2.1 (1:Int)) a.2.2.2.2.1)) 1) (p.rdI a.2.2.2.1 (p.nat a.2.2.2.2.2.1) 1)) (p.ar .sub .i64 a.2.1 (p.ar .mul .i64 (p.rdI a.2.2.2.1 (p.nat a.2.2.2.2.2.1) 1) a.2.2.1)))) (0:Int)),())))))))) (
 opt.ret _ (a.1,(a.2.1,(a.2.2.1,(a.2.2.2.1,(a.2.2.2.2.1,(a.2.2.2.2.2.1,(Bool.false,())))))))))) fun c=>
 opt.ask _ c.2.2.2.2.2.2.1 (
 opt.ret _ (Sum.inl (Bool.false,()))) (
 opt.ret _ (Sum.inr (c.1,(c.2.1,(c.2.2.1,(c.2.2.2.1,(c.2.2.2.2.1,(c.2.2.2.2.2.1,())))))))))))) (fun d=>
 opt.ret _ (Sum.inr (Sum.inl (d.1,())))) (fun e=>
 opt.bnd T57 _ (some e) fun f=>
 opt.ret _ (Sum.inl (f.1,(f.2.1,(f.2.2.1,(f.2.2.2.1,(f.2.2.2.2.1,((p.ar .add .i64 f.2.2.2.2.2.1 (1:Int)),()))))))))) (
 opt.ret _ (Sum.inr (Sum.inr ()))))
def g43 (it:It):(p:Prim)→(LD×T5)→Option T2:=
 fun p x=>
 opt.alt T2 (Unit) _ (
 it _ _ (v8o p) (x.2.1,(x.2.2.1,(x.2.2.2.1,(x.1,((p.ofNat (p.len x.1)),((0:Int),()))))))) (fun a=>
 opt.ret _ (a.1,())) (fun b=>
 opt.bnd (Unit) _ (some b) fun c=>
 opt.ret _ (Bool.true,()))
def G43:=g43 it0
theorem ok43:CtrOk PG v2m (G43 std):=okF (a:=an43) (l:=la43) (gN) (by kernel_rfl) fun _ _=>by kernel_rfl
def w7a:Ctr:=
 ⟨49,[.agg [.list 2, .list 1]],[],[(.ret,⟨[(0, .list 2)],[],1⟩)]⟩
def la49:List LA:=
 [⟨49,[false,true,false,true,true],0,⟨⟨[(1, .bptr 0 0),(3, .list 2),(4, .int .i64)],[.box [.list 2, .list 1]],27⟩,[((AX.exit 0),⟨[(3, .list 2)],[],27⟩)]⟩⟩,
 ⟨45,[false,true,false,true,true],2,⟨⟨[(1, .bptr 2 0),(3, .list 2),(4, .int .i64)],[.box [.list 2, .list 1], .row [(CK.list 2)], .box [.list 2, .full 1 1]],51⟩,[((AX.exit 0),⟨[(3, .list 2)],[.box [.list 2, .list 1], .row [(CK.list 2)]],51⟩)]⟩⟩,
 ⟨45,[false,true,false,true,false,false,true,false,false,true,false,true,true],2,⟨⟨[(1, .bptr 2 0),(3, .list 2),(4, .int .i64),(5, .vec 3 2),(6, .int .i64)],[.box [.list 2, .list 1], .row [(CK.list 2)], .box [.list 2, .full 1 1], .row [ci,ci]],51⟩,[((AX.exit 2),⟨[(1, .bptr 2 0),(4, .int .i64),(5, .vec 3 2)],[.box [.list 2, .list 1], .row [(CK.list 2)], .box [.list 2, .full 1 1], .row [ci,ci]],51⟩)]⟩⟩,
 ⟨45,[false,true,false,false,true,false,false,true,false,true,false,false,true,false,false,true,false,true,true],2,⟨⟨[(1, .bptr 2 0),(3, .list 2),(4, .int .i64),(5, .vec 3 2),(6, .int .i64),(7, .int .i64)],[.box [.list 2, .list 1], .row [(CK.list 2)], .box [.list 2, .full 1 1], .row [ci,ci]],51⟩,[((AX.exit 4),⟨[(1, .bptr 2 0),(3, .list 2),(4, .int .i64),(5, .vec 3 2),(6, .int .i64)],[.box [.list 2, .list 1], .row [(CK.list 2)], .box [.list 2, .full 1 1], .row [ci,ci]],51⟩)]⟩⟩]
def ja49:List JA:=
 []
def v7j:List CF:=
 [⟨v2i,G61⟩]
def an49:Anns:=
 ⟨v7j,ja49,[]⟩
def v8n (p:Prim):(LD×(LD×(LD×(LD×(LD×(LD×T5))))))→Option ((LD×(LD×(LD×(LD×(LD×(LD×T5))))))⊕(LD×(LD×(LD×(LD×(LD×(LD×T3))))))):=
 fun a=>opt.run _ (
 opt.need _ (bif (p.cmp .geq a.2.2.2.2.2.2.1 (0:Int)) then (p.cmp .lss a.2.2.2.2.2.2.1 (p.ofNat (p.len a.1))) else Bool.false)<|
 opt.need _ (p.rowOk a.1 (p.add 0 (p.nat a.2.2.2.2.2.2.1)) [(CK.list 2)])<|
 opt.ask _ (p.cmp .lss a.2.2.2.2.2.2.2.2.1 (p.ofNat (p.len (p.rdL a.1 (p.add 0 (p.nat a.2.2.2.2.2.2.1)) 0)))) (
 opt.need _ (p.rowOk a.2.2.2.2.2.1 (p.nat a.2.2.2.2.2.2.2.1) [ci,ci])<|
 opt.need _ (p.cmp .geq a.2.2.2.2.2.2.2.1 (0:Int))<|
 opt.need _ (bif (p.cmp .geq a.2.2.2.2.2.2.1 (0:Int)) then (p.cmp .lss a.2.2.2.2.2.2.1 (p.ofNat (p.len a.1))) else Bool.false)<|
 opt.need _ (p.rowOk a.1 (p.add 0 (p.nat a.2.2.2.2.2.2.1)) [(CK.list 2)])<|
 opt.need _ (p.rowOk (p.rdL a.1 (p.add 0 (p.nat a.2.2.2.2.2.2.1)) 0) (p.nat a.2.2.2.2.2.2.2.2.1) [ci,ci])<|
 opt.need _ (p.cmp .geq a.2.2.2.2.2.2.2.2.1 (0:Int))<|
 opt.need _ (p.and (p.leN (p.add 0 1) (p.len [[(D.int .i64 (p.ar .add .i64 (p.rdI a.2.2.2.2.2.1 (p.nat a.2.2.2.2.2.2.2.1) 0) (p.rdI (p.rdL a.1 (p.add 0 (p.nat a.2.2.2.2.2.2.1)) 0) (p.nat a.2.2.2.2.2.2.2.2.1) 0))),(D.int .i64 (p.ar .add .i64 (p.rdI a.2.2.2.2.2.1 (p.nat a.2.2.2.2.2.2.2.1) 1) (p.rdI (p.rdL a.1 (p.add 0 (p.nat a.2.2.2.2.2.2.1)) 0) (p.nat a.2.2.2.2.2.2.2.2.1) 1)))]])) (p.and (p.leN (p.add 0 (p.len a.2.1)) (p.len a.2.1)) (p.and (p.leN 1 1) (p.leN (p.add (p.len a.2.1) 1) 1000000))))<|
 opt.need _ (p.eqN 0 0)<|
 opt.need _ (p.eqN (p.len a.1) (p.len a.1))<|
 opt.need _ (p.eqN (p.len a.1) (p.len a.1))<|
 opt.need _ (p.eqN 0 0)<|
 opt.need _ (p.eqN (p.add (p.len a.2.1) 1) (p.len (p.app (p.cut a.2.1 0 (p.len a.2.1)) (p.cut [[(D.int .i64 (p.ar .add .i64 (p.rdI a.2.2.2.2.2.1 (p.nat a.2.2.2.2.2.2.2.1) 0) (p.rdI (p.rdL a.1 (p.add 0 (p.nat a.2.2.2.2.2.2.1)) 0) (p.nat a.2.2.2.2.2.2.2.2.1) 0))),(D.int .i64 (p.ar .add .i64 (p.rdI a.2.2.2.2.2.1 (p.nat a.2.2.2.2.2.2.2.1) 1) (p.rdI (p.rdL a.1 (p.add 0 (p.nat a.2.2.2.2.2.2.1)) 0) (p.nat a.2.2.2.2.2.2.2.2.1) 1)))]] 0 1))))<|
 opt.ret _ (Sum.inl (a.1,((p.app (p.cut a.2.1 0 (p.len a.2.1)) (p.cut [[(D.int .i64 (p.ar .add .i64 (p.rdI a.2.2.2.2.2.1 (p.nat a.2.2.2.2.2.2.2.1) 0) (p.rdI (p.rdL a.1 (p.add 0 (p.nat a.2.2.2.2.2.2.1)) 0) (p.nat a.2.2.2.2.2.2.2.2.1) 0))),(D.int .i64 (p.ar .add .i64 (p.rdI a.2.2.2.2.2.1 (p.nat a.2.2.2.2.2.2.2.1) 1) (p.rdI (p.rdL a.1 (p.add 0 (p.nat a.2.2.2.2.2.2.1)) 0) (p.nat a.2.2.2.2.2.2.2.2.1) 1)))]] 0 1)),(a.2.2.1,(a.2.2.2.1,(a.2.2.2.2.1,(a.2.2.2.2.2.1,(a.2.2.2.2.2.2.1,(a.2.2.2.2.2.2.2.1,((p.ar .add .i64 a.2.2.2.2.2.2.2.2.1 (1:Int)),()))))))))))) (
 opt.need _ (p.eqN 0 0)<|
 opt.need _ (p.eqN (p.len a.1) (p.len a.1))<|
 opt.need _ (p.eqN (p.len a.1) (p.len a.1))<|
 opt.need _ (p.eqN 0 0)<|
 opt.need _ (p.eqN (p.len a.2.1) (p.len a.2.1))<|
 opt.ret _ (Sum.inr (a.1,(a.2.1,(a.2.2.1,(a.2.2.2.1,(a.2.2.2.2.1,(a.2.2.2.2.2.1,(a.2.2.2.2.2.2.1,(a.2.2.2.2.2.2.2.1,())))))))))))
def w7l (it:It) (p:Prim):(LD×(LD×(LD×(LD×(LD×(LD×T3))))))→Option ((LD×(LD×(LD×(LD×(LD×(LD×T3))))))⊕(LD×(LD×(LD×(LD×(LD×T1)))))):=
 fun a=>opt.run _ (
 opt.ask _ (p.cmp .lss a.2.2.2.2.2.2.2.1 (p.ofNat (p.len a.2.2.2.2.2.1))) (
 opt.need _ (p.eqN 0 0)<|
 opt.need _ (p.eqN (p.len a.1) (p.len a.1))<|
 opt.need _ (p.eqN (p.len a.1) (p.len a.1))<|
 opt.need _ (p.eqN 0 0)<|
 opt.need _ (p.eqN (p.len a.2.1) (p.len a.2.1))<|
 opt.bnd ((LD×(LD×(LD×(LD×(LD×(LD×T3))))))) _ (
 it _ _ (v8n p) (a.1,(a.2.1,(a.2.2.1,(a.2.2.2.1,(a.2.2.2.2.1,(a.2.2.2.2.2.1,(a.2.2.2.2.2.2.1,(a.2.2.2.2.2.2.2.1,((0:Int),())))))))))) fun b=>
 opt.need _ (p.eqN 0 0)<|
 opt.need _ (p.eqN (p.len b.1) (p.len b.1))<|
 opt.need _ (p.eqN (p.len b.1) (p.len b.1))<|
 opt.need _ (p.eqN 0 0)<|
 opt.need _ (p.eqN (p.len b.2.1) (p.len b.2.1))<|
 opt.ret _ (Sum.inl (b.1,(b.2.1,(b.2.2.1,(b.2.2.2.1,(b.2.2.2.2.1,(b.2.2.2.2.2.1,(b.2.2.2.2.2.2.1,((p.ar .add .i64 b.2.2.2.2.2.2.2.1 (1:Int)),())))))))))) (
 opt.need _ (p.eqN 0 0)<|
 opt.need _ (p.eqN (p.len a.1) (p.len a.1))<|
 opt.need _ (p.eqN (p.len a.1) (p.len a.1))<|
 opt.need _ (p.eqN 0 0)<|
 opt.need _ (p.eqN (p.len a.2.1) (p.len a.2.1))<|
 opt.ret _ (Sum.inr (a.1,(a.2.1,(a.2.2.1,(a.2.2.2.1,(a.2.2.2.2.1,(a.2.2.2.2.2.2.1,())))))))))
def w7m (it:It) (p:Prim):(LD×(LD×(LD×(LD×(LD×T1)))))→Option ((LD×(LD×(LD×(LD×(LD×T1)))))⊕(LD×(LD×(LD×(LD×Unit))))):=
 fun a=>opt.run _ (
 opt.ask _ (p.cmp .lss a.2.2.2.2.2.1 (p.ofNat (p.len a.1))) (
 opt.need _ (p.eqN 0 0)<|
 opt.need _ (p.eqN (p.len a.1) (p.len a.1))<|
 opt.need _ (p.eqN (p.len a.1) (p.len a.1))<|
 opt.bnd ((LD×(LD×(LD×(LD×(LD×T1)))))) _ (
 it _ _ (w7l it p) (a.1,([],(a.2.1,(a.2.2.1,(a.2.2.2.1,(a.2.2.2.2.1,(a.2.2.2.2.2.1,((0:Int),()))))))))) fun b=>
 opt.need _ (p.eqN 0 0)<|
 opt.need _ (p.eqN (p.len b.1) (p.len b.1))<|
 opt.need _ (p.eqN (p.len b.1) (p.len b.1))<|
 opt.need _ (p.leN (p.add 0 (p.len b.2.1)) (p.len b.2.1))<|
 opt.ret _ (Sum.inl (b.1,(b.2.2.1,(b.2.2.2.1,(b.2.2.2.2.1,((p.cut b.2.1 0 (p.len b.2.1)),((p.ar .add .i64 b.2.2.2.2.2.1 (1:Int)),())))))))) (
 opt.ret _ (Sum.inr (a.1,(a.2.1,(a.2.2.1,(a.2.2.2.2.1,())))))))
def w7n (it:It) (p:Prim):(LD×(LD×(LD×T1)))→Option ((LD×(LD×(LD×T1)))⊕(LD×Unit)):=
 fun a=>opt.run _ (
 opt.ask _ (p.cmp .lss a.2.2.2.1 (p.ofNat (p.len a.2.1))) (
 opt.need _ (p.rowOk a.2.1 (p.nat a.2.2.2.1) [(CK.list 2)])<|
 opt.need _ (p.cmp .geq a.2.2.2.1 (0:Int))<|
 opt.bnd ((LD×Unit)) _ (g61 it p ((p.rdL a.2.1 (p.nat a.2.2.2.1) 0),())) fun b=>
 opt.need _ (p.eqN 0 0)<|
 opt.need _ (p.eqN 1 (p.len [[(D.list Bool.false 2 b.1)]]))<|
 opt.need _ (p.eqN 1 (p.len [[(D.list Bool.false 2 b.1)]]))<|
 opt.bnd ((LD×(LD×(LD×(LD×Unit))))) _ (
 it _ _ (w7m it p) ([[(D.list Bool.false 2 b.1)]],(a.1,(a.2.1,(a.2.2.1,(a.2.2.1,((0:Int),()))))))) fun c=>
 opt.bnd ((LD×Unit)) _ (g61 it p (c.2.2.2.1,())) fun d=>
 opt.ret _ (Sum.inl (c.2.1,(c.2.2.1,(d.1,((p.ar .add .i64 a.2.2.2.1 (1:Int)),())))))) (
 opt.ret _ (Sum.inr (a.2.2.1,()))))
def g49 (it:It):(p:Prim)→(LD×(LD×Unit))→Option ((LD×Unit)):=
 fun p x=>
 opt.bnd ((LD×Unit)) _ (g61 it p (x.1,())) fun a=>
 opt.bnd ((LD×Unit)) _ (
 it _ _ (w7n it p) (x.1,(x.2.1,(a.1,((0:Int),()))))) fun b=>
 opt.ret _ (b.1,())
def G49:=g49 it0
theorem v9e:CtrOk PG w7a (G49 std):=okF (a:=an49) (l:=la49) (gC ok61 (gN)) (by kernel_rfl) fun _ _=>by kernel_rfl
def w65:Ctr:=
 ⟨72,[.agg [.list 2, .list 1], .agg [.list 2, .list 1]],[],[(.ret,⟨[(0, .int .i64)],[],1⟩)]⟩
def la72:List LA:=
 []
def ja72:List JA:=
 []
def v62:List CF:=
 [⟨w7c,G19⟩]
def an72:Anns:=
 ⟨v62,ja72,[]⟩
def g72 (it:It):(p:Prim)→(LD×(LD×(LD×(LD×Unit))))→Option T0:=
 fun p x=>
 opt.bnd T0 _ (g19 it p (x.1,(x.2.1,()))) fun a=>
 opt.ask _ (p.cmp .neq a.1 (0:Int)) (
 opt.bnd T0 _ (g19 it p (x.1,(x.2.1,()))) fun b=>
 opt.ret _ (b.1,())) (
 opt.bnd T0 _ (g19 it p (x.2.2.1,(x.2.2.2.1,()))) fun c=>
 opt.ret _ (c.1,()))
def G72:=g72 it0
theorem v89:CtrOk PG w65 (G72 std):=okF (a:=an72) (l:=la72) (gC v9g (gN)) (by kernel_rfl) fun _ _=>by kernel_rfl
def v2q:Ctr:=
 ⟨36,[.agg [.list 2, .list 1], .agg [.list 2, .list 1], .agg [.int .i64, .int .i64, .int .i64]],[],[(.ret,⟨[(0, .int .i64)],[],1⟩)]⟩
def la36:List LA:=
 [⟨36,[false,true,false,true,true,true,true],0,⟨⟨[(5, .bptr 0 0),(7, .list 2),(8, .list 2),(9, .int .i64)],[.box [.int .i64, .int .i64, .int .i64]],112⟩,[(AX.ret,⟨[(6, .int .i64)],[],112⟩),((AX.exit 0),⟨[(5, .bptr 0 0),(8, .list 2)],[.box [.int .i64, .int .i64, .int .i64]],112⟩)]⟩⟩,
 ⟨36,[false,true,false,true,true,true,true,true],0,⟨⟨[(5, .bptr 0 0),(8, .list 2),(10, .int .i64)],[.box [.int .i64, .int .i64, .int .i64]],112⟩,[(AX.ret,⟨[(6, .int .i64)],[],112⟩),((AX.exit 2),⟨[],[],112⟩)]⟩⟩]
def ja36:List JA:=
 [⟨36,[false,false,true,true],0,[(AX.normal,⟨[(3, .bptr 0 0),(4, .bptr 1 0),(5, .bptr 2 0),(55, .bool)],[.box [.list 2, .list 1], .box [.list 2, .list 1], .box [.int .i64, .int .i64, .int .i64]],112⟩)]⟩]
def v7p:List CF:=
 [⟨w7a,G49⟩,⟨w65,G72⟩]
def an36:Anns:=
 ⟨v7p,ja36,[]⟩
def v8p (p:Prim):(Int×(Int×(Int×(LD×(Int×Unit)))))→Option ((Int×(Int×(Int×(LD×(Int×Unit)))))⊕((Int×Unit)⊕Unit)):=
 fun a=>opt.run _ (
 opt.ask _ (p.cmp .lss a.2.2.2.2.1 (p.ofNat (p.len a.2.2.2.1))) (
 opt.need _ (p.rowOk a.2.2.2.1 (p.nat a.2.2.2.2.1) [ci,ci])<|
 opt.need _ (p.cmp .geq a.2.2.2.2.1 (0:Int))<|
 opt.need _ (p.rowOk a.2.2.2.1 (p.nat a.2.2.2.2.1) [ci,ci])<|
 opt.need _ (p.cmp .geq a.2.2.2.2.1 (0:Int))<|
 opt.ask _ (p.cmp .leq (p.ar .add .i64 (p.ar .mul .i64 a.1 (p.rdI a.2.2.2.1 (p.nat a.2.2.2.2.1) 0)) (p.ar .mul .i64 a.2.1 (p.rdI a.2.2.2.1 (p.nat a.2.2.2.2.1) 1))) a.2.2.1) (
 opt.ret _ (Sum.inr (Sum.inl ((14:Int),())))) (
 opt.ret _ (Sum.inl (a.1,(a.2.1,(a.2.2.1,(a.2.2.2.1,((p.ar .add .i64 a.2.2.2.2.1 (1:Int)),())))))))) (
 opt.ret _ (Sum.inr (Sum.inr ()))))
def v8q (p:Prim):(Int×(Int×(Int×(LD×(LD×(Int×Unit))))))→Option ((Int×(Int×(Int×(LD×(LD×(Int×Unit))))))⊕((Int×Unit)⊕(Int×(Int×(Int×(LD×Unit)))))):=
 fun a=>opt.run _ (
 opt.ask _ (p.cmp .lss a.2.2.2.2.2.1 (p.ofNat (p.len a.2.2.2.1))) (
 opt.need _ (p.rowOk a.2.2.2.1 (p.nat a.2.2.2.2.2.1) [ci,ci])<|
 opt.need _ (p.cmp .geq a.2.2.2.2.2.1 (0:Int))<|
 opt.need _ (p.rowOk a.2.2.2.1 (p.nat a.2.2.2.2.2.1) [ci,ci])<|
 opt.need _ (p.cmp .geq a.2.2.2.2.2.1 (0:Int))<|
 opt.ask _ (p.cmp .gtr (p.ar .add .i64 (p.ar .mul .i64 a.1 (p.rdI a.2.2.2.1 (p.nat a.2.2.2.2.2.1) 0)) (p.ar .mul .i64 a.2.1 (p.rdI a.2.2.2.1 (p.nat a.2.2.2.2.2.1) 1))) a.2.2.1) (
 opt.ret _ (Sum.inr (Sum.inl ((14:Int),())))) (
 opt.ret _ (Sum.inl (a.1,(a.2.1,(a.2.2.1,(a.2.2.2.1,(a.2.2.2.2.1,((p.ar .add .i64 a.2.2.2.2.2.1 (1:Int)),()))))))))) (
 opt.ret _ (Sum.inr (Sum.inr (a.1,(a.2.1,(a.2.2.1,(a.2.2.2.2.1,()))))))))
def g36 (it:It):(p:Prim)→(LD×(LD×(LD×(LD×T5))))→Option T0:=
 fun p x=>
 opt.bnd T0 _ (g72 it p (x.1,(x.2.1,(x.2.2.1,(x.2.2.2.1,()))))) fun a=>
 opt.ask _ (p.cmp .neq a.1 (0:Int)) (
 opt.bnd T0 _ (g72 it p (x.1,(x.2.1,(x.2.2.1,(x.2.2.2.1,()))))) fun b=>
 opt.ret _ (b.1,())) (
 opt.bnd ((LD×(LD×(LD×(LD×T19))))) _ (
 opt.run ((LD×(LD×(LD×(LD×T19))))) (
 opt.ask _ (p.cmp .eql x.2.2.2.2.1 (0:Int)) (
 opt.ask _ (p.cmp .eql x.2.2.2.2.2.1 (0:Int)) (
 opt.ret _ (x.1,(x.2.1,(x.2.2.1,(x.2.2.2.1,(x.2.2.2.2.1,(x.2.2.2.2.2.1,(x.2.2.2.2.2.2.1,(Bool.true,()))))))))) (
 opt.ask _ (p.cmp .lss x.2.2.2.2.1 (-1048576:Int)) (
 opt.ret _ (x.1,(x.2.1,(x.2.2.1,(x.2.2.2.1,(x.2.2.2.2.1,(x.2.2.2.2.2.1,(x.2.2.2.2.2.2.1,(Bool.true,()))))))))) (
 opt.ask _ (p.cmp .gtr x.2.2.2.2.1 (1048576:Int)) (
 opt.ret _ (x.1,(x.2.1,(x.2.2.1,(x.2.2.2.1,(x.2.2.2.2.1,(x.2.2.2.2.2.1,(x.2.2.2.2.2.2.1,(Bool.true,()))))))))) (
 opt.ask _ (p.cmp .lss x.2.2.2.2.2.1 (-1048576:Int)) (
 opt.ret _ (x.1,(x.2.1,(x.2.2.1,(x.2.2.2.1,(x.2.2.2.2.1,(x.2.2.2.2.2.1,(x.2.2.2.2.2.2.1,(Bool.true,()))))))))) (
 opt.ask _ (p.cmp .gtr x.2.2.2.2.2.1 (1048576:Int)) (
 opt.ret _ (x.1,(x.2.1,(x.2.2.1,(x.2.2.2.1,(x.2.2.2.2.1,(x.2.2.2.2.2.1,(x.2.2.2.2.2.2.1,(Bool.true,()))))))))) (
 opt.ask _ (p.cmp .lss x.2.2.2.2.2.2.1 (-1099511627776:Int)) (
 opt.ret _ (x.1,(x.2.1,(x.2.2.1,(x.2.2.2.1,(x.2.2.2.2.1,(x.2.2.2.2.2.1,(x.2.2.2.2.2.2.1,(Bool.true,()))))))))) (
 opt.ret _ (x.1,(x.2.1,(x.2.2.1,(x.2.2.2.1,(x.2.2.2.2.1,(x.2.2.2.2.2.1,(x.2.2.2.2.2.2.1,((p.cmp .gtr x.2.2.2.2.2.2.1 (1099511627776:Int)),()))))))))))))))) (
 opt.ask _ (p.cmp .lss x.2.2.2.2.1 (-1048576:Int)) (
 opt.ret _ (x.1,(x.2.1,(x.2.2.1,(x.2.2.2.1,(x.2.2.2.2.1,(x.2.2.2.2.2.1,(x.2.2.2.2.2.2.1,(Bool.true,()))))))))) (
 opt.ask _ (p.cmp .gtr x.2.2.2.2.1 (1048576:Int)) (
 opt.ret _ (x.1,(x.2.1,(x.2.2.1,(x.2.2.2.1,(x.2.2.2.2.1,(x.2.2.2.2.2.1,(x.2.2.2.2.2.2.1,(Bool.true,()))))))))) (
 opt.ask _ (p.cmp .lss x.2.2.2.2.2.1 (-1048576:Int)) (
 opt.ret _ (x.1,(x.2.1,(x.2.2.1,(x.2.2.2.1,(x.2.2.2.2.1,(x.2.2.2.2.2.1,(x.2.2.2.2.2.2.1,(Bool.true,()))))))))) (
 opt.ask _ (p.cmp .gtr x.2.2.2.2.2.1 (1048576:Int)) (
 opt.ret _ (x.1,(x.2.1,(x.2.2.1,(x.2.2.2.1,(x.2.2.2.2.1,(x.2.2.2.2.2.1,(x.2.2.2.2.2.2.1,(Bool.true,()))))))))) (
 opt.ask _ (p.cmp .lss x.2.2.2.2.2.2.1 (-1099511627776:Int)) (
 opt.ret _ (x.1,(x.2.1,(x.2.2.1,(x.2.2.2.1,(x.2.2.2.2.1,(x.2.2.2.2.2.1,(x.2.2.2.2.2.2.1,(Bool.true,()))))))))) (
 opt.ret _ (x.1,(x.2.1,(x.2.2.1,(x.2.2.2.1,(x.2.2.2.2.1,(x.2.2.2.2.2.1,(x.2.2.2.2.2.2.1,((p.cmp .gtr x.2.2.2.2.2.2.1 (1099511627776:Int)),())))))))))))))))) fun c=>
 opt.ask _ c.2.2.2.2.2.2.2.1 (
 opt.ret _ ((2:Int),())) (
 opt.bnd ((LD×Unit)) _ (g49 it p (c.1,(c.2.1,()))) fun d=>
 opt.bnd ((LD×Unit)) _ (g49 it p (c.2.2.1,(c.2.2.2.1,()))) fun e=>
 opt.alt T0 T59 _ (
 it _ _ (v8q p) (c.2.2.2.2.1,(c.2.2.2.2.2.1,(c.2.2.2.2.2.2.1,(d.1,(e.1,((0:Int),()))))))) (fun f=>
 opt.ret _ (f.1,())) (fun g=>
 opt.bnd T59 _ (some g) fun h=>
 opt.alt T0 (Unit) _ (
 it _ _ (v8p p) (h.1,(h.2.1,(h.2.2.1,(h.2.2.2.1,((0:Int),())))))) (fun i=>
 opt.ret _ (i.1,())) (fun j=>
 opt.bnd (Unit) _ (some j) fun k=>
 opt.ret _ ((0:Int),())))))
def G36:=g36 it0
theorem ok36:CtrOk PG v2q (G36 std):=okF (a:=an36) (l:=la36) (gC v9e (gC v89 (gN))) (by kernel_rfl) fun _ _=>by kernel_rfl
def v2o:Ctr:=
 ⟨38,[.agg [.list 2, .list 1], .agg [.list 2, .list 1], .agg [.int .i64, .int .i64, .int .i64]],[],[(.ret,⟨[(0, .int .i64)],[],1⟩)]⟩
def la38:List LA:=
 []
def ja38:List JA:=
 [⟨38,[false,false,true,true],0,[(AX.normal,⟨[(3, .bptr 0 0),(4, .bptr 1 0),(5, .bptr 2 0),(41, .bool)],[.box [.list 2, .list 1], .box [.list 2, .list 1], .box [.int .i64, .int .i64, .int .i64]],54⟩)]⟩]
def v7n:List CF:=
 [⟨v2m,G43⟩,⟨w7a,G49⟩,⟨w65,G72⟩]
def an38:Anns:=
 ⟨v7n,ja38,[]⟩
def g38 (it:It):(p:Prim)→(LD×(LD×(LD×(LD×T5))))→Option T0:=
 fun p x=>
 opt.bnd T0 _ (g72 it p (x.1,(x.2.1,(x.2.2.1,(x.2.2.2.1,()))))) fun a=>
 opt.ask _ (p.cmp .neq a.1 (0:Int)) (
 opt.bnd T0 _ (g72 it p (x.1,(x.2.1,(x.2.2.1,(x.2.2.2.1,()))))) fun b=>
 opt.ret _ (b.1,())) (
 opt.bnd ((LD×(LD×(LD×(LD×T19))))) _ (
 opt.run ((LD×(LD×(LD×(LD×T19))))) (
 opt.ask _ (p.cmp .lss x.2.2.2.2.2.2.1 (1:Int)) (
 opt.ret _ (x.1,(x.2.1,(x.2.2.1,(x.2.2.2.1,(x.2.2.2.2.1,(x.2.2.2.2.2.1,(x.2.2.2.2.2.2.1,(Bool.true,()))))))))) (
 opt.ask _ (p.cmp .gtr x.2.2.2.2.2.2.1 (268435456:Int)) (
 opt.ret _ (x.1,(x.2.1,(x.2.2.1,(x.2.2.2.1,(x.2.2.2.2.1,(x.2.2.2.2.2.1,(x.2.2.2.2.2.2.1,(Bool.true,()))))))))) (
 opt.ask _ (p.cmp .lss x.2.2.2.2.1 (-1099511627776:Int)) (
 opt.ret _ (x.1,(x.2.1,(x.2.2.1,(x.2.2.2.1,(x.2.2.2.2.1,(x.2.2.2.2.2.1,(x.2.2.2.2.2.2.1,(Bool.true,()))))))))) (
 opt.ask _ (p.cmp .gtr x.2.2.2.2.1 (1099511627776:Int)) (
 opt.ret _ (x.1,(x.2.1,(x.2.2.1,(x.2.2.2.1,(x.2.2.2.2.1,(x.2.2.2.2.2.1,(x.2.2.2.2.2.2.1,(Bool.true,()))))))))) (
 opt.ask _ (p.cmp .lss x.2.2.2.2.2.1 (-1099511627776:Int)) (
 opt.ret _ (x.1,(x.2.1,(x.2.2.1,(x.2.2.2.1,(x.2.2.2.2.1,(x.2.2.2.2.2.1,(x.2.2.2.2.2.2.1,(Bool.true,()))))))))) (
 opt.ret _ (x.1,(x.2.1,(x.2.2.1,(x.2.2.2.1,(x.2.2.2.2.1,(x.2.2.2.2.2.1,(x.2.2.2.2.2.2.1,((p.cmp .gtr x.2.2.2.2.2.1 (1099511627776:Int)),()))))))))))))))) fun c=>
 opt.ask _ c.2.2.2.2.2.2.2.1 (
 opt.ret _ ((2:Int),())) (
 opt.bnd ((LD×Unit)) _ (g49 it p (c.1,(c.2.1,()))) fun d=>
 opt.bnd T2 _ (g43 it p (d.1,(c.2.2.2.2.1,(c.2.2.2.2.2.1,(c.2.2.2.2.2.2.1,()))))) fun e=>
 opt.ask _ (bif e.1 then Bool.false else Bool.true) (
 opt.ret _ ((14:Int),())) (
 opt.bnd ((LD×Unit)) _ (g49 it p (c.2.2.1,(c.2.2.2.1,()))) fun f=>
 opt.bnd T2 _ (g43 it p (f.1,(c.2.2.2.2.1,(c.2.2.2.2.2.1,(c.2.2.2.2.2.2.1,()))))) fun g=>
 opt.ask _ (bif g.1 then Bool.false else Bool.true) (
 opt.ret _ ((14:Int),())) (
 opt.ret _ ((0:Int),())))))
def G38:=g38 it0
theorem ok38:CtrOk PG v2o (G38 std):=okF (a:=an38) (l:=la38) (gC ok43 (gC v9e (gC v89 (gN)))) (by kernel_rfl) fun _ _=>by kernel_rfl
def w4c:Ctr:=
 ⟨14,[.agg [.list 2, .list 1]],[],[(.ret,⟨[(0, .bool)],[],1⟩)]⟩
def v5z:List LA:=
 [⟨14,[false,true,false,true,true],0,⟨⟨[(1, .bptr 0 0),(3, .int .i64)],[.box [.list 2, .list 1]],28⟩,[(AX.ret,⟨[(2, .bool)],[],28⟩),((AX.exit 0),⟨[],[],28⟩)]⟩⟩]
def v6a:List JA:=
 [⟨14,[false,false,true],0,[(AX.normal,⟨[(1, .bptr 0 0),(13, .bool)],[.box [.list 2, .list 1]],28⟩)]⟩]
def v1g:List CF:=
 []
def v8u:Anns:=
 ⟨v1g,v6a,[]⟩
def v3e (p:Prim):(LD×(LD×T1))→Option ((LD×(LD×T1))⊕T25):=
 fun a=>opt.run _ (
 opt.ask _ (p.cmp .lss a.2.2.1 (p.ofNat (p.len a.2.1))) (
 opt.need _ (p.rowOk a.2.1 (p.nat a.2.2.1) [(CK.list 2)])<|
 opt.need _ (p.cmp .geq a.2.2.1 (0:Int))<|
 opt.ask _ (p.cmp .gtr (p.ofNat (p.len (p.rdL a.2.1 (p.nat a.2.2.1) 0))) (20:Int)) (
 opt.ret _ (Sum.inr (Sum.inl (Bool.true,())))) (
 opt.ret _ (Sum.inl (a.1,(a.2.1,((p.ar .add .i64 a.2.2.1 (1:Int)),())))))) (
 opt.ret _ (Sum.inr (Sum.inr ()))))
def v73 (it:It):(p:Prim)→(LD×(LD×Unit))→Option T2:=
 fun p x=>
 opt.bnd ((LD×(LD×T13))) _ (
 opt.run ((LD×(LD×T13))) (
 opt.ask _ (p.cmp .gtr (p.ofNat (p.len x.1)) (20:Int)) (
 opt.ret _ (x.1,(x.2.1,(Bool.true,())))) (
 opt.ret _ (x.1,(x.2.1,((p.cmp .gtr (p.ofNat (p.len x.2.1)) (8:Int)),())))))) fun a=>
 opt.ask _ a.2.2.1 (
 opt.ret _ (Bool.true,())) (
 opt.alt T2 (Unit) _ (
 it _ _ (v3e p) (a.1,(a.2.1,((0:Int),())))) (fun b=>
 opt.ret _ (b.1,())) (fun c=>
 opt.bnd (Unit) _ (some c) fun d=>
 opt.ret _ (Bool.false,())))
def v9y:=v73 it0
theorem v5f:CtrOk PG w4c (v9y std):=okF (a:=v8u) (l:=v5z) (gN) (by kernel_rfl) fun _ _=>by kernel_rfl
def v2t:Ctr:=
 ⟨29,[.agg [.list 2, .list 1]],[],[(.ret,⟨[(0, .bool)],[],1⟩)]⟩
def la29:List LA:=
 []
def ja29:List JA:=
 [⟨29,[false,true],0,[(AX.normal,⟨[(2, .bool)],[],11⟩)]⟩]
def v7s:List CF:=
 [⟨w7c,G19⟩,⟨w4c,v9y⟩]
def an29:Anns:=
 ⟨v7s,ja29,[]⟩
def g29 (it:It):(p:Prim)→(LD×(LD×Unit))→Option T2:=
 fun p x=>
 opt.bnd T2 _ (
 opt.run T2 (
 opt.bnd T2 _ (v73 it p (x.1,(x.2.1,()))) fun a=>
 opt.ask _ (bif a.1 then Bool.false else Bool.true) (
 opt.bnd T0 _ (g19 it p (x.1,(x.2.1,()))) fun b=>
 opt.ret _ ((p.cmp .eql b.1 (0:Int)),())) (
 opt.ret _ (Bool.false,())))) fun c=>
 opt.ret _ (c.1,())
def G29:=g29 it0
theorem ok29:CtrOk PG v2t (G29 std):=okF (a:=an29) (l:=la29) (gC v9g (gC v5f (gN))) (by kernel_rfl) fun _ _=>by kernel_rfl
end Go.Am
end
section
namespace M06
theorem sqn (a:Int):0≤a*a:=by
 rcases Int.le_total 0 a with h|h
 ·exact Int.mul_nonneg h h
 ·exact Int.mul_nonneg_of_nonpos_of_nonpos h h
abbrev Pt:=Int×Int
def sb (a b:Pt):Pt:=(a.1 - b.1,a.2 - b.2)
def ad (a b:Pt):Pt:=(a.1+b.1,a.2+b.2)
def crs (u v:Pt):Int:=u.1*v.2 - u.2*v.1
def dt (u v:Pt):Int:=u.1*v.1+u.2*v.2
def cr (a b c:Pt):Int:=crs (sb b a) (sb c a)
def Pos (u:Pt):Prop:=0<u.1∨(u.1=0∧0<u.2)
theorem x9y (u v w:Pt):v.1*crs u w=w.1*crs u v+u.1*crs v w:=by
 simp only [crs]; grind
theorem x9x (u v w:Pt):v.2*crs u w=w.2*crs u v+u.2*crs v w:=by
 simp only [crs]; grind
theorem z8j {u v w:Pt} (hu:Pos u) (hv:Pos v) (hw:Pos w) (h1:0≤crs u v) (h2:0≤crs v w):0≤crs u w:=by
 have i1:=x9y u v w
 have i2:=x9x u v w
 have u0:0≤u.1:=by rcases hu with h|h<;>omega
 have w0:0≤w.1:=by rcases hw with h|h<;>omega
 rcases hv with hv|⟨hv,hv2⟩
 ·have a:=Int.mul_nonneg w0 h1
  have b:=Int.mul_nonneg u0 h2
  refine Classical.byContradiction fun hc=>?_
  have:=Int.mul_neg_of_pos_of_neg hv (Int.not_le.1 hc)
  omega
 ·have e:crs v w= - (v.2*w.1):=by simp only [crs,hv]; grind
  have w1:w.1=0:=by
   refine Classical.byContradiction fun hc=>?_
   have:=Int.mul_pos hv2 (show 0<w.1 by omega)
   omega
  have hw2:0<w.2:=by rcases hw with h|h<;>omega
  have:crs u w=u.1*w.2:=by simp only [crs,w1]; grind
  rw [this]
  exact Int.mul_nonneg u0 (by omega)
theorem z2p {u v w:Pt} (hu:Pos u) (hv:Pos v) (hw:Pos w) (h1:0≤crs u v) (h2:0≤crs v w) (h3:0<crs u v∨0<crs v w):0<crs u w:=by
 refine Classical.byContradiction fun hc=>?_
 have h0:=z8j hu hv hw h1 h2
 have hz:crs u w=0:=by omega
 have i1:=x9y u v w
 have i2:=x9x u v w
 rw [hz] at i1 i2
 have u0:0≤u.1:=by rcases hu with h|h<;>omega
 have w0:0≤w.1:=by rcases hw with h|h<;>omega
 have a:=Int.mul_nonneg w0 h1
 have b:=Int.mul_nonneg u0 h2
 have a0:w.1*crs u v=0:=by omega
 have b0:u.1*crs v w=0:=by omega
 rcases h3 with h3|h3
 ·have w1:w.1=0:=by
   rcases Int.mul_eq_zero.1 a0 with h|h
   ·exact h
   ·omega
  have hw2:0<w.2:=by rcases hw with h|h<;>omega
  have u1:u.1=0:=by
   have:u.1*w.2=0:=by simp only [crs,w1] at hz; grind
   rcases Int.mul_eq_zero.1 this with h|h
   ·exact h
   ·omega
  have hu2:0<u.2:=by rcases hu with h|h<;>omega
  have v0:0≤v.1:=by rcases hv with h|h<;>omega
  have e:crs u v= - (u.2*v.1):=by simp only [crs,u1]; grind
  have:=Int.mul_nonneg (show 0≤u.2 by omega) v0
  omega
 ·have u1:u.1=0:=by
   rcases Int.mul_eq_zero.1 b0 with h|h
   ·exact h
   ·omega
  have hu2:0<u.2:=by rcases hu with h|h<;>omega
  have v0:0≤v.1:=by rcases hv with h|h<;>omega
  have e:crs u v= - (u.2*v.1):=by simp only [crs,u1]; grind
  have v1:v.1=0:=by
   refine Classical.byContradiction fun hc=>?_
   have:=Int.mul_pos hu2 (show 0<v.1 by omega)
   omega
  have hv2:0<v.2:=by rcases hv with h|h<;>omega
  have e2:crs v w= - (v.2*w.1):=by simp only [crs,v1]; grind
  have:=Int.mul_nonneg (show 0≤v.2 by omega) w0
  omega
end M06
end
section
namespace Go.Am
open M06
theorem z47 {S R:Type} {b:S→Option (S⊕R)} (n:Nat) (e:Nat→S) (P:Nat→Bool) (r:Nat→R) (rend:R)
  (step:∀ i,i<n→b (e i)=if P i=true then some (.inr (r i)) else some (.inl (e (i+1)))) (stop:b (e n)=some (.inr rend)):
  (∃ i,i<n∧P i=true∧(∀ j,j<i→P j=false)∧z5k b (e 0)=some (r i))∨((∀ i,i<n→P i=false)∧z5k b (e 0)=some rend):=by
 have key:∀ k m,n - m=k→m≤n→(∃ i,m≤i∧i<n∧P i=true∧(∀ j,m≤j→j<i→P j=false)∧z5k b (e m)=some (r i))∨((∀ i,m≤i→i<n→P i=false)∧z5k b (e m)=some rend):=by
  intro k
  induction k with
  |zero=>
   intro m hm hle
   have:m=n:=by omega
   subst this
   refine .inr ⟨fun i h1 h2=>by omega,?_⟩
   rw [z0l,stop]
  |succ k ih=>
   intro m hm hle
   have hlt:m<n:=by omega
   have hs:=step m hlt
   cases hP:P m with
   |true=>
    rw [hP] at hs
    refine .inl ⟨m,Nat.le_refl _,hlt,hP,fun j h1 h2=>by omega,?_⟩
    rw [z0l,hs]; rfl
   |false=>
    rw [hP] at hs
    have hit:z5k b (e m)=z5k b (e (m+1)):=by
     rw [z0l,hs]; rfl
    rcases ih (m+1) (by omega) hlt with ⟨i,h1,h2,h3,h4,h5⟩|⟨h1,h2⟩
    ·refine .inl ⟨i,by omega,h2,h3,fun j a b=>?_,by rw [hit]; exact h5⟩
     by_cases hj:j=m
     ·subst hj; exact hP
     ·exact h4 j (by omega) b
    ·refine .inr ⟨fun i a b=>?_,by rw [hit]; exact h2⟩
     by_cases hj:i=m
     ·subst hj; exact hP
     ·exact h1 i (by omega) b
 rcases key n 0 rfl (Nat.zero_le _) with ⟨i,_,h2,h3,h4,h5⟩|⟨h1,h2⟩
 ·exact .inl ⟨i,h2,h3,fun j hj=>h4 j (Nat.zero_le _) hj,h5⟩
 ·exact .inr ⟨fun i hi=>h1 i (Nat.zero_le _) hi,h2⟩
def eP (p:Pt):List D:=[.int .i64 p.1, .int .i64 p.2]
def z0d (l:List Pt):List (List D):=l.map eP
def eH (l:List Pt):List D:=[.list false 2 (z0d l)]
def z19 (h:List (List Pt)):List (List D):=h.map eH
theorem z02 (p:Pt):z3b [CK.int IntKind.i64,CK.int IntKind.i64] (eP p)=true:=rfl
theorem z17 (p:Pt):dI ((eP p)[0]?.getD D.nilp)=p.1:=rfl
theorem z16 (p:Pt):dI ((eP p)[1]?.getD D.nilp)=p.2:=rfl
theorem z88 (l:List Pt):z3b [CK.list 2] (eH l)=true:=rfl
theorem x6d (l:List Pt):dL ((eH l)[0]?.getD D.nilp)=z0d l:=rfl
def z43 (l:List Pt):Prop:=1≤l.length∧l.length≤12
instance (l:List Pt):Decidable (z43 l):=by unfold z43; infer_instance
def z03 (lo hi:Int) (p:Pt):Prop:=lo≤p.1∧p.1≤hi∧lo≤p.2∧p.2≤hi
instance (lo hi:Int) (p:Pt):Decidable (z03 lo hi p):=by unfold z03; infer_instance
theorem x40 (l:List Pt):G50 std (z0d l,())=some (decide (z43 l),()):=by
 unfold G50 z43
 simp only [z1a,z1b,z0d]
 by_cases h1:1≤l.length
 ·have:(l.length:Int)>0:=by omega
  simp only [this,h1,true_and,if_true,Option.bind_some]
  congr 2
  rw [decide_eq_decide]; omega
 ·have:¬ (l.length:Int)>0:=by omega
  simp only [this,h1,false_and,if_false,Option.bind_some,decide_false]
theorem x4z (l:List Pt):G55 std (z0d l,())=some (decide (z43 l),()):=by
 unfold G55 z43
 simp only [z1a,z1b,z0d]
 by_cases h1:1≤l.length
 ·have:(l.length:Int)≥1:=by omega
  simp only [this,h1,true_and,if_true,Option.bind_some]
  congr 2
  rw [decide_eq_decide]; omega
 ·have:¬ (l.length:Int)≥1:=by omega
  simp only [this,h1,false_and,if_false,Option.bind_some,decide_false]
theorem w4u (lo hi:Int) (l:List Pt) (hl:l.length≤1000000):G53 std (lo,hi,z0d l,())=some (decide (∀ p∈l,z03 lo hi p),()):=by
 unfold G53
 have key:=z47 (b:=w28 std) l.length (fun i=>(lo,hi,z0d l,(l.length:Int),(i:Int),())) (fun i=>!decide (z03 lo hi (l.getD i (0,0)))) (fun i=> .inl (lo,hi,(i:Int),())) (.inr (lo,hi,())) (fun i hi'=>by
  obtain ⟨m,hm⟩:=z0w hi'
  have hw:=z09 (i:=i) (by omega)
  have hlt:(i:Int)<l.length:=by omega
  have h0:(0:Int)≤i:=by omega
  have hg:l.getD i (0,0)=m:=by simp [List.getD_eq_getElem?_getD,hm]
  simp only [hg,w28,z1a,z1b,z0d,z02,z17,z16,hm,hlt,h0,ge_iff_le,z0f,hw]
  by_cases k:z03 lo hi m
  ·have k':=k
   obtain ⟨k1,k2,k3,k4⟩:=k'
   have e1:¬ min m.1 m.2<lo:=by omega
   have e2:¬ max m.1 m.2>hi:=by omega
   simp [k,e1,e2]
  ·by_cases e1:min m.1 m.2<lo
   ·simp [k,e1]
   ·have e2:max m.1 m.2>hi:=by
     refine Classical.byContradiction fun hc=>k ⟨?_,?_,?_,?_⟩<;>omega
    simp [k,e1,e2]) (by
  have hn:¬ (l.length:Int)<l.length:=by omega
  simp only [w28,z1a,z1b,hn])
 have e0:(lo,hi,z0d l,std.ofNat (std.len (z0d l)),(0:Int),())=(lo,hi,z0d l,(l.length:Int),((0:Nat):Int),()):=by simp [z1o,z3i,z0d]
 simp only [g53,it0]
 rw [e0]
 rcases key with ⟨i,h1,h2,_,h4⟩|⟨h1,h2⟩
 ·rw [h4]
  have hne:¬ ∀ p∈l,z03 lo hi p:=fun h=>by
   obtain ⟨m,hm⟩:=z0w h1
   have:=h m (List.mem_of_getElem? hm)
   simp [List.getD_eq_getElem?_getD,hm,this] at h2
  have h0:(0:Int)≤i:=by omega
  simp only [z1a,z1b,decide_eq_false hne,ge_iff_le,h0]
 ·rw [h2]
  have ha:∀ p∈l,z03 lo hi p:=fun p hp=>by
   obtain ⟨i,hi'⟩:=List.getElem?_of_mem hp
   have:=h1 i (List.getElem?_eq_some_iff.1 hi').1
   simpa [List.getD_eq_getElem?_getD,hi'] using this
  simp only [z1a,z1b,decide_eq_true ha]
  decide
theorem w4t (lo hi:Int) (l:List Pt) (hl:l.length≤1000000):G56 std (z0d l,lo,hi,())=some (decide (∀ p∈l,z03 lo hi p),()):=by
 unfold G56
 have key:=z47 (b:=w27 std) l.length (fun i=>(z0d l,lo,hi,(i:Int),())) (fun i=>!decide (z03 lo hi (l.getD i (0,0)))) (fun i=> .inl (false,())) (.inr ()) (fun i hi'=>by
  obtain ⟨m,hm⟩:=z0w hi'
  have hw:=z09 (i:=i) (by omega)
  have hlt:(i:Int)<l.length:=by omega
  have h0:(0:Int)≤i:=by omega
  have hg:l.getD i (0,0)=m:=by simp [List.getD_eq_getElem?_getD,hm]
  simp only [hg,w27,z1a,z1b,z0d,z02,z17,z16,hm,hlt,h0,ge_iff_le,z0f,hw]
  by_cases k:z03 lo hi m
  ·have k':=k
   obtain ⟨k1,k2,k3,k4⟩:=k'
   have e1:¬ m.1<lo:=by omega
   have e2:¬ m.1>hi:=by omega
   have e3:¬ m.2<lo:=by omega
   have e4:¬ m.2>hi:=by omega
   simp [k,e1,e2,e3,e4,z0f,hw]
  ·by_cases e1:m.1<lo
   ·simp [k,e1]
   ·by_cases e2:m.1>hi
    ·simp [k,e1,e2]
    ·by_cases e3:m.2<lo
     ·simp [k,e1,e2,e3]
     ·have e4:m.2>hi:=by
       refine Classical.byContradiction fun hc=>k ⟨?_,?_,?_,?_⟩<;>omega
      simp [k,e1,e2,e3,e4,z0f,hw]) (by
  have hn:¬ (l.length:Int)<l.length:=by omega
  simp only [w27,z1a,z1b,z0d,hn])
 have e0:(z0d l,lo,hi,(0:Int),())=(z0d l,lo,hi,((0:Nat):Int),()):=rfl
 simp only [g56,it0]
 rw [e0]
 rcases key with ⟨i,h1,h2,_,h4⟩|⟨h1,h2⟩
 ·rw [h4]
  have hne:¬ ∀ p∈l,z03 lo hi p:=fun h=>by
   obtain ⟨m,hm⟩:=z0w h1
   have:=h m (List.mem_of_getElem? hm)
   simp [List.getD_eq_getElem?_getD,hm,this] at h2
  simp only [z1a,z1b,decide_eq_false hne]
 ·rw [h2]
  have ha:∀ p∈l,z03 lo hi p:=fun p hp=>by
   obtain ⟨i,hi'⟩:=List.getElem?_of_mem hp
   have:=h1 i (List.getElem?_eq_some_iff.1 hi').1
   simpa [List.getD_eq_getElem?_getD,hi'] using this
  simp only [z1a,z1b,decide_eq_true ha]
end Go.Am
end
section
namespace Go.Am
open Go.ChangeShapes Go.WideShapes Go.ChangeAt M06
theorem v4x {x:D} (h:DK (.int .u8) x):∃ n:Int,x= .int .u8 n∧(Lit.int IntKind.u8 n).wf=true:=by
 match x,h with
 | .int k n,h=>obtain ⟨rfl,h⟩:=h; exact ⟨n,rfl,h⟩
theorem w33 {x:D} (h:DK (.int .i16) x):∃ n:Int,x= .int .i16 n∧(Lit.int IntKind.i16 n).wf=true:=by
 match x,h with
 | .int k n,h=>obtain ⟨rfl,h⟩:=h; exact ⟨n,rfl,h⟩
theorem x17 {es:List (List D)} (hr:∀ r∈es,DKs [.int .i64, .int .i64] r):∃ l:List Pt,es=z0d l:=by
 induction es with
 |nil=>exact ⟨[],rfl⟩
 |cons r es ih=>
  obtain ⟨l,rfl⟩:=ih fun r hr'=>hr r (List.mem_cons_of_mem _ hr')
  have h0:=hr r (List.mem_cons_self ..)
  match r,h0 with
  |[.int k1 a, .int k2 b],h0=>
   obtain ⟨⟨rfl,a1⟩,⟨rfl,a2⟩,_⟩:=h0
   exact ⟨(a,b)::l,rfl⟩
theorem y9x {x:D} (h:DK (.list [.int .i64, .int .i64]) x):∃ l:List Pt,x= .list false 2 (z0d l):=by
 match x,h with
 | .list f z es,h=>
  obtain ⟨rfl,rfl,hl,hr⟩:=h
  rw [z9e] at hr
  clear hl
  obtain ⟨l,rfl⟩:=x17 hr
  exact ⟨l,rfl⟩
theorem w12 {x:D} (h:DK (.list [.list [.int .i64, .int .i64]]) x):∃ hs:List (List Pt),x= .list false 1 (z19 hs):=by
 match x,h with
 | .list f z es,h=>
  obtain ⟨rfl,rfl,hl,hr⟩:=h
  rw [z9e] at hr
  clear hl
  have:∃ hs:List (List Pt),es=z19 hs:=by
   induction es with
   |nil=>exact ⟨[],rfl⟩
   |cons r es ih=>
    obtain ⟨ws,rfl⟩:=ih fun r hr'=>hr r (List.mem_cons_of_mem _ hr')
    have h0:=hr r (List.mem_cons_self ..)
    match r,h0 with
    |[y],h0=>
     obtain ⟨l,rfl⟩:=y9x h0.1
     exact ⟨l::ws,rfl⟩
  obtain ⟨ws,rfl⟩:=this
  exact ⟨ws,rfl⟩
theorem w14 {x:D} (h:∃ ds,x= .agg ds∧DKs [.list [.int .i64, .int .i64], .list [.list [.int .i64, .int .i64]]] ds):∃ (l:List Pt) (hs:List (List Pt)),x= .agg [.list false 2 (z0d l), .list false 1 (z19 hs)]:=by
 obtain ⟨ds,rfl,h⟩:=h
 match ds,h with
 |[a,b],h=>
  obtain ⟨l,rfl⟩:=y9x h.1
  obtain ⟨hs,rfl⟩:=w12 h.2.1
  exact ⟨l,hs,rfl⟩
end Go.Am
end
section
namespace Go.Am
open Go.Proofs Go.Sort Go.Shelf
section
variable {P:Program}
theorem x1l {w w':World} (h1:w'.os=w.os) (h2:w'.tape=w.tape) (h3:w'.output=w.output) (h4:w.heap.size≤w'.heap.size) (h5:∀ b,b<w.heap.size→w'.heap[b]?=w.heap[b]?) (h6:w.drawn≤w'.drawn):
  ∃ q os',w'=grow (w.drewN q) os':=by
 refine ⟨w'.drawn - w.drawn,w'.heap.extract w.heap.size w'.heap.size,?_⟩
 obtain ⟨hp,tp,dr,os,out⟩:=w
 obtain ⟨hp',tp',dr',os',out'⟩:=w'
 simp only at h1 h2 h3 h4 h5 h6
 subst h1 h2 h3
 simp only [grow,World.drewN]
 have e1:hp'=hp++hp'.extract hp.size hp'.size:=by
  apply Array.ext_getElem?
  intro i
  rw [Array.getElem?_append]
  split
  ·rename_i hlt; exact h5 i hlt
  ·rename_i hge
   rw [Array.getElem?_extract]
   split
   ·congr 1; omega
   ·rw [Array.getElem?_eq_none (by omega)]
 have e2:dr'=dr+(dr' - dr):=by omega
 rw [←e1, ←e2]
theorem x6p {w:World} {g:FuncId} {args:Array Value} {xs:List D} {k:IntKind} {n:Int} {h':List AO} (ha:z9f P g (toA xs) [] (.d (.int k n)) h') (hl:args.toList.length=xs.length)
  (hx:∀ (i:Nat) (x:D),xs[i]?=some x→∃ v,args.toList[i]?=some v∧z1s (fun _=>False) w x v):Calls P g args w fun e w'=>e= .returned (.int k n)∧∃ q os',w'=grow (w.drewN q) os':=by
 intro cs
 let ρ0:Rho:=⟨fun _=>none,fun _=>False⟩
 have hown:z0h ρ0 []=fun _=>False:=by
  funext c
  apply propext
  refine ⟨fun h=>?_,False.elim⟩
  rcases h with h|⟨id,L,hL,_⟩
  ·exact h
  ·cases hL
 have hr:z0b P ρ0 [] w:=⟨fun id L hL=>(by cases hL),fun id id' L L' hL=>(by cases hL),fun b hb=>hb.elim,fun id L hL=>(by cases hL)⟩
 obtain ⟨ρ',v,w',fr,s1,s2,s3,s4,s5,s6,s7⟩:=ha.run ρ0 args w cs hr (fun id hid=>absurd rfl hid) ⟨by rw [z00, ←hl]; simp,fun i x hi=>by
  rw [z1n] at hi
  obtain ⟨d,hd,rfl⟩:=Option.map_eq_some_iff.1 hi
  obtain ⟨v,hv,hr⟩:=hx i d hd
  rw [hown,Array.getD_eq_getD_getElem?]
  have:args[i]?=some v:=by simpa using hv
  rw [this]; exact .d hr⟩
 refine ⟨.returned v,w',fr,⟨?_,x1l s7.os s7.tape s7.output s7.keep.size (fun c hc=>s7.keep.frame c hc ?_) s7.keep.drawn⟩,s1,s2,s3⟩
 ·cases s4 with
  |d h=>cases h; rfl
 ·rw [hown]; exact id
variable {α:Type} [Inhabited α]
def y6g (f:α→Int×Int) (x:α):List Value:=[.int .i64 (f x).1, .int .i64 (f x).2]
def z3w (f:α→Int×Int) (x:α):List D:=[.int .i64 (f x).1, .int .i64 (f x).2]
def y8j (P:Program) (f g:FuncId) (cf:α→α→Int) (tp:α→Int×Int):Prop:=
 ∀ (blk off cap:Nat) (d:Array α) (w:World),CmpLays P g #[] (y6g tp) 2 cf blk off d.size w→HoldsK (y6g tp) 2 w blk off d→blk<w.heap.size→d.size<4611686018427387904→
  Calls P f #[.slice (some ⟨blk,off,none⟩) d.size cap, .func (.func g) #[] #[]] w fun e w'=>
   e= .returned (.tuple #[])∧∃ n os,w'=sortWorldK (y6g tp) 2 w blk off n (pdq (ltOf cf) d 0 d.size (Lib.bitLen d.size) true true) os
theorem x6k {g:FuncId} {cf:α→α→Int} {tp:α→Int×Int} (h:∀ x y,z9f P g (toA [.agg (z3w tp x), .agg (z3w tp y)]) [] (.d (.int .i64 (cf x y))) []) (blk off size:Nat) (w:World):CmpLays P g #[] (y6g tp) 2 cf blk off size w:=by
 intro m os dk hdk x y
 refine x6p (h x y) (by simp) fun i z hz=>?_
 have ag:∀ (O:Nat→Prop) (w:World) (x:α),z1s O w (.agg (z3w tp x)) (.agg (y6g tp x).toArray):=fun O w x=>
  .agg _ _ (by simp [z3w,y6g]) fun i d hi=>by
   match i,hi with
   |0,hi=>cases hi; exact .int _ _
   |1,hi=>cases hi; exact .int _ _
   |i+2,hi=>simp [z3w] at hi
 match i,hz with
 |0,hz=>cases hz; exact ⟨_,by simp,ag _ _ _⟩
 |1,hz=>cases hz; exact ⟨_,by simp,ag _ _ _⟩
 |i+2,hz=>simp at hz
theorem x0c {tp:α→Int×Int} {d:Array α} {i j:Nat} (hi:i<d.size) (hj:j<2):(Go.Sort.flatK (y6g tp) 2 d)[i*2+j]! =(y6g tp d[i])[j]! :=by
 rw [get_flatK _ _ _ _ (by omega)]
 have e1:(i*2+j) / 2=i:=by omega
 have e2:(i*2+j) % 2=j:=by omega
 rw [e1,e2,getElem!_pos d i hi]
omit [Inhabited α] in
theorem x4h {tp:α→Int×Int} {x:α} {j:Nat} {y:D} (h:(z3w tp x)[j]?=some y):j<2∧∃ n,y= .int .i64 n∧(y6g tp x)[j]! = .int .i64 n:=by
 match j,h with
 |0,h=>cases h; exact ⟨by omega,_,rfl,rfl⟩
 |1,h=>cases h; exact ⟨by omega,_,rfl,rfl⟩
 |j+2,h=>simp [z3w] at h
theorem y9p {f g:FuncId} {cf:α→α→Int} {tp:α→Int×Int} (hO:SWO (ltOf cf)) (hS:y8j P f g cf tp) (hcmp:∀ x y,z9f P g (toA [.agg (z3w tp x), .agg (z3w tp y)]) [] (.d (.int .i64 (cf x y))) [])
  {d:Array α} (hd:0<d.size) (hsz:d.size<4611686018427387904) (cap:Option Nat):
  z9f P f [.slice 0 2 0 d.size cap, .clo (.func g) [] []] [.row (d.toList.map (z3w tp))] (.tuple []) [.row ((pdq (ltOf cf) d 0 d.size (Lib.bitLen d.size) true true).toList.map (z3w tp))]:=⟨by
 intro ρ vs w cs hr hdm har
 obtain ⟨hv1,hv2⟩:=har
 have hs1:vs.size=2:=hv1
 obtain ⟨L,cp,hL,hz,hvs0⟩:∃ L cp,ρ 0=some L∧L.esz=2∧vs.getD 0 undef= .slice (some ⟨L.blk,L.base,none⟩) d.size cp:=by
  have hv:=hv2 0 _ rfl
  generalize hq:vs.getD 0 undef=q at hv
  have key:∀ z,z=d.size→z0p ρ (z0h ρ [.row (d.toList.map (z3w tp))]) w (.slice 0 2 0 z cap) q→∃ L cp,ρ 0=some L∧L.esz=2∧q= .slice (some ⟨L.blk,L.base,none⟩) d.size cp:=by
   intro z hz hv
   cases hv with
   |slice _ _ _ _ _ L a c h1 h2 h3 h4 h5=>
    subst hz
    refine ⟨L,c,h1,h2,?_⟩
    rw [h3 (by omega)]; simp
   |nils _ _ _ _ a _=>omega
  exact key _ rfl hv
 have hvs1:vs.getD 1 undef= .func (.func g) #[] #[]:=by
  have hv:=hv2 1 _ rfl
  generalize hq:vs.getD 1 undef=q at hv
  cases hv with
  |clo _ _ _ vf vc hf hc _ _=>
   have e1:vf=#[]:=Array.size_eq_zero_iff.1 (by simpa using hf)
   have e2:vc=#[]:=Array.size_eq_zero_iff.1 (by simpa using hc)
   rw [e1,e2]
 have hvs:vs=#[.slice (some ⟨L.blk,L.base,none⟩) d.size cp, .func (.func g) #[] #[]]:=by
  apply Array.ext (by simpa using hs1)
  intro i h1 h2
  simp only [Array.getD_eq_getD_getElem?] at hvs0 hvs1
  match i,h1,h2 with
  |0,h1,h2=>rw [Array.getElem?_eq_getElem h1] at hvs0; simpa using hvs0
  |1,h1,h2=>rw [Array.getElem?_eq_getElem h1] at hvs1; simpa using hvs1
  |i+2,h1,h2=>simp at h2; omega
 subst hvs
 have hlive:(z0j [AO.row (d.toList.map (z3w tp))] 0).live=true:=rfl
 obtain ⟨hlt,ho⟩:=hr.obj 0 L hL
 obtain ⟨hpos,c,t,hcb,hlen,hcell⟩:=(show z1x P ρ _ w L (.row (d.toList.map (z3w tp))) from ho)
 rw [hz] at hlen hcell
 have hcell':∀ i j,i<d.size→j<2→c[L.base+i*2+j]?=some ((Go.Sort.flatK (y6g tp) 2 d)[i*2+j]!):=by
  intro i j hi hj
  have hri:(d.toList.map (z3w tp))[i]?=some (z3w tp d[i]):=by simp [hi]
  have hx:∃ y,(z3w tp d[i])[j]?=some y:=by
   match j,hj with
   |0,_=>exact ⟨_,rfl⟩
   |1,_=>exact ⟨_,rfl⟩
  obtain ⟨y,hy⟩:=hx
  obtain ⟨v,hv,_,hrel⟩:=hcell i _ j y hri hy
  obtain ⟨_,n,rfl,hn⟩:=x4h hy
  rw [hv,x0c hi hj,hn]
  cases hrel; rfl
 have hidx:∀ q,q<(Go.Sort.flatK (y6g tp) 2 d).size→c[L.base+q]?=some ((Go.Sort.flatK (y6g tp) 2 d)[q]!):=by
  intro q hq
  simp only [size_flatK] at hq
  have:=hcell' (q / 2) (q % 2) (by omega) (by omega)
  have e:q / 2*2+q % 2=q:=by omega
  rw [Nat.add_assoc,e] at this; exact this
 have hH:HoldsK (y6g tp) 2 w L.blk L.base d:=by
  intro q hq
  refine ⟨?_,?_⟩
  ·unfold World.cell?
   simp only [hcb]
   have:=hidx q hq
   simpa using this
  ·unfold World.frozen?
   simp only [hcb]
   simp
 obtain ⟨e,w',fr,⟨rfl,n,os,hw'⟩,hcm,hfn,hlv⟩:=hS L.blk L.base cp d w (x6k hcmp _ _ _ _) hH hlt hsz cs
 generalize hdk:pdq (ltOf cf) d 0 d.size (Lib.bitLen d.size) true true=dk at hw'⊢
 have hdks:dk.size=d.size:=by
  rw [←hdk]
  exact (pdq_sorts (ltOf cf) hO d 0 d.size (Lib.bitLen d.size) true true (Nat.zero_le _) (Nat.le_refl _) (Or.inl rfl)).1.1
 have hr1:=hr.drawn (w.drawn+n) (Nat.le_add_right _ _)
 have hx1:Ext (fun id=>True) ρ [.row (d.toList.map (z3w tp))] w ρ [.row (d.toList.map (z3w tp))] { w with drawn:=w.drawn+n }:=Ext.drawn _ _ _ _ _ (Nat.le_add_right _ _)
 let c':=putCells id L.base (Go.Sort.flatK (y6g tp) 2 dk) c
 have hput:putRowK (y6g tp) 2 (Sort.ahead w n) L.blk L.base dk=World.setObj { w with drawn:=w.drawn+n } L.blk (.cells c' t (0,0)):=by
  unfold putRowK putRow mapBlock World.setObj Sort.ahead
  congr 1
  apply Array.ext_getElem?
  intro b
  simp only [Array.getElem?_modify,Array.getElem?_setIfInBounds]
  by_cases hb:L.blk=b
  ·subst hb
   simp only [if_true,hlt,hcb,Option.map_some,onCells]
   rfl
  ·simp [hb]
 have hc's:c'.size=c.size:=by simp [c',putCells]
 have hbs:∀ k,z1j { w with drawn:=w.drawn+n } L.blk=some k→z1j (World.setObj { w with drawn:=w.drawn+n } L.blk (.cells c' t (0,0))) L.blk=some k:=by
  intro k hk
  rw [z0v (w:={ w with drawn:=w.drawn+n }) hcb] at hk; cases hk
  rw [z0v (z0r { w with drawn:=w.drawn+n } L.blk _ hlt)]
  rw [hc's]
 have hc'get:∀ i j,i<d.size→j<2→c'[L.base+i*2+j]?=some ((Go.Sort.flatK (y6g tp) 2 dk)[i*2+j]!):=by
  intro i j hi hj
  have h1:=hcell' i j hi hj
  have hq:L.base+i*2+j<c.size:=(Array.getElem?_eq_some_iff.1 h1).1
  simp only [c',putCells]
  rw [Array.getElem?_mapIdx,h1]
  simp only [Option.map_some,size_flatK,hdks]
  rw [if_pos (by omega)]
  have e:L.base+i*2+j - L.base=i*2+j:=by omega
  rw [e]; rfl
 have hset:=hr1.set hL hlive (.row (dk.toList.map (z3w tp))) rfl (.cells c' t (0,0)) hbs (by
  refine ⟨hpos,c',t,z0r _ _ _ hlt,fun i r hi=>?_,fun i r j y hi hy=>?_⟩
  ·rw [hz]
   rw [List.getElem?_map] at hi
   obtain ⟨x,_,rfl⟩:=Option.map_eq_some_iff.1 hi
   rfl
  ·rw [hz]
   rw [List.getElem?_map] at hi
   obtain ⟨x,hx,rfl⟩:=Option.map_eq_some_iff.1 hi
   have hil:i<dk.size:=by
    have:=(List.getElem?_eq_some_iff.1 hx).1
    simpa using this
   have hxe:dk[i]=x:=by
    have:=(List.getElem?_eq_some_iff.1 hx).2
    simpa using this
   obtain ⟨hj,m,rfl,hm⟩:=x4h hy
   refine ⟨.int .i64 m,?_,rfl, .int _ _⟩
   rw [hc'get i j (by omega) hj,x0c hil hj,hxe,hm])
 have hext:=Ext.set (fun _=>True) hr1 hL hlive (.row (dk.toList.map (z3w tp))) rfl (.cells c' t (0,0)) hbs
 have hw2:w'=grow (World.setObj { w with drawn:=w.drawn+n } L.blk (.cells c' t (0,0))) os:=by rw [hw']; unfold sortWorldK; rw [hput]
 generalize hwx:World.setObj { w with drawn:=w.drawn+n } L.blk (.cells c' t (0,0))=wx at hset hext hw2
 have hold:∀ b,b<wx.heap.size→(grow wx os).heap[b]?=wx.heap[b]?:=by
  intro b hb
  show (wx.heap++os)[b]?=_
  rw [Array.getElem?_append_left hb]
 have hkg:z5c (z0h ρ (z1f [.row (d.toList.map (z3w tp))] 0 (.row (dk.toList.map (z3w tp))))) (z0h ρ (z1f [.row (d.toList.map (z3w tp))] 0 (.row (dk.toList.map (z3w tp))))) wx (grow wx os):=
  ⟨by show _≤(wx.heap++os).size; simp,fun b hb _=>hold b hb,fun _ _ h=>h,fun b k hb=>by
   have:=y8g hb
   unfold z1j; rw [hold b this]; exact hb,z0s.refl _⟩
 have hr3:z0b P ρ [.row (dk.toList.map (z3w tp))] (grow wx os):=hset.of_keep hkg fun b hb=>hold b (z9k hset hb)
 have hx3:Ext (fun _=>True) ρ (z1f [.row (d.toList.map (z3w tp))] 0 (.row (dk.toList.map (z3w tp)))) wx ρ [.row (dk.toList.map (z3w tp))] (grow wx os):=
  ⟨rfl,rfl,rfl,hkg,fun _ _=>rfl,rfl,fun b hb=>hold b (hset.fr b hb)⟩
 subst hw2
 exact ⟨ρ, .tuple #[],_,fr,hcm,hfn,hlv, .tuple [] #[] rfl (fun i x hx=>by simp at hx),hr3,fun id hid=>hdm id hid,((hx1.trans hext).trans hx3).mono fun _ _=>trivial⟩⟩
end
end Go.Am
end
section
namespace M06
def Lt (a b:Pt):Prop:=Pos (sb b a)
def Le (a b:Pt):Prop:=a=b∨Lt a b
theorem Lt.trans {a b c:Pt} (h1:Lt a b) (h2:Lt b c):Lt a c:=by
 simp only [Lt,Pos,sb] at*; omega
theorem Lt.irrefl {a:Pt} (h:Lt a a):False:=by
 simp only [Lt,Pos,sb] at h; omega
theorem Lt.asymm {a b:Pt} (h:Lt a b) (k:Lt b a):False:=(h.trans k).irrefl
theorem Lt.ne {a b:Pt} (h:Lt a b):a≠b:=by rintro rfl; exact h.irrefl
theorem x3z (a b:Pt):Lt a b∨a=b∨Lt b a:=by
 obtain ⟨a1,a2⟩:=a; obtain ⟨b1,b2⟩:=b
 simp only [Lt,Pos,sb,Prod.mk.injEq]; omega
theorem w2v (a b:Pt):cr a b a=0:=by simp only [cr,crs,sb]; grind
theorem x4s (a b:Pt):cr a b b=0:=by simp only [cr,crs,sb]; grind
theorem y4n (a b c:Pt):cr a c b= - cr a b c:=by simp only [cr,crs,sb]; grind
theorem y78 (s t x:Pt):crs (sb t x) (sb t s)=cr s t x:=by simp only [cr,crs,sb]; grind
theorem w2w (t p x:Pt):crs (sb t x) (sb p t)=cr t p x:=by simp only [cr,crs,sb]; grind
theorem x4t (s t p:Pt):crs (sb t s) (sb p t)=cr s t p:=by simp only [cr,crs,sb]; grind
theorem v20 (s t c p:Pt):cr s t p=cr s t c+crs (sb t s) (sb p c):=by simp only [cr,crs,sb]; grind
def Cov:List Pt→Pt→Prop
 |[],_=>False
 |[t],x=>x=t
 |t::s::r,x=>x=t∨(Lt s x∧Lt x t∧0≤cr s t x)∨Cov (s::r) x
def Conv:List Pt→Prop
 |t::s::r::l=>0<cr r s t∧Conv (s::r::l)
 |_=>True
def w3n:List Pt→Pt→Prop
 |t::s::r,x=>(0≤cr s t x∧(cr s t x=0→Le s x∧Le x t))∧w3n (s::r) x
 |_,_=>True
def v4t:List Pt→Pt→Prop
 |t::s::r,x=>0<cr s t x∧v4t (s::r) x
 |_,_=>True
def x1j:List Pt→Prop
 |t::s::r=>Lt s t∧x1j (s::r)
 |_=>True
def pop (p:Pt):List Pt→List Pt
 |t::s::r=>if cr s t p≤0 then pop p (s::r) else t::s::r
 |l=>l
termination_by l=>l.length
def push (st:List Pt) (p:Pt):List Pt:=p::pop p st
theorem Conv.tail {t:Pt} {l:List Pt} (h:Conv (t::l)):Conv l:=by
 match l,h with
 |[],_=>trivial
 |[_],_=>trivial
 |_::_::_,h=>exact h.2
theorem x1j.tail {t:Pt} {l:List Pt} (h:x1j (t::l)):x1j l:=by
 match l,h with
 |[],_=>trivial
 |_::_,h=>exact h.2
theorem w3n.tail {t:Pt} {l:List Pt} {x:Pt} (h:w3n (t::l) x):w3n l x:=by
 match l,h with
 |[],_=>trivial
 |_::_,h=>exact h.2
theorem w2x {p t s:Pt} {r:List Pt} {x:Pt} (h1:Lt s t) (h2:Lt t p) (hc:cr s t p≤0) (h:Cov (p::t::s::r) x):Cov (p::s::r) x:=by
 have hsp:Lt s p:=h1.trans h2
 rcases h with h|⟨a,b,c⟩|h|⟨a,b,c⟩|h
 ·exact .inl h
 ·refine .inr (.inl ⟨h1.trans a,b,?_⟩)
  have e1:0≤crs (sb p x) (sb p t):=by rw [y78]; exact c
  have e2:0≤crs (sb p t) (sb p s):=by rw [y78,y4n]; omega
  have:=z8j (show Pos (sb p x) from b) (show Pos (sb p t) from h2) (show Pos (sb p s) from hsp) e1 e2
  rw [y78] at this; exact this
 ·subst h
  refine .inr (.inl ⟨h1,h2,?_⟩)
  rw [y4n]; omega
 ·refine .inr (.inl ⟨a,b.trans h2,?_⟩)
  have e1:0≤crs (sb p s) (sb t s):=by
   have:crs (sb p s) (sb t s)=cr s p t:=rfl
   rw [this,y4n]; omega
  exact z8j (show Pos (sb p s) from hsp) (show Pos (sb t s) from h1) (show Pos (sb x s) from a) e1 c
 ·exact .inr (.inr h)
structure x61 (q:List Pt) (st:List Pt):Prop where
 desc:x1j st
 conv:Conv st
 cov:∀ x∈q,Cov st x
 edge:∀ x∈q,w3n st x
 sub:∀ y∈st,y∈q
theorem y1n (p:Pt) {t s:Pt} {r:List Pt} (h:cr s t p≤0):pop p (t::s::r)=pop p (s::r):=by
 rw [pop]; simp [h]
theorem y1m (p:Pt) {t s:Pt} {r:List Pt} (h:¬ cr s t p≤0):pop p (t::s::r)=t::s::r:=by
 rw [pop]; simp [h]
theorem y32 (p t:Pt):pop p [t]=[t]:=by rw [pop]; simp
theorem x8f {p:Pt}:∀ {st:List Pt},x1j (p::st)→Conv st→(∀ t s r,st=t::s::r→0<cr s t p)→v4t st p
 |[],_,_,_=>trivial
 |[_],_,_,_=>trivial
 |[t,s],_,_,h=>⟨h t s [] rfl,trivial⟩
 |t::s::r::l,hd,hc,h=>by
  have h1:=h t s _ rfl
  refine ⟨h1,x8f (st:=s::r::l) ⟨hd.2.1.trans hd.1,hd.2.2⟩ hc.2 ?_⟩
  intro t' s' r' e
  cases e
  have a:=hc.1
  have e1:0<crs (sb s r) (sb t s):=by rw [x4t]; exact a
  have e2:0<crs (sb t s) (sb p t):=by rw [x4t]; exact h1
  have:=z2p (show Pos (sb s r) from hd.2.2.1) (show Pos (sb t s) from hd.2.1) (show Pos (sb p t) from hd.1) (by omega) (by omega) (.inl e1)
  rw [v20 r s t p]; omega
theorem w4g {t:Pt}:∀ {l:List Pt} {x:Pt},x1j (t::l)→Cov (t::l) x→Le x t
 |[],x,_,h=> .inl h
 |s::r,x,hd,h=>by
  rcases h with h|⟨_,b,_⟩|h
  ·exact .inl h
  ·exact .inr b
  ·rcases w4g hd.2 h with h|h
   ·exact .inr (h▸hd.1)
   ·exact .inr (h.trans hd.1)
theorem x0w {q:List Pt} {p:Pt}:∀ (st:List Pt),st≠[]→x1j (p::st)→Conv st→(∀ x∈q,Cov (p::st) x)→(∀ x∈q,w3n st x)→
  ∃ t r,pop p st=t::r∧x1j (p::t::r)∧Conv (p::t::r)∧(∀ x∈q,Cov (p::t::r) x)∧(∀ x∈q,w3n (t::r) x)∧(∀ y∈t::r,y∈st)∧(∀ t' s' r',t::r=t'::s'::r'→0<cr s' t' p)
 |[t],_,hd,hc,hv,he=>⟨t,[],y32 p t,hd,trivial,hv,he,fun y h=>h,fun _ _ _ e=>by cases e⟩
 |t::s::r,_,hd,hc,hv,he=>by
  by_cases h:cr s t p≤0
  ·obtain ⟨t',r',g1,g2,g3,g4,g5,g6,g7⟩:=x0w (s::r) (by simp) ⟨hd.2.1.trans hd.1,hd.2.2⟩ hc.tail (fun x hx=>w2x hd.2.1 hd.1 h (hv x hx)) (fun x hx=>(he x hx).tail)
   exact ⟨t',r',by rw [y1n p h]; exact g1,g2,g3,g4,g5,fun y hy=>List.mem_cons_of_mem _ (g6 y hy),g7⟩
  ·refine ⟨t,s::r,y1m p h,hd,⟨by omega,hc⟩,hv,he,fun y h=>h,fun _ _ _ e=>by cases e; omega⟩
theorem x0o {p:Pt}:∀ {st:List Pt},v4t st p→w3n st p
 |[],_=>trivial
 |[_],_=>trivial
 |t::s::r,h=>⟨⟨by have:=h.1; omega,fun e=>by have:=h.1; omega⟩,x0o h.2⟩
theorem x6m {q st:List Pt} (hne:st≠[]) (h:x61 q st) {p:Pt} (hp:∀ x∈q,Lt x p):x61 (q++[p]) (push st p):=by
 have hdp:x1j (p::st):=by
  match st,hne,h with
  |t::r,_,h=>exact ⟨hp t (h.sub t (by simp)),h.desc⟩
 have hcv:∀ x∈q,Cov (p::st) x:=by
  intro x hx
  match st,hne,h.cov x hx with
  |t::r,_,hc=>exact .inr (.inr hc)
 obtain ⟨t,r,g1,g2,g3,g4,g5,g6,g7⟩:=x0w st hne hdp h.conv hcv h.edge
 have hps:push st p=p::t::r:=by rw [push,g1]
 rw [hps]
 have hl:v4t (t::r) p:=x8f g2 g3.tail g7
 have htq:t∈q:=h.sub t (g6 t (by simp))
 refine ⟨g2,g3,fun x hx=>?_,fun x hx=>?_,fun y hy=>?_⟩
 ·rcases List.mem_append.1 hx with hx|hx
  ·exact g4 x hx
  ·simp at hx; subst hx; exact .inl rfl
 ·rcases List.mem_append.1 hx with hx|hx
  ·refine ⟨?_,g5 x hx⟩
   rcases g4 x hx with e|⟨a,b,c⟩|hc
   ·subst e; exact ⟨by rw [x4s]; omega,fun _=>⟨.inr g2.1, .inl rfl⟩⟩
   ·exact ⟨c,fun _=>⟨.inr a, .inr b⟩⟩
   ·
    rcases w4g g2.2 hc with e|hlt
    ·subst e; exact ⟨by rw [w2v]; omega,fun _=>⟨.inl rfl, .inr g2.1⟩⟩
    ·match r,g2,g5 x hx,g7,hc with
     |[],_,_,_,hc=>exact absurd hc hlt.ne
     |s::r,g2,ge,g7,_=>
      have e1:0≤crs (sb t x) (sb t s):=by rw [y78]; exact ge.1.1
      have e2:0<crs (sb t s) (sb p t):=by rw [x4t]; exact g7 t s r rfl
      have:=z2p (show Pos (sb t x) from hlt) (show Pos (sb t s) from g2.2.1) (show Pos (sb p t) from g2.1) e1 (by omega) (.inr e2)
      rw [w2w] at this
      exact ⟨by omega,fun e=>by omega⟩
  ·simp at hx; subst hx
   exact ⟨⟨by rw [x4s]; omega,fun _=>⟨.inr g2.1, .inl rfl⟩⟩,x0o hl⟩
 ·rcases List.mem_cons.1 hy with e|hy
  ·subst e; simp
  ·exact List.mem_append.2 (.inl (h.sub y (g6 y hy)))
theorem x93 (p:Pt):x61 [p] [p]:=⟨trivial,trivial,fun x hx=>(by simpa using hx:x=p),fun x hx=>trivial,fun y hy=>hy⟩
theorem y6n:∀ (l q st:List Pt),st≠[]→x61 q st→(∀ x∈q,∀ y∈l,Lt x y)→l.Pairwise Lt→x61 (q++l) (l.foldl push st)∧l.foldl push st≠[]
 |[],q,st,hne,h,_,_=>by simpa using ⟨h,hne⟩
 |p::l,q,st,hne,h,hq,hl=>by
  have h1:=x6m hne h (fun x hx=>hq x hx p (by simp))
  have:=y6n l (q++[p]) (push st p) (by simp [push]) h1 (fun x hx y hy=>by
   rcases List.mem_append.1 hx with hx|hx
   ·exact hq x hx y (List.mem_cons_of_mem _ hy)
   ·simp at hx; subst hx; exact (List.pairwise_cons.1 hl).1 y hy) (List.pairwise_cons.1 hl).2
  simpa using this
end M06
end
noncomputable section
namespace Go.Am
def y74:Ctr:=
 ⟨109,[.full 0 2, .int .i64, .int .i64, .clo 87 [] []],[.row [ci,ci]],[]⟩
def v4c:Prim→Tup (y74).scs→Option (STup (scss (y74).outs)):=
 fun _ _=>none
theorem x6c:z2m Go.Proofs.Try.prog 109:=enters_auto (b:=_) rfl (by kernel_rfl)
theorem w9e:CtrOk Go.Proofs.Try.prog y74 (v4c std):=⟨x6c,fun x y h=>by cases h⟩
def y72:Ctr:=
 ⟨110,[.full 0 2, .int .i64, .int .i64, .clo 87 [] []],[.row [ci,ci]],[]⟩
def v4a:Prim→Tup (y72).scs→Option (STup (scss (y72).outs)):=
 fun _ _=>none
theorem x6a:z2m Go.Proofs.Try.prog 110:=enters_auto (b:=_) rfl (by kernel_rfl)
theorem w9c:CtrOk Go.Proofs.Try.prog y72 (v4a std):=⟨x6a,fun x y h=>by cases h⟩
def y70:Ctr:=
 ⟨111,[.full 0 2, .int .i64, .int .i64, .clo 87 [] []],[.row [ci,ci]],[]⟩
def v37:Prim→Tup (y70).scs→Option (STup (scss (y70).outs)):=
 fun _ _=>none
theorem x58:z2m Go.Proofs.Try.prog 111:=enters_auto (b:=_) rfl (by kernel_rfl)
theorem w9a:CtrOk Go.Proofs.Try.prog y70 (v37 std):=⟨x58,fun x y h=>by cases h⟩
def x9l:Ctr:=
 ⟨117,[.int .u64],[],[(.ret,⟨[(0, .int .i64)],[],1⟩)]⟩
def v0t:List LA:=
 []
def v04:List JA:=
 [⟨117,[true,false,true,true],0,[(AX.normal,⟨[(0, .int .u64),(2, .int .i64)],[],25⟩)]⟩,
 ⟨117,[true,false,true],0,[(AX.normal,⟨[(0, .int .u64),(2, .int .i64)],[],25⟩)]⟩,
 ⟨117,[true,false,true,true,true],0,[(AX.normal,⟨[(0, .int .u64),(2, .int .i64)],[],25⟩)]⟩]
def w6h:List CF:=
 []
def v3k:Anns:=
 ⟨w6h,v04,[]⟩
def w8c:(p:Prim)→T1→Option T0:=
 fun p x=>
 opt.bnd T4 _ (
 opt.run T4 (
 opt.ask _ (p.cmp .geq x.1 (4294967296:Int)) (
 opt.need _ (p.cmp .geq (32:Int) (0:Int))<|
 opt.ret _ ((p.ar .shr .u64 x.1 (32:Int)),((32:Int),()))) (
 opt.ret _ (x.1,((0:Int),()))))) fun a=>
 opt.bnd T4 _ (
 opt.run T4 (
 opt.ask _ (p.cmp .geq a.1 (65536:Int)) (
 opt.need _ (p.cmp .geq (16:Int) (0:Int))<|
 opt.ret _ ((p.ar .shr .u64 a.1 (16:Int)),((p.ar .add .i64 a.2.1 (16:Int)),()))) (
 opt.ret _ (a.1,(a.2.1,()))))) fun b=>
 opt.bnd T4 _ (
 opt.run T4 (
 opt.ask _ (p.cmp .geq b.1 (256:Int)) (
 opt.need _ (p.cmp .geq (8:Int) (0:Int))<|
 opt.ret _ ((p.ar .shr .u64 b.1 (8:Int)),((p.ar .add .i64 b.2.1 (8:Int)),()))) (
 opt.ret _ (b.1,(b.2.1,()))))) fun c=>
 opt.need _ (bif (p.cmp .geq (p.cvt .u8 c.1) (0:Int)) then (p.cmp .lss (p.cvt .u8 c.1) (p.ofNat 256)) else Bool.false)<|
 opt.ret _ ((p.ar .add .i64 c.2.1 (p.cvt .i64 (p.byte (ByteArray.mk #[0,1,2,2,3,3,3,3,4,4,4,4,4,4,4,4,5,5,5,5,5,5,5,5,5,5,5,5,5,5,5,5,6,6,6,6,6,6,6,6,6,6,6,6,6,6,6,6,6,6,6,6,6,6,6,6,6,6,6,6,6,6,6,6,7,7,7,7,7,7,7,7,7,7,7,7,7,7,7,7,7,7,7,7,7,7,7,7,7,7,7,7,7,7,7,7,7,7,7,7,7,7,7,7,7,7,7,7,7,7,7,7,7,7,7,7,7,7,7,7,7,7,7,7,7,7,7,7,8,8,8,8,8,8,8,8,8,8,8,8,8,8,8,8,8,8,8,8,8,8,8,8,8,8,8,8,8,8,8,8,8,8,8,8,8,8,8,8,8,8,8,8,8,8,8,8,8,8,8,8,8,8,8,8,8,8,8,8,8,8,8,8,8,8,8,8,8,8,8,8,8,8,8,8,8,8,8,8,8,8,8,8,8,8,8,8,8,8,8,8,8,8,8,8,8,8,8,8,8,8,8,8,8,8,8,8,8,8,8,8,8,8,8,8,8,8,8,8,8,8,8,8,8,8,8,8]) (p.cvt .u8 c.1)))),())
theorem w88:CtrOk PG x9l (w8c std):=okF (a:=v3k) (l:=v0t) (gN) (by kernel_rfl) fun _ _=>by kernel_rfl
def x9p:Ctr:=
 ⟨105,[.int .u64],[],[(.ret,⟨[(0, .int .i64)],[],1⟩)]⟩
def v0x:List LA:=
 []
def v08:List JA:=
 []
def w6l:List CF:=
 [⟨x9l,w8c⟩]
def v3o:Anns:=
 ⟨w6l,v08,[]⟩
def w3k:(p:Prim)→T1→Option T0:=
 fun p x=>
 opt.bnd T0 _ (w8c p (x.1,())) fun a=>
 opt.ret _ (a.1,())
theorem w9i:CtrOk PG x9p (w3k std):=okF (a:=v3o) (l:=v0x) (gC w88 (gN)) (by kernel_rfl) fun _ _=>by kernel_rfl
def x9n:Ctr:=
 ⟨108,[.full 0 2, .int .i64, .int .i64, .clo 87 [] []],[.row [ci,ci]],[(.ret,⟨[(0, .tuple [])],[.row [ci,ci]],1⟩)]⟩
def v0v:List LA:=
 [⟨108,[false,true],1,⟨⟨[(0, .full 0 2),(1, .int .i64),(2, .int .i64),(3, .clo 87 [] []),(8, .int .i64)],[.row [ci,ci]],53⟩,[((AX.exit 0),⟨[],[.row [ci,ci]],53⟩)]⟩⟩,
 ⟨108,[false,true,false,false,true,false,false,true],1,⟨⟨[(0, .full 0 2),(1, .int .i64),(2, .int .i64),(3, .clo 87 [] []),(8, .int .i64),(9, .int .i64)],[.row [ci,ci]],53⟩,[((AX.exit 2),⟨[(0, .full 0 2),(1, .int .i64),(2, .int .i64),(3, .clo 87 [] []),(8, .int .i64)],[.row [ci,ci]],53⟩)]⟩⟩]
def v06:List JA:=
 []
def w6j:List CF:=
 [⟨v2a,G87⟩]
def v3m:Anns:=
 ⟨w6j,v06,[]⟩
def z6q (it:It) (p:Prim):(LD×T9)→Option ((LD×T9)⊕(LD×T5)):=
 fun a=>opt.run _ (
 opt.ask _ (p.cmp .gtr a.2.2.2.2.1 a.2.1) (
 opt.need _ (bif (p.cmp .geq a.2.2.2.2.1 (0:Int)) then (p.cmp .lss a.2.2.2.2.1 (p.ofNat (p.len a.1))) else Bool.false)<|
 opt.need _ (p.rowOk a.1 (p.add 0 (p.nat a.2.2.2.2.1)) [ci,ci])<|
 opt.need _ (bif (p.cmp .geq (p.ar .sub .i64 a.2.2.2.2.1 (1:Int)) (0:Int)) then (p.cmp .lss (p.ar .sub .i64 a.2.2.2.2.1 (1:Int)) (p.ofNat (p.len a.1))) else Bool.false)<|
 opt.need _ (p.rowOk a.1 (p.add 0 (p.nat (p.ar .sub .i64 a.2.2.2.2.1 (1:Int)))) [ci,ci])<|
 opt.bnd T0 _ (g87 it p ((p.rdI a.1 (p.add 0 (p.nat a.2.2.2.2.1)) 0),((p.rdI a.1 (p.add 0 (p.nat a.2.2.2.2.1)) 1),((p.rdI a.1 (p.add 0 (p.nat (p.ar .sub .i64 a.2.2.2.2.1 (1:Int)))) 0),((p.rdI a.1 (p.add 0 (p.nat (p.ar .sub .i64 a.2.2.2.2.1 (1:Int)))) 1),()))))) fun b=>
 opt.ask _ (p.cmp .lss b.1 (0:Int)) (
 opt.need _ (bif (p.cmp .geq (p.ar .sub .i64 a.2.2.2.2.1 (1:Int)) (0:Int)) then (p.cmp .lss (p.ar .sub .i64 a.2.2.2.2.1 (1:Int)) (p.ofNat (p.len a.1))) else Bool.false)<|
 opt.need _ (p.rowOk a.1 (p.add 0 (p.nat (p.ar .sub .i64 a.2.2.2.2.1 (1:Int)))) [ci,ci])<|
 opt.need _ (bif (p.cmp .geq a.2.2.2.2.1 (0:Int)) then (p.cmp .lss a.2.2.2.2.1 (p.ofNat (p.len a.1))) else Bool.false)<|
 opt.need _ (p.rowOk a.1 (p.add 0 (p.nat a.2.2.2.2.1)) [ci,ci])<|
 opt.need _ (bif (p.cmp .geq a.2.2.2.2.1 (0:Int)) then (p.cmp .lss a.2.2.2.2.1 (p.ofNat (p.len a.1))) else Bool.false)<|
 opt.need _ (p.rowOk a.1 (p.add 0 (p.nat a.2.2.2.2.1)) [ci,ci])<|
 opt.need _ (bif (p.cmp .geq (p.ar .sub .i64 a.2.2.2.2.1 (1:Int)) (0:Int)) then (p.cmp .lss (p.ar .sub .i64 a.2.2.2.2.1 (1:Int)) (p.ofNat (p.len a.1))) else Bool.false)<|
 opt.need _ (p.rowOk (p.set a.1 (p.add 0 (p.nat a.2.2.2.2.1)) [(D.int .i64 (p.rdI a.1 (p.add 0 (p.nat (p.ar .sub .i64 a.2.2.2.2.1 (1:Int)))) 0)),(D.int .i64 (p.rdI a.1 (p.add 0 (p.nat (p.ar .sub .i64 a.2.2.2.2.1 (1:Int)))) 1))]) (p.add 0 (p.nat (p.ar .sub .i64 a.2.2.2.2.1 (1:Int)))) [ci,ci])<|
 opt.need _ (p.eqN 0 0)<|
 opt.need _ (p.eqN (p.len a.1) (p.len (p.set (p.set a.1 (p.add 0 (p.nat a.2.2.2.2.1)) [(D.int .i64 (p.rdI a.1 (p.add 0 (p.nat (p.ar .sub .i64 a.2.2.2.2.1 (1:Int)))) 0)),(D.int .i64 (p.rdI a.1 (p.add 0 (p.nat (p.ar .sub .i64 a.2.2.2.2.1 (1:Int)))) 1))]) (p.add 0 (p.nat (p.ar .sub .i64 a.2.2.2.2.1 (1:Int)))) [(D.int .i64 (p.rdI a.1 (p.add 0 (p.nat a.2.2.2.2.1)) 0)),(D.int .i64 (p.rdI a.1 (p.add 0 (p.nat a.2.2.2.2.1)) 1))])))<|
 opt.need _ (p.eqN (p.len a.1) (p.len (p.set (p.set a.1 (p.add 0 (p.nat a.2.2.2.2.1)) [(D.int .i64 (p.rdI a.1 (p.add 0 (p.nat (p.ar .sub .i64 a.2.2.2.2.1 (1:Int)))) 0)),(D.int .i64 (p.rdI a.1 (p.add 0 (p.nat (p.ar .sub .i64 a.2.2.2.2.1 (1:Int)))) 1))]) (p.add 0 (p.nat (p.ar .sub .i64 a.2.2.2.2.1 (1:Int)))) [(D.int .i64 (p.rdI a.1 (p.add 0 (p.nat a.2.2.2.2.1)) 0)),(D.int .i64 (p.rdI a.1 (p.add 0 (p.nat a.2.2.2.2.1)) 1))])))<|
 opt.ret _ (Sum.inl ((p.set (p.set a.1 (p.add 0 (p.nat a.2.2.2.2.1)) [(D.int .i64 (p.rdI a.1 (p.add 0 (p.nat (p.ar .sub .i64 a.2.2.2.2.1 (1:Int)))) 0)),(D.int .i64 (p.rdI a.1 (p.add 0 (p.nat (p.ar .sub .i64 a.2.2.2.2.1 (1:Int)))) 1))]) (p.add 0 (p.nat (p.ar .sub .i64 a.2.2.2.2.1 (1:Int)))) [(D.int .i64 (p.rdI a.1 (p.add 0 (p.nat a.2.2.2.2.1)) 0)),(D.int .i64 (p.rdI a.1 (p.add 0 (p.nat a.2.2.2.2.1)) 1))]),(a.2.1,(a.2.2.1,(a.2.2.2.1,((p.ar .sub .i64 a.2.2.2.2.1 (1:Int)),()))))))) (
 opt.need _ (p.eqN 0 0)<|
 opt.need _ (p.eqN (p.len a.1) (p.len a.1))<|
 opt.need _ (p.eqN (p.len a.1) (p.len a.1))<|
 opt.ret _ (Sum.inr (a.1,(a.2.1,(a.2.2.1,(a.2.2.2.1,()))))))) (
 opt.need _ (p.eqN 0 0)<|
 opt.need _ (p.eqN (p.len a.1) (p.len a.1))<|
 opt.need _ (p.eqN (p.len a.1) (p.len a.1))<|
 opt.ret _ (Sum.inr (a.1,(a.2.1,(a.2.2.1,(a.2.2.2.1,())))))))
def z8n (it:It) (p:Prim):(LD×T5)→Option ((LD×T5)⊕(LD×Unit)):=
 fun a=>opt.run _ (
 opt.ask _ (p.cmp .lss a.2.2.2.1 a.2.2.1) (
 opt.need _ (p.eqN 0 0)<|
 opt.need _ (p.eqN (p.len a.1) (p.len a.1))<|
 opt.need _ (p.eqN (p.len a.1) (p.len a.1))<|
 opt.bnd ((LD×T5)) _ (
 it _ _ (z6q it p) (a.1,(a.2.1,(a.2.2.1,(a.2.2.2.1,(a.2.2.2.1,())))))) fun b=>
 opt.need _ (p.eqN 0 0)<|
 opt.need _ (p.eqN (p.len b.1) (p.len b.1))<|
 opt.need _ (p.eqN (p.len b.1) (p.len b.1))<|
 opt.ret _ (Sum.inl (b.1,(b.2.1,(b.2.2.1,((p.ar .add .i64 b.2.2.2.1 (1:Int)),())))))) (
 opt.ret _ (Sum.inr (a.1,()))))
def x8r (it:It):(p:Prim)→(LD×T3)→Option ((LD×Unit)):=
 fun p x=>
 opt.need _ (p.eqN 0 0)<|
 opt.need _ (p.eqN (p.len x.1) (p.len x.1))<|
 opt.need _ (p.eqN (p.len x.1) (p.len x.1))<|
 opt.bnd ((LD×Unit)) _ (
 it _ _ (z8n it p) (x.1,(x.2.1,(x.2.2.1,((p.ar .add .i64 x.2.1 (1:Int)),()))))) fun a=>
 opt.ret _ (a.1,())
def w0l:=x8r it0
theorem w9g:CtrOk PG x9n (w0l std):=okF (a:=v3m) (l:=v0v) (gC v87 (gN)) (by kernel_rfl) fun _ _=>by kernel_rfl
def x9r:Ctr:=
 ⟨104,[.full 0 2, .int .i64, .int .i64, .int .i64, .clo 87 [] []],[.row [ci,ci]],[(.ret,⟨[(0, .tuple [])],[.row [ci,ci]],1⟩)]⟩
def v0z:List LA:=
 [⟨104,[false,true,true],1,⟨⟨[(0, .full 0 2),(1, .int .i64),(2, .int .i64),(3, .int .i64),(4, .clo 87 [] []),(10, .bool),(11, .bool)],[.row [ci,ci]],148⟩,[(AX.ret,⟨[],[.row [ci,ci]],148⟩)]⟩⟩]
def v1a:List JA:=
 []
def w6n:List CF:=
 [⟨y70,v37⟩,⟨y72,v4a⟩,⟨y74,v4c⟩,⟨x9n,w0l⟩]
def v3q:Anns:=
 ⟨w6n,v1a,[]⟩
def y4q (it:It) (p:Prim):(LD×T26)→Option ((LD×T26)⊕(LD×Unit)):=
 fun a=>opt.run _ (
 opt.ask _ (p.cmp .leq (p.ar .sub .i64 a.2.2.1 a.2.1) (12:Int)) (
 opt.need _ (p.eqN 0 0)<|
 opt.need _ (p.eqN (p.len a.1) (p.len a.1))<|
 opt.need _ (p.eqN (p.len a.1) (p.len a.1))<|
 opt.bnd ((LD×Unit)) _ (x8r it p (a.1,(a.2.1,(a.2.2.1,())))) fun b=>
 opt.ret _ (Sum.inr (b.1,()))) (
 opt.ask _ (p.cmp .eql a.2.2.2.1 (0:Int)) (
 opt.need _ (p.eqN 0 0)<|
 opt.need _ (p.eqN (p.len a.1) (p.len a.1))<|
 opt.need _ (p.eqN (p.len a.1) (p.len a.1))<|
 opt.no _ 81) (
 opt.ask _ (bif a.2.2.2.2.1 then Bool.false else Bool.true) (
 opt.need _ (p.eqN 0 0)<|
 opt.need _ (p.eqN (p.len a.1) (p.len a.1))<|
 opt.need _ (p.eqN (p.len a.1) (p.len a.1))<|
 opt.no _ 81) (
 opt.need _ (p.eqN 0 0)<|
 opt.need _ (p.eqN (p.len a.1) (p.len a.1))<|
 opt.need _ (p.eqN (p.len a.1) (p.len a.1))<|
 opt.no _ 81))))
def x8t (it:It):(p:Prim)→(LD×T5)→Option ((LD×Unit)):=
 fun p x=>
 opt.need _ (p.eqN 0 0)<|
 opt.need _ (p.eqN (p.len x.1) (p.len x.1))<|
 opt.need _ (p.eqN (p.len x.1) (p.len x.1))<|
 opt.bnd ((LD×Unit)) _ (
 it _ _ (y4q it p) (x.1,(x.2.1,(x.2.2.1,(x.2.2.2.1,(Bool.true,(Bool.true,()))))))) fun a=>
 opt.ret _ (a.1,())
def v32:=x8t it0
theorem w9k:CtrOk PG x9r (v32 std):=okF (a:=v3q) (l:=v0z) (gC w9a (gC w9c (gC w9e (gC w9g (gN))))) (by kernel_rfl) fun _ _=>by kernel_rfl
def x9i:Ctr:=
 ⟨97,[.full 0 2, .clo 87 [] []],[.row [ci,ci]],[(.ret,⟨[(0, .tuple [])],[.row [ci,ci]],1⟩)]⟩
def v0q:List LA:=
 []
def v01:List JA:=
 []
def w6e:List CF:=
 [⟨x9r,v32⟩,⟨x9p,w3k⟩]
def v3h:Anns:=
 ⟨w6e,v01,[]⟩
def x8p (it:It):(p:Prim)→(LD×Unit)→Option ((LD×Unit)):=
 fun p x=>
 opt.bnd T0 _ (w3k p ((p.cvt .u64 (p.ofNat (p.len x.1))),())) fun a=>
 opt.need _ (p.eqN 0 0)<|
 opt.need _ (p.eqN (p.len x.1) (p.len x.1))<|
 opt.need _ (p.eqN (p.len x.1) (p.len x.1))<|
 opt.bnd ((LD×Unit)) _ (x8t it p (x.1,((0:Int),((p.ofNat (p.len x.1)),(a.1,()))))) fun b=>
 opt.ret _ (b.1,())
def w3i:=x8p it0
theorem w3x:CtrOk PG x9i (w3i std):=okF (a:=v3h) (l:=v0q) (gC w9k (gC w9i (gN))) (by kernel_rfl) fun _ _=>by kernel_rfl
end Go.Am
end
noncomputable section
namespace Go.Am
def y73:Ctr:=
 ⟨109,[.vec 0 2, .int .i64, .int .i64, .clo 98 [] []],[.row [ci,ci]],[]⟩
def v4b:Prim→Tup (y73).scs→Option (STup (scss (y73).outs)):=
 fun _ _=>none
theorem x6b:z2m Go.Proofs.Try.prog 109:=enters_auto (b:=_) rfl (by kernel_rfl)
theorem w9d:CtrOk Go.Proofs.Try.prog y73 (v4b std):=⟨x6b,fun x y h=>by cases h⟩
def y71:Ctr:=
 ⟨110,[.vec 0 2, .int .i64, .int .i64, .clo 98 [] []],[.row [ci,ci]],[]⟩
def v38:Prim→Tup (y71).scs→Option (STup (scss (y71).outs)):=
 fun _ _=>none
theorem x59:z2m Go.Proofs.Try.prog 110:=enters_auto (b:=_) rfl (by kernel_rfl)
theorem w9b:CtrOk Go.Proofs.Try.prog y71 (v38 std):=⟨x59,fun x y h=>by cases h⟩
def y7z:Ctr:=
 ⟨111,[.vec 0 2, .int .i64, .int .i64, .clo 98 [] []],[.row [ci,ci]],[]⟩
def v36:Prim→Tup (y7z).scs→Option (STup (scss (y7z).outs)):=
 fun _ _=>none
theorem x57:z2m Go.Proofs.Try.prog 111:=enters_auto (b:=_) rfl (by kernel_rfl)
theorem w89:CtrOk Go.Proofs.Try.prog y7z (v36 std):=⟨x57,fun x y h=>by cases h⟩
def x9k:Ctr:=
 ⟨117,[.int .u64],[],[(.ret,⟨[(0, .int .i64)],[],1⟩)]⟩
def v0s:List LA:=
 []
def v03:List JA:=
 [⟨117,[true,false,true,true],0,[(AX.normal,⟨[(0, .int .u64),(2, .int .i64)],[],25⟩)]⟩,
 ⟨117,[true,false,true],0,[(AX.normal,⟨[(0, .int .u64),(2, .int .i64)],[],25⟩)]⟩,
 ⟨117,[true,false,true,true,true],0,[(AX.normal,⟨[(0, .int .u64),(2, .int .i64)],[],25⟩)]⟩]
def w6g:List CF:=
 []
def v3j:Anns:=
 ⟨w6g,v03,[]⟩
def w8b:(p:Prim)→T1→Option T0:=
 fun p x=>
 opt.bnd T4 _ (
 opt.run T4 (
 opt.ask _ (p.cmp .geq x.1 (4294967296:Int)) (
 opt.need _ (p.cmp .geq (32:Int) (0:Int))<|
 opt.ret _ ((p.ar .shr .u64 x.1 (32:Int)),((32:Int),()))) (
 opt.ret _ (x.1,((0:Int),()))))) fun a=>
 opt.bnd T4 _ (
 opt.run T4 (
 opt.ask _ (p.cmp .geq a.1 (65536:Int)) (
 opt.need _ (p.cmp .geq (16:Int) (0:Int))<|
 opt.ret _ ((p.ar .shr .u64 a.1 (16:Int)),((p.ar .add .i64 a.2.1 (16:Int)),()))) (
 opt.ret _ (a.1,(a.2.1,()))))) fun b=>
 opt.bnd T4 _ (
 opt.run T4 (
 opt.ask _ (p.cmp .geq b.1 (256:Int)) (
 opt.need _ (p.cmp .geq (8:Int) (0:Int))<|
 opt.ret _ ((p.ar .shr .u64 b.1 (8:Int)),((p.ar .add .i64 b.2.1 (8:Int)),()))) (
 opt.ret _ (b.1,(b.2.1,()))))) fun c=>
 opt.need _ (bif (p.cmp .geq (p.cvt .u8 c.1) (0:Int)) then (p.cmp .lss (p.cvt .u8 c.1) (p.ofNat 256)) else Bool.false)<|
 opt.ret _ ((p.ar .add .i64 c.2.1 (p.cvt .i64 (p.byte (ByteArray.mk #[0,1,2,2,3,3,3,3,4,4,4,4,4,4,4,4,5,5,5,5,5,5,5,5,5,5,5,5,5,5,5,5,6,6,6,6,6,6,6,6,6,6,6,6,6,6,6,6,6,6,6,6,6,6,6,6,6,6,6,6,6,6,6,6,7,7,7,7,7,7,7,7,7,7,7,7,7,7,7,7,7,7,7,7,7,7,7,7,7,7,7,7,7,7,7,7,7,7,7,7,7,7,7,7,7,7,7,7,7,7,7,7,7,7,7,7,7,7,7,7,7,7,7,7,7,7,7,7,8,8,8,8,8,8,8,8,8,8,8,8,8,8,8,8,8,8,8,8,8,8,8,8,8,8,8,8,8,8,8,8,8,8,8,8,8,8,8,8,8,8,8,8,8,8,8,8,8,8,8,8,8,8,8,8,8,8,8,8,8,8,8,8,8,8,8,8,8,8,8,8,8,8,8,8,8,8,8,8,8,8,8,8,8,8,8,8,8,8,8,8,8,8,8,8,8,8,8,8,8,8,8,8,8,8,8,8,8,8,8,8,8,8,8,8,8,8,8,8,8,8,8,8,8,8,8,8]) (p.cvt .u8 c.1)))),())
theorem w87:CtrOk PG x9k (w8b std):=okF (a:=v3j) (l:=v0s) (gN) (by kernel_rfl) fun _ _=>by kernel_rfl
def x9o:Ctr:=
 ⟨105,[.int .u64],[],[(.ret,⟨[(0, .int .i64)],[],1⟩)]⟩
def v0w:List LA:=
 []
def v07:List JA:=
 []
def w6k:List CF:=
 [⟨x9k,w8b⟩]
def v3n:Anns:=
 ⟨w6k,v07,[]⟩
def w3j:(p:Prim)→T1→Option T0:=
 fun p x=>
 opt.bnd T0 _ (w8b p (x.1,())) fun a=>
 opt.ret _ (a.1,())
theorem w9h:CtrOk PG x9o (w3j std):=okF (a:=v3n) (l:=v0w) (gC w87 (gN)) (by kernel_rfl) fun _ _=>by kernel_rfl
def x9m:Ctr:=
 ⟨108,[.vec 0 2, .int .i64, .int .i64, .clo 98 [] []],[.row [ci,ci]],[(.ret,⟨[(0, .tuple [])],[.row [ci,ci]],1⟩)]⟩
def v0u:List LA:=
 [⟨108,[false,true],1,⟨⟨[(0, .vec 0 2),(1, .int .i64),(2, .int .i64),(3, .clo 98 [] []),(8, .int .i64)],[.row [ci,ci]],53⟩,[((AX.exit 0),⟨[],[.row [ci,ci]],53⟩)]⟩⟩,
 ⟨108,[false,true,false,false,true,false,false,true],1,⟨⟨[(0, .vec 0 2),(1, .int .i64),(2, .int .i64),(3, .clo 98 [] []),(8, .int .i64),(9, .int .i64)],[.row [ci,ci]],53⟩,[((AX.exit 2),⟨[(0, .vec 0 2),(1, .int .i64),(2, .int .i64),(3, .clo 98 [] []),(8, .int .i64)],[.row [ci,ci]],53⟩)]⟩⟩]
def v05:List JA:=
 []
def w6i:List CF:=
 [⟨w62,G98⟩]
def v3l:Anns:=
 ⟨w6i,v05,[]⟩
def z8o (p:Prim):(LD×T9)→Option ((LD×T9)⊕(LD×T5)):=
 fun a=>opt.run _ (
 opt.ask _ (p.cmp .gtr a.2.2.2.2.1 a.2.1) (
 opt.need _ (bif (p.cmp .geq a.2.2.2.2.1 (0:Int)) then (p.cmp .lss a.2.2.2.2.1 (p.ofNat (p.len a.1))) else Bool.false)<|
 opt.need _ (p.rowOk a.1 (p.add 0 (p.nat a.2.2.2.2.1)) [ci,ci])<|
 opt.need _ (bif (p.cmp .geq (p.ar .sub .i64 a.2.2.2.2.1 (1:Int)) (0:Int)) then (p.cmp .lss (p.ar .sub .i64 a.2.2.2.2.1 (1:Int)) (p.ofNat (p.len a.1))) else Bool.false)<|
 opt.need _ (p.rowOk a.1 (p.add 0 (p.nat (p.ar .sub .i64 a.2.2.2.2.1 (1:Int)))) [ci,ci])<|
 opt.bnd T0 _ (G98 p ((p.rdI a.1 (p.add 0 (p.nat a.2.2.2.2.1)) 0),((p.rdI a.1 (p.add 0 (p.nat a.2.2.2.2.1)) 1),((p.rdI a.1 (p.add 0 (p.nat (p.ar .sub .i64 a.2.2.2.2.1 (1:Int)))) 0),((p.rdI a.1 (p.add 0 (p.nat (p.ar .sub .i64 a.2.2.2.2.1 (1:Int)))) 1),()))))) fun b=>
 opt.ask _ (p.cmp .lss b.1 (0:Int)) (
 opt.need _ (bif (p.cmp .geq (p.ar .sub .i64 a.2.2.2.2.1 (1:Int)) (0:Int)) then (p.cmp .lss (p.ar .sub .i64 a.2.2.2.2.1 (1:Int)) (p.ofNat (p.len a.1))) else Bool.false)<|
 opt.need _ (p.rowOk a.1 (p.add 0 (p.nat (p.ar .sub .i64 a.2.2.2.2.1 (1:Int)))) [ci,ci])<|
 opt.need _ (bif (p.cmp .geq a.2.2.2.2.1 (0:Int)) then (p.cmp .lss a.2.2.2.2.1 (p.ofNat (p.len a.1))) else Bool.false)<|
 opt.need _ (p.rowOk a.1 (p.add 0 (p.nat a.2.2.2.2.1)) [ci,ci])<|
 opt.need _ (bif (p.cmp .geq a.2.2.2.2.1 (0:Int)) then (p.cmp .lss a.2.2.2.2.1 (p.ofNat (p.len a.1))) else Bool.false)<|
 opt.need _ (p.rowOk a.1 (p.add 0 (p.nat a.2.2.2.2.1)) [ci,ci])<|
 opt.need _ (bif (p.cmp .geq (p.ar .sub .i64 a.2.2.2.2.1 (1:Int)) (0:Int)) then (p.cmp .lss (p.ar .sub .i64 a.2.2.2.2.1 (1:Int)) (p.ofNat (p.len a.1))) else Bool.false)<|
 opt.need _ (p.rowOk (p.set a.1 (p.add 0 (p.nat a.2.2.2.2.1)) [(D.int .i64 (p.rdI a.1 (p.add 0 (p.nat (p.ar .sub .i64 a.2.2.2.2.1 (1:Int)))) 0)),(D.int .i64 (p.rdI a.1 (p.add 0 (p.nat (p.ar .sub .i64 a.2.2.2.2.1 (1:Int)))) 1))]) (p.add 0 (p.nat (p.ar .sub .i64 a.2.2.2.2.1 (1:Int)))) [ci,ci])<|
 opt.need _ (p.eqN 0 0)<|
 opt.need _ (p.eqN (p.len a.1) (p.len (p.set (p.set a.1 (p.add 0 (p.nat a.2.2.2.2.1)) [(D.int .i64 (p.rdI a.1 (p.add 0 (p.nat (p.ar .sub .i64 a.2.2.2.2.1 (1:Int)))) 0)),(D.int .i64 (p.rdI a.1 (p.add 0 (p.nat (p.ar .sub .i64 a.2.2.2.2.1 (1:Int)))) 1))]) (p.add 0 (p.nat (p.ar .sub .i64 a.2.2.2.2.1 (1:Int)))) [(D.int .i64 (p.rdI a.1 (p.add 0 (p.nat a.2.2.2.2.1)) 0)),(D.int .i64 (p.rdI a.1 (p.add 0 (p.nat a.2.2.2.2.1)) 1))])))<|
 opt.ret _ (Sum.inl ((p.set (p.set a.1 (p.add 0 (p.nat a.2.2.2.2.1)) [(D.int .i64 (p.rdI a.1 (p.add 0 (p.nat (p.ar .sub .i64 a.2.2.2.2.1 (1:Int)))) 0)),(D.int .i64 (p.rdI a.1 (p.add 0 (p.nat (p.ar .sub .i64 a.2.2.2.2.1 (1:Int)))) 1))]) (p.add 0 (p.nat (p.ar .sub .i64 a.2.2.2.2.1 (1:Int)))) [(D.int .i64 (p.rdI a.1 (p.add 0 (p.nat a.2.2.2.2.1)) 0)),(D.int .i64 (p.rdI a.1 (p.add 0 (p.nat a.2.2.2.2.1)) 1))]),(a.2.1,(a.2.2.1,(a.2.2.2.1,((p.ar .sub .i64 a.2.2.2.2.1 (1:Int)),()))))))) (
 opt.need _ (p.eqN 0 0)<|
 opt.need _ (p.eqN (p.len a.1) (p.len a.1))<|
 opt.ret _ (Sum.inr (a.1,(a.2.1,(a.2.2.1,(a.2.2.2.1,()))))))) (
 opt.need _ (p.eqN 0 0)<|
 opt.need _ (p.eqN (p.len a.1) (p.len a.1))<|
 opt.ret _ (Sum.inr (a.1,(a.2.1,(a.2.2.1,(a.2.2.2.1,())))))))
def z8m (it:It) (p:Prim):(LD×T5)→Option ((LD×T5)⊕(LD×Unit)):=
 fun a=>opt.run _ (
 opt.ask _ (p.cmp .lss a.2.2.2.1 a.2.2.1) (
 opt.need _ (p.eqN 0 0)<|
 opt.need _ (p.eqN (p.len a.1) (p.len a.1))<|
 opt.bnd ((LD×T5)) _ (
 it _ _ (z8o p) (a.1,(a.2.1,(a.2.2.1,(a.2.2.2.1,(a.2.2.2.1,())))))) fun b=>
 opt.need _ (p.eqN 0 0)<|
 opt.need _ (p.eqN (p.len b.1) (p.len b.1))<|
 opt.ret _ (Sum.inl (b.1,(b.2.1,(b.2.2.1,((p.ar .add .i64 b.2.2.2.1 (1:Int)),())))))) (
 opt.ret _ (Sum.inr (a.1,()))))
def x8q (it:It):(p:Prim)→(LD×T3)→Option ((LD×Unit)):=
 fun p x=>
 opt.need _ (p.eqN 0 0)<|
 opt.need _ (p.eqN (p.len x.1) (p.len x.1))<|
 opt.bnd ((LD×Unit)) _ (
 it _ _ (z8m it p) (x.1,(x.2.1,(x.2.2.1,((p.ar .add .i64 x.2.1 (1:Int)),()))))) fun a=>
 opt.ret _ (a.1,())
def w0k:=x8q it0
theorem w9f:CtrOk PG x9m (w0k std):=okF (a:=v3l) (l:=v0u) (gC v47 (gN)) (by kernel_rfl) fun _ _=>by kernel_rfl
def x9q:Ctr:=
 ⟨104,[.vec 0 2, .int .i64, .int .i64, .int .i64, .clo 98 [] []],[.row [ci,ci]],[(.ret,⟨[(0, .tuple [])],[.row [ci,ci]],1⟩)]⟩
def v0y:List LA:=
 [⟨104,[false,true,true],1,⟨⟨[(0, .vec 0 2),(1, .int .i64),(2, .int .i64),(3, .int .i64),(4, .clo 98 [] []),(10, .bool),(11, .bool)],[.row [ci,ci]],148⟩,[(AX.ret,⟨[],[.row [ci,ci]],148⟩)]⟩⟩]
def v09:List JA:=
 []
def w6m:List CF:=
 [⟨y7z,v36⟩,⟨y71,v38⟩,⟨y73,v4b⟩,⟨x9m,w0k⟩]
def v3p:Anns:=
 ⟨w6m,v09,[]⟩
def y4p (it:It) (p:Prim):(LD×T26)→Option ((LD×T26)⊕(LD×Unit)):=
 fun a=>opt.run _ (
 opt.ask _ (p.cmp .leq (p.ar .sub .i64 a.2.2.1 a.2.1) (12:Int)) (
 opt.need _ (p.eqN 0 0)<|
 opt.need _ (p.eqN (p.len a.1) (p.len a.1))<|
 opt.bnd ((LD×Unit)) _ (x8q it p (a.1,(a.2.1,(a.2.2.1,())))) fun b=>
 opt.ret _ (Sum.inr (b.1,()))) (
 opt.ask _ (p.cmp .eql a.2.2.2.1 (0:Int)) (
 opt.need _ (p.eqN 0 0)<|
 opt.need _ (p.eqN (p.len a.1) (p.len a.1))<|
 opt.no _ 81) (
 opt.ask _ (bif a.2.2.2.2.1 then Bool.false else Bool.true) (
 opt.need _ (p.eqN 0 0)<|
 opt.need _ (p.eqN (p.len a.1) (p.len a.1))<|
 opt.no _ 81) (
 opt.need _ (p.eqN 0 0)<|
 opt.need _ (p.eqN (p.len a.1) (p.len a.1))<|
 opt.no _ 81))))
def x8s (it:It):(p:Prim)→(LD×T5)→Option ((LD×Unit)):=
 fun p x=>
 opt.need _ (p.eqN 0 0)<|
 opt.need _ (p.eqN (p.len x.1) (p.len x.1))<|
 opt.bnd ((LD×Unit)) _ (
 it _ _ (y4p it p) (x.1,(x.2.1,(x.2.2.1,(x.2.2.2.1,(Bool.true,(Bool.true,()))))))) fun a=>
 opt.ret _ (a.1,())
def v31:=x8s it0
theorem w9j:CtrOk PG x9q (v31 std):=okF (a:=v3p) (l:=v0y) (gC w89 (gC w9b (gC w9d (gC w9f (gN))))) (by kernel_rfl) fun _ _=>by kernel_rfl
def x9h:Ctr:=
 ⟨97,[.vec 0 2, .clo 98 [] []],[.row [ci,ci]],[(.ret,⟨[(0, .tuple [])],[.row [ci,ci]],1⟩)]⟩
def v0p:List LA:=
 []
def v00:List JA:=
 []
def w6d:List CF:=
 [⟨x9q,v31⟩,⟨x9o,w3j⟩]
def v3g:Anns:=
 ⟨w6d,v00,[]⟩
def x52 (it:It):(p:Prim)→(LD×Unit)→Option ((LD×Unit)):=
 fun p x=>
 opt.bnd T0 _ (w3j p ((p.cvt .u64 (p.ofNat (p.len x.1))),())) fun a=>
 opt.need _ (p.eqN 0 0)<|
 opt.need _ (p.eqN (p.len x.1) (p.len x.1))<|
 opt.bnd ((LD×Unit)) _ (x8s it p (x.1,((0:Int),((p.ofNat (p.len x.1)),(a.1,()))))) fun b=>
 opt.ret _ (b.1,())
def w3h:=x52 it0
theorem w3w:CtrOk PG x9h (w3h std):=okF (a:=v3g) (l:=v0p) (gC w9j (gC w9h (gN))) (by kernel_rfl) fun _ _=>by kernel_rfl
end Go.Am
end
section
namespace Go.Proofs
open Go.RowKit Go.Sort Go.Shelf
def x2l:Go.Shelf.Ren:=⟨fun|57=>123|46=>118|48=>120|47=>119|50=>122|49=>121|29=>117|28=>116|27=>115|26=>114|25=>113|24=>112|23=>111|22=>110|21=>109|20=>108|14=>104|15=>105|6=>97|n=>n,fun|77=>172|76=>171|66=>165|70=>169|9=>9|5=>5|55=>164|53=>162|50=>159|45=>154|46=>155|4=>4|0=>0|39=>149|3=>3|25=>131|24=>86|22=>82|n=>n,fun|n=>n⟩
theorem x32 : Go.Proofs.SlLaysF0.n6 Try.prog x2l :=
  { mixed := by kernel_rfl,
    f6 := by first | exact ⟨Try.f97.name, by decide, Try.func97.trans (congrArg some (by kernel_rfl))⟩ | exact Try.func97.trans (congrArg some (by kernel_rfl)),
    f14 := by first | exact ⟨Try.f104.name, by decide, Try.func104.trans (congrArg some (by kernel_rfl))⟩ | exact Try.func104.trans (congrArg some (by kernel_rfl)),
    f15 := by first | exact ⟨Try.f105.name, by decide, Try.func105.trans (congrArg some (by kernel_rfl))⟩ | exact Try.func105.trans (congrArg some (by kernel_rfl)),
    f20 := by first | exact ⟨Try.f108.name, by decide, Try.func108.trans (congrArg some (by kernel_rfl))⟩ | exact Try.func108.trans (congrArg some (by kernel_rfl)),
    f21 := by first | exact ⟨Try.f109.name, by decide, Try.func109.trans (congrArg some (by kernel_rfl))⟩ | exact Try.func109.trans (congrArg some (by kernel_rfl)),
    f22 := by first | exact ⟨Try.f110.name, by decide, Try.func110.trans (congrArg some (by kernel_rfl))⟩ | exact Try.func110.trans (congrArg some (by kernel_rfl)),
    f23 := by first | exact ⟨Try.f111.name, by decide, Try.func111.trans (congrArg some (by kernel_rfl))⟩ | exact Try.func111.trans (congrArg some (by kernel_rfl)),
    f24 := by first | exact ⟨Try.f112.name, by decide, Try.func112.trans (congrArg some (by kernel_rfl))⟩ | exact Try.func112.trans (congrArg some (by kernel_rfl)),
    f25 := by first | exact ⟨Try.f113.name, by decide, Try.func113.trans (congrArg some (by kernel_rfl))⟩ | exact Try.func113.trans (congrArg some (by kernel_rfl)),
    f26 := by first | exact ⟨Try.f114.name, by decide, Try.func114.trans (congrArg some (by kernel_rfl))⟩ | exact Try.func114.trans (congrArg some (by kernel_rfl)),
    f27 := by first | exact ⟨Try.f115.name, by decide, Try.func115.trans (congrArg some (by kernel_rfl))⟩ | exact Try.func115.trans (congrArg some (by kernel_rfl)),
    f28 := by first | exact ⟨Try.f116.name, by decide, Try.func116.trans (congrArg some (by kernel_rfl))⟩ | exact Try.func116.trans (congrArg some (by kernel_rfl)),
    f29 := by first | exact ⟨Try.f117.name, by decide, Try.func117.trans (congrArg some (by kernel_rfl))⟩ | exact Try.func117.trans (congrArg some (by kernel_rfl)),
    f46 := by first | exact ⟨Try.f118.name, by decide, Try.func118.trans (congrArg some (by kernel_rfl))⟩ | exact Try.func118.trans (congrArg some (by kernel_rfl)),
    f47 := by first | exact ⟨Try.f119.name, by decide, Try.func119.trans (congrArg some (by kernel_rfl))⟩ | exact Try.func119.trans (congrArg some (by kernel_rfl)),
    f48 := by first | exact ⟨Try.f120.name, by decide, Try.func120.trans (congrArg some (by kernel_rfl))⟩ | exact Try.func120.trans (congrArg some (by kernel_rfl)),
    f49 := by first | exact ⟨Try.f121.name, by decide, Try.func121.trans (congrArg some (by kernel_rfl))⟩ | exact Try.func121.trans (congrArg some (by kernel_rfl)),
    f50 := by first | exact ⟨Try.f122.name, by decide, Try.func122.trans (congrArg some (by kernel_rfl))⟩ | exact Try.func122.trans (congrArg some (by kernel_rfl)),
    f57 := by first | exact ⟨Try.f123.name, by decide, Try.func123.trans (congrArg some (by kernel_rfl))⟩ | exact Try.func123.trans (congrArg some (by kernel_rfl)),
    t0 := by exact Try.underlying0,
    a0 := by exact Try.isAgg0,
    z0 := by exact Try.sizeOf0,
    v0 := by exact Try.zeroValue0,
    t3 := by exact Try.underlying3,
    a3 := by exact Try.isAgg3,
    z3 := by exact Try.sizeOf3,
    v3 := by exact Try.zeroValue3,
    t4 := by exact Try.underlying4,
    a4 := by exact Try.isAgg4,
    z4 := by exact Try.sizeOf4,
    v4 := by exact Try.zeroValue4,
    t5 := by exact Try.underlying5,
    a5 := by exact Try.isAgg5,
    z5 := by exact Try.sizeOf5,
    v5 := by exact Try.zeroValue5,
    t9 := by exact Try.underlying9,
    a9 := by exact Try.isAgg9,
    z9 := by exact Try.sizeOf9,
    v9 := by exact Try.zeroValue9,
    t22 := by exact Try.underlying82,
    a22 := by exact Try.isAgg82,
    z22 := by exact Try.sizeOf82,
    v22 := by exact Try.zeroValue82,
    t25 := by exact Try.underlying131,
    a25 := by exact Try.isAgg131,
    z25 := by exact Try.sizeOf131,
    v25 := by exact Try.zeroValue131,
    t39 := by exact Try.underlying149,
    a39 := by exact Try.isAgg149,
    z39 := by exact Try.sizeOf149,
    v39 := by exact Try.zeroValue149,
    t45 := by exact Try.underlying154,
    a45 := by exact Try.isAgg154,
    z45 := by exact Try.sizeOf154,
    v45 := by exact Try.zeroValue154,
    t46 := by exact Try.underlying155,
    a46 := by exact Try.isAgg155,
    z46 := by exact Try.sizeOf155,
    v46 := by exact Try.zeroValue155,
    t50 := by exact Try.underlying159,
    a50 := by exact Try.isAgg159,
    z50 := by exact Try.sizeOf159,
    v50 := by exact Try.zeroValue159,
    t53 := by exact Try.underlying162,
    a53 := by exact Try.isAgg162,
    z53 := by exact Try.sizeOf162,
    v53 := by exact Try.zeroValue162,
    t55 := by exact Try.underlying164,
    a55 := by exact Try.isAgg164,
    z55 := by exact Try.sizeOf164,
    v55 := by exact Try.zeroValue164,
    t66 := by exact Try.underlying165,
    a66 := by exact Try.isAgg165,
    z66 := by exact Try.sizeOf165,
    v66 := by exact Try.zeroValue165,
    t70 := by exact Try.underlying169,
    a70 := by exact Try.isAgg169,
    z70 := by exact Try.sizeOf169,
    v70 := by exact Try.zeroValue169,
    t76 := by exact Try.underlying171,
    a76 := by exact Try.isAgg171,
    z76 := by exact Try.sizeOf171,
    v76 := by exact Try.zeroValue171,
    t77 := by exact Try.underlying172,
    a77 := by exact Try.isAgg172,
    z77 := by exact Try.sizeOf172,
    v77 := by exact Try.zeroValue172 }
end Go.Proofs
namespace Go.Am
open Go.Proofs Go.Sort Go.Shelf M06
theorem x2y {a b:Int}:x0u a b<0↔a<b:=by unfold x0u; omega
theorem x92 {a b:Int}:x0u a b≠0↔a≠b:=by unfold x0u; omega
theorem y7m {α:Type} {cf:α→α→Int} {x y:α}:ltOf cf x y=true↔cf x y<0:=decide_eq_true_iff
theorem w1g {x y:Int×Int}:x2a x y<0↔Lt x y:=by
 simp only [Lt,Pos,sb]
 unfold x2a
 by_cases h:x.1=y.1
 ·have:¬ x0u x.1 y.1≠0:=by rw [x92]; omega
  rw [if_neg this,x2y]; omega
 ·have:x0u x.1 y.1≠0:=by rw [x92]; omega
  rw [if_pos this,x2y]; omega
theorem z8b {x y:Int×Int}:ltOf x2a x y=true↔Lt x y:=y7m.trans w1g
theorem x1q:SWO (ltOf x2a) where
 irrefl:=fun x=>by
  cases h:ltOf x2a x x with
  |false=>rfl
  |true=>exact (z8b.1 h).irrefl.elim
 trans:=fun x y z h1 h2=>z8b.2 ((z8b.1 h1).trans (z8b.1 h2))
 ntrans:=fun x y z h1 h2=>by
  cases h:ltOf x2a x z with
  |false=>rfl
  |true=>
   have h:=z8b.1 h
   have a:¬ Lt x y:=fun k=>by rw [z8b.2 k] at h1; cases h1
   have b:¬ Lt y z:=fun k=>by rw [z8b.2 k] at h2; cases h2
   exfalso
   rcases x3z x y with k|k|k
   ·exact a k
   ·exact b (k▸h)
   ·exact b (k.trans h)
abbrev Wy:Type:={ p:Int×Int // z3h p∧p≠(0,0) }
instance:Inhabited Wy:=⟨⟨(1,0),by unfold z3h; decide,by decide⟩⟩
def ng2 (a:Pt):Pt:=(-a.1, -a.2)
theorem z7w {p:Int×Int} (h:p≠(0,0)):(z2c p=false↔Pos p)∧(z2c p=true↔Pos (ng2 p)):=by
 obtain ⟨a,b⟩:=p
 have h:¬ (a=0∧b=0):=by simpa using h
 simp only [z2c,decide_eq_false_iff_not,decide_eq_true_eq,Pos,ng2]
 omega
theorem w2z {c:Int}:x0u 0 c<0↔0<c:=x2y
theorem y85 {x y:Int×Int}:z5q x y<0↔(z2c x=false∧z2c y=true)∨(z2c x=z2c y∧0<crs x y):=by
 unfold z5q
 have e:crs x y=x.1*y.2 - x.2*y.1:=rfl
 rw [e]
 cases hx:z2c x<;>cases hy:z2c y<;>simp [w2z]
theorem z5d {x y:Wy}:ltOf (fun x y:Wy=>z5q x.1 y.1) x y=true↔(z2c x.1=false∧z2c y.1=true)∨(z2c x.1=z2c y.1∧0<crs x.1 y.1):=y7m.trans y85
theorem crs_ng (u v:Pt):crs (ng2 u) (ng2 v)=crs u v:=by simp only [crs,ng2]; grind
theorem y1a {x y z:Wy} (hxy:z2c x.1=z2c y.1) (hyz:z2c y.1=z2c z.1) (h1:0≤crs x.1 y.1) (h2:0≤crs y.1 z.1):0≤crs x.1 z.1∧(0<crs x.1 y.1∨0<crs y.1 z.1→0<crs x.1 z.1):=by
 cases hx:z2c x.1 with
 |false=>
  have a:=(z7w x.2.2).1.1 hx
  have b:=(z7w y.2.2).1.1 (hxy▸hx)
  have c:=(z7w z.2.2).1.1 (hyz▸hxy▸hx)
  exact ⟨z8j a b c h1 h2,z2p a b c h1 h2⟩
 |true=>
  have a:=(z7w x.2.2).2.1 hx
  have b:=(z7w y.2.2).2.1 (hxy▸hx)
  have c:=(z7w z.2.2).2.1 (hyz▸hxy▸hx)
  rw [←crs_ng] at h1 h2
  rw [←crs_ng x.1 z.1, ←crs_ng x.1 y.1, ←crs_ng y.1 z.1]
  exact ⟨z8j a b c h1 h2,z2p a b c h1 h2⟩
theorem z7v (u v:Pt):crs u v= - crs v u:=by simp only [crs]; grind
theorem y6y:SWO (ltOf (fun x y:Wy=>z5q x.1 y.1)) where
 irrefl:=fun x=>by
  cases h:ltOf (fun x y:Wy=>z5q x.1 y.1) x x with
  |false=>rfl
  |true=>
   rcases z5d.1 h with ⟨a,b⟩|⟨_,b⟩
   ·rw [a] at b; cases b
   ·have:=z7v x.1 x.1; omega
 trans:=fun x y z h1 h2=>by
  rcases z5d.1 h1 with ⟨a,b⟩|⟨a,b⟩<;>rcases z5d.1 h2 with ⟨c,d⟩|⟨c,d⟩
  ·rw [b] at c; cases c
  ·exact z5d.2 (.inl ⟨a,c▸b⟩)
  ·exact z5d.2 (.inl ⟨a▸c,d⟩)
  ·exact z5d.2 (.inr ⟨a.trans c,(y1a a c (by omega) (by omega)).2 (.inl b)⟩)
 ntrans:=fun x y z h1 h2=>by
  cases h:ltOf (fun x y:Wy=>z5q x.1 y.1) x z with
  |false=>rfl
  |true=>
   exfalso
   have n1:¬ ((z2c x.1=false∧z2c y.1=true)∨(z2c x.1=z2c y.1∧0<crs x.1 y.1)):=fun k=>by rw [z5d.2 k] at h1; cases h1
   have n2:¬ ((z2c y.1=false∧z2c z.1=true)∨(z2c y.1=z2c z.1∧0<crs y.1 z.1)):=fun k=>by rw [z5d.2 k] at h2; cases h2
   have n3:=z5d.1 h
   cases hx:z2c x.1<;>cases hy:z2c y.1<;>cases hz:z2c z.1<;>rw [hx,hy] at n1<;>rw [hy,hz] at n2<;>rw [hx,hz] at n3<;>simp at n1 n2 n3
   ·have e1:=z7v x.1 y.1; have e2:=z7v y.1 z.1; have e3:=z7v x.1 z.1
    have:=(y1a (x:=z) (y:=y) (z:=x) (by rw [hz,hy]) (by rw [hy,hx]) (by omega) (by omega)).1
    omega
   ·have e1:=z7v x.1 y.1; have e2:=z7v y.1 z.1; have e3:=z7v x.1 z.1
    have:=(y1a (x:=z) (y:=y) (z:=x) (by rw [hz,hy]) (by rw [hy,hx]) (by omega) (by omega)).1
    omega
theorem w84 {α:Type} (f:α→Int×Int):∀ x,∀ v∈y6g f x,v.oneCell'=true:=by
 intro x v hv
 simp only [y6g,List.mem_cons,List.not_mem_nil,or_false] at hv
 rcases hv with rfl|rfl<;>rfl
theorem x5c:y8j Go.Proofs.Try.prog 97 87 x2a id:=fun blk off cap d w hc hH hb hs=>
 AnyQ.slices_SortFunc_eq x32 2 Try.isAgg86 Try.sizeOf86 (y6g id) (fun _=>rfl) (w84 id) x2a x1q 87 #[] blk off cap d w (fun args w=>w2e args w) hc hH hb hs
theorem x5b:y8j Go.Proofs.Try.prog 97 98 (fun x y:Wy=>z5q x.1 y.1) Subtype.val:=fun blk off cap d w hc hH hb hs=>
 AnyQ.slices_SortFunc_eq x32 2 Try.isAgg86 Try.sizeOf86 (y6g Subtype.val) (fun _=>rfl) (w84 Subtype.val) _ y6y 98 #[] blk off cap d w (fun args w=>w2d args w) hc hH hb hs
theorem v8c (x y:Int×Int):z9f Go.Proofs.Try.prog 87 (toA [.agg (z3w id x), .agg (z3w id y)]) [] (.d (.int .i64 (x2a x y))) []:=
 (v87.2 (x.1,x.2,y.1,y.2,()) (x2a x y,()) (w4q x y)).2
theorem v8b (x y:Wy):z9f Go.Proofs.Try.prog 98 (toA [.agg (z3w Subtype.val x), .agg (z3w Subtype.val y)]) [] (.d (.int .i64 (z5q x.1 y.1))) []:=
 (v47.2 (x.1.1,x.1.2,y.1.1,y.1.2,()) (z5q x.1 y.1,()) (w0h x.2.1 y.2.1)).2
def dPt:List D→Option (Int×Int)
 |[.int .i64 a, .int .i64 b]=>some (a,b)
 |_=>none
def w39:List (List D)→Option (List (Int×Int))
 |[]=>some []
 |r::l=>match dPt r,w39 l with
  |some p,some t=>some (p::t)
  |_,_=>none
theorem v11 {r:List D} {p:Int×Int} (h:dPt r=some p):r=z3w id p:=by
 unfold dPt at h
 split at h
 ·cases h; rfl
 ·cases h
theorem x2v:∀ {es:List (List D)} {l:List (Int×Int)},w39 es=some l→es=l.map (z3w id)
 |[],l,h=>by cases h; rfl
 |r::es,l,h=>by
  simp only [w39] at h
  cases hp:dPt r with
  |none=>rw [hp] at h; cases h
  |some p=>
   rw [hp] at h
   cases ht:w39 es with
   |none=>rw [ht] at h; cases h
   |some t=>
    rw [ht] at h; cases h
    rw [List.map_cons, ←v11 hp, ←x2v ht]
instance (p:Int×Int):Decidable (z3h p):=by unfold z3h; infer_instance
def dWy:List (Int×Int)→Option (List Wy)
 |[]=>some []
 |p::l=>match dWy l with
  |some t=>if h:z3h p∧p≠(0,0) then some (⟨p,h⟩::t) else none
  |none=>none
theorem w38:∀ {l:List (Int×Int)} {t:List Wy},dWy l=some t→l=t.map Subtype.val
 |[],t,h=>by cases h; rfl
 |p::l,t,h=>by
  simp only [dWy] at h
  cases ht:dWy l with
  |none=>rw [ht] at h; cases h
  |some u=>
   rw [ht] at h
   simp only at h
   split at h
   ·cases h; rw [w38 ht]; rfl
   ·cases h
def v43 (x:List (List D)×Unit):Option (List (List D)×Unit):=
 match w39 x.1 with
 |some (p::l)=>if l.length≤1000000 then some ((pdq (ltOf x2a) (p::l).toArray 0 (p::l).toArray.size (Lib.bitLen (p::l).toArray.size) true true).toList.map (z3w id),()) else none
 |_=>none
def w82 (x:List (List D)×Unit):Option (List (List D)×Unit):=
 match (w39 x.1).bind dWy with
 |some (p::l)=>if l.length≤1000000 then some ((pdq (ltOf (fun x y:Wy=>z5q x.1 y.1)) (p::l).toArray 0 (p::l).toArray.size (Lib.bitLen (p::l).toArray.size) true true).toList.map (z3w Subtype.val),()) else none
 |_=>none
noncomputable def x4r:Ctr:=x9i
noncomputable def x4q:Ctr:=x9h
noncomputable def v1m (it:It):(p:Prim)→(List (List (Go.Am.D))×Unit)→Option ((List (List (Go.Am.D))×Unit)):=
 fun p x=>bif Nat.ble x.1.length 12 then (x8p it p x) else (v43 x)
noncomputable def v9w:=v1m it0
noncomputable def v90:Prim→Tup (x4r).scs→Option (STup (scss (x4r).outs)):=
 fun p x=>v9w p x
noncomputable def v1l (it:It):(p:Prim)→(List (List (Go.Am.D))×Unit)→Option ((List (List (Go.Am.D))×Unit)):=
 fun p x=>bif Nat.ble x.1.length 12 then (x52 it p x) else (w82 x)
noncomputable def v9v:=v1l it0
noncomputable def v9z:Prim→Tup (x4q).scs→Option (STup (scss (x4q).outs)):=
 fun p x=>v9v p x
theorem v49:CtrOk Go.Proofs.Try.prog x4r (v90 std):=by
 refine ⟨w3x.1,fun x y hy=>?_⟩
 obtain ⟨es,u⟩:=x
 change (bif Nat.ble es.length 12 then (w3i std (es,())) else v43 (es,()))=some y at hy
 cases hb:Nat.ble es.length 12 with
 |true=>rw [hb] at hy; exact w3x.2 (es,()) y hy
 |false=>
  rw [hb] at hy
  simp only [cond_false,v43] at hy
  split at hy
  ·rename_i p l hd
   split at hy
   ·rename_i hl
    cases hy
    have he:=x2v hd
    have key:=y9p (P:=Go.Proofs.Try.prog) x1q x5c v8c (d:=(p::l).toArray) (by simp) (by simp; omega) (some (p::l).toArray.size)
    have hes:es=(p::l).toArray.toList.map (z3w id):=he
    have hlen:(p::l).toArray.size=es.length:=by rw [he]; simp
    rw [←hes] at key
    refine ⟨by show 1≤1; omega,?_⟩
    have key':=key
    rw [hlen] at key'
    rw [hlen]
    exact key'
   ·cases hy
  ·cases hy
theorem v48:CtrOk Go.Proofs.Try.prog x4q (v9z std):=by
 refine ⟨w3w.1,fun x y hy=>?_⟩
 obtain ⟨es,u⟩:=x
 change (bif Nat.ble es.length 12 then (w3h std (es,())) else w82 (es,()))=some y at hy
 cases hb:Nat.ble es.length 12 with
 |true=>rw [hb] at hy; exact w3w.2 (es,()) y hy
 |false=>
  rw [hb] at hy
  simp only [cond_false,w82] at hy
  split at hy
  ·rename_i p l hd
   split at hy
   ·rename_i hl
    cases hy
    obtain ⟨ps,h1,h2⟩:=Option.bind_eq_some_iff.1 hd
    have he:=x2v h1
    have he2:=w38 h2
    have key:=y9p (P:=Go.Proofs.Try.prog) y6y x5b v8b (d:=(p::l).toArray) (by simp) (by simp; omega) none
    have hes:es=(p::l).toArray.toList.map (z3w Subtype.val):=by
     rw [he,he2,List.map_map]; rfl
    have hlen:(p::l).toArray.size=es.length:=by rw [hes]; simp
    rw [←hes] at key
    refine ⟨by show 1≤1; omega,?_⟩
    have key':=key
    rw [hlen] at key'
    rw [hlen]
    exact key'
   ·cases hy
  ·cases hy
end Go.Am
end
section
namespace Go.Am
open M06 Go.Sort Go.Proofs
namespace Sorto
theorem it0_eq {S R:Type} (b:S→Option (S⊕R)) (s:S):it0 S R b s=z5k b s:=rfl
section
variable {α:Type} [Inhabited α]
def encA (tp:α→Pt) (d:Array α):List (List D):=d.toList.map (z3w tp)
theorem encA_get {tp:α→Pt} {d:Array α} {j:Nat} (h:j<d.size):(encA tp d)[j]?=some (z3w tp d[j]!):=by
 simp [encA,h]
theorem encA_len (tp:α→Pt) (d:Array α):(encA tp d).length=d.size:=by simp [encA]
theorem swp_size (d:Array α) (i j:Nat):(swp d i j).size=d.size:=by simp [swp]
theorem encA_swp {tp:α→Pt} {d:Array α} {i j:Nat}:encA tp (swp d i j)=((encA tp d).set i (z3w tp d[j]!)).set j (z3w tp d[i]!):=by
 simp [encA,swp,List.map_set]
theorem insInner_size (lt:α→α→Bool) (a:Nat):∀ (j:Nat) (d:Array α),(insInner lt a j d).size=d.size
 |0,d=>rfl
 |j+1,d=>by
  simp only [insInner]
  split
  ·rw [insInner_size lt a j,swp_size]
  ·rfl
theorem cells_enR2 (tp:α→Pt) (x:α):z3b [CK.int IntKind.i64,CK.int IntKind.i64] (z3w tp x)=true:=rfl
theorem dI_enR20 (tp:α→Pt) (x:α):dI ((z3w tp x)[0]?.getD D.nilp)=(tp x).1:=rfl
theorem dI_enR21 (tp:α→Pt) (x:α):dI ((z3w tp x)[1]?.getD D.nilp)=(tp x).2:=rfl
theorem x50 {tp:α→Pt} {cf:α→α→Int} (hcf:∀ x y:α,G87 std ((tp x).1,(tp x).2,(tp y).1,(tp y).2,())=some (cf x y,())) (b i:Int):
  ∀ (j:Nat) (d:Array α),j<d.size→d.size≤1000000→z5k (z6q it0 std) (encA tp d,(0:Int),b,i,(j:Int),())=some (encA tp (insInner (ltOf cf) 0 j d),(0:Int),b,i,()):=by
 intro j
 induction j with
 |zero=>
  intro d hj hs
  rw [z0l]
  have:z6q it0 std (encA tp d,(0:Int),b,i,((0:Nat):Int),())=some (.inr (encA tp d,(0:Int),b,i,())):=by
   have hn:¬ ((0:Nat):Int)>0:=by omega
   simp only [z6q,z1a,z1b,hn]
  rw [this]; rfl
 |succ j ih=>
  intro d hj hs
  rw [z0l]
  have hx:=encA_get (tp:=tp) hj
  have hy:=encA_get (tp:=tp) (show j<d.size by omega)
  have hl:=encA_len tp d
  have hw:IntKind.i64.wrap (((j+1:Nat):Int) - 1)=(j:Int):=by rw [z1t]<;>omega
  have hg:((j+1:Nat):Int)>0:=by omega
  have h0:((j+1:Nat):Int)≥0:=by omega
  have h1:((j+1:Nat):Int)<(d.size:Int):=by omega
  have h2:(j:Int)≥0:=by omega
  have h3:(j:Int)<(d.size:Int):=by omega
  have hsj:((encA tp d).set (j+1) (z3w tp d[j]!))[j]?=some (z3w tp d[j]!):=by
   rw [List.getElem?_set_ne (by omega),hy]
  have hc:=hcf d[j+1]! d[j]!
  unfold G87 at hc
  have hrow:∀ x:α,[D.int IntKind.i64 (tp x).1,D.int IntKind.i64 (tp x).2]=z3w tp x:=fun _=>rfl
  simp only [insInner]
  have hgt:(j+1>0):=by omega
  by_cases hlt:cf d[j+1]! d[j]! <0
  ·have hb:z6q it0 std (encA tp d,(0:Int),b,i,((j+1:Nat):Int),())=some (.inl (encA tp (swp d (j+1) j),(0:Int),b,i,(j:Int),())):=by
    simp only [z6q,z1a,z1b,cells_enR2,dI_enR20,dI_enR21,z01,hg,h0,h1,h2,h3,hw,hx,hy,hl,hc,hlt,hrow,hsj,List.length_set,encA_swp]
   rw [hb]
   have:=ih (swp d (j+1) j) (by rw [swp_size]; omega) (by rw [swp_size]; exact hs)
   simp only [this]
   have:(decide (j+1>0)&&ltOf cf d[j+1]! d[j]!)=true:=by simp [ltOf,hlt]
   rw [if_pos this]
  ·have hb:z6q it0 std (encA tp d,(0:Int),b,i,((j+1:Nat):Int),())=some (.inr (encA tp d,(0:Int),b,i,())):=by
    simp only [z6q,z1a,z1b,cells_enR2,dI_enR20,dI_enR21,z01,hg,h0,h1,h2,h3,hw,hx,hy,hl,hc,hlt,hrow,hsj,List.length_set]
   rw [hb]
   have:¬ (decide (j+1>0)&&ltOf cf d[j+1]! d[j]!)=true:=by simp [ltOf]; omega
   rw [if_neg this]
theorem x5z {tp:α→Pt} {cf:α→α→Int} (hcf:∀ x y:α,G87 std ((tp x).1,(tp x).2,(tp y).1,(tp y).2,())=some (cf x y,())) (n:Nat) (hn:n≤1000000):
  ∀ (k i:Nat) (d:Array α),n - i=k→d.size=n→z5k (z8n it0 std) (encA tp d,(0:Int),(n:Int),(i:Int),())=some (encA tp (insOuter (ltOf cf) 0 n i d),()):=by
 intro k
 induction k with
 |zero=>
  intro i d hk hs
  rw [z0l,insOuter,if_neg (by omega)]
  have:z8n it0 std (encA tp d,(0:Int),(n:Int),(i:Int),())=some (.inr (encA tp d,())):=by
   have hnn:¬ (i:Int)<(n:Int):=by omega
   simp only [z8n,z1a,z1b,hnn]
  rw [this]
 |succ k ih=>
  intro i d hk hs
  rw [z0l,insOuter,if_pos (by omega)]
  have hin:=x50 hcf (n:Int) (i:Int) i d (by omega) (by omega)
  have hw:=z09 (i:=i) (by omega)
  have hlt:(i:Int)<(n:Int):=by omega
  have:z8n it0 std (encA tp d,(0:Int),(n:Int),(i:Int),())=some (.inl (encA tp (insInner (ltOf cf) 0 i d),(0:Int),(n:Int),((i+1:Nat):Int),())):=by
   simp only [z8n,it0_eq,z1a,z1b,hlt,hin,z0f,hw]
  rw [this]
  exact ih (i+1) _ (by omega) (by rw [insInner_size]; exact hs)
theorem w11 {tp:α→Pt} {cf:α→α→Int} (hcf:∀ x y:α,G87 std ((tp x).1,(tp x).2,(tp y).1,(tp y).2,())=some (cf x y,())) (d:Array α) (hn:d.size≤1000000):
  w0l std (encA tp d,(0:Int),(d.size:Int),())=some (encA tp (insertionSort (ltOf cf) d 0 d.size),()):=by
 have h:=x5z hcf d.size hn (d.size - 1) 1 d rfl rfl
 have hw:IntKind.i64.wrap ((0:Int)+1)=1:=by decide
 unfold w0l
 simp only [x8r,it0_eq,z1a,z1b,z0f,hw]
 rw [show ((1:Int))=((1:Nat):Int) from rfl,h]
 rfl
theorem pdq_small (lt:α→α→Bool) (d:Array α) (hd:d.size≤12) (l:Nat) (u v:Bool):pdq lt d 0 d.size l u v=insertionSort lt d 0 d.size:=by
 rw [pdq,if_pos (by omega)]
theorem sorto_small {tp:α→Pt} {cf:α→α→Int} (hcf:∀ x y:α,G87 std ((tp x).1,(tp x).2,(tp y).1,(tp y).2,())=some (cf x y,())) (d:Array α) (hd:d.size≤12):
  w3i std (encA tp d,())=some (encA tp (pdq (ltOf cf) d 0 d.size (Lib.bitLen d.size) true true),()):=by
 have h:=w11 hcf d (by omega)
 unfold w0l at h
 have hl:=encA_len tp d
 have h105:∃ y,w3k std (IntKind.u64.wrap (d.size:Int),())=some y:=by
  have hs:d.size=0∨d.size=1∨d.size=2∨d.size=3∨d.size=4∨d.size=5∨d.size=6∨d.size=7∨d.size=8∨d.size=9∨d.size=10∨d.size=11∨d.size=12:=by omega
  rcases hs with h|h|h|h|h|h|h|h|h|h|h|h|h<;>rw [h]<;>exact ⟨_,rfl⟩
 obtain ⟨y,h105⟩:=h105
 have hw:IntKind.i64.wrap ((d.size:Int) - 0)=(d.size:Int):=by rw [z1t]<;>omega
 have h12:(d.size:Int)≤12:=by omega
 have hb:∀ q:Int,y4q it0 std (encA tp d,(0:Int),(d.size:Int),q,true,true,())=some (.inr (encA tp (insertionSort (ltOf cf) d 0 d.size),())):=by
  intro q
  simp only [y4q,z1a,z1b,z01,hw,h12,h]
 unfold w3i
 simp only [x8p,x8t,it0_eq,z1a,z1b,hl,h105]
 rw [z0l,hb,pdq_small _ _ hd]
 rfl
end
end Sorto
end Go.Am
end
section
namespace Go.Am
open M06 Go.Sort Go.Proofs
namespace Sortt
theorem it0_eq {S R:Type} (b:S→Option (S⊕R)) (s:S):it0 S R b s=z5k b s:=rfl
section
variable {α:Type} [Inhabited α]
def encA (tp:α→Pt) (d:Array α):List (List D):=d.toList.map (z3w tp)
theorem encA_get {tp:α→Pt} {d:Array α} {j:Nat} (h:j<d.size):(encA tp d)[j]?=some (z3w tp d[j]!):=by
 simp [encA,h]
theorem encA_len (tp:α→Pt) (d:Array α):(encA tp d).length=d.size:=by simp [encA]
theorem swp_size (d:Array α) (i j:Nat):(swp d i j).size=d.size:=by simp [swp]
theorem encA_swp {tp:α→Pt} {d:Array α} {i j:Nat}:encA tp (swp d i j)=((encA tp d).set i (z3w tp d[j]!)).set j (z3w tp d[i]!):=by
 simp [encA,swp,List.map_set]
theorem insInner_size (lt:α→α→Bool) (a:Nat):∀ (j:Nat) (d:Array α),(insInner lt a j d).size=d.size
 |0,d=>rfl
 |j+1,d=>by
  simp only [insInner]
  split
  ·rw [insInner_size lt a j,swp_size]
  ·rfl
theorem cells_enR2 (tp:α→Pt) (x:α):z3b [CK.int IntKind.i64,CK.int IntKind.i64] (z3w tp x)=true:=rfl
theorem dI_enR20 (tp:α→Pt) (x:α):dI ((z3w tp x)[0]?.getD D.nilp)=(tp x).1:=rfl
theorem dI_enR21 (tp:α→Pt) (x:α):dI ((z3w tp x)[1]?.getD D.nilp)=(tp x).2:=rfl
theorem x5y {tp:α→Pt} {cf:α→α→Int} (hcf:∀ x y:α,G98 std ((tp x).1,(tp x).2,(tp y).1,(tp y).2,())=some (cf x y,())) (b i:Int):
  ∀ (j:Nat) (d:Array α),j<d.size→d.size≤1000000→z5k (z8o std) (encA tp d,(0:Int),b,i,(j:Int),())=some (encA tp (insInner (ltOf cf) 0 j d),(0:Int),b,i,()):=by
 intro j
 induction j with
 |zero=>
  intro d hj hs
  rw [z0l]
  have:z8o std (encA tp d,(0:Int),b,i,((0:Nat):Int),())=some (.inr (encA tp d,(0:Int),b,i,())):=by
   have hn:¬ ((0:Nat):Int)>0:=by omega
   simp only [z8o,z1a,z1b,hn]
  rw [this]; rfl
 |succ j ih=>
  intro d hj hs
  rw [z0l]
  have hx:=encA_get (tp:=tp) hj
  have hy:=encA_get (tp:=tp) (show j<d.size by omega)
  have hl:=encA_len tp d
  have hw:IntKind.i64.wrap (((j+1:Nat):Int) - 1)=(j:Int):=by rw [z1t]<;>omega
  have hg:((j+1:Nat):Int)>0:=by omega
  have h0:((j+1:Nat):Int)≥0:=by omega
  have h1:((j+1:Nat):Int)<(d.size:Int):=by omega
  have h2:(j:Int)≥0:=by omega
  have h3:(j:Int)<(d.size:Int):=by omega
  have hsj:((encA tp d).set (j+1) (z3w tp d[j]!))[j]?=some (z3w tp d[j]!):=by
   rw [List.getElem?_set_ne (by omega),hy]
  have hc:=hcf d[j+1]! d[j]!
  have hrow:∀ x:α,[D.int IntKind.i64 (tp x).1,D.int IntKind.i64 (tp x).2]=z3w tp x:=fun _=>rfl
  simp only [insInner]
  have hgt:(j+1>0):=by omega
  by_cases hlt:cf d[j+1]! d[j]! <0
  ·have hb:z8o std (encA tp d,(0:Int),b,i,((j+1:Nat):Int),())=some (.inl (encA tp (swp d (j+1) j),(0:Int),b,i,(j:Int),())):=by
    simp only [z8o,z1a,z1b,cells_enR2,dI_enR20,dI_enR21,z01,hg,h0,h1,h2,h3,hw,hx,hy,hl,hc,hlt,hrow,hsj,List.length_set,encA_swp]
   rw [hb]
   have:=ih (swp d (j+1) j) (by rw [swp_size]; omega) (by rw [swp_size]; exact hs)
   simp only [this]
   have:(decide (j+1>0)&&ltOf cf d[j+1]! d[j]!)=true:=by simp [ltOf,hlt]
   rw [if_pos this]
  ·have hb:z8o std (encA tp d,(0:Int),b,i,((j+1:Nat):Int),())=some (.inr (encA tp d,(0:Int),b,i,())):=by
    simp only [z8o,z1a,z1b,cells_enR2,dI_enR20,dI_enR21,z01,hg,h0,h1,h2,h3,hw,hx,hy,hl,hc,hlt,hrow,hsj,List.length_set]
   rw [hb]
   have:¬ (decide (j+1>0)&&ltOf cf d[j+1]! d[j]!)=true:=by simp [ltOf]; omega
   rw [if_neg this]
theorem x5x {tp:α→Pt} {cf:α→α→Int} (hcf:∀ x y:α,G98 std ((tp x).1,(tp x).2,(tp y).1,(tp y).2,())=some (cf x y,())) (n:Nat) (hn:n≤1000000):
  ∀ (k i:Nat) (d:Array α),n - i=k→d.size=n→z5k (z8m it0 std) (encA tp d,(0:Int),(n:Int),(i:Int),())=some (encA tp (insOuter (ltOf cf) 0 n i d),()):=by
 intro k
 induction k with
 |zero=>
  intro i d hk hs
  rw [z0l,insOuter,if_neg (by omega)]
  have:z8m it0 std (encA tp d,(0:Int),(n:Int),(i:Int),())=some (.inr (encA tp d,())):=by
   have hnn:¬ (i:Int)<(n:Int):=by omega
   simp only [z8m,z1a,z1b,hnn]
  rw [this]
 |succ k ih=>
  intro i d hk hs
  rw [z0l,insOuter,if_pos (by omega)]
  have hin:=x5y hcf (n:Int) (i:Int) i d (by omega) (by omega)
  have hw:=z09 (i:=i) (by omega)
  have hlt:(i:Int)<(n:Int):=by omega
  have:z8m it0 std (encA tp d,(0:Int),(n:Int),(i:Int),())=some (.inl (encA tp (insInner (ltOf cf) 0 i d),(0:Int),(n:Int),((i+1:Nat):Int),())):=by
   simp only [z8m,it0_eq,z1a,z1b,hlt,hin,z0f,hw]
  rw [this]
  exact ih (i+1) _ (by omega) (by rw [insInner_size]; exact hs)
theorem w10 {tp:α→Pt} {cf:α→α→Int} (hcf:∀ x y:α,G98 std ((tp x).1,(tp x).2,(tp y).1,(tp y).2,())=some (cf x y,())) (d:Array α) (hn:d.size≤1000000):
  w0k std (encA tp d,(0:Int),(d.size:Int),())=some (encA tp (insertionSort (ltOf cf) d 0 d.size),()):=by
 have h:=x5x hcf d.size hn (d.size - 1) 1 d rfl rfl
 have hw:IntKind.i64.wrap ((0:Int)+1)=1:=by decide
 unfold w0k
 simp only [x8q,it0_eq,z1a,z1b,z0f,hw]
 rw [show ((1:Int))=((1:Nat):Int) from rfl,h]
 rfl
theorem pdq_small (lt:α→α→Bool) (d:Array α) (hd:d.size≤12) (l:Nat) (u v:Bool):pdq lt d 0 d.size l u v=insertionSort lt d 0 d.size:=by
 rw [pdq,if_pos (by omega)]
theorem sortt_small {tp:α→Pt} {cf:α→α→Int} (hcf:∀ x y:α,G98 std ((tp x).1,(tp x).2,(tp y).1,(tp y).2,())=some (cf x y,())) (d:Array α) (hd:d.size≤12):
  w3h std (encA tp d,())=some (encA tp (pdq (ltOf cf) d 0 d.size (Lib.bitLen d.size) true true),()):=by
 have h:=w10 hcf d (by omega)
 unfold w0k at h
 have hl:=encA_len tp d
 have h105:∃ y,w3j std (IntKind.u64.wrap (d.size:Int),())=some y:=by
  have hs:d.size=0∨d.size=1∨d.size=2∨d.size=3∨d.size=4∨d.size=5∨d.size=6∨d.size=7∨d.size=8∨d.size=9∨d.size=10∨d.size=11∨d.size=12:=by omega
  rcases hs with h|h|h|h|h|h|h|h|h|h|h|h|h<;>rw [h]<;>exact ⟨_,rfl⟩
 obtain ⟨y,h105⟩:=h105
 have hw:IntKind.i64.wrap ((d.size:Int) - 0)=(d.size:Int):=by rw [z1t]<;>omega
 have h12:(d.size:Int)≤12:=by omega
 have hb:∀ q:Int,y4p it0 std (encA tp d,(0:Int),(d.size:Int),q,true,true,())=some (.inr (encA tp (insertionSort (ltOf cf) d 0 d.size),())):=by
  intro q
  simp only [y4p,z1a,z1b,z01,hw,h12,h]
 unfold w3h
 simp only [x52,x8s,it0_eq,z1a,z1b,hl,h105]
 rw [z0l,hb,pdq_small _ _ hd]
 rfl
end
end Sortt
end Go.Am
end
section
namespace Go.Am
open M06 Go.Sort Go.Proofs
theorem y5r {α:Type} [Inhabited α] {d d':Array α} (h:PermIn 0 d.size d d'):d'.toList.Perm d.toList:=by
 have:=h.2.2
 have e1:d'.extract 0 d.size=d':=by rw [←h.1]; simp
 have e2:d.extract 0 d.size=d:=by simp
 rw [e1,e2] at this; exact this
theorem y15 {α:Type} [Inhabited α] {lt:α→α→Bool} {d d':Array α} (hs:d'.size=d.size) (h:SortedIn lt 0 d.size d'):d'.toList.Pairwise (fun a b=>lt b a=false):=by
 rw [List.pairwise_iff_getElem]
 intro i j hi hj hij
 have hi':i<d'.size:=by simpa using hi
 have hj':j<d'.size:=by simpa using hj
 have:=h i j (Nat.zero_le _) hij (by omega)
 rw [getElem!_pos d' i hi',getElem!_pos d' j hj'] at this
 simpa using this
theorem w8x (l:List Pt) (hl:l.length≤12):∃ l',v9w std (z0d l,())=some (z0d l',())∧l'.Perm l∧l'.Pairwise (fun a b=>¬ Lt b a):=by
 have h:=Sorto.sorto_small (tp:=id) (cf:=x2a) (fun x y=>w4q x y) l.toArray (by simpa using hl)
 have hp:=pdq_sorts (ltOf x2a) x1q l.toArray 0 l.toArray.size (Lib.bitLen l.toArray.size) true true (Nat.zero_le _) (Nat.le_refl _) (Or.inl rfl)
 generalize hd:pdq (ltOf x2a) l.toArray 0 l.toArray.size (Lib.bitLen l.toArray.size) true true=d' at h hp
 refine ⟨d'.toList,?_,y5r hp.1,?_⟩
 ·have hb:Nat.ble (z0d l).length 12=true:=by simp [z0d]; exact hl
  show (bif Nat.ble (z0d l).length 12 then _ else _)=_
  rw [hb]
  exact h
 ·refine (y15 hp.1.1 hp.2).imp fun hab hlt=>?_
  rw [z8b.2 hlt] at hab; cases hab
theorem x4l:∀ {l:List Pt},(∀ w∈l,z3h w∧w≠(0,0))→∃ t,dWy l=some t∧t.map Subtype.val=l
 |[],_=>⟨[],rfl,rfl⟩
 |p::l,h=>by
  obtain ⟨t,h1,h2⟩:=x4l (l:=l) (fun w hw=>h w (List.mem_cons_of_mem _ hw))
  refine ⟨⟨p,h p (by simp)⟩::t,?_,by simp [h2]⟩
  simp only [dWy,h1,dif_pos (h p (List.mem_cons_self ..))]
theorem x0s:∀ (l:List Pt),w39 (z0d l)=some l
 |[]=>rfl
 |p::l=>by
  show (match dPt (eP p),w39 (z0d l) with|some q,some t=>some (q::t)|_,_=>none)=_
  rw [x0s l]
  rfl
theorem w8w (l:List Pt) (hw:∀ w∈l,z3h w∧w≠(0,0)) (hl:l.length≤1000000):∃ l',v9v std (z0d l,())=some (z0d l',())∧l'.Perm l∧l'.Pairwise (fun a b=>¬ z5q b a<0):=by
 obtain ⟨t,h1,h2⟩:=x4l hw
 have htl:t.length=l.length:=by rw [←h2]; simp
 have hp:=pdq_sorts (ltOf (fun x y:Wy=>z5q x.1 y.1)) y6y t.toArray 0 t.toArray.size (Lib.bitLen t.toArray.size) true true (Nat.zero_le _) (Nat.le_refl _) (Or.inl rfl)
 have henc:z0d l=Sortt.encA Subtype.val t.toArray:=by
  rw [←h2]
  simp only [z0d,Sortt.encA,List.map_map]
  rfl
 generalize hd:pdq (ltOf (fun x y:Wy=>z5q x.1 y.1)) t.toArray 0 t.toArray.size (Lib.bitLen t.toArray.size) true true=d' at hp
 have hfin:(d'.toList.map Subtype.val).Perm l∧(d'.toList.map Subtype.val).Pairwise (fun a b=>¬ z5q b a<0):=by
  refine ⟨?_,?_⟩
  ·have:=(y5r hp.1).map Subtype.val
   rw [←h2]; simpa using this
  ·rw [List.pairwise_map]
   refine (y15 hp.1.1 hp.2).imp fun hab hlt=>?_
   rw [y7m (cf:=fun x y:Wy=>z5q x.1 y.1).2 hlt] at hab; cases hab
 refine ⟨d'.toList.map Subtype.val,?_,hfin.1,hfin.2⟩
 have hres:z0d (d'.toList.map Subtype.val)=d'.toList.map (z3w Subtype.val):=by
  simp only [z0d,List.map_map]; rfl
 show (bif Nat.ble (z0d l).length 12 then x52 it0 std (z0d l,()) else w82 (z0d l,()))=_
 by_cases h12:l.length≤12
 ·have hb:Nat.ble (z0d l).length 12=true:=by simp [z0d]; exact h12
  rw [hb]
  have h:=Sortt.sortt_small (tp:=Subtype.val) (cf:=fun x y:Wy=>z5q x.1 y.1) (fun x y=>w0h x.2.1 y.2.1) t.toArray (by simp; omega)
  rw [hd, ←henc] at h
  rw [hres]
  exact h
 ·have hb:Nat.ble (z0d l).length 12=false:=by
   have:¬ (z0d l).length≤12:=by simpa [z0d] using h12
   cases hq:Nat.ble (z0d l).length 12 with
   |false=>rfl
   |true=>exact absurd (Nat.le_of_ble_eq_true hq) this
  rw [hb]
  simp only [cond_false,w82,x0s,Option.bind_some,h1]
  match t,h1,htl,hd with
  |[],_,htl,_=>simp at htl; omega
  |p::t,_,htl,hd=>
   simp only
   rw [if_pos (by simp at htl; omega),hd,hres]
end Go.Am
end
section
namespace Go.Am
open M06
def y0t (l:List Pt) (hs:List (List Pt)):Prop:=20<l.length∨8<hs.length∨∃ h∈hs,20<h.length
instance (l:List Pt) (hs:List (List Pt)):Decidable (y0t l hs):=by unfold y0t; infer_instance
theorem y1q {α:Type} {l:List α} {i:Nat} {m d:α} (h:l[i]?=some m):l.getD i d=m:=by simp [List.getD_eq_getElem?_getD,h]
theorem y01 {α:Type} {l:List α} {d:α} {P:α→Prop} (h:∀ i,i<l.length→P (l.getD i d)):∀ p∈l,P p:=fun p hp=>by
 obtain ⟨i,hi'⟩:=List.getElem?_of_mem hp
 have:=h i (List.getElem?_eq_some_iff.1 hi').1
 rwa [y1q hi'] at this
theorem y0u {α:Type} {l:List α} {i:Nat} (d:α) (h:i<l.length):l.getD i d∈l:=by
 obtain ⟨m,hm⟩:=z0w h
 rw [y1q hm]; exact List.mem_of_getElem? hm
theorem v30 (l:List Pt) (hs:List (List Pt)):G14 std (z0d l,z19 hs,())=some (decide (y0t l hs),()):=by
 unfold G14
 have h0:(if (l.length:Int)>20 then some (z0d l,z19 hs,true,()) else some (z0d l,z19 hs,decide ((hs.length:Int)>8),()))=some (z0d l,z19 hs,decide (20<l.length∨8<hs.length),()):=by
  by_cases h1:20<l.length
  ·have:(l.length:Int)>20:=by omega
   simp [this,h1]
  ·have:¬ (l.length:Int)>20:=by omega
   simp only [this,h1,if_false,false_or]
   congr 4
   rw [decide_eq_decide]; omega
 have e1:std.ofNat (std.len (z0d l))=(l.length:Int):=by simp [z1o,z3i,z0d]
 have e2:std.ofNat (std.len (z19 hs))=(hs.length:Int):=by simp [z1o,z3i,z19]
 simp only [g14,it0,z3j,z52,z4a,z4b,z5v,z7z,e1,e2,y3q,decide_eq_true_eq,h0,Option.bind_some]
 by_cases hg:20<l.length∨8<hs.length
 ·have:y0t l hs:=hg.elim .inl fun h=> .inr (.inl h)
  simp only [hg,if_true,decide_eq_true this]
 ·have hl8:hs.length≤8:=by omega
  have key:=z47 (b:=w3d std) hs.length (fun i=>(z0d l,z19 hs,(i:Int),())) (fun i=>decide (20<(hs.getD i []).length)) (fun i=> .inl (true,())) (.inr ()) (fun i hi'=>by
   obtain ⟨m,hm⟩:=z0w hi'
   have hw:=z09 (i:=i) (by omega)
   have hlt:(i:Int)<hs.length:=by omega
   have h0:(0:Int)≤i:=by omega
   simp only [y1q hm,w3d,z1a,z1b,z19,z88,x6d,hm,hlt,h0,ge_iff_le,z0f,hw,z0d]
   by_cases k:20<m.length
   ·have:(m.length:Int)>20:=by omega
    simp [k,this]
   ·have:¬ (m.length:Int)>20:=by omega
    simp [k,this]) (by
   have hn:¬ (hs.length:Int)<hs.length:=by omega
   simp only [w3d,z1a,z1b,z19,hn])
  have e0:(z0d l,z19 hs,(0:Int),())=(z0d l,z19 hs,((0:Nat):Int),()):=rfl
  simp only [hg,if_false]
  rw [e0]
  rcases key with ⟨i,h1,h2,_,h4⟩|⟨h1,h2⟩
  ·have:y0t l hs:= .inr (.inr ⟨_,y0u [] h1,by simpa using h2⟩)
   rw [h4]
   simp only [z1a,z1b,decide_eq_true this]
  ·have:¬ y0t l hs:=by
    rintro (h|h|⟨h,hm,hh⟩)
    ·exact hg (.inl h)
    ·exact hg (.inr h)
    ·have:=y01 (P:=fun h=>¬ 20<h.length) (fun i hi=>by simpa using h1 i hi) h hm
     exact this hh
   rw [h2]
   simp only [z1a,z1b,decide_eq_false this]
theorem w4w (a b:List Pt) (ha:a.length≤1000000):G20 std (z0d a,z0d b,())=some (decide (a=b),()):=by
 unfold G20
 have e1:std.ofNat (std.len (z0d a))=(a.length:Int):=by simp [z1o,z3i,z0d]
 have e2:std.ofNat (std.len (z0d b))=(b.length:Int):=by simp [z1o,z3i,z0d]
 by_cases hl:a.length=b.length
 ·have hn:¬ ¬ (a.length:Int)=b.length:=by omega
  simp only [g20,it0,z3j,z52,z4a,z4b,z5v,z7z,e1,e2,x7k,Bool.not_eq_true',decide_eq_false_iff_not,hn,if_false]
  have key:=z47 (b:=w29 std) a.length (fun i=>(z0d a,z0d b,(i:Int),())) (fun i=>!decide (a.getD i (0,0)=b.getD i (0,0))) (fun i=> .inl (false,())) (.inr ()) (fun i hi'=>by
   obtain ⟨m,hm⟩:=z0w hi'
   obtain ⟨k,hk⟩:=z0w (show i<b.length by omega)
   have hw:=z09 (i:=i) (by omega)
   have hlt:(i:Int)<a.length:=by omega
   have h0:(0:Int)≤i:=by omega
   simp only [y1q hm,y1q hk,w29,z1a,z1b,z0d,z02,z17,z16,hm,hk,hlt,h0,ge_iff_le,z0f,hw]
   have hmk:m=k↔m.1=k.1∧m.2=k.2:=⟨fun h=>by rw [h]; exact ⟨rfl,rfl⟩,fun h=>Prod.ext h.1 h.2⟩
   by_cases k1:m.1=k.1
   ·by_cases k2:m.2=k.2
    ·have:=hmk.2 ⟨k1,k2⟩
     simp [k1,k2,this]
    ·have:¬ m=k:=fun h=>k2 (hmk.1 h).2
     simp [k1,k2,this]
   ·have:¬ m=k:=fun h=>k1 (hmk.1 h).1
    simp [k1,this]) (by
   have hn:¬ (a.length:Int)<a.length:=by omega
   simp only [w29,z1a,z1b,z0d,hn])
  have e0:(z0d a,z0d b,(0:Int),())=(z0d a,z0d b,((0:Nat):Int),()):=rfl
  rw [e0]
  rcases key with ⟨i,h1,h2,_,h4⟩|⟨h1,h2⟩
  ·have:¬ a=b:=by rintro rfl; simp at h2
   rw [h4]
   simp only [z1a,z1b,decide_eq_false this]
  ·have:a=b:=by
    apply List.ext_getElem hl
    intro i i1 i2
    have:=h1 i i1
    rw [y1q (List.getElem?_eq_getElem i1),y1q (List.getElem?_eq_getElem i2)] at this
    simpa using this
   rw [h2]
   simp only [z1a,z1b,decide_eq_true this]
 ·have hn:¬ (a.length:Int)=b.length:=by omega
  have:¬ a=b:=fun h=>hl (by rw [h])
  simp only [g20,it0,z3j,z52,z4a,z4b,z5v,z7z,e1,e2,x7k,Bool.not_eq_true',decide_eq_false_iff_not,hn,not_false_eq_true,if_true,this,decide_false]
def x1h (l:List Pt) (hs:List (List Pt)):Int:=
 if ¬ z43 l∨4<hs.length∨∃ h∈hs,¬ z43 h then 6 else if (¬ ∀ p∈l,z03 0 1000 p)∨∃ h∈hs,¬ ∀ p∈h,z03 (-1000) 1000 p then 3 else 0
theorem w4x (l:List Pt) (hs:List (List Pt)):G18 std (z0d l,z19 hs,())=some (x1h l hs,()):=by
 unfold G18 x1h
 have e2:std.ofNat (std.len (z19 hs))=(hs.length:Int):=by simp [z1o,z3i,z19]
 by_cases h1:z43 l
 case neg=>simp only [g18,it0,z1a,z1b,x40,h1,not_false_eq_true,true_or]
 by_cases h2:4<hs.length
 case pos=>
  have:(hs.length:Int)>4:=by omega
  simp only [g18,it0,z3j,z52,z4a,z4b,z5v,z7z,y00,e2,y3q,x40,h1,h2,this,not_true,false_or,true_or,or_true,decide_true,if_true,if_false,Option.bind_some,Bool.false_eq_true]
 have h2':¬ (hs.length:Int)>4:=by omega
 have key:=z47 (b:=w3b std) hs.length (fun i=>(z0d l,z19 hs,z19 hs,(hs.length:Int),(i:Int),())) (fun i=>!decide (z43 (hs.getD i []))) (fun i=> .inl (z0d l,z19 hs,(i:Int),())) (.inr (z0d l,z19 hs,())) (fun i hi'=>by
  obtain ⟨m,hm⟩:=z0w hi'
  have hw:=z09 (i:=i) (by omega)
  have hlt:(i:Int)<hs.length:=by omega
  have h0:(0:Int)≤i:=by omega
  simp only [y1q hm,w3b,z1a,z1b,z19,z88,x6d,x40,hm,hlt,h0,ge_iff_le,z0f,hw]
  by_cases k:z43 m
  ·simp [k]
  ·simp [k]) (by
  have hn:¬ (hs.length:Int)<hs.length:=by omega
  simp only [w3b,z1a,z1b,hn])
 have e0:(z0d l,z19 hs,z19 hs,(hs.length:Int),(0:Int),())=(z0d l,z19 hs,z19 hs,(hs.length:Int),((0:Nat):Int),()):=rfl
 simp only [g18,it0,z3j,z52,z4a,z4b,z5v,z7z,y00,e2,y3q,x40,h1,h2',h2,not_true,false_or,decide_true,if_true,if_false,Option.bind_some,Bool.false_eq_true,decide_false]
 rw [e0]
 rcases key with ⟨i,i1,i2,_,i4⟩|⟨i1,i2⟩
 ·have:∃ h∈hs,¬ z43 h:=⟨_,y0u [] i1,by simpa using i2⟩
  have h0:(0:Int)≤i:=by omega
  simp only [i4,Option.bind_some,Sum.elim_inl,y1f,ge_iff_le,h0,decide_true,if_true,this]
 ·have hall:=y01 (P:=fun h=>z43 h) (fun i hi=>by simpa using i1 i hi)
  have hno:¬ ∃ h∈hs,¬ z43 h:=fun ⟨h,hm,hn⟩=>hn (hall h hm)
  simp only [i2,Option.bind_some,Sum.elim_inr,y1f,show ¬ (-1:Int)≥0 by decide,decide_false,Bool.false_eq_true,if_false,hno]
  have g0:g53 it0 std (0,1000,z0d l,())=some (decide (∀ p∈l,z03 0 1000 p),()):=w4u 0 1000 l (by have:=h1.2; omega)
  rw [g0]
  by_cases h3:∀ p∈l,z03 0 1000 p
  case neg=>simp only [Option.bind_some,decide_eq_false h3,decide_false,Bool.false_eq_true,if_false,if_true,h3,not_false_eq_true,true_or]
  have key2:=z47 (b:=x6t it0 std) hs.length (fun i=>(z0d l,z19 hs,z19 hs,(hs.length:Int),(i:Int),())) (fun i=>!decide (∀ p∈hs.getD i [],z03 (-1000) 1000 p)) (fun i=> .inl (z0d l,z19 hs,(i:Int),())) (.inr (z0d l,z19 hs,())) (fun i hi'=>by
   obtain ⟨m,hm⟩:=z0w hi'
   have hw:=z09 (i:=i) (by omega)
   have hlt:(i:Int)<hs.length:=by omega
   have h0:(0:Int)≤i:=by omega
   have g1:g53 it0 std (-1000,1000,z0d m,())=some (decide (∀ p∈m,z03 (-1000) 1000 p),()):=w4u (-1000) 1000 m (by have:=(hall m (List.mem_of_getElem? hm)).2; omega)
   simp only [y1q hm,x6t,z1a,z1b,z19,z88,x6d,g1,hm,hlt,h0,ge_iff_le,z0f,hw]
   by_cases k:∀ p∈m,z03 (-1000) 1000 p
   ·rw [if_pos k,if_neg (by simp),if_neg (fun h=>h k)]
   ·rw [if_neg k,if_pos rfl,if_pos k]) (by
   have hn:¬ (hs.length:Int)<hs.length:=by omega
   simp only [x6t,z1a,z1b,hn])
  simp only [Option.bind_some,decide_eq_true h3,if_true,Bool.false_eq_true,if_false,e2]
  rw [e0]
  rcases key2 with ⟨i,j1,j2,_,j4⟩|⟨j1,j2⟩
  ·have:∃ h∈hs,¬ ∀ p∈h,z03 (-1000) 1000 p:=⟨_,y0u [] j1,by simpa only [Bool.not_eq_true',decide_eq_false_iff_not] using j2⟩
   have h0:(0:Int)≤i:=by omega
   simp only [j4,Option.bind_some,Sum.elim_inl,ge_iff_le,h0,decide_true,if_true,this,or_true]
  ·have hall2:=y01 (P:=fun h=>∀ p∈h,z03 (-1000) 1000 p) (fun i hi=>by have:=j1 i hi; simpa only [Bool.not_eq_false',decide_eq_true_eq] using this)
   have hno2:¬ ∃ h∈hs,¬ ∀ p∈h,z03 (-1000) 1000 p:=fun ⟨h,hm,hn⟩=>hn (hall2 h hm)
   have h3':¬ ¬ ∀ p∈l,z03 0 1000 p:=fun h=>h h3
   simp only [j2,Option.bind_some,Sum.elim_inr,if_false,decide_false,Bool.false_eq_true,hno2,h3',or_false]
theorem v3z (l:List Pt) (hs:List (List Pt)):G19 std (z0d l,z19 hs,())=some (x1h l hs,()):=by
 unfold G19 x1h
 have e2:std.ofNat (std.len (z19 hs))=(hs.length:Int):=by simp [z1o,z3i,z19]
 by_cases h1:z43 l
 case neg=>simp only [g19,it0,z1a,z1b,x4z,h1,not_false_eq_true,true_or]
 by_cases h2:4<hs.length
 case pos=>
  have:(hs.length:Int)>4:=by omega
  simp only [g19,it0,z3j,z52,z4a,z4b,z5v,z7z,y00,e2,y3q,x4z,h1,h2,this,not_true,false_or,true_or,or_true,decide_true,if_true,if_false,Option.bind_some,Bool.false_eq_true]
 have h2':¬ (hs.length:Int)>4:=by omega
 have key:=z47 (b:=w3a std) hs.length (fun i=>(z0d l,z19 hs,(i:Int),())) (fun i=>!decide (z43 (hs.getD i []))) (fun i=> .inl (6,())) (.inr (z0d l,z19 hs,())) (fun i hi'=>by
  obtain ⟨m,hm⟩:=z0w hi'
  have hw:=z09 (i:=i) (by omega)
  have hlt:(i:Int)<hs.length:=by omega
  have h0:(0:Int)≤i:=by omega
  simp only [y1q hm,w3a,z1a,z1b,z19,z88,x6d,x4z,hm,hlt,h0,ge_iff_le,z0f,hw]
  by_cases k:z43 m
  ·simp [k]
  ·simp [k]) (by
  have hn:¬ (hs.length:Int)<hs.length:=by omega
  simp only [w3a,z1a,z1b,z19,hn])
 have e0:(z0d l,z19 hs,(0:Int),())=(z0d l,z19 hs,((0:Nat):Int),()):=rfl
 simp only [g19,it0,z3j,z52,z4a,z4b,z5v,z7z,y00,e2,y3q,x4z,h1,h2',h2,not_true,false_or,decide_true,if_true,if_false,Option.bind_some,Bool.false_eq_true,decide_false]
 rw [e0]
 rcases key with ⟨i,i1,i2,_,i4⟩|⟨i1,i2⟩
 ·have:∃ h∈hs,¬ z43 h:=⟨_,y0u [] i1,by simpa using i2⟩
  simp only [i4,Option.bind_some,Sum.elim_inl,if_true,this]
 ·have hall:=y01 (P:=fun h=>z43 h) (fun i hi=>by simpa using i1 i hi)
  have hno:¬ ∃ h∈hs,¬ z43 h:=fun ⟨h,hm,hn⟩=>hn (hall h hm)
  simp only [i2,Option.bind_some,Sum.elim_inr,Bool.false_eq_true,if_false,hno]
  have g0:g56 it0 std (z0d l,0,1000,())=some (decide (∀ p∈l,z03 0 1000 p),()):=w4t 0 1000 l (by have:=h1.2; omega)
  rw [g0]
  by_cases h3:∀ p∈l,z03 0 1000 p
  case neg=>simp only [Option.bind_some,decide_eq_false h3,decide_false,Bool.false_eq_true,if_false,if_true,h3,not_false_eq_true,true_or]
  have key2:=z47 (b:=x6s it0 std) hs.length (fun i=>(z0d l,z19 hs,(i:Int),())) (fun i=>!decide (∀ p∈hs.getD i [],z03 (-1000) 1000 p)) (fun i=> .inl (3,())) (.inr ()) (fun i hi'=>by
   obtain ⟨m,hm⟩:=z0w hi'
   have hw:=z09 (i:=i) (by omega)
   have hlt:(i:Int)<hs.length:=by omega
   have h0:(0:Int)≤i:=by omega
   have g1:g56 it0 std (z0d m, -1000,1000,())=some (decide (∀ p∈m,z03 (-1000) 1000 p),()):=w4t (-1000) 1000 m (by have:=(hall m (List.mem_of_getElem? hm)).2; omega)
   simp only [y1q hm,x6s,z1a,z1b,z19,z88,x6d,g1,hm,hlt,h0,ge_iff_le,z0f,hw]
   by_cases k:∀ p∈m,z03 (-1000) 1000 p
   ·rw [if_pos k,if_neg (by simp),if_neg (fun h=>h k)]
   ·rw [if_neg k,if_pos rfl,if_pos k]) (by
   have hn:¬ (hs.length:Int)<hs.length:=by omega
   simp only [x6s,z1a,z1b,z19,hn])
  simp only [Option.bind_some,decide_eq_true h3,if_true,Bool.false_eq_true,if_false]
  rw [e0]
  rcases key2 with ⟨i,j1,j2,_,j4⟩|⟨j1,j2⟩
  ·have:∃ h∈hs,¬ ∀ p∈h,z03 (-1000) 1000 p:=⟨_,y0u [] j1,by simpa only [Bool.not_eq_true',decide_eq_false_iff_not] using j2⟩
   simp only [j4,Option.bind_some,Sum.elim_inl,if_true,this,or_true]
  ·have hall2:=y01 (P:=fun h=>∀ p∈h,z03 (-1000) 1000 p) (fun i hi=>by have:=j1 i hi; simpa only [Bool.not_eq_false',decide_eq_true_eq] using this)
   have hno2:¬ ∃ h∈hs,¬ ∀ p∈h,z03 (-1000) 1000 p:=fun ⟨h,hm,hn⟩=>hn (hall2 h hm)
   have h3':¬ ¬ ∀ p∈l,z03 0 1000 p:=fun h=>h h3
   simp only [j2,Option.bind_some,Sum.elim_inr,if_false,Bool.false_eq_true,hno2,h3',or_false]
end Go.Am
end
noncomputable section
namespace Go.Am
def v19:Ctr:=
 ⟨88,[.list 2],[],[(.ret,⟨[(0, .slc 0 2)],[.row [ci,ci]],1⟩)]⟩
def la88:List LA:=
 [⟨88,[false,true,false,true,true],0,⟨⟨[(3, .vec 0 2),(6, .list 2),(7, .int .i64),(8, .int .i64)],[.row [ci,ci]],61⟩,[((AX.exit 0),⟨[(3, .vec 0 2)],[.row [ci,ci]],61⟩)]⟩⟩,
 ⟨88,[false,false,true,false,false,true,true,false,false,true,false,true,true],0,⟨⟨[(3, .sl 0 2),(5, .bptr 1 0),(6, .list 2),(7, .int .i64),(8, .int .i64)],[.row [ci,ci], .box [.int .i64, .int .i64]],61⟩,[((AX.exit 2),⟨[(3, .sl 0 2),(5, .bptr 1 0),(6, .list 2),(7, .int .i64),(8, .int .i64)],[.row [ci,ci], .box [.int .i64, .int .i64]],61⟩)]⟩⟩]
def ja88:List JA:=
 []
def v6v:List CF:=
 []
def an88:Anns:=
 ⟨v6v,ja88,[]⟩
def y5g (p:Prim):(LD×T27)→Option ((LD×T27)⊕(LD×T27)):=
 fun a=>opt.run _ (
 opt.ask _ (p.cmp .gtr (p.ofNat a.2.2.2.2.1) (1:Int)) (
 opt.need _ (bif (p.cmp .geq (p.ar .sub .i64 (p.ofNat a.2.2.2.2.1) (1:Int)) (0:Int)) then (p.cmp .lss (p.ar .sub .i64 (p.ofNat a.2.2.2.2.1) (1:Int)) (p.ofNat a.2.2.2.2.1)) else Bool.false)<|
 opt.need _ (p.rowOk a.1 (p.add a.2.2.2.1 (p.nat (p.ar .sub .i64 (p.ofNat a.2.2.2.2.1) (1:Int)))) [ci,ci])<|
 opt.need _ (bif (p.cmp .geq (p.ar .sub .i64 (p.ofNat a.2.2.2.2.1) (2:Int)) (0:Int)) then (p.cmp .lss (p.ar .sub .i64 (p.ofNat a.2.2.2.2.1) (2:Int)) (p.ofNat a.2.2.2.2.1)) else Bool.false)<|
 opt.need _ (p.rowOk a.1 (p.add a.2.2.2.1 (p.nat (p.ar .sub .i64 (p.ofNat a.2.2.2.2.1) (2:Int)))) [ci,ci])<|
 opt.need _ (bif (p.cmp .geq (p.ar .sub .i64 (p.ofNat a.2.2.2.2.1) (2:Int)) (0:Int)) then (p.cmp .lss (p.ar .sub .i64 (p.ofNat a.2.2.2.2.1) (2:Int)) (p.ofNat a.2.2.2.2.1)) else Bool.false)<|
 opt.need _ (p.rowOk a.1 (p.add a.2.2.2.1 (p.nat (p.ar .sub .i64 (p.ofNat a.2.2.2.2.1) (2:Int)))) [ci,ci])<|
 opt.ask _ (p.cmp .leq (p.ar .sub .i64 (p.ar .mul .i64 (p.ar .sub .i64 (p.rdI a.1 (p.add a.2.2.2.1 (p.nat (p.ar .sub .i64 (p.ofNat a.2.2.2.2.1) (1:Int)))) 0) (p.rdI a.1 (p.add a.2.2.2.1 (p.nat (p.ar .sub .i64 (p.ofNat a.2.2.2.2.1) (2:Int)))) 0)) (p.ar .sub .i64 a.2.2.1 (p.rdI a.1 (p.add a.2.2.2.1 (p.nat (p.ar .sub .i64 (p.ofNat a.2.2.2.2.1) (2:Int)))) 1))) (p.ar .mul .i64 (p.ar .sub .i64 (p.rdI a.1 (p.add a.2.2.2.1 (p.nat (p.ar .sub .i64 (p.ofNat a.2.2.2.2.1) (1:Int)))) 1) (p.rdI a.1 (p.add a.2.2.2.1 (p.nat (p.ar .sub .i64 (p.ofNat a.2.2.2.2.1) (2:Int)))) 1)) (p.ar .sub .i64 a.2.1 (p.rdI a.1 (p.add a.2.2.2.1 (p.nat (p.ar .sub .i64 (p.ofNat a.2.2.2.2.1) (2:Int)))) 0)))) (0:Int)) (
 opt.need _ (p.and (p.cmp .geq (0:Int) (0:Int)) (p.and (p.cmp .leq (0:Int) (p.ar .sub .i64 (p.ofNat a.2.2.2.2.1) (1:Int))) (p.and (p.cmp .leq (p.ar .sub .i64 (p.ofNat a.2.2.2.2.1) (1:Int)) (p.ar .sub .i64 (p.ofNat a.2.2.2.2.1) (1:Int))) (p.cmp .leq (p.ar .sub .i64 (p.ofNat a.2.2.2.2.1) (1:Int)) (p.ofNat a.2.2.2.2.1)))))<|
 opt.need _ (p.leN (p.add (p.add a.2.2.2.1 (p.nat (0:Int))) (p.sub (p.nat (p.ar .sub .i64 (p.ofNat a.2.2.2.2.1) (1:Int))) (p.nat (0:Int)))) (p.len a.1))<|
 opt.ret _ (Sum.inl (a.1,(a.2.1,(a.2.2.1,((p.add a.2.2.2.1 (p.nat (0:Int))),((p.sub (p.nat (p.ar .sub .i64 (p.ofNat a.2.2.2.2.1) (1:Int))) (p.nat (0:Int))),(a.2.2.2.2.2.1,(a.2.2.2.2.2.2.1,(a.2.2.2.2.2.2.2.1,())))))))))) (
 opt.ret _ (Sum.inr (a.1,(a.2.1,(a.2.2.1,(a.2.2.2.1,(a.2.2.2.2.1,(a.2.2.2.2.2.1,(a.2.2.2.2.2.2.1,(a.2.2.2.2.2.2.2.1,()))))))))))) (
 opt.ret _ (Sum.inr (a.1,(a.2.1,(a.2.2.1,(a.2.2.2.1,(a.2.2.2.2.1,(a.2.2.2.2.2.1,(a.2.2.2.2.2.2.1,(a.2.2.2.2.2.2.2.1,())))))))))))
def x6r (it:It) (p:Prim):(LD×(LD×T3))→Option ((LD×(LD×T3))⊕(LD×Unit)):=
 fun a=>opt.run _ (
 opt.ask _ (p.cmp .lss a.2.2.2.1 a.2.2.1) (
 opt.need _ (p.rowOk a.2.1 (p.nat a.2.2.2.1) [ci,ci])<|
 opt.need _ (p.cmp .geq a.2.2.2.1 (0:Int))<|
 opt.bnd ((LD×T27)) _ (
 it _ _ (y5g p) (a.1,((p.rdI a.2.1 (p.nat a.2.2.2.1) 0),((p.rdI a.2.1 (p.nat a.2.2.2.1) 1),(0,((p.len a.1),(a.2.1,(a.2.2.1,(a.2.2.2.1,()))))))))) fun b=>
 opt.need _ (p.and (p.leN (p.add 0 1) (p.len [[(D.int .i64 b.2.1),(D.int .i64 b.2.2.1)]])) (p.and (p.leN (p.add b.2.2.2.1 b.2.2.2.2.1) (p.len b.1)) (p.and (p.leN 1 1) (p.leN (p.add b.2.2.2.2.1 1) 1000000))))<|
 opt.need _ (p.eqN 0 0)<|
 opt.need _ (p.eqN (p.add b.2.2.2.2.1 1) (p.len (p.app (p.cut b.1 b.2.2.2.1 b.2.2.2.2.1) (p.cut [[(D.int .i64 b.2.1),(D.int .i64 b.2.2.1)]] 0 1))))<|
 opt.ret _ (Sum.inl ((p.app (p.cut b.1 b.2.2.2.1 b.2.2.2.2.1) (p.cut [[(D.int .i64 b.2.1),(D.int .i64 b.2.2.1)]] 0 1)),(b.2.2.2.2.2.1,(b.2.2.2.2.2.2.1,((p.ar .add .i64 b.2.2.2.2.2.2.2.1 (1:Int)),())))))) (
 opt.need _ (p.eqN 0 0)<|
 opt.need _ (p.eqN (p.len a.1) (p.len a.1))<|
 opt.ret _ (Sum.inr (a.1,()))))
def g88 (it:It):(p:Prim)→(LD×Unit)→Option ((LD×T8)):=
 fun p x=>
 opt.bnd ((LD×Unit)) _ (
 it _ _ (x6r it p) ([],(x.1,((p.ofNat (p.len x.1)),((0:Int),()))))) fun a=>
 opt.need _ (p.and (p.cmp .geq (0:Int) (0:Int)) (p.and (p.cmp .leq (0:Int) (p.ar .sub .i64 (p.ofNat (p.len a.1)) (1:Int))) (p.and (p.cmp .leq (p.ar .sub .i64 (p.ofNat (p.len a.1)) (1:Int)) (p.ar .sub .i64 (p.ofNat (p.len a.1)) (1:Int))) (p.cmp .leq (p.ar .sub .i64 (p.ofNat (p.len a.1)) (1:Int)) (p.ofNat (p.len a.1))))))<|
 opt.ret _ (a.1,((p.add 0 (p.nat (0:Int))),((p.sub (p.nat (p.ar .sub .i64 (p.ofNat (p.len a.1)) (1:Int))) (p.nat (0:Int))),((p.sub (p.nat (p.ar .sub .i64 (p.ofNat (p.len a.1)) (1:Int))) (p.nat (0:Int))),()))))
def G88:=g88 it0
theorem ok88:CtrOk PG v19 (G88 std):=okF (a:=an88) (l:=la88) (gN) (by kernel_rfl) fun _ _=>by kernel_rfl
def w4f:Ctr:=
 ⟨101,[.slc 0 2],[.row [ci,ci]],[(.ret,⟨[(0, .slc 0 2)],[.row [ci,ci]],1⟩)]⟩
def v56:List LA:=
 [⟨101,[false,true,false,true,true],1,⟨⟨[(0, .slc 0 2),(3, .int .i64)],[.row [ci,ci]],61⟩,[(AX.ret,⟨[(2, .slc 0 2)],[.row [ci,ci]],61⟩),((AX.exit 0),⟨[(0, .slc 0 2)],[.row [ci,ci]],61⟩)]⟩⟩,
 ⟨101,[false,true,false,true,false,true,false,false,true,false,false,true,false,true,true],1,⟨⟨[(0, .slc 0 2),(3, .int .i64),(4, .slc 0 2),(5, .int .i64)],[.row [ci,ci]],61⟩,[((AX.exit 2),⟨[(0, .slc 0 2),(3, .int .i64)],[.row [ci,ci]],61⟩)]⟩⟩]
def v6e:List JA:=
 [⟨101,[true,false,false,true,false,false,true,false,true,false,true,false,false,true,false,false,true,false,true,true],1,[(AX.normal,⟨[(0, .slc 0 2),(3, .int .i64),(4, .slc 0 2),(5, .int .i64)],[.row [ci,ci]],61⟩)]⟩]
def v1k:List CF:=
 []
def v8y:Anns:=
 ⟨v1k,v6e,[]⟩
def y4u (p:Prim):(LD×T28)→Option ((LD×T28)⊕(LD×T29)):=
 fun a=>opt.run _ (
 opt.ask _ (p.cmp .lss a.2.2.2.2.2.2.2.2.1 (p.ofNat a.2.2.2.2.2.2.1)) (
 opt.need _ (bif (p.cmp .geq a.2.2.2.2.2.2.2.2.1 (0:Int)) then (p.cmp .lss a.2.2.2.2.2.2.2.2.1 (p.ofNat a.2.2.2.2.2.2.1)) else Bool.false)<|
 opt.need _ (p.rowOk a.1 (p.add a.2.2.2.2.2.1 (p.nat a.2.2.2.2.2.2.2.2.1)) [ci,ci])<|
 opt.need _ (bif (p.cmp .geq (p.ar .sub .i64 a.2.2.2.2.2.2.2.2.1 (1:Int)) (0:Int)) then (p.cmp .lss (p.ar .sub .i64 a.2.2.2.2.2.2.2.2.1 (1:Int)) (p.ofNat a.2.2.2.2.2.2.1)) else Bool.false)<|
 opt.need _ (p.rowOk a.1 (p.add a.2.2.2.2.2.1 (p.nat (p.ar .sub .i64 a.2.2.2.2.2.2.2.2.1 (1:Int)))) [ci,ci])<|
 opt.bnd ((LD×T28)) _ (
 opt.run ((LD×T28)) (
 opt.ask _ (bif (bif (p.cmp .eql (p.rdI a.1 (p.add a.2.2.2.2.2.1 (p.nat a.2.2.2.2.2.2.2.2.1)) 0) (p.rdI a.1 (p.add a.2.2.2.2.2.1 (p.nat (p.ar .sub .i64 a.2.2.2.2.2.2.2.2.1 (1:Int)))) 0)) then (bif (p.cmp .eql (p.rdI a.1 (p.add a.2.2.2.2.2.1 (p.nat a.2.2.2.2.2.2.2.2.1)) 1) (p.rdI a.1 (p.add a.2.2.2.2.2.1 (p.nat (p.ar .sub .i64 a.2.2.2.2.2.2.2.2.1 (1:Int)))) 1)) then Bool.true else Bool.false) else Bool.false) then Bool.false else Bool.true) (
 opt.need _ (bif (p.cmp .geq a.2.2.2.2.2.2.2.2.1 (0:Int)) then (p.cmp .lss a.2.2.2.2.2.2.2.2.1 (p.ofNat a.2.2.2.2.2.2.1)) else Bool.false)<|
 opt.need _ (p.rowOk a.1 (p.add a.2.2.2.2.2.1 (p.nat a.2.2.2.2.2.2.2.2.1)) [ci,ci])<|
 opt.need _ (bif (p.cmp .geq a.2.2.2.2.1 (0:Int)) then (p.cmp .lss a.2.2.2.2.1 (p.ofNat a.2.2.1)) else Bool.false)<|
 opt.need _ (p.rowOk a.1 (p.add a.2.1 (p.nat a.2.2.2.2.1)) [ci,ci])<|
 opt.ret _ ((p.set a.1 (p.add a.2.1 (p.nat a.2.2.2.2.1)) [(D.int .i64 (p.rdI a.1 (p.add a.2.2.2.2.2.1 (p.nat a.2.2.2.2.2.2.2.2.1)) 0)),(D.int .i64 (p.rdI a.1 (p.add a.2.2.2.2.2.1 (p.nat a.2.2.2.2.2.2.2.2.1)) 1))]),(a.2.1,(a.2.2.1,(a.2.2.2.1,((p.ar .add .i64 a.2.2.2.2.1 (1:Int)),(a.2.2.2.2.2.1,(a.2.2.2.2.2.2.1,(a.2.2.2.2.2.2.2.1,(a.2.2.2.2.2.2.2.2.1,())))))))))) (
 opt.ret _ (a.1,(a.2.1,(a.2.2.1,(a.2.2.2.1,(a.2.2.2.2.1,(a.2.2.2.2.2.1,(a.2.2.2.2.2.2.1,(a.2.2.2.2.2.2.2.1,(a.2.2.2.2.2.2.2.2.1,())))))))))))) fun b=>
 opt.ret _ (Sum.inl (b.1,(b.2.1,(b.2.2.1,(b.2.2.2.1,(b.2.2.2.2.1,(b.2.2.2.2.2.1,(b.2.2.2.2.2.2.1,(b.2.2.2.2.2.2.2.1,((p.ar .add .i64 b.2.2.2.2.2.2.2.2.1 (1:Int)),()))))))))))) (
 opt.ret _ (Sum.inr (a.1,(a.2.1,(a.2.2.1,(a.2.2.2.1,(a.2.2.2.2.1,()))))))))
def y2d (it:It) (p:Prim):(LD×T29)→Option ((LD×T29)⊕((LD×T8)⊕(LD×T8))):=
 fun a=>opt.run _ (
 opt.ask _ (p.cmp .lss a.2.2.2.2.1 (p.ofNat a.2.2.1)) (
 opt.need _ (bif (p.cmp .geq a.2.2.2.2.1 (0:Int)) then (p.cmp .lss a.2.2.2.2.1 (p.ofNat a.2.2.1)) else Bool.false)<|
 opt.need _ (p.rowOk a.1 (p.add a.2.1 (p.nat a.2.2.2.2.1)) [ci,ci])<|
 opt.need _ (bif (p.cmp .geq (p.ar .sub .i64 a.2.2.2.2.1 (1:Int)) (0:Int)) then (p.cmp .lss (p.ar .sub .i64 a.2.2.2.2.1 (1:Int)) (p.ofNat a.2.2.1)) else Bool.false)<|
 opt.need _ (p.rowOk a.1 (p.add a.2.1 (p.nat (p.ar .sub .i64 a.2.2.2.2.1 (1:Int)))) [ci,ci])<|
 opt.ask _ (bif (p.cmp .eql (p.rdI a.1 (p.add a.2.1 (p.nat a.2.2.2.2.1)) 0) (p.rdI a.1 (p.add a.2.1 (p.nat (p.ar .sub .i64 a.2.2.2.2.1 (1:Int)))) 0)) then (bif (p.cmp .eql (p.rdI a.1 (p.add a.2.1 (p.nat a.2.2.2.2.1)) 1) (p.rdI a.1 (p.add a.2.1 (p.nat (p.ar .sub .i64 a.2.2.2.2.1 (1:Int)))) 1)) then Bool.true else Bool.false) else Bool.false) (
 opt.need _ (p.and (p.cmp .geq a.2.2.2.2.1 (0:Int)) (p.and (p.cmp .leq a.2.2.2.2.1 (p.ofNat a.2.2.1)) (p.cmp .leq (p.ofNat a.2.2.1) (p.ofNat a.2.2.1))))<|
 opt.bnd ((LD×T29)) _ (
 it _ _ (y4u p) (a.1,(a.2.1,(a.2.2.1,(a.2.2.2.1,(a.2.2.2.2.1,((p.add a.2.1 (p.nat a.2.2.2.2.1)),((p.sub (p.nat (p.ofNat a.2.2.1)) (p.nat a.2.2.2.2.1)),((p.sub a.2.2.2.1 (p.nat a.2.2.2.2.1)),((1:Int),())))))))))) fun b=>
 opt.need _ (p.and (p.cmp .geq b.2.2.2.2.1 (0:Int)) (p.and (p.cmp .leq b.2.2.2.2.1 (p.ofNat b.2.2.1)) (p.cmp .leq (p.ofNat b.2.2.1) (p.ofNat b.2.2.1))))<|
 opt.need _ (p.leN (p.add (p.add b.2.1 (p.nat b.2.2.2.2.1)) (p.sub (p.nat (p.ofNat b.2.2.1)) (p.nat b.2.2.2.2.1))) (p.len b.1))<|
 opt.need _ (p.and (p.cmp .geq (0:Int) (0:Int)) (p.and (p.cmp .leq (0:Int) b.2.2.2.2.1) (p.cmp .leq b.2.2.2.2.1 (p.ofNat b.2.2.1))))<|
 opt.ret _ (Sum.inr (Sum.inl ((p.splice b.1 (p.add b.2.1 (p.nat b.2.2.2.2.1)) (p.rep (p.sub (p.nat (p.ofNat b.2.2.1)) (p.nat b.2.2.2.2.1)) [k4k,k4k])),((p.add b.2.1 (p.nat (0:Int))),((p.sub (p.nat b.2.2.2.2.1) (p.nat (0:Int))),((p.sub b.2.2.2.1 (p.nat (0:Int))),()))))))) (
 opt.ret _ (Sum.inl (a.1,(a.2.1,(a.2.2.1,(a.2.2.2.1,((p.ar .add .i64 a.2.2.2.2.1 (1:Int)),())))))))) (
 opt.ret _ (Sum.inr (Sum.inr (a.1,(a.2.1,(a.2.2.1,(a.2.2.2.1,()))))))))
def w6o (it:It):(p:Prim)→(LD×T8)→Option ((LD×T8)):=
 fun p x=>
 opt.ask _ (p.cmp .lss (p.ofNat x.2.2.1) (2:Int)) (
 opt.ret _ (x.1,(x.2.1,(x.2.2.1,(x.2.2.2.1,()))))) (
 opt.alt ((LD×T8)) ((LD×T8)) _ (
 it _ _ (y2d it p) (x.1,(x.2.1,(x.2.2.1,(x.2.2.2.1,((1:Int),())))))) (fun a=>
 opt.ret _ (a.1,(a.2.1,(a.2.2.1,(a.2.2.2.1,()))))) (fun b=>
 opt.bnd ((LD×T8)) _ (some b) fun c=>
 opt.ret _ (c.1,(c.2.1,(c.2.2.1,(c.2.2.2.1,()))))))
def v4u:=w6o it0
theorem v5i:CtrOk PG w4f (v4u std):=okF (a:=v8y) (l:=v56) (gN) (by kernel_rfl) fun _ _=>by kernel_rfl
def v2b:Ctr:=
 ⟨86,[.list 2, .clo 87 [] []],[],[(.ret,⟨[(0, .slc 0 2)],[.row [ci,ci]],1⟩)]⟩
def la86:List LA:=
 []
def ja86:List JA:=
 []
def v6x:List CF:=
 [⟨w4f,v4u⟩,⟨x4r,v90⟩]
def an86:Anns:=
 ⟨v6x,ja86,[]⟩
def g86 (it:It):(p:Prim)→(LD×Unit)→Option ((LD×T8)):=
 fun p x=>
 opt.need _ (p.and (p.cmp .geq (p.ofNat (p.len x.1)) (0:Int)) (p.and (p.cmp .leq (p.ofNat (p.len x.1)) (p.ofNat (p.len x.1))) (p.cmp .leq (p.ofNat (p.len x.1)) (1000000:Int))))<|
 opt.need _ (p.and Bool.true (p.and (p.leN (p.len x.1) (p.nat (p.ofNat (p.len x.1)))) (p.leN (p.add 0 (p.nat (p.ofNat (p.len x.1)))) (p.len (p.rep (p.nat (p.ofNat (p.len x.1))) [k4k,k4k])))))<|
 opt.need _ (p.eqN 0 0)<|
 opt.need _ (p.eqN (p.nat (p.ofNat (p.len x.1))) (p.len (p.splice (p.rep (p.nat (p.ofNat (p.len x.1))) [k4k,k4k]) 0 x.1)))<|
 opt.need _ (p.eqN (p.nat (p.ofNat (p.len x.1))) (p.len (p.splice (p.rep (p.nat (p.ofNat (p.len x.1))) [k4k,k4k]) 0 x.1)))<|
 opt.bnd ((LD×Unit)) _ (v1m it p ((p.splice (p.rep (p.nat (p.ofNat (p.len x.1))) [k4k,k4k]) 0 x.1),())) fun a=>
 opt.bnd ((LD×T8)) _ (w6o it p (a.1,(0,((p.nat (p.ofNat (p.len x.1))),((p.nat (p.ofNat (p.len x.1))),()))))) fun b=>
 opt.ret _ (b.1,(b.2.1,(b.2.2.1,(b.2.2.2.1,()))))
def G86:=g86 it0
theorem ok86:CtrOk PG v2b (G86 std):=okF (a:=an86) (l:=la86) (gC v5i (gC v49 (gN))) (by kernel_rfl) fun _ _=>by kernel_rfl
def v18:Ctr:=
 ⟨89,[.slc 0 2],[.row [ci,ci]],[(.ret,⟨[(0, .tuple [])],[.row [ci,ci]],1⟩)]⟩
def la89:List LA:=
 [⟨89,[false,true],1,⟨⟨[(0, .slc 0 2),(2, .int .i64),(3, .int .i64)],[.row [ci,ci]],28⟩,[((AX.exit 0),⟨[],[.row [ci,ci]],28⟩)]⟩⟩]
def ja89:List JA:=
 []
def v6u:List CF:=
 []
def an89:Anns:=
 ⟨v6u,ja89,[]⟩
def w25 (p:Prim):(LD×T60)→Option ((LD×T60)⊕(LD×Unit)):=
 fun a=>opt.run _ (
 opt.ask _ (p.cmp .lss a.2.2.2.2.1 a.2.2.2.2.2.1) (
 opt.need _ (bif (p.cmp .geq a.2.2.2.2.2.1 (0:Int)) then (p.cmp .lss a.2.2.2.2.2.1 (p.ofNat a.2.2.1)) else Bool.false)<|
 opt.need _ (p.rowOk a.1 (p.add a.2.1 (p.nat a.2.2.2.2.2.1)) [ci,ci])<|
 opt.need _ (bif (p.cmp .geq a.2.2.2.2.1 (0:Int)) then (p.cmp .lss a.2.2.2.2.1 (p.ofNat a.2.2.1)) else Bool.false)<|
 opt.need _ (p.rowOk a.1 (p.add a.2.1 (p.nat a.2.2.2.2.1)) [ci,ci])<|
 opt.need _ (bif (p.cmp .geq a.2.2.2.2.1 (0:Int)) then (p.cmp .lss a.2.2.2.2.1 (p.ofNat a.2.2.1)) else Bool.false)<|
 opt.need _ (p.rowOk a.1 (p.add a.2.1 (p.nat a.2.2.2.2.1)) [ci,ci])<|
 opt.need _ (bif (p.cmp .geq a.2.2.2.2.2.1 (0:Int)) then (p.cmp .lss a.2.2.2.2.2.1 (p.ofNat a.2.2.1)) else Bool.false)<|
 opt.need _ (p.rowOk (p.set a.1 (p.add a.2.1 (p.nat a.2.2.2.2.1)) [(D.int .i64 (p.rdI a.1 (p.add a.2.1 (p.nat a.2.2.2.2.2.1)) 0)),(D.int .i64 (p.rdI a.1 (p.add a.2.1 (p.nat a.2.2.2.2.2.1)) 1))]) (p.add a.2.1 (p.nat a.2.2.2.2.2.1)) [ci,ci])<|
 opt.ret _ (Sum.inl ((p.set (p.set a.1 (p.add a.2.1 (p.nat a.2.2.2.2.1)) [(D.int .i64 (p.rdI a.1 (p.add a.2.1 (p.nat a.2.2.2.2.2.1)) 0)),(D.int .i64 (p.rdI a.1 (p.add a.2.1 (p.nat a.2.2.2.2.2.1)) 1))]) (p.add a.2.1 (p.nat a.2.2.2.2.2.1)) [(D.int .i64 (p.rdI a.1 (p.add a.2.1 (p.nat a.2.2.2.2.1)) 0)),(D.int .i64 (p.rdI a.1 (p.add a.2.1 (p.nat a.2.2.2.2.1)) 1))]),(a.2.1,(a.2.2.1,(a.2.2.2.1,((p.ar .add .i64 a.2.2.2.2.1 (1:Int)),((p.ar .sub .i64 a.2.2.2.2.2.1 (1:Int)),())))))))) (
 opt.ret _ (Sum.inr (a.1,()))))
def g89 (it:It):(p:Prim)→(LD×T8)→Option ((LD×Unit)):=
 fun p x=>
 opt.bnd ((LD×Unit)) _ (
 it _ _ (w25 p) (x.1,(x.2.1,(x.2.2.1,(x.2.2.2.1,((0:Int),((p.ar .sub .i64 (p.ofNat x.2.2.1) (1:Int)),()))))))) fun a=>
 opt.ret _ (a.1,())
def G89:=g89 it0
theorem ok89:CtrOk PG v18 (G89 std):=okF (a:=an89) (l:=la89) (gN) (by kernel_rfl) fun _ _=>by kernel_rfl
def w68:Ctr:=
 ⟨59,[.list 2],[],[(.ret,⟨[(0, .list 2)],[],1⟩)]⟩
def la59:List LA:=
 []
def ja59:List JA:=
 []
def v7d:List CF:=
 [⟨v18,G89⟩,⟨v19,G88⟩,⟨v2b,G86⟩]
def an59:Anns:=
 ⟨v7d,ja59,[]⟩
def g59 (it:It):(p:Prim)→(LD×Unit)→Option ((LD×Unit)):=
 fun p x=>
 opt.bnd ((LD×T8)) _ (g86 it p (x.1,())) fun a=>
 opt.ask _ (p.cmp .eql (p.ofNat a.2.2.1) (1:Int)) (
 opt.need _ (p.leN (p.add a.2.1 a.2.2.1) (p.len a.1))<|
 opt.ret _ ((p.cut a.1 a.2.1 a.2.2.1),())) (
 opt.need _ (p.and (p.leN (p.add a.2.1 a.2.2.1) (p.len a.1)) Bool.true)<|
 opt.bnd ((LD×T8)) _ (g88 it p ((p.cut a.1 a.2.1 a.2.2.1),())) fun b=>
 opt.need _ (p.plain b.1)<|
 opt.bnd ((LD×Unit)) _ (g89 it p (a.1,(a.2.1,(a.2.2.1,(a.2.2.2.1,()))))) fun c=>
 opt.need _ (p.and (p.leN (p.add a.2.1 a.2.2.1) (p.len c.1)) Bool.true)<|
 opt.bnd ((LD×T8)) _ (g88 it p ((p.cut c.1 a.2.1 a.2.2.1),())) fun d=>
 opt.need _ (p.plain d.1)<|
 opt.ask _ (p.leN (p.add b.2.2.1 d.2.2.1) b.2.2.2.1) (
 opt.need _ (p.and (p.leN (p.add d.2.1 d.2.2.1) (p.len d.1)) (p.and (p.leN (p.add b.2.1 b.2.2.1) (p.len b.1)) (p.and (p.leN 1 d.2.2.1) (p.leN (p.add b.2.1 b.2.2.2.1) (p.len b.1)))))<|
 opt.need _ (p.leN (p.add b.2.1 (p.add b.2.2.1 d.2.2.1)) (p.len (p.splice b.1 (p.add b.2.1 b.2.2.1) (p.cut d.1 d.2.1 d.2.2.1))))<|
 opt.ret _ ((p.cut (p.splice b.1 (p.add b.2.1 b.2.2.1) (p.cut d.1 d.2.1 d.2.2.1)) b.2.1 (p.add b.2.2.1 d.2.2.1)),())) (
 opt.need _ (p.and (p.leN (p.add d.2.1 d.2.2.1) (p.len d.1)) (p.and (p.leN (p.add b.2.1 b.2.2.1) (p.len b.1)) (p.and (p.leN 1 d.2.2.1) (p.leN (p.add b.2.2.1 d.2.2.1) 1000000))))<|
 opt.need _ (p.leN (p.add 0 (p.add b.2.2.1 d.2.2.1)) (p.len (p.app (p.cut b.1 b.2.1 b.2.2.1) (p.cut d.1 d.2.1 d.2.2.1))))<|
 opt.ret _ ((p.cut (p.app (p.cut b.1 b.2.1 b.2.2.1) (p.cut d.1 d.2.1 d.2.2.1)) 0 (p.add b.2.2.1 d.2.2.1)),())))
def G59:=g59 it0
theorem v9c:CtrOk PG w68 (G59 std):=okF (a:=an59) (l:=la59) (gC ok89 (gC ok88 (gC ok86 (gN)))) (by kernel_rfl) fun _ _=>by kernel_rfl
end Go.Am
end
section
namespace Go.Am
open M06
theorem it0_eq {S R:Type} (b:S→Option (S⊕R)) (s:S):it0 S R b s=z5k b s:=rfl
def x6w (q l:List Pt):Prop:=q.Pairwise Lt∧∀ x,x∈q↔x∈l
theorem z04 {α:Type} {l:List α} {i:Nat} {x:α} (h:l[i]?=some x):l.take (i+1)=l.take i++[x]:=by
 rw [List.take_add_one,h]; rfl
theorem y80 {q l:List Pt} {i:Nat} {x:Pt} (h:x6w q (l.take i)) (hx:l[i]?=some x) (hy:x∈l.take i):x6w q (l.take (i+1)):=by
 refine ⟨h.1,fun z=>?_⟩
 rw [h.2 z,z04 hx]
 simp only [List.mem_append,List.mem_singleton]
 exact ⟨.inl,fun h=>h.elim id fun e=>e▸hy⟩
theorem y81 {q l:List Pt} {i:Nat} {x y:Pt} (hs:l.Pairwise (fun a b=>¬ Lt b a)) (h:x6w q (l.take (i+1))) (hy:l[i]?=some y) (hx:l[i+1]?=some x) (hne:x≠y):x6w (q++[x]) (l.take (i+2)):=by
 have hs':=List.pairwise_iff_getElem.1 hs
 obtain ⟨i1,e1⟩:=List.getElem?_eq_some_iff.1 hx
 obtain ⟨i0,e0⟩:=List.getElem?_eq_some_iff.1 hy
 have hlt:Lt y x:=by
  have:=hs' i (i+1) i0 i1 (by omega)
  rw [e0,e1] at this
  rcases x3z y x with h|h|h
  ·exact h
  ·exact absurd h.symm hne
  ·exact absurd h this
 refine ⟨List.pairwise_append.2 ⟨h.1,by simp,fun a ha b hb=>?_⟩,fun z=>?_⟩
 ·simp at hb; subst hb
  have ha':=(h.2 a).1 ha
  obtain ⟨j,hj⟩:=List.getElem?_of_mem ha'
  have hj1:j<i+1:=by
   have:=(List.getElem?_eq_some_iff.1 hj).1
   rw [List.length_take] at this; omega
  rw [List.getElem?_take_of_lt hj1] at hj
  obtain ⟨j0,ej⟩:=List.getElem?_eq_some_iff.1 hj
  by_cases hji:j=i
  ·subst hji
   rw [e0] at ej; subst ej; exact hlt
  ·have:=hs' j i j0 i0 (by omega)
   rw [ej,e0] at this
   rcases x3z a y with h|h|h
   ·exact h.trans hlt
   ·exact h▸hlt
   ·exact absurd h this
 ·rw [z04 hx]
  simp only [List.mem_append,List.mem_singleton,h.2 z]
theorem x4i {p q:Pt}:(p.1=q.1∧p.2=q.2)↔p=q:=⟨fun h=>Prod.ext h.1 h.2,fun h=>by rw [h]; exact ⟨rfl,rfl⟩⟩
theorem z07 {l:List Pt} {i:Nat} {p:Pt} (h:l[i]?=some p):(z0d l)[i]?=some (eP p):=by simp [z0d,h]
theorem z06 (l:List Pt) (i:Nat) (p:Pt):(z0d l).set i (eP p)=z0d (l.set i p):=by simp [z0d,List.map_set]
theorem z0g (l:List Pt):(z0d l).length=l.length:=by simp [z0d]
theorem z4p (p:Pt):[D.int IntKind.i64 p.1,D.int IntKind.i64 p.2]=eP p:=rfl
theorem x60 {l:List Pt} (hs:l.Pairwise (fun a b=>¬ Lt b a)) (hn:l.length≤1000000) {k0:Nat} (hk1:1≤k0) (hk0:k0<l.length) (h0:x6w (l.take k0) (l.take (k0+1))) (cap:Nat):
  ∃ (L:List Pt) (k:Nat),z5k (y4u std) (z0d l,(0:Nat),l.length,cap,(k0:Int),k0,l.length - k0,cap - k0,(1:Int),())=some (z0d L,(0:Nat),l.length,cap,(k:Int),())∧L.length=l.length∧1≤k∧k≤l.length∧x6w (L.take k) l:=by
 have key:=y52 (b:=y4u std) (l.length - k0) (fun (t:List Pt×Nat) (i:Nat)=>(z0d t.1,(0:Nat),l.length,cap,(t.2:Int),k0,l.length - k0,cap - k0,(i:Int),()))
  (fun t i=>1≤i∧t.1.length=l.length∧1≤t.2∧t.2≤k0+i - 1∧(∀ j,k0+i - 1≤j→t.1[j]?=l[j]?)∧x6w (t.1.take t.2) (l.take (k0+i)))
  (fun r=>∃ (L:List Pt) (k:Nat),r=(z0d L,(0:Nat),l.length,cap,(k:Int),())∧L.length=l.length∧1≤k∧k≤l.length∧x6w (L.take k) l) ?_ ?_ (l,k0) 1 (by omega) ⟨Nat.le_refl _,rfl,hk1,by omega,fun _ _=>rfl,h0⟩
 ·obtain ⟨r,hr,L,k,rfl,h1,h2,h3,h4⟩:=key
  exact ⟨L,k,hr,h1,h2,h3,h4⟩
 ·rintro ⟨L,k⟩ i hi ⟨hi1,hL,hk,hki,hrest,hu⟩
  simp only at hL hk hki hrest hu
  left
  obtain ⟨x,hx⟩:=z0w (l:=l) (i:=k0+i) (by omega)
  obtain ⟨y,hy⟩:=z0w (l:=l) (i:=k0+i - 1) (by omega)
  have hLx:L[k0+i]?=some x:=by rw [hrest _ (by omega)]; exact hx
  have hLy:L[k0+(i - 1)]?=some y:=by
   have e:k0+(i - 1)=k0+i - 1:=by omega
   rw [e,hrest _ (by omega)]; exact hy
  have hLk:∃ z,L[k]?=some z:=z0w (by omega)
  obtain ⟨z,hz⟩:=hLk
  have c1:(i:Int)<((l.length - k0:Nat):Int):=by omega
  have c2:(i:Int)≥0:=by omega
  have c3:(i:Int) - 1≥0:=by omega
  have c4:(i:Int) - 1<((l.length - k0:Nat):Int):=by omega
  have hw:=z09 (i:=i) (by omega)
  have hwk:=z09 (i:=k) (by omega)
  have hw1:IntKind.i64.wrap ((i:Int) - 1)=((i - 1:Nat):Int):=by rw [z1t]<;>omega
  have c3':((i - 1:Nat):Int)≥0:=by omega
  have c4':((i - 1:Nat):Int)<((l.length - k0:Nat):Int):=by omega
  have c5:(k:Int)≥0:=by omega
  have c6:(k:Int)<(l.length:Int):=by omega
  have gx:=z07 hLx
  have gy:=z07 hLy
  have gz:=z07 hz
  have ey:l[k0+i - 1]?=some y:=hy
  have e1:k0+i - 1+1=k0+i:=by omega
  by_cases hxy:x=y
  ·refine ⟨(L,k),?_,by omega,hL,hk,by omega,fun j hj=>hrest j (by omega),?_⟩
   ·have:=x4i.2 hxy
    simp only [y4u,z1a,z1b,z02,z17,z16,z4p,z06,z0g,z01,z0f,hw,hw1,c1,c2,c3',c4',gx,gy,this.1,this.2]
   ·have hm:x∈l.take (k0+i):=by
     rw [hxy]
     have:(l.take (k0+i))[k0+i - 1]?=some y:=by rw [List.getElem?_take_of_lt (by omega)]; exact hy
     exact List.mem_of_getElem? this
    exact y80 hu hx hm
  ·refine ⟨(L.set k x,k+1),?_,by omega,by simpa using hL,by omega,by omega,fun j hj=>?_,?_⟩
   ·by_cases k1:x.1=y.1
    ·have k2:¬ x.2=y.2:=fun h=>hxy (x4i.1 ⟨k1,h⟩)
     simp only [y4u,z1a,z1b,z02,z17,z16,z4p,z06,z0g,z01,z0f,hw,hw1,hwk,c1,c2,c3',c4',c5,c6,gx,gy,gz,eq_true k1,eq_false k2]
    ·simp only [y4u,z1a,z1b,z02,z17,z16,z4p,z06,z0g,z01,z0f,hw,hw1,hwk,c1,c2,c3',c4',c5,c6,gx,gy,gz,eq_false k1]
   ·simp only at hj⊢
    rw [List.getElem?_set_ne (by omega)]; exact hrest j (by omega)
   ·simp only
    have ht:(L.set k x).take (k+1)=L.take k++[x]:=by
     rw [List.take_add_one,List.take_set_of_le (Nat.le_refl _),List.getElem?_set_self (by omega)]; rfl
    rw [ht]
    have hu':x6w (L.take k) (l.take (k0+i - 1+1)):=by rw [e1]; exact hu
    have:=y81 hs hu' hy (by rw [e1]; exact hx) hxy
    have e2:k0+i - 1+2=k0+(i+1):=by omega
    rw [e2] at this; exact this
 ·rintro ⟨L,k⟩ ⟨hi1,hL,hk,hki,hrest,hu⟩
  simp only at hL hk hki hrest hu
  have hn:¬ (((l.length - k0:Nat):Int)<((l.length - k0:Nat):Int)):=by omega
  refine ⟨(z0d L,(0:Nat),l.length,cap,(k:Int),()),?_,L,k,rfl,hL,hk,by omega,?_⟩
  ·simp only [y4u,z1a,z1b,hn]
  ·have e:k0+(l.length - k0)=l.length:=by omega
   rw [e,List.take_length] at hu; exact hu
theorem w8f {l:List Pt} (hs:l.Pairwise (fun a b=>¬ Lt b a)) (hn:l.length≤1000000):
  ∃ (L:List Pt) (m:Nat),v4u std (z0d l,(0:Nat),l.length,l.length,())=some (z0d L,(0:Nat),m,l.length,())∧L.length=l.length∧m≤l.length∧x6w (L.take m) l:=by
 unfold v4u
 by_cases h2:l.length<2
 ·refine ⟨l,l.length,?_,rfl,Nat.le_refl _,?_⟩
  ·have:(l.length:Int)<2:=by omega
   simp only [w6o,z1a,z1b,this]
  ·rw [List.take_length]
   refine ⟨?_,fun _=>Iff.rfl⟩
   match l,h2 with
   |[],_=>exact .nil
   |[a],_=>simp
   |a::b::r,h2=>simp at h2; omega
 have h2':¬ (l.length:Int)<2:=by omega
 have key:=y52 (b:=y2d it0 std) l.length (fun (_:Unit) (i:Nat)=>(z0d l,(0:Nat),l.length,l.length,(i:Int),()))
  (fun _ i=>1≤i∧x6w (l.take i) (l.take i))
  (fun r=>∃ (L:List Pt) (m:Nat),(r= .inl (z0d L,(0:Nat),m,l.length,())∨r= .inr (z0d L,(0:Nat),m,l.length,()))∧L.length=l.length∧m≤l.length∧x6w (L.take m) l) ?_ ?_ () 1 (by omega) ⟨Nat.le_refl _,?_⟩
 ·obtain ⟨r,hr,L,m,h,h3,h4,h5⟩:=key
  refine ⟨L,m,?_,h3,h4,h5⟩
  simp only [w6o,it0_eq,z1a,z1b,h2']
  have e0:((1:Nat):Int)=1:=rfl
  rw [e0] at hr
  rw [hr]
  rcases h with rfl|rfl<;>rfl
 ·rintro _ i hi ⟨hi1,hu⟩
  obtain ⟨x,hx⟩:=z0w (l:=l) (i:=i) hi
  obtain ⟨y,hy⟩:=z0w (l:=l) (i:=i - 1) (by omega)
  have c1:(i:Int)<(l.length:Int):=by omega
  have c2:(i:Int)≥0:=by omega
  have hw:=z09 (i:=i) (by omega)
  have hw1:IntKind.i64.wrap ((i:Int) - 1)=((i - 1:Nat):Int):=by rw [z1t]<;>omega
  have c3':((i - 1:Nat):Int)≥0:=by omega
  have c4':((i - 1:Nat):Int)<(l.length:Int):=by omega
  have gx:=z07 hx
  have gy:=z07 hy
  have e1:i - 1+1=i:=by omega
  by_cases hxy:x=y
  ·right
   have hm:x∈l.take i:=by
    rw [hxy]
    have:(l.take i)[i - 1]?=some y:=by rw [List.getElem?_take_of_lt (by omega)]; exact hy
    exact List.mem_of_getElem? this
   obtain ⟨L,k,hit,hL,hk,hkl,hU⟩:=x60 hs hn hi1 hi (y80 hu hx hm) l.length
   have d1:(k:Int)≥0:=by omega
   have d2:(k:Int)≤(l.length:Int):=by omega
   have d3:k+(l.length - k)≤l.length:=by omega
   have c5:(i:Int)≤(l.length:Int):=by omega
   have c6:(l.length:Int)≤(l.length:Int):=by omega
   have c7:(0:Int)≥0:=by omega
   have c8:(0:Int)≤(k:Int):=by omega
   have:=x4i.2 hxy
   have hz:[D.int IntKind.i64 (0:Int),D.int IntKind.i64 (0:Int)]=eP (0,0):=rfl
   have hsp:z0d L=z0d L:=rfl
   refine ⟨.inl (z0d (L.take k++List.replicate (l.length - k) (0,0)++L.drop (k+(l.length - k))),(0:Nat),k,l.length,()),?_,_,_, .inl rfl,?_,hkl,?_⟩
   ·simp only [y2d,it0_eq,z1a,z1b,z02,z17,z16,z4p,z06,z0g,z01,z0f,hw,hw1,c1,c2,c3',c4',c5,c6,c7,c8,d1,d2,d3,gx,gy,this.1,this.2,hit,hL,Int.toNat_zero,Nat.sub_zero,hz,List.length_replicate,Nat.add_zero]
    simp [z0d]
   ·simp [hL]; omega
   ·rw [List.take_append_of_le_length (by simp; omega),List.take_append_of_le_length (by simp; omega),List.take_take,Nat.min_self]
    exact hU
  ·left
   refine ⟨(),?_,by omega,?_⟩
   ·by_cases k1:x.1=y.1
    ·have k2:¬ x.2=y.2:=fun h=>hxy (x4i.1 ⟨k1,h⟩)
     simp only [y2d,it0_eq,z1a,z1b,z02,z17,z16,z4p,z06,z0g,z01,z0f,hw,hw1,c1,c2,c3',c4',gx,gy,k1,k2]
    ·simp only [y2d,it0_eq,z1a,z1b,z02,z17,z16,z4p,z06,z0g,z01,z0f,hw,hw1,c1,c2,c3',c4',gx,gy,k1]
   ·have hu':x6w (l.take i) (l.take (i - 1+1)):=by rw [e1]; exact hu
    have:=y81 hs hu' hy (by rw [e1]; exact hx) hxy
    have e2:i - 1+2=i+1:=by omega
    rw [e2] at this
    rw [z04 hx] at this⊢
    exact this
 ·rintro _ ⟨hi1,hu⟩
  have hnn:¬ ((l.length:Int)<(l.length:Int)):=by omega
  refine ⟨.inr (z0d l,(0:Nat),l.length,l.length,()),?_,l,l.length, .inr rfl,rfl,Nat.le_refl _,?_⟩
  ·simp only [y2d,it0_eq,z1a,z1b,hnn]
  ·rw [List.take_length] at hu⊢; exact hu
 ·match l,h2 with
  |a::r,_=>exact ⟨by simp,fun _=>Iff.rfl⟩
  |[],h2=>exact absurd (by simp) h2
end Go.Am
end
section
namespace M06
def far (a b:Pt):Int:=dt (sb a b) (sb a b)
def Nx (S:List Pt) (a b:Pt):Prop:=b∈S∧a≠b∧∀ x∈S,0≤cr a b x∧(cr a b x=0→0≤dt (sb b a) (sb x a)∧far a x≤far a b)
def Pth (S:List Pt):List Pt→Prop
 |a::b::l=>Nx S a b∧Pth S (b::l)
 |_=>True
def Cyc (S:List Pt):List Pt→Prop
 |[]=>False
 |c0::r=>c0∈S∧(∀ x∈S,Le c0 x)∧((r=[]∧∀ x∈S,x=c0)∨(r≠[]∧Pth S (c0::r++[c0])∧c0∉r))
theorem Pth.tail {S:List Pt} {a:Pt} {l:List Pt} (h:Pth S (a::l)):Pth S l:=by
 match l,h with
 |[],_=>trivial
 |_::_,h=>exact h.2
theorem y7g {S:List Pt} {m:Pt}:∀ {l r:List Pt},Pth S (l++[m])→Pth S (m::r)→Pth S (l++m::r)
 |[],r,_,h=>h
 |[a],r,h1,h2=>⟨h1.1,h2⟩
 |a::b::l,r,h1,h2=>⟨h1.1,y7g (l:=b::l) h1.2 h2⟩
theorem w72 {s t x:Pt} (hst:Lt s t) (h1:Le s x) (h2:Le x t) (hc:cr s t x=0):0≤dt (sb t s) (sb x s)∧far s x≤far s t:=by
 rcases h1 with rfl|h1
 ·refine ⟨by simp [dt,sb],?_⟩
  simp only [far,dt,sb]
  have a:=sqn (s.1 - t.1)
  have b:=sqn (s.2 - t.2)
  simp; omega
 obtain ⟨s1,s2⟩:=s; obtain ⟨t1,t2⟩:=t; obtain ⟨x1,x2⟩:=x
 simp only [Lt,Le,Pos,sb,cr,crs,far,dt,Prod.mk.injEq] at*
 generalize hT1:t1 - s1=T1 at*
 generalize hT2:t2 - s2=T2 at*
 generalize hX1:x1 - s1=X1 at*
 generalize hX2:x2 - s2=X2 at*
 have e1:s1 - x1= -X1:=by omega
 have e2:s2 - x2= -X2:=by omega
 have e3:s1 - t1= -T1:=by omega
 have e4:s2 - t2= -T2:=by omega
 rw [e1,e2,e3,e4]
 have k1:0≤T1:=by omega
 have k2:0≤X1∧X1≤T1:=by omega
 rcases Int.lt_or_eq_of_le k1 with hp|hz
 ·have q1:0≤X1*T1:=Int.mul_nonneg k2.1 k1
  have hcc:T1*X2=T2*X1:=by omega
  have q3:X1*X1≤T1*T1:=Int.mul_le_mul k2.2 k2.2 k2.1 k1
  have q2:(T2*X2)*T1=T2*T2*X1:=by grind
  have q4:0≤T2*T2*X1:=Int.mul_nonneg (sqn _) k2.1
  have q5:0≤T2*X2:=by
   refine Classical.byContradiction fun hn=>?_
   have:=Int.mul_neg_of_neg_of_pos (Int.not_le.1 hn) hp
   omega
  have q6:(X2*X2)*(T1*T1)=(T2*T2)*(X1*X1):=by grind
  have q7:(T2*T2)*(X1*X1)≤(T2*T2)*(T1*T1):=Int.mul_le_mul_of_nonneg_left q3 (sqn _)
  have q8:0<T1*T1:=Int.mul_pos hp hp
  have q9:X2*X2≤T2*T2:=by
   refine Classical.byContradiction fun hn=>?_
   have:=Int.mul_lt_mul_of_pos_right (Int.not_le.1 hn) q8
   omega
  refine ⟨?_,?_⟩
  ·have:T1*X1=X1*T1:=Int.mul_comm _ _
   omega
  ·simp only [Int.neg_mul_neg]; omega
 ·have hX:X1=0:=by omega
  subst hX
  rw [←hz]
  have r1:0≤X2:=by omega
  have r2:X2≤T2:=by omega
  have r3:0≤T2:=by omega
  refine ⟨?_,?_⟩
  ·have:=Int.mul_nonneg r3 r1; simp; exact this
  ·simp only [Int.neg_mul_neg]
   have:=Int.mul_le_mul r2 r2 r1 r3
   simp; omega
theorem y30 {S:List Pt}:∀ {st:List Pt},x1j st→(∀ x∈S,w3n st x)→(∀ y∈st,y∈S)→Pth S st.reverse
 |[],_,_,_=>trivial
 |[_],_,_,_=>trivial
 |t::s::r,hd,he,hs=>by
  have ih:=y30 (st:=s::r) hd.2 (fun x hx=>(he x hx).2) (fun y hy=>hs y (List.mem_cons_of_mem _ hy))
  rw [List.reverse_cons,List.reverse_cons] at*
  rw [List.append_assoc]
  refine y7g ih ⟨⟨hs t (by simp),hd.1.ne,fun x hx=>?_⟩,trivial⟩
  have e:=(he x hx).1
  exact ⟨e.1,fun h0=>w72 hd.1 (e.2 h0).1 (e.2 h0).2 h0⟩
def ng (a:Pt):Pt:=(-a.1, -a.2)
theorem x2f (a:Pt):ng (ng a)=a:=by simp [ng]
theorem w5o (a b c:Pt):cr (ng a) (ng b) (ng c)=cr a b c:=by simp only [cr,crs,sb,ng]; grind
theorem w5n (a b:Pt):Lt (ng a) (ng b)↔Lt b a:=by simp only [Lt,Pos,sb,ng]; omega
theorem w30 (a b:Pt):far (ng a) (ng b)=far a b:=by simp only [far,dt,sb,ng]; grind
theorem v5l (a b c:Pt):dt (sb (ng b) (ng a)) (sb (ng c) (ng a))=dt (sb b a) (sb c a):=by simp only [dt,sb,ng]; grind
theorem w3z {a b:Pt} (h:ng a=ng b):a=b:=by rw [←x2f a,h,x2f]
theorem w3t (p:Pt):∀ st:List Pt,pop (ng p) (st.map ng)=(pop p st).map ng
 |[]=>by simp [pop]
 |[t]=>by simp [y32]
 |t::s::r=>by
  have ih:=w3t p (s::r)
  simp only [List.map_cons] at ih⊢
  by_cases h:cr s t p≤0
  ·rw [y1n p h,y1n (ng p) (by rw [w5o]; exact h),ih]
  ·rw [y1m p h,y1m (ng p) (by rw [w5o]; exact h)]; rfl
theorem x8w:∀ (l st:List Pt),(l.map ng).foldl push (st.map ng)=(l.foldl push st).map ng
 |[],_=>rfl
 |p::l,st=>by
  simp only [List.map_cons,List.foldl_cons]
  rw [←x8w l (push st p)]
  congr 1
  simp only [push,List.map_cons,w3t]
theorem v5j {S:List Pt} {a b:Pt} (h:Nx (S.map ng) (ng a) (ng b)):Nx S a b:=by
 obtain ⟨h1,h2,h3⟩:=h
 refine ⟨?_,fun e=>h2 (by rw [e]),fun x hx=>?_⟩
 ·obtain ⟨y,hy,e⟩:=List.mem_map.1 h1
  rw [←w3z e]; exact hy
 ·have:=h3 (ng x) (List.mem_map.2 ⟨x,hx,rfl⟩)
  rwa [w5o,w30,w30,v5l] at this
theorem w3s {S:List Pt}:∀ {l:List Pt},Pth (S.map ng) (l.map ng)→Pth S l
 |[],_=>trivial
 |[_],_=>trivial
 |a::b::l,h=>⟨v5j h.1,w3s (l:=b::l) h.2⟩
end M06
end
section
namespace Go.Am
open M06
theorem x13 {s t p:Pt} (hs:z3h s) (ht:z3h t) (hp:z3h p):
  IntKind.i64.wrap (t.1 - s.1)=t.1 - s.1∧IntKind.i64.wrap (t.2 - s.2)=t.2 - s.2∧IntKind.i64.wrap (p.1 - s.1)=p.1 - s.1∧IntKind.i64.wrap (p.2 - s.2)=p.2 - s.2∧
  IntKind.i64.wrap ((t.1 - s.1)*(p.2 - s.2))=(t.1 - s.1)*(p.2 - s.2)∧IntKind.i64.wrap ((t.2 - s.2)*(p.1 - s.1))=(t.2 - s.2)*(p.1 - s.1)∧
  IntKind.i64.wrap ((t.1 - s.1)*(p.2 - s.2) - (t.2 - s.2)*(p.1 - s.1))=cr s t p:=by
 obtain ⟨a1,a2,a3,a4⟩:=hs
 obtain ⟨b1,b2,b3,b4⟩:=ht
 obtain ⟨c1,c2,c3,c4⟩:=hp
 have big:∀ {a b:Int}, -2097152≤a→a≤2097152→ -2097152≤b→b≤2097152→ -4398046511104≤a*b∧a*b≤4398046511104:=by
  intro a b h1 h2 h3 h4
  have e1:=Int.mul_nonneg (show 0≤2097152 - a by omega) (show 0≤2097152 - b by omega)
  have e2:=Int.mul_nonneg (show 0≤2097152+a by omega) (show 0≤2097152+b by omega)
  have e3:=Int.mul_nonneg (show 0≤2097152 - a by omega) (show 0≤2097152+b by omega)
  have e4:=Int.mul_nonneg (show 0≤2097152+a by omega) (show 0≤2097152 - b by omega)
  simp only [Int.sub_mul,Int.add_mul,Int.mul_sub,Int.mul_add] at e1 e2 e3 e4
  omega
 have m1:=big (a:=t.1 - s.1) (b:=p.2 - s.2) (by omega) (by omega) (by omega) (by omega)
 have m2:=big (a:=t.2 - s.2) (b:=p.1 - s.1) (by omega) (by omega) (by omega) (by omega)
 refine ⟨?_,?_,?_,?_,?_,?_,?_⟩
 any_goals (rw [z1t]<;>omega)
 rw [z1t _ (by omega) (by omega)]
 rfl
theorem w1d {L:List Pt} {p:Pt} (hp:z3h p) (hL:∀ x∈L,z3h x) (hLn:L.length≤1000000) (les:List (List D)) (n i:Int):
  ∀ (k:Nat) (s tl:List Pt),s.length=k→L=s.reverse++tl→
   z5k (y5g std) (z0d L,p.1,p.2,(0:Nat),s.length,les,n,i,())=some (z0d L,p.1,p.2,(0:Nat),(pop p s).length,les,n,i,()):=by
 intro k
 induction k with
 |zero=>
  intro s tl hk hl
  have:s=[]:=List.length_eq_zero_iff.1 hk
  subst this
  rw [z0l]
  have hn:¬ ((0:Nat):Int)>1:=by omega
  have:y5g std (z0d L,p.1,p.2,(0:Nat),([]:List Pt).length,les,n,i,())=some (.inr (z0d L,p.1,p.2,(0:Nat),0,les,n,i,())):=by
   simp only [y5g,z1a,z1b,hn]
  rw [this]
  have:pop p []=[]:=by simp [pop]
  rw [this]; rfl
 |succ k ih=>
  intro s tl hk hl
  match s,hk,hl with
  |[t],hk,hl=>
   rw [z0l]
   have hn:¬ ((1:Nat):Int)>1:=by omega
   have:y5g std (z0d L,p.1,p.2,(0:Nat),[t].length,les,n,i,())=some (.inr (z0d L,p.1,p.2,(0:Nat),1,les,n,i,())):=by
    simp only [y5g,z1a,z1b,hn]
   rw [this,y32]; rfl
  |t::s::r,hk,hl=>
   rw [z0l]
   have hlen:(t::s::r).length=r.length+2:=rfl
   rw [hlen]
   have hLl:L.length=r.length+2+tl.length:=by rw [hl]; simp; omega
   have ht:L[r.length+1]?=some t:=by
    rw [hl]
    simp only [List.reverse_cons,List.append_assoc,List.cons_append,List.nil_append]
    rw [List.getElem?_append_right (by simp)]
    simp
   have hs:L[r.length]?=some s:=by
    rw [hl]
    simp only [List.reverse_cons,List.append_assoc,List.cons_append,List.nil_append]
    rw [List.getElem?_append_right (by simp)]
    simp
   have gt:=z07 ht
   have gs:=z07 hs
   obtain ⟨w1,w2,w3,w4,w5,w6,w7⟩:=x13 (hL s (List.mem_of_getElem? hs)) (hL t (List.mem_of_getElem? ht)) hp
   have c1:((r.length+2:Nat):Int)>1:=by omega
   have v1:IntKind.i64.wrap (((r.length+2:Nat):Int) - 1)=((r.length+1:Nat):Int):=by rw [z1t]<;>omega
   have v2:IntKind.i64.wrap (((r.length+2:Nat):Int) - 2)=(r.length:Int):=by rw [z1t]<;>omega
   have c2:((r.length+1:Nat):Int)≥0:=by omega
   have c3:((r.length+1:Nat):Int)<((r.length+2:Nat):Int):=by omega
   have c4:(r.length:Int)≥0:=by omega
   have c5:(r.length:Int)<((r.length+2:Nat):Int):=by omega
   have c6:(0:Int)≤((r.length+1:Nat):Int):=by omega
   have c7:((r.length+1:Nat):Int)≤((r.length+2:Nat):Int):=by omega
   have c8:r.length+1≤L.length:=by omega
   have c9:(0:Int)≥0:=by omega
   have c10:((r.length+1:Nat):Int)≤((r.length+1:Nat):Int):=by omega
   by_cases hc:cr s t p≤0
   ·have hb:y5g std (z0d L,p.1,p.2,(0:Nat),r.length+2,les,n,i,())=some (.inl (z0d L,p.1,p.2,(0:Nat),r.length+1,les,n,i,())):=by
     simp only [y5g,z1a,z1b,z02,z17,z16,z4p,z06,z0g,z01,y1g,v1,v2,c1,c2,c3,c4,c5,c6,c7,c8,c9,c10,gt,gs,w1,w2,w3,w4,w5,w6,w7,hc,Int.toNat_zero,Nat.sub_zero,Nat.add_zero]
    rw [hb,y1n p hc]
    exact ih (s::r) (t::tl) (by simpa using hk) (by rw [hl]; simp)
   ·have hb:y5g std (z0d L,p.1,p.2,(0:Nat),r.length+2,les,n,i,())=some (.inr (z0d L,p.1,p.2,(0:Nat),r.length+2,les,n,i,())):=by
     simp only [y5g,z1a,z1b,z02,z17,z16,z4p,z06,z0g,z01,y1g,v1,v2,c1,c2,c3,c4,c5,c6,c7,c8,c9,c10,gt,gs,w1,w2,w3,w4,w5,w6,w7,hc,Int.toNat_zero,Nat.sub_zero,Nat.add_zero]
    rw [hb,y1m p hc]; rfl
theorem z81 (p:Pt):∀ s:List Pt,∃ a,s=a++pop p s
 |[]=>⟨[],by simp [pop]⟩
 |[t]=>⟨[],by rw [y32]; rfl⟩
 |t::s::r=>by
  by_cases h:cr s t p≤0
  ·obtain ⟨a,ha⟩:=z81 p (s::r)
   exact ⟨t::a,by rw [y1n p h,List.cons_append, ←ha]⟩
  ·exact ⟨[],by rw [y1m p h]; rfl⟩
theorem x54 {l st:List Pt} (hl:∀ x∈l,z3h x) (hst:∀ x∈st,z3h x):∀ x∈l.foldl push st,z3h x:=by
 induction l generalizing st with
 |nil=>exact hst
 |cons p l ih=>
  refine ih (fun x hx=>hl x (List.mem_cons_of_mem _ hx)) (fun x hx=>?_)
  rcases List.mem_cons.1 hx with rfl|hx
  ·exact hl _ (by simp)
  ·obtain ⟨a,ha⟩:=z81 p st
   exact hst x (by rw [ha]; exact List.mem_append_right _ hx)
theorem x4b {l st:List Pt}:(l.foldl push st).length≤st.length+l.length:=by
 induction l generalizing st with
 |nil=>simp
 |cons p l ih=>
  have h:=ih (st:=push st p)
  obtain ⟨a,ha⟩:=z81 p st
  have h2:(push st p).length=(pop p st).length+1:=rfl
  have h3:st.length=a.length+(pop p st).length:=by
   have:=congrArg List.length ha
   rwa [List.length_append] at this
  simp only [List.foldl_cons,List.length_cons]
  omega
def z23 (l:List Pt):List Pt:=(l.foldl push []).reverse
theorem w4p {l:List Pt} (hl:∀ x∈l,z3h x) (hn:l.length≤100000) (h1:1≤l.length):
  G88 std (z0d l,())=some (z0d (z23 l),(0:Nat),(z23 l).length - 1,(z23 l).length - 1,())∧1≤(z23 l).length∧(z23 l).length≤l.length:=by
 have hlen:(z23 l).length≤l.length:=by
  have:=x4b (l:=l) (st:=[])
  simp [z23]; simpa using this
 have hpos:1≤(z23 l).length:=by
  match l,h1 with
  |p::r,_=>
   have:∀ (r st:List Pt),st≠[]→r.foldl push st≠[]:=by
    intro r
    induction r with
    |nil=>intro st h; exact h
    |cons q r ih=>intro st h; exact ih _ (by simp [push])
   have h2:=this r (push [] p) (by simp [push])
   have:(z23 (p::r))≠[]:=by simp only [z23,List.foldl_cons]; simpa using h2
   exact List.length_pos_iff.2 this
 refine ⟨?_,hpos,hlen⟩
 have key:=z6m (b:=x6r it0 std) (fun (i:Nat)=>(z0d (z23 (l.take i)),z0d l,(l.length:Int),(i:Int),())) (fun i=>i≤l.length) (fun i=>l.length - i) (fun _=>(z0d (z23 l),())) (fun i hi=>by
  by_cases hlt:i<l.length
  ·left
   obtain ⟨p,hp⟩:=z0w hlt
   have hps:=hl p (List.mem_of_getElem? hp)
   have gp:=z07 hp
   have c1:(i:Int)<(l.length:Int):=by omega
   have c2:(i:Int)≥0:=by omega
   have hw:=z09 (i:=i) (by omega)
   have hst:∀ x∈z23 (l.take i),z3h x:=fun x hx=>x54 (l:=l.take i) (st:=[]) (fun y hy=>hl y (List.mem_of_mem_take hy)) (by simp) x (by simpa [z23] using hx)
   have hll:(z23 (l.take i)).length≤i:=by
    have:=x4b (l:=l.take i) (st:=[])
    simp [z23]; simp at this; omega
   have hloop:=w1d (L:=z23 (l.take i)) hps hst (by omega) (z0d l) (l.length:Int) (i:Int) _ ((l.take i).foldl push []) [] rfl (by simp [z23])
   have hcl:((l.take i).foldl push []).length=(z23 (l.take i)).length:=by simp [z23]
   rw [hcl] at hloop
   obtain ⟨a,ha⟩:=z81 p ((l.take i).foldl push [])
   generalize hq:pop p ((l.take i).foldl push [])=q at hloop ha
   have hch:z23 (l.take i)=q.reverse++a.reverse:=by simp only [z23,ha,List.reverse_append]
   have hcut:(z0d (z23 (l.take i))).take q.length=z0d q.reverse:=by
    rw [hch]; simp [z0d]
   have hql:q.length≤(z23 (l.take i)).length:=by rw [hch]; simp
   have hnew:z23 (l.take (i+1))=q.reverse++[p]:=by
    rw [z23,z04 hp,List.foldl_append]
    simp only [List.foldl_cons,List.foldl_nil,push,hq,List.reverse_cons]
   refine ⟨i+1,?_,by omega,by omega,rfl⟩
   rw [hnew]
   have d1:q.length+1≤1000000:=by omega
   have d2:z0d q.reverse++[eP p]=z0d (q.reverse++[p]):=by simp [z0d]
   have d4:q.length+1=(q.reverse++[p]).length:=by simp
   have d3:(z0d q.reverse++[eP p]).length=q.length+1:=by simp [z0d]
   simp only [x6r,it0_eq,z1a,z1b,z02,z17,z16,z4p,z06,z0g,z0f,hw,c1,c2,gp,hloop,List.drop_zero,hcut,hql,d1,List.take_succ_cons,List.take_zero,d3,Nat.le_refl,d2, ←d4]
  ·right
   have:i=l.length:=by omega
   subst this
   have hn:¬ ((l.length:Int)<(l.length:Int)):=by omega
   simp only [x6r,it0_eq,z1a,z1b,hn,List.take_length]) 0 (Nat.zero_le _)
 have e0:(z0d (z23 (l.take 0)),z0d l,(l.length:Int),((0:Nat):Int),())=(([]:List (List D)),z0d l,std.ofNat (std.len (z0d l)),(0:Int),()):=by
  simp [z23,z0d,z1o,z3i]
 rw [e0] at key
 have v1:IntKind.i64.wrap (((z23 l).length:Int) - 1)=(((z23 l).length - 1:Nat):Int):=by rw [z1t]<;>omega
 have c1:(0:Int)≤(((z23 l).length - 1:Nat):Int):=by omega
 have c2:(((z23 l).length - 1:Nat):Int)≤((z23 l).length:Int):=by omega
 have c3:(((z23 l).length - 1:Nat):Int)≤(((z23 l).length - 1:Nat):Int):=by omega
 have c4:(0:Int)≥0:=by omega
 unfold G88
 simp only [z1o,z3i] at key
 simp only [g88,it0_eq,z1o,z3i,z3j,z4a,z4b,key,Option.bind_some]
 simp only [z1a,z1b,z0g,z01,v1,c1,c2,c3,c4,Int.toNat_zero,Nat.sub_zero,Nat.add_zero]
end Go.Am
end
section
namespace M06
theorem lag (u v:Pt):dt u u*dt v v=dt u v*dt u v+crs u v*crs u v:=by simp only [dt,crs]; grind
theorem z9m (u:Pt):0≤dt u u:=by have:=sqn u.1; have:=sqn u.2; simp only [dt]; omega
theorem z11 {u:Pt} (h:u≠(0,0)):0<dt u u:=by
 have a:=sqn u.1
 have b:=sqn u.2
 refine Classical.byContradiction fun hc=>h ?_
 simp only [dt] at hc
 have e1:u.1*u.1=0:=by omega
 have e2:u.2*u.2=0:=by omega
 exact Prod.ext (by rcases Int.mul_eq_zero.1 e1 with h|h<;>exact h) (by rcases Int.mul_eq_zero.1 e2 with h|h<;>exact h)
theorem z4h {a b:Pt}:sb a b=(0,0)↔a=b:=by
 simp only [sb,Prod.mk.injEq]
 exact ⟨fun h=>Prod.ext (by omega) (by omega),fun h=>by subst h; omega⟩
structure y8p (S:List Pt) (d a b:Pt):Prop where
 ina:a∈S
 inb:b∈S
 par:crs d (sb b a)=0
 left:∀ x∈S,0≤crs d (sb x a)
 on:∀ x∈S,crs d (sb x a)=0→0≤dt d (sb x a)∧0≤dt d (sb b x)
theorem y4r {d v:Pt} (hd:d≠(0,0)) (h1:crs d v=0) (h2:dt d v=0):v=(0,0):=by
 have:=lag d v
 rw [h1,h2] at this
 have hp:=z11 hd
 refine Classical.byContradiction fun hv=>?_
 have:=Int.mul_pos hp (z11 hv)
 omega
theorem y8p.sum {A B:List Pt} {T:List Pt} (hT:∀ z,z∈T↔∃ x∈A,∃ y∈B,z=ad x y) {d a b a' b':Pt} (h:y8p A d a b) (h':y8p B d a' b'):y8p T d (ad a a') (ad b b'):=by
 have add1:∀ x y p q:Pt,crs d (sb (ad x y) (ad p q))=crs d (sb x p)+crs d (sb y q):=by intros; simp only [crs,sb,ad]; grind
 have add2:∀ x y p q:Pt,dt d (sb (ad x y) (ad p q))=dt d (sb x p)+dt d (sb y q):=by intros; simp only [dt,sb,ad]; grind
 refine ⟨(hT _).2 ⟨_,h.ina,_,h'.ina,rfl⟩,(hT _).2 ⟨_,h.inb,_,h'.inb,rfl⟩,?_,?_,?_⟩
 ·rw [add1,h.par,h'.par]; rfl
 ·intro z hz
  obtain ⟨x,hx,y,hy,rfl⟩:=(hT z).1 hz
  rw [add1]
  have:=h.left x hx; have:=h'.left y hy; omega
 ·intro z hz hz0
  obtain ⟨x,hx,y,hy,rfl⟩:=(hT z).1 hz
  rw [add1] at hz0
  have l1:=h.left x hx
  have l2:=h'.left y hy
  have o1:=h.on x hx (by omega)
  have o2:=h'.on y hy (by omega)
  rw [add2,add2]; omega
theorem y8p.sub {S T:List Pt} {d a b:Pt} (h:y8p S d a b) (hs:∀ x∈T,x∈S) (ha:a∈T) (hb:b∈T):y8p T d a b:=
 ⟨ha,hb,h.par,fun x hx=>h.left x (hs x hx),fun x hx=>h.on x (hs x hx)⟩
def z7d (u v:Pt):Prop:=crs u v=0∧0<dt u v
theorem z7d.mul {u v:Pt} (h:z7d u v) (w:Pt):dt u u*crs v w=dt u v*crs u w∧dt u u*dt v w=dt u v*dt u w:=by
 have h0:=h.1
 simp only [crs,dt] at*
 constructor<;>grind
theorem z7d.ne {u v:Pt} (h:z7d u v):u≠(0,0):=by
 rintro rfl; have:=h.2; simp [dt] at this
theorem z7d.symm {u v:Pt} (h:z7d u v):z7d v u:=by
 refine ⟨?_,?_⟩
 ·have:=h.1; simp only [crs] at*; grind
 ·have:=h.2; simp only [dt] at*; rw [Int.mul_comm v.1,Int.mul_comm v.2]; exact this
theorem y0o {a b c d:Int} (ha:0<a) (hc:0<c) (h:a*b=c*d):(0≤b↔0≤d)∧(b=0↔d=0):=by
 have p:∀ {x y z w:Int},0<x→0<z→x*y=z*w→0≤y→0≤w:=by
  intro x y z w hx hz h hy
  refine Classical.byContradiction fun hn=>?_
  have:=Int.mul_nonneg (Int.le_of_lt hx) hy
  have:=Int.mul_neg_of_pos_of_neg hz (Int.not_le.1 hn)
  omega
 have q:∀ {x y z w:Int},0<z→x*y=z*w→y=0→w=0:=by
  intro x y z w hz h hy
  rw [hy,Int.mul_zero] at h
  rcases Int.mul_eq_zero.1 h.symm with h|h
  ·omega
  ·exact h
 exact ⟨⟨p ha hc h,p hc ha h.symm⟩,⟨q hc h,q ha h.symm⟩⟩
theorem y8p.same {S:List Pt} {d e a b:Pt} (h:y8p S d a b) (hs:z7d d e):y8p S e a b:=by
 have hd:=z11 hs.ne
 have k:∀ w,(0≤crs e w↔0≤crs d w)∧(crs e w=0↔crs d w=0):=fun w=>y0o hd hs.2 (hs.mul w).1
 have k2:∀ w,(0≤dt e w↔0≤dt d w)∧(dt e w=0↔dt d w=0):=fun w=>y0o hd hs.2 (hs.mul w).2
 refine ⟨h.ina,h.inb,(k _).2.2 h.par,fun x hx=>(k _).1.2 (h.left x hx),fun x hx h0=>?_⟩
 have:=h.on x hx ((k _).2.1 h0)
 exact ⟨(k2 _).1.2 this.1,(k2 _).1.2 this.2⟩
theorem x31 {a b:Int} (hb:0≤b) (h:a*a≤b*b):a≤b:=by
 refine Classical.byContradiction fun hn=>?_
 have:b<a:=by omega
 have:=Int.mul_lt_mul_of_pos_left this (show 0<a by omega)
 have:=Int.mul_le_mul_of_nonneg_right (show b≤a by omega) hb
 have:=Int.mul_comm a b
 omega
theorem y7u {a b x:Pt} (hab:a≠b) (h0:cr a b x=0) (h1:0≤dt (sb b a) (sb x a)):far a x≤far a b↔0≤dt (sb b a) (sb b x):=by
 have hne:sb b a≠(0,0):=fun h=>hab (z4h.1 h).symm
 have hp:=z11 hne
 have e1:far a x=dt (sb x a) (sb x a):=by simp only [far,dt,sb]; grind
 have e2:far a b=dt (sb b a) (sb b a):=by simp only [far,dt,sb]; grind
 have e3:dt (sb b a) (sb b x)=dt (sb b a) (sb b a) - dt (sb b a) (sb x a):=by simp only [dt,sb]; grind
 have hl:=lag (sb b a) (sb x a)
 have h0':crs (sb b a) (sb x a)=0:=h0
 rw [h0'] at hl
 rw [e1,e2,e3]
 generalize dt (sb b a) (sb x a)=m at*
 generalize dt (sb b a) (sb b a)=n at*
 generalize dt (sb x a) (sb x a)=k at*
 have hl':n*k=m*m:=by omega
 constructor
 ·intro h
  have:n*k≤n*n:=Int.mul_le_mul_of_nonneg_left h (by omega)
  have:=x31 (a:=m) (b:=n) (by omega) (by omega)
  omega
 ·intro h
  have h2:m*m≤n*n:=Int.mul_le_mul (by omega) (by omega) h1 (by omega)
  refine Classical.byContradiction fun hn=>?_
  have:=Int.mul_lt_mul_of_pos_left (show n<k by omega) hp
  omega
theorem w5k {S:List Pt} {a b:Pt} (ha:a∈S) (h:Nx S a b):y8p S (sb b a) a b:=by
 obtain ⟨h1,h2,h3⟩:=h
 refine ⟨ha,h1,?_,fun x hx=>(h3 x hx).1,fun x hx h0=>?_⟩
 ·simp only [crs,sb]; grind
 ·have:=(h3 x hx).2 h0
  exact ⟨this.1,(y7u h2 h0 this.1).1 this.2⟩
theorem face_nx {S:List Pt} {d a b:Pt} (hd:d≠(0,0)) (h:y8p S d a b) (hab:a≠b):Nx S a b∧z7d d (sb b a):=by
 have hpos:0<dt d (sb b a):=by
  have h0:crs d (sb a a)=0:=by simp [crs,sb]
  have:=(h.on a h.ina h0).2
  refine Classical.byContradiction fun hn=>hab ?_
  exact (z4h.1 (y4r hd h.par (by omega))).symm
 have hs:z7d d (sb b a):=⟨h.par,hpos⟩
 have hf:=h.same hs
 refine ⟨⟨h.inb,hab,fun x hx=>⟨hf.left x hx,fun h0=>?_⟩⟩,hs⟩
 have:=hf.on x hx h0
 exact ⟨this.1,(y7u hab h0 this.1).2 this.2⟩
theorem y34 {S:List Pt} {a b b':Pt} (h:Nx S a b) (h':Nx S a b'):b=b':=by
 have c1:=h.2.2 b' h'.1
 have c2:=h'.2.2 b h.1
 have z:cr a b b'=0:=by have:=y4n a b b'; omega
 have z':cr a b' b=0:=by have:=y4n a b b'; omega
 have f1:=(c1.2 z).2
 have f2:=(c2.2 z').2
 have d1:=(y7u h.2.1 z (c1.2 z).1).1 f1
 have d2:=(y7u h'.2.1 z' (c2.2 z').1).1 f2
 have hf:dt (sb b' b) (sb b' b)=0:=by
  have e:dt (sb b' b) (sb b' b)= - dt (sb b a) (sb b' b)+dt (sb b' a) (sb b' b):=by simp only [dt,sb]; grind
  have e2:dt (sb b a) (sb b' b)= - dt (sb b a) (sb b b'):=by simp only [dt,sb]; grind
  have hl:0≤dt (sb b' b) (sb b' b):=z9m _
  have e3:dt (sb b a) (sb b' a)*2=far a b+far a b' - dt (sb b' b) (sb b' b):=by simp only [far,dt,sb]; grind
  have e4:dt (sb b a) (sb b b')=far a b - dt (sb b a) (sb b' a):=by simp only [far,dt,sb]; grind
  have e5:dt (sb b' a) (sb b' b)=far a b' - dt (sb b a) (sb b' a):=by simp only [far,dt,sb]; grind
  have hlag:=lag (sb b a) (sb b' a)
  have z0:crs (sb b a) (sb b' a)=0:=z
  have e6:dt (sb b a) (sb b a)=far a b:=by simp only [far,dt,sb]; grind
  have e7:dt (sb b' a) (sb b' a)=far a b':=by simp only [far,dt,sb]; grind
  rw [z0,e6,e7] at hlag
  have hfe:far a b=far a b':=by omega
  have hm:0≤dt (sb b a) (sb b' a):=(c1.2 z).1
  rw [←hfe] at hlag
  have hfn:0≤far a b:=by rw [←e6]; exact z9m _
  have hq:=x31 (a:=far a b) (b:=dt (sb b a) (sb b' a)) hm (by omega)
  omega
 refine Classical.byContradiction fun hne=>?_
 have:=z11 (u:=sb b' b) (fun h=>hne (z4h.1 h).symm)
 omega
theorem x2k {a b:Pt} (h1:Le a b) (h2:Le b a):a=b:=by
 rcases h1 with h|h1
 ·exact h
 ·rcases h2 with h|h2
  ·exact h.symm
  ·exact absurd h2 (fun h=>h1.asymm h)
theorem y1l {S:List Pt} {e:Pt}:∀ {l l':List Pt} {a:Pt},Pth S (a::l++[e])→Pth S (a::l'++[e])→e∉l→e∉l'→l=l'
 |[],[],a,_,_,_,_=>rfl
 |[],b::l',a,h,h',_,n'=>by
  have:=y34 h.1 h'.1
  exact absurd (by simp [this]) n'
 |b::l,[],a,h,h',n,_=>by
  have:=y34 h.1 h'.1
  exact absurd (by simp [this]) n
 |b::l,b'::l',a,h,h',n,n'=>by
  have e1:=y34 h.1 h'.1
  subst e1
  have:=y1l (l:=l) (l':=l') (a:=b) h.2 h'.2 (fun x=>n (List.mem_cons_of_mem _ x)) (fun x=>n' (List.mem_cons_of_mem _ x))
  rw [this]
theorem y6k {S c c':List Pt} (h:Cyc S c) (h':Cyc S c'):c=c':=by
 match c,c',h,h' with
 |c0::r,c0'::r',h,h'=>
  have e0:c0=c0':=x2k (h.2.1 _ h'.1) (h'.2.1 _ h.1)
  subst e0
  congr 1
  rcases h.2.2 with ⟨hr,hs⟩|⟨hr,hp,hn⟩
  ·rcases h'.2.2 with ⟨hr',_⟩|⟨hr',hp',hn'⟩
   ·rw [hr,hr']
   ·match r',hr',hp',hn' with
    |b::l,_,hp',hn'=>exact absurd (by simp [hs b hp'.1.1]) hn'
  ·rcases h'.2.2 with ⟨hr',hs'⟩|⟨hr',hp',hn'⟩
   ·match r,hr,hp,hn with
    |b::l,_,hp,hn=>exact absurd (by simp [hs' b hp.1.1]) hn
   ·exact y1l hp hp' hn hn'
theorem y4m {S c:List Pt} (h:Cyc S c):∀ x∈c,x∈S:=by
 have k:∀ (l:List Pt) (a:Pt),Pth S (a::l)→∀ x∈l,x∈S:=by
  intro l
  induction l with
  |nil=>intro a _ x hx; simp at hx
  |cons b l ih=>
   intro a h x hx
   rcases List.mem_cons.1 hx with rfl|hx
   ·exact h.1.1
   ·exact ih b h.2 x hx
 match c,h with
 |c0::r,h=>
  intro x hx
  rcases List.mem_cons.1 hx with rfl|hx
  ·exact h.1
  ·rcases h.2.2 with ⟨hr,_⟩|⟨_,hp,_⟩
   ·subst hr; simp at hx
   ·exact k (r++[c0]) c0 hp x (by simp [hx])
theorem w9m {S T:List Pt} {a b:Pt} (h:Nx S a b) (hs:∀ x∈T,x∈S) (hb:b∈T):Nx T a b:=
 ⟨hb,h.2.1,fun x hx=>h.2.2 x (hs x hx)⟩
theorem w6y {S T c:List Pt} (h:Cyc S c) (hs:∀ x∈T,x∈S) (hc:∀ x∈c,x∈T):Cyc T c:=by
 have k:∀ (l:List Pt) (a:Pt),Pth S (a::l)→(∀ x∈l,x∈T)→Pth T (a::l):=by
  intro l
  induction l with
  |nil=>intro a _ _; trivial
  |cons b l ih=>
   intro a h hx
   exact ⟨w9m h.1 hs (hx b (by simp)),ih b h.2 (fun x h=>hx x (List.mem_cons_of_mem _ h))⟩
 match c,h with
 |c0::r,h=>
  refine ⟨hc c0 (by simp),fun x hx=>h.2.1 x (hs x hx),?_⟩
  rcases h.2.2 with ⟨hr,h1⟩|⟨hr,hp,hn⟩
  ·exact .inl ⟨hr,fun x hx=>h1 x (hs x hx)⟩
  ·refine .inr ⟨hr,k (r++[c0]) c0 hp (fun x hx=>?_),hn⟩
   rcases List.mem_append.1 hx with hx|hx
   ·exact hc x (List.mem_cons_of_mem _ hx)
   ·simp at hx; subst hx; exact hc _ (by simp)
theorem x9g {S T c:List Pt} (h:Cyc S c) (hs:∀ x,x∈T↔x∈S):Cyc T c:=w6y h (fun x hx=>(hs x).1 hx) (fun x hx=>(hs x).2 (y4m h x hx))
end M06
end
section
namespace M06
def Bef (u v:Pt):Prop:=(Pos u∧Pos (ng v))∨(Pos u∧Pos v∧0<crs u v)∨(Pos (ng u)∧Pos (ng v)∧0<crs u v)
def ways:List Pt→List Pt
 |a::b::l=>sb b a::ways (b::l)
 |_=>[]
def x24:Pt→List Pt→List Pt
 |p,[]=>[p]
 |p,w::ws=>p::x24 (ad p w) ws
def wy:List Pt→List Pt
 |a::b::r=>ways (a::b::r++[a])
 |_=>[]
theorem v8z (a b:Pt):ad a (sb b a)=b:=by simp only [ad,sb]; exact Prod.ext (by simp; omega) (by simp; omega)
theorem y8u:∀ (l:List Pt) (a:Pt),x24 a (ways (a::l))=a::l
 |[],a=>rfl
 |b::l,a=>by
  simp only [ways,x24]
  rw [v8z,y8u l b]
theorem z7f:∀ (l r:List Pt) (m:Pt),ways (l++m::r)=ways (l++[m])++ways (m::r)
 |[],r,m=>by simp [ways]
 |[a],r,m=>by simp [ways]
 |a::b::l,r,m=>by
  have:=z7f (b::l) r m
  simp only [List.cons_append,ways] at this⊢
  rw [this]
theorem w5e {u v:Pt} (h1:Pos u) (h2:Pos v):Pos (ad u v):=by simp only [Pos,ad] at*; omega
theorem y31 (u:Pt) (h:u≠(0,0)):Pos u∨Pos (ng u):=by
 have:¬ (u.1=0∧u.2=0):=fun e=>h (Prod.ext e.1 e.2)
 simp only [Pos,ng]; omega
theorem z1z {u:Pt} (h1:Pos u) (h2:Pos (ng u)):False:=by simp only [Pos,ng] at*; omega
theorem z9j {u:Pt} (h:Pos u):u≠(0,0):=by rintro rfl; simp [Pos] at h
theorem crs_ng (u v:Pt):crs (ng u) (ng v)=crs u v:=by simp only [crs,ng]; grind
theorem y77 (u v:Pt):crs (ng u) v= - crs u v:=by simp only [crs,ng]; grind
theorem y76 (u v:Pt):crs u (ng v)= - crs u v:=by simp only [crs,ng]; grind
theorem z3q (u v:Pt):crs v u= - crs u v:=by simp only [crs]; grind
theorem y07:∀ {st:List Pt},x1j st→Conv st→(ways st.reverse).Pairwise (fun u v=>0<crs u v)∧∀ w∈ways st.reverse,Pos w
 |[],_,_=>⟨.nil,by simp [ways]⟩
 |[_],_,_=>⟨.nil,by simp [ways]⟩
 |[t,s],hd,_=>⟨by simp [ways],fun w hw=>by simp [ways] at hw; subst hw; exact hd.1⟩
 |t::s::r::l,hd,hc=>by
  obtain ⟨h1,h2⟩:=y07 (st:=s::r::l) hd.2 hc.2
  have e:ways (t::s::r::l).reverse=ways (s::r::l).reverse++[sb t s]:=by
   have:=z7f (r::l).reverse [t] s
   simp only [List.reverse_cons,List.append_assoc,List.cons_append,List.nil_append] at this⊢
   rw [this]; rfl
  have e2:ways (s::r::l).reverse=ways (r::l).reverse++[sb s r]:=by
   have:=z7f l.reverse [s] r
   simp only [List.reverse_cons,List.append_assoc,List.cons_append,List.nil_append] at this⊢
   rw [this]; rfl
  have hpt:Pos (sb t s):=hd.1
  have hps:Pos (sb s r):=hd.2.1
  have hcc:0<crs (sb s r) (sb t s):=by rw [x4t]; exact hc.1
  refine ⟨?_,fun w hw=>?_⟩
  ·rw [e,List.pairwise_append]
   refine ⟨h1,by simp,fun u hu v hv=>?_⟩
   simp at hv; subst hv
   rw [e2] at hu
   rcases List.mem_append.1 hu with hu'|hu'
   ·have hu2:0<crs u (sb s r):=by
     rw [e2,List.pairwise_append] at h1
     exact h1.2.2 u hu' _ (by simp)
    exact z2p (h2 u (by rw [e2]; exact hu)) hps hpt (by omega) (by omega) (.inl hu2)
   ·simp at hu'; subst hu'; exact hcc
  ·rw [e] at hw
   rcases List.mem_append.1 hw with hw|hw
   ·exact h2 w hw
   ·simp at hw; subst hw; exact hpt
theorem x66:∀ l:List Pt,ways (l.map ng)=(ways l).map ng
 |[]=>rfl
 |[_]=>rfl
 |a::b::l=>by
  have:=x66 (b::l)
  simp only [List.map_cons,ways] at this⊢
  rw [this]
  congr 1
  simp only [sb,ng]; exact Prod.ext (by simp; omega) (by simp; omega)
theorem x8x (p:Pt):∀ (l st:List Pt),(∃ r,(l++[p]).foldl push st=p::r):=by
 intro l st
 rw [List.foldl_append]
 exact ⟨_,rfl⟩
theorem x3j (p:Pt):∀ (st:List Pt),st≠[]→(pop p st)≠[]∧(pop p st).getLast?=st.getLast?
 |[t],_=>by rw [y32]; simp
 |t::s::r,_=>by
  by_cases h:cr s t p≤0
  ·rw [y1n p h]
   have:=x3j p (s::r) (by simp)
   refine ⟨this.1,this.2.trans ?_⟩
   simp [List.getLast?_cons_cons]
  ·rw [y1m p h]; simp
theorem x0b:∀ (l st:List Pt),st≠[]→(l.foldl push st)≠[]∧(l.foldl push st).getLast?=st.getLast?
 |[],st,h=>⟨h,rfl⟩
 |p::l,st,h=>by
  have h1:=x3j p st h
  have h2:=x0b l (push st p) (by simp [push])
  refine ⟨h2.1,h2.2.trans ?_⟩
  show (p::pop p st).getLast?=_
  rw [←h1.2]
  match hq:pop p st,h1.1 with
  |[],h=>exact absurd rfl h
  |a::q,_=>simp [List.getLast?_cons_cons]
def chn (l:List Pt):List Pt:=(l.foldl push []).reverse
theorem y8a {q:List Pt} {a z:Pt} {m:List Pt} (hq:q=a::m) (hz:q.getLast?=some z) (hs:q.Pairwise Lt):
  ∃ t,chn q=t++[z]∧(t++[z]).head?=some a∧x61 q (chn q).reverse:=by
 subst hq
 have hc:=y6n m [a] [a] (by simp) (x93 a) (fun x hx y hy=>by simp at hx; subst hx; exact (List.pairwise_cons.1 hs).1 y hy) (List.pairwise_cons.1 hs).2
 have he:(a::m).foldl push []=m.foldl push [a]:=by
  show m.foldl push (push [] a)=_
  have:push [] a=[a]:=by simp [push,pop]
  rw [this]
 have hrev:(chn (a::m)).reverse=m.foldl push [a]:=by rw [chn,List.reverse_reverse,he]
 have hl:=x0b m [a] (by simp)
 have hh:∃ r,m.foldl push [a]=z::r:=by
  rcases List.eq_nil_or_concat m with rfl|⟨m',x,rfl⟩
  ·simp at hz; subst hz; exact ⟨[],rfl⟩
  ·have:z=x:=by
    have:(a::(m'++[x])).getLast?=some x:=by
     rw [←List.cons_append,List.getLast?_append]; simp
    rw [List.concat_eq_append] at hz
    rw [this] at hz; exact (Option.some.inj hz).symm
   subst this
   rw [List.concat_eq_append]
   exact x8x z m' [a]
 obtain ⟨r,hr⟩:=hh
 refine ⟨r.reverse,?_,?_,by rw [hrev]; exact hc.1⟩
 ·rw [chn,he,hr,List.reverse_cons]
 ·have h2:=hl.2
  rw [hr] at h2
  rw [←List.reverse_cons,List.head?_reverse,h2]; rfl
theorem w4i (l:List Pt):chn (l.map ng)=(chn l).map ng:=by
 rw [chn,chn,show ([]:List Pt)=([]:List Pt).map ng from rfl,x8w,List.map_reverse]; rfl
def w34 (q:List Pt):List Pt:=if q.length=1 then q else (chn q).dropLast++(chn q.reverse).dropLast
theorem Le.trans {a b c:Pt} (h1:Le a b) (h2:Le b c):Le a c:=by
 rcases h1 with rfl|h1
 ·exact h2
 ·rcases h2 with rfl|h2
  ·exact .inr h1
  ·exact .inr (h1.trans h2)
theorem x4k:∀ {st:List Pt} {z:Pt},x1j (st++[z])→∀ x∈st,Lt z x
 |[],_,_,x,hx=>by simp at hx
 |[t],z,h,x,hx=>by simp at hx; subst hx; exact h.1
 |t::s::r,z,h,x,hx=>by
  have ih:=x4k (st:=s::r) (z:=z) h.2
  rcases List.mem_cons.1 hx with rfl|hx
  ·exact (ih s (by simp)).trans h.1
  ·exact ih x hx
theorem x0q:∀ {st:List Pt} {z:Pt},x1j (z::st)→∀ x∈st,Lt x z
 |[],_,_,x,hx=>by simp at hx
 |t::r,z,h,x,hx=>by
  rcases List.mem_cons.1 hx with rfl|hx
  ·exact h.1
  ·exact (x0q h.2 x hx).trans h.1
theorem x36 {S q:List Pt} (hne:q≠[]) (hs:q.Pairwise Lt) (hm:∀ x,x∈q↔x∈S):Cyc S (w34 q)∧(wy (w34 q)).Pairwise Bef:=by
 match q,hne with
 |[a],_=>
  have hS:∀ x∈S,x=a:=fun x hx=>by simpa using (hm x).2 hx
  refine ⟨⟨(hm a).1 (by simp),fun x hx=> .inl (hS x hx).symm, .inl ⟨rfl,hS⟩⟩,?_⟩
  simp [w34,wy]
 |a::b::m,_=>
  clear hne
  have hlen:(a::b::m).length≠1:=by simp
  generalize hq:a::b::m=q at hs hm hlen⊢
  obtain ⟨z,hz⟩:∃ z,q.getLast?=some z:=by subst hq; exact ⟨_,List.getLast?_eq_some_getLast (by simp)⟩
  have hzq:z∈q:=List.mem_of_getLast? hz
  have haz:Lt a z:=by
   subst hq
   rw [List.getLast?_cons_cons] at hz
   exact (List.pairwise_cons.1 hs).1 z (List.mem_of_getLast? hz)
  obtain ⟨t,h1,h2,h3⟩:=y8a (a:=a) (m:=b::m) hq.symm hz hs
  have hrz:(q.reverse.map ng).Pairwise Lt:=by
   rw [List.pairwise_map,List.pairwise_reverse]
   exact hs.imp fun h=>(w5n _ _).2 h
  obtain ⟨m',hm'⟩:∃ m',q.reverse.map ng=ng z::m':=by
   have:q.reverse.head?=some z:=by rw [List.head?_reverse]; exact hz
   match hqr:q.reverse,this with
   |x::r,h=>cases h; exact ⟨r.map ng,rfl⟩
  have hlast:(q.reverse.map ng).getLast?=some (ng a):=by
   rw [List.getLast?_map,List.getLast?_reverse, ←hq]; rfl
  obtain ⟨u,k1,k2,k3⟩:=y8a hm' hlast hrz
  rw [w4i] at k1 k3
  obtain ⟨v,hv⟩:∃ v,chn q.reverse=v++[a]∧u=v.map ng:=by
   have:chn q.reverse=(u++[ng a]).map ng:=by
    rw [←k1,List.map_map]
    have:(ng∘ng)=id:=funext x2f
    rw [this,List.map_id]
   refine ⟨u.map ng,by rw [this]; simp [x2f],?_⟩
   rw [List.map_map,show (ng∘ng)=id from funext x2f,List.map_id]
  obtain ⟨hv,hu⟩:=hv
  have hvh:(v++[a]).head?=some z:=by
   rw [hu] at k2
   have:((v++[a]).map ng).head?=some (ng z):=by simpa using k2
   rw [List.head?_map] at this
   cases hh:(v++[a]).head? with
   |none=>rw [hh] at this; cases this
   |some y=>rw [hh] at this; rw [w3z (Option.some.inj this)]
  have ht:∃ t',t=a::t':=by
   match t,h2 with
   |[],h2=>exact absurd (Option.some.inj h2).symm haz.ne
   |x::t',h2=>cases h2; exact ⟨t',rfl⟩
  have hv':∃ v',v=z::v':=by
   match v,hvh with
   |[],hvh=>exact absurd (Option.some.inj hvh) haz.ne
   |x::v',hvh=>cases hvh; exact ⟨v',rfl⟩
  obtain ⟨t',rfl⟩:=ht
  obtain ⟨v',rfl⟩:=hv'
  have hh:w34 q=a::t'++z::v':=by
   rw [w34,if_neg hlen,h1,hv,List.dropLast_concat,List.dropLast_concat]
  have p1:Pth S (a::t'++[z]):=by
   have:=y30 (S:=S) h3.desc (fun x hx=>h3.edge x ((hm x).2 hx)) (fun y hy=>(hm y).1 (h3.sub y hy))
   rwa [List.reverse_reverse,h1] at this
  have p2:Pth S (z::v'++[a]):=by
   have hsub:∀ x,x∈q.reverse.map ng↔x∈S.map ng:=fun x=>by
    simp only [List.mem_map,List.mem_reverse]
    exact ⟨fun ⟨y,h,e⟩=>⟨y,(hm y).1 h,e⟩,fun ⟨y,h,e⟩=>⟨y,(hm y).2 h,e⟩⟩
   have:=y30 (S:=S.map ng) k3.desc (fun x hx=>k3.edge x ((hsub x).2 hx)) (fun y hy=>(hsub y).1 (k3.sub y hy))
   rw [List.reverse_reverse,hv] at this
   exact w3s this
  have d1:x1j ((a::t'++[z]).reverse):=by have:=h3.desc; rwa [h1] at this
  have d2:x1j (((z::v'++[a]).map ng).reverse):=by have:=k3.desc; rwa [hv] at this
  have c1:Conv ((a::t'++[z]).reverse):=by have:=h3.conv; rwa [h1] at this
  have c2:Conv (((z::v'++[a]).map ng).reverse):=by have:=k3.conv; rwa [hv] at this
  have n1:∀ x∈t',Lt a x:=by
   intro x hx
   rw [List.cons_append,List.reverse_cons] at d1
   exact x4k d1 x (by simp [hx])
  have n2:∀ x∈v',Lt a x:=by
   intro x hx
   rw [List.map_append,List.reverse_append] at d2
   have:=x0q (st:=((z::v').map ng).reverse) (z:=ng a) d2 (ng x) (List.mem_reverse.2 (List.mem_map.2 ⟨x,by simp [hx],rfl⟩))
   exact (w5n _ _).1 this
  refine ⟨?_,?_⟩
  ·rw [hh]
   have haS:∀ x∈S,Le a x:=fun x hx=>by
    have:=(hm x).2 hx
    rw [←hq] at this
    rcases List.mem_cons.1 this with rfl|h
    ·exact .inl rfl
    ·rw [←hq] at hs; exact .inr ((List.pairwise_cons.1 hs).1 x h)
   refine ⟨(hm a).1 (by rw [←hq]; simp),haS, .inr ⟨by simp,?_,?_⟩⟩
   ·have:=y7g (l:=a::t') (m:=z) (r:=v'++[a]) p1 p2
    simpa using this
   ·intro hx
    rcases List.mem_append.1 hx with h|h
    ·exact (n1 a h).irrefl
    ·rcases List.mem_cons.1 h with h|h
     ·exact haz.ne h
     ·exact (n2 a h).irrefl
  ·rw [hh]
   have hw:wy (a::t'++z::v')=ways (a::t'++[z])++ways (z::v'++[a]):=by
    have:wy (a::t'++z::v')=ways (a::t'++z::(v'++[a])):=by
     cases t' with
     |nil=>simp [wy]
     |cons x t'=>simp [wy]
    rw [this,z7f]; rfl
   obtain ⟨w1,w2⟩:=y07 d1 c1
   rw [List.reverse_reverse] at w1 w2
   obtain ⟨w3,w4⟩:=y07 d2 c2
   rw [List.reverse_reverse,x66] at w3 w4
   have w4':∀ w∈ways (z::v'++[a]),Pos (ng w):=fun w hw=>w4 _ (List.mem_map.2 ⟨w,hw,rfl⟩)
   rw [hw,List.pairwise_append]
   refine ⟨?_,?_,fun x hx y hy=> .inl ⟨w2 x hx,w4' y hy⟩⟩
   ·exact w1.imp_of_mem fun {x y} hx hy h=> .inr (.inl ⟨w2 x hx,w2 y hy,h⟩)
   ·rw [List.pairwise_map] at w3
    exact w3.imp_of_mem fun {x y} hx hy h=> .inr (.inr ⟨w4' x hx,w4' y hy,by rwa [crs_ng] at h⟩)
noncomputable def ins (p:Pt):List Pt→List Pt
 |[]=>[p]
 |a::l=>open Classical in if Lt p a then p::a::l else if p=a then a::l else a::ins p l
theorem x34 (p:Pt):∀ (l:List Pt),l.Pairwise Lt→(ins p l).Pairwise Lt∧∀ x,x∈ins p l↔x=p∨x∈l
 |[],_=>by simp [ins]
 |a::l,h=>by
  obtain ⟨h1,h2⟩:=x34 p l (List.pairwise_cons.1 h).2
  have h0:=(List.pairwise_cons.1 h).1
  rw [ins]
  split
  ·rename_i hp
   refine ⟨List.pairwise_cons.2 ⟨fun y hy=>?_,h⟩,fun x=>by simp⟩
   rcases List.mem_cons.1 hy with rfl|hy
   ·exact hp
   ·exact hp.trans (h0 y hy)
  ·rename_i hp
   split
   ·rename_i he
    subst he
    refine ⟨h,fun x=>?_⟩
    simp
   ·rename_i hne
    have hap:Lt a p:=by
     rcases x3z p a with h|h|h
     ·exact absurd h hp
     ·exact absurd h hne
     ·exact h
    refine ⟨List.pairwise_cons.2 ⟨fun y hy=>?_,h1⟩,fun x=>?_⟩
    ·rcases (h2 y).1 hy with rfl|hy
     ·exact hap
     ·exact h0 y hy
    ·simp only [List.mem_cons,h2]
     constructor
     ·rintro (h|h|h)
      ·exact .inr (.inl h)
      ·exact .inl h
      ·exact .inr (.inr h)
     ·rintro (h|h|h)
      ·exact .inr (.inl h)
      ·exact .inl h
      ·exact .inr (.inr h)
theorem y0i:∀ (S:List Pt),∃ q:List Pt,q.Pairwise Lt∧∀ x,x∈q↔x∈S
 |[]=>⟨[], .nil,fun _=>Iff.rfl⟩
 |p::S=>by
  obtain ⟨q,h1,h2⟩:=y0i S
  obtain ⟨h3,h4⟩:=x34 p q h1
  exact ⟨ins p q,h3,fun x=>by rw [h4,h2]; simp⟩
theorem y6l {S:List Pt} (hne:S≠[]):∃ c,Cyc S c∧(wy c).Pairwise Bef:=by
 obtain ⟨q,h1,h2⟩:=y0i S
 have:q≠[]:=by
  rintro rfl
  match S,hne with
  |a::S,_=>have:=(h2 a).2 (by simp); simp at this
 exact ⟨_,x36 this h1 h2⟩
theorem w4a {S c:List Pt} (h:Cyc S c):S≠[]:=by
 match c,h with
 |c0::r,h=>intro e; have:=h.1; rw [e] at this; simp at this
theorem w60 {S c:List Pt} (h:Cyc S c):(wy c).Pairwise Bef:=by
 obtain ⟨c',h1,h2⟩:=y6l (w4a h)
 rw [y6k h h1]; exact h2
end M06
end
section
namespace M06
instance (u:Pt):Decidable (Pos u):=by unfold Pos; infer_instance
instance (u v:Pt):Decidable (Bef u v):=by unfold Bef; infer_instance
instance (u v:Pt):Decidable (z7d u v):=by unfold z7d; infer_instance
def z20 (l:List Pt):Pt:=l.foldr ad (0,0)
def z6u (d:Pt) (l:List Pt):Pt:=z20 (l.filter (fun w=>decide (Bef w d)))
def z9h (d:Pt) (l:List Pt):Pt:=z20 (l.filter (fun w=>decide (z7d d w)))
theorem z1e (a:Pt):ad a (0,0)=a:=by simp [ad]
theorem x1k (a:Pt):ad (0,0) a=a:=by simp [ad]
theorem z2h (a b c:Pt):ad (ad a b) c=ad a (ad b c):=by simp only [ad]; exact Prod.ext (by simp; omega) (by simp; omega)
theorem w0e (a b:Pt):ad a b=ad b a:=by simp only [ad]; exact Prod.ext (by simp; omega) (by simp; omega)
theorem z14:z20 []=(0,0):=rfl
theorem z0y (a:Pt) (l:List Pt):z20 (a::l)=ad a (z20 l):=rfl
theorem z2q (a b:List Pt):z20 (a++b)=ad (z20 a) (z20 b):=by
 induction a with
 |nil=>rw [List.nil_append,z14,x1k]
 |cons x a ih=>rw [List.cons_append,z0y,z0y,ih,z2h]
theorem y3i {a b:List Pt} (h:a.Perm b):z20 a=z20 b:=by
 induction h with
 |nil=>rfl
 |cons x _ ih=>rw [z0y,z0y,ih]
 |swap x y l=>rw [z0y,z0y,z0y,z0y, ←z2h, ←z2h,w0e x y]
 |trans _ _ h1 h2=>exact h1.trans h2
theorem z7h (d:Pt) (a b:List Pt):z6u d (a++b)=ad (z6u d a) (z6u d b):=by rw [z6u,List.filter_append,z2q]; rfl
theorem z9q (d:Pt) (a b:List Pt):z9h d (a++b)=ad (z9h d a) (z9h d b):=by rw [z9h,List.filter_append,z2q]; rfl
theorem x7i (d:Pt) {a b:List Pt} (h:a.Perm b):z6u d a=z6u d b:=y3i (h.filter _)
theorem x7g (d:Pt) {a b:List Pt} (h:a.Perm b):z9h d a=z9h d b:=y3i (h.filter _)
theorem Bef.ne1 {u v:Pt} (h:Bef u v):u≠(0,0):=by
 rcases h with h|h|h
 ·exact z9j h.1
 ·exact z9j h.1
 ·rintro rfl; exact z9j h.1 (by simp [ng])
theorem Bef.ne2 {u v:Pt} (h:Bef u v):v≠(0,0):=by
 rcases h with h|h|h
 ·rintro rfl; exact z9j h.2 (by simp [ng])
 ·exact z9j h.2.1
 ·rintro rfl; exact z9j h.2.1 (by simp [ng])
theorem Bef.trans {u v w:Pt} (h1:Bef u v) (h2:Bef v w):Bef u w:=by
 rcases h1 with ⟨a,b⟩|⟨a,b,c⟩|⟨a,b,c⟩
 ·rcases h2 with ⟨d,e⟩|⟨d,e,f⟩|⟨d,e,f⟩
  ·exact absurd d (fun h=>z1z h b)
  ·exact absurd d (fun h=>z1z h b)
  ·exact .inl ⟨a,e⟩
 ·rcases h2 with ⟨d,e⟩|⟨d,e,f⟩|⟨d,e,f⟩
  ·exact .inl ⟨a,e⟩
  ·exact .inr (.inl ⟨a,e,z2p a b e (by omega) (by omega) (.inl c)⟩)
  ·exact absurd b (fun h=>z1z h d)
 ·rcases h2 with ⟨d,e⟩|⟨d,e,f⟩|⟨d,e,f⟩
  ·exact absurd d (fun h=>z1z h b)
  ·exact absurd d (fun h=>z1z h b)
  ·refine .inr (.inr ⟨a,e,?_⟩)
   have:=z2p a b e (by rw [crs_ng]; omega) (by rw [crs_ng]; omega) (.inl (by rw [crs_ng]; exact c))
   rwa [crs_ng] at this
theorem Bef.irrefl {u:Pt} (h:Bef u u):False:=by
 rcases h with ⟨a,b⟩|⟨a,b,c⟩|⟨a,b,c⟩
 ·exact z1z a b
 ·simp only [crs] at c; have:=Int.mul_comm u.1 u.2; omega
 ·simp only [crs] at c; have:=Int.mul_comm u.1 u.2; omega
theorem Bef.asymm {u v:Pt} (h1:Bef u v) (h2:Bef v u):False:=(h1.trans h2).irrefl
theorem z4t {u v:Pt} (h:z7d u v) (hu:Pos u):Pos v:=by
 obtain ⟨h1,h2⟩:=h
 obtain ⟨u1,u2⟩:=u; obtain ⟨v1,v2⟩:=v
 simp only [Pos,crs,dt] at*
 rcases hu with hu|⟨hu,hu2⟩
 ·left
  refine Classical.byContradiction fun hn=>?_
  have a:=Int.mul_nonneg (Int.le_of_lt hu) (show 0≤ -v1 by omega)
  rw [Int.mul_neg] at a
  have e:u1*(u2*v2)=u2*u2*v1:=by grind
  have b:u2*u2*v1≤0:=by
   have:=Int.mul_nonneg (sqn u2) (show 0≤ -v1 by omega)
   rw [Int.mul_neg] at this; omega
  have c:0<u2*v2:=by omega
  have:=Int.mul_pos hu c
  omega
 ·right
  subst hu
  have hv1:v1=0:=by
   have:u2*v1=0:=by omega
   rcases Int.mul_eq_zero.1 this with h|h
   ·omega
   ·exact h
  refine ⟨hv1,?_⟩
  refine Classical.byContradiction fun hn=>?_
  have a:=Int.mul_nonneg (Int.le_of_lt hu2) (show 0≤ -v2 by omega)
  rw [Int.mul_neg] at a
  omega
theorem y1i {u v:Pt} (h:z7d u v):z7d (ng u) (ng v):=by
 refine ⟨by rw [crs_ng]; exact h.1,?_⟩
 have:=h.2
 simp only [dt,ng,Int.neg_mul_neg] at*; exact this
theorem z7d.bef_r {u v w:Pt} (h:z7d v w) (hb:Bef u v):Bef u w:=by
 have k:∀ {u v w:Pt},z7d v w→0<crs u v→0<crs u w:=by
  intro u v w h h0
  have hm:=(h.mul u).1
  rw [z3q u v,z3q u w] at hm
  have:=z11 h.ne
  have:=h.2
  have e:dt v v*crs u w=dt v w*crs u v:=by rw [Int.mul_neg,Int.mul_neg] at hm; omega
  refine Classical.byContradiction fun hn=>?_
  have a:=Int.mul_pos h.2 h0
  have b:=Int.mul_nonneg (Int.le_of_lt (z11 h.ne)) (show 0≤ - crs u w by omega)
  rw [Int.mul_neg] at b; omega
 rcases hb with ⟨a,b⟩|⟨a,b,c⟩|⟨a,b,c⟩
 ·exact .inl ⟨a,z4t (y1i h) b⟩
 ·exact .inr (.inl ⟨a,z4t h b,k h c⟩)
 ·exact .inr (.inr ⟨a,z4t (y1i h) b,k h c⟩)
theorem z7d.bef_l {u v w:Pt} (h:z7d v w) (hb:Bef v u):Bef w u:=by
 have k:∀ {u v w:Pt},z7d v w→0<crs v u→0<crs w u:=by
  intro u v w h h0
  have hm:=(h.mul u).1
  refine Classical.byContradiction fun hn=>?_
  have a:=Int.mul_pos h.2 h0
  have b:=Int.mul_nonneg (Int.le_of_lt (z11 h.ne)) (show 0≤ - crs w u by omega)
  rw [Int.mul_neg] at b; omega
 rcases hb with ⟨a,b⟩|⟨a,b,c⟩|⟨a,b,c⟩
 ·exact .inl ⟨z4t h a,b⟩
 ·exact .inr (.inl ⟨z4t h a,b,k h c⟩)
 ·exact .inr (.inr ⟨z4t (y1i h) a,b,k h c⟩)
theorem x3b {u v:Pt} (hu:Pos u) (hv:Pos v) (h:crs u v=0):z7d u v:=by
 refine ⟨h,?_⟩
 obtain ⟨u1,u2⟩:=u; obtain ⟨v1,v2⟩:=v
 simp only [Pos,crs,dt] at*
 rcases hu with hu|⟨hu,hu2⟩
 ·rcases hv with hv|⟨hv,hv2⟩
  ·have a:=Int.mul_pos hu hv
   have e:u1*(u2*v2)=u2*u2*v1:=by grind
   have b:=Int.mul_nonneg (sqn u2) (Int.le_of_lt hv)
   have c:0≤u2*v2:=by
    refine Classical.byContradiction fun hn=>?_
    have:=Int.mul_neg_of_pos_of_neg hu (show u2*v2<0 by omega)
    omega
   omega
  ·subst hv
   have:=Int.mul_pos hu hv2
   omega
 ·subst hu
  rcases hv with hv|⟨hv,hv2⟩
  ·have:=Int.mul_pos hu2 hv
   omega
  ·subst hv
   have:=Int.mul_pos hu2 hv2
   omega
theorem y1w {u v:Pt} (hu:u≠(0,0)) (hv:v≠(0,0)):Bef u v∨z7d u v∨Bef v u:=by
 rcases y31 u hu with pu|pu<;>rcases y31 v hv with pv|pv
 ·rcases Int.lt_trichotomy (crs u v) 0 with h|h|h
  ·exact .inr (.inr (.inr (.inl ⟨pv,pu,by rw [z3q]; omega⟩)))
  ·exact .inr (.inl (x3b pu pv h))
  ·exact .inl (.inr (.inl ⟨pu,pv,h⟩))
 ·exact .inl (.inl ⟨pu,pv⟩)
 ·exact .inr (.inr (.inl ⟨pv,pu⟩))
 ·rcases Int.lt_trichotomy (crs u v) 0 with h|h|h
  ·exact .inr (.inr (.inr (.inr ⟨pv,pu,by rw [z3q]; omega⟩)))
  ·refine .inr (.inl ?_)
   have:=y1i (x3b pu pv (by rw [crs_ng]; exact h))
   rwa [x2f,x2f] at this
  ·exact .inl (.inr (.inr ⟨pu,pv,h⟩))
theorem z7d.not_bef {u v:Pt} (h:z7d u v):¬ Bef u v:=fun hb=>(h.symm.bef_r hb).irrefl
theorem z7d.not_bef' {u v:Pt} (h:z7d u v):¬ Bef v u:=fun hb=>(h.bef_r hb).irrefl
theorem y3a (p:Pt) (ws:List Pt):∃ r,x24 p ws=p::r:=by
 cases ws with
 |nil=>exact ⟨[],rfl⟩
 |cons w ws=>exact ⟨_,rfl⟩
theorem y8v:∀ (ws:List Pt) (p:Pt),(x24 p ws).getLast?=some (ad p (z20 ws))
 |[],p=>by rw [z14,z1e]; rfl
 |w::ws,p=>by
  obtain ⟨r,hr⟩:=y3a (ad p w) ws
  have:=y8v ws (ad p w)
  rw [x24,hr,List.getLast?_cons_cons, ←hr,this,z0y,z2h]
theorem z80 {S:List Pt}:∀ {E1:List Pt} {e:Pt} {E3:List Pt} {p:Pt},Pth S (x24 p (E1++e::E3))→Nx S (ad p (z20 E1)) (ad (ad p (z20 E1)) e)
 |[],e,E3,p,h=>by
  rw [z14,z1e]
  obtain ⟨r,hr⟩:=y3a (ad p e) E3
  simp only [List.nil_append,x24,hr] at h
  exact h.1
 |w::E1,e,E3,p,h=>by
  rw [z0y, ←z2h]
  simp only [List.cons_append,x24] at h
  exact z80 (E1:=E1) h.tail
theorem y29 {S:List Pt}:∀ {E:List Pt} {p:Pt},p∈S→Pth S (x24 p E)→∀ E1 E3,E=E1++E3→ad p (z20 E1)∈S
 |E,p,hp,h,[],E3,_=>by rw [z14,z1e]; exact hp
 |[],p,hp,h,w::E1,E3,he=>by cases he
 |w'::E,p,hp,h,w::E1,E3,he=>by
  simp only [List.cons_append,List.cons.injEq] at he
  obtain ⟨rfl,he⟩:=he
  rw [z0y, ←z2h]
  simp only [x24] at h
  obtain ⟨r,hr⟩:=y3a (ad p w') E
  refine y29 (E:=E) ?_ h.tail E1 E3 he
  rw [hr] at h
  exact h.1.1
theorem x14 (a e:Pt):sb (ad a e) a=e:=by simp only [sb,ad]; exact Prod.ext (by simp; omega) (by simp; omega)
theorem x2x {S:List Pt} {a b c d:Pt} (h1:Nx S a b) (h2:Nx S b c) (hd1:0<crs (sb b a) d) (hd2:0<crs d (sb c b)):y8p S d b b:=by
 have key:∀ x∈S,0≤crs d (sb x b)∧(crs d (sb x b)=0→x=b):=by
  intro x hx
  have p1:0≤crs (sb b a) (sb x b):=by
   have:=(h1.2.2 x hx).1
   have e:cr a b x=crs (sb b a) (sb x b):=by simp only [cr,crs,sb]; grind
   omega
  have p2:0≤crs (sb c b) (sb x b):=(h2.2.2 x hx).1
  have hD:0≤crs (sb b a) (sb c b):=by
   have:=(h1.2.2 c h2.1).1
   have e:cr a b c=crs (sb b a) (sb c b):=by simp only [cr,crs,sb]; grind
   omega
  have p3:crs (sb c b) (sb x b)=0→0≤dt (sb c b) (sb x b):=fun h=>((h2.2.2 x hx).2 h).1
  have hn:sb c b≠(0,0):=fun h=>h2.2.1 (z4h.1 h).symm
  generalize sb b a=p at*
  generalize sb c b=n at*
  have hv:sb x b=(0,0)→x=b:=z4h.1
  generalize sb x b=v at*
  have id1:crs p n*crs d v=crs d n*crs p v+crs p d*crs n v:=by simp only [crs]; grind
  rcases Int.lt_or_eq_of_le hD with hD|hD
  ·have a1:=Int.mul_nonneg (Int.le_of_lt hd2) p1
   have a2:=Int.mul_nonneg (Int.le_of_lt hd1) p2
   refine ⟨?_,fun h0=>hv ?_⟩
   ·refine Classical.byContradiction fun hc=>?_
    have:=Int.mul_neg_of_pos_of_neg hD (Int.not_le.1 hc)
    omega
   ·rw [h0,Int.mul_zero] at id1
    have z1:crs d n*crs p v=0:=by omega
    have z2:crs p d*crs n v=0:=by omega
    have z1:crs p v=0:=by rcases Int.mul_eq_zero.1 z1 with h|h<;>omega
    have z2:crs n v=0:=by rcases Int.mul_eq_zero.1 z2 with h|h<;>omega
    have e1:crs p n*v.1=n.1*crs p v - p.1*crs n v:=by simp only [crs]; grind
    have e2:crs p n*v.2=n.2*crs p v - p.2*crs n v:=by simp only [crs]; grind
    rw [z1,z2] at e1 e2
    simp only [Int.mul_zero,Int.sub_zero] at e1 e2
    refine Prod.ext ?_ ?_
    ·rcases Int.mul_eq_zero.1 e1 with h|h
     ·omega
     ·exact h
    ·rcases Int.mul_eq_zero.1 e2 with h|h
     ·omega
     ·exact h
  ·have a1:=Int.mul_nonneg (Int.le_of_lt hd2) p1
   have a2:=Int.mul_nonneg (Int.le_of_lt hd1) p2
   rw [←hD,Int.zero_mul] at id1
   have z2:crs p d*crs n v=0:=by omega
   have z2:crs n v=0:=by rcases Int.mul_eq_zero.1 z2 with h|h<;>omega
   have hdt:=p3 z2
   have hnn:=z11 hn
   have id2:dt n n*crs d v=dt n v*crs d n+crs n v*dt n d:=by simp only [crs,dt]; grind
   rw [z2,Int.zero_mul,Int.add_zero] at id2
   have a3:=Int.mul_nonneg hdt (Int.le_of_lt hd2)
   refine ⟨?_,fun h0=>hv ?_⟩
   ·refine Classical.byContradiction fun hc=>?_
    have:=Int.mul_neg_of_pos_of_neg hnn (Int.not_le.1 hc)
    omega
   ·rw [h0,Int.mul_zero] at id2
    have:dt n v=0:=by rcases Int.mul_eq_zero.1 id2.symm with h|h<;>omega
    exact y4r hn z2 this
 have hb:b∈S:=h1.1
 refine ⟨hb,hb,by simp [crs,sb],fun x hx=>(key x hx).1,fun x hx h0=>?_⟩
 have:=(key x hx).2 h0
 subst this
 simp [dt,sb]
theorem x02 {p n d:Pt} (hpn:0≤crs p n) (h:(Bef p d∧Bef d n)∨(Bef d n∧Pos n∧Pos (ng p))∨(Bef p d∧Pos n∧Pos (ng p))):0<crs p d∧0<crs d n:=by
 have T:=@z2p
 rcases h with ⟨h1,h2⟩|⟨h1,h2,h3⟩|⟨h1,h2,h3⟩
 ·rcases h1 with ⟨a,b⟩|⟨a,b,c⟩|⟨a,b,c⟩
  ·rcases h2 with ⟨d',e⟩|⟨d',e,f⟩|⟨d',e,f⟩
   ·exact absurd d' (fun h=>z1z h b)
   ·exact absurd d' (fun h=>z1z h b)
   ·refine ⟨?_,f⟩
    have:=T b e a (by rw [crs_ng]; omega) (by rw [y77,z3q]; omega) (.inl (by rw [crs_ng]; exact f))
    rw [y77,z3q] at this; omega
  ·rcases h2 with ⟨d',e⟩|⟨d',e,f⟩|⟨d',e,f⟩
   ·refine ⟨c,?_⟩
    have:=T e a b (by rw [y77,z3q]; omega) (by omega) (.inr c)
    rw [y77,z3q] at this; omega
   ·exact ⟨c,f⟩
   ·exact absurd b (fun h=>z1z h d')
  ·rcases h2 with ⟨d',e⟩|⟨d',e,f⟩|⟨d',e,f⟩
   ·exact absurd d' (fun h=>z1z h b)
   ·exact absurd d' (fun h=>z1z h b)
   ·exact ⟨c,f⟩
 ·rcases h1 with ⟨a,b⟩|⟨a,b,c⟩|⟨a,b,c⟩
  ·exact absurd h2 (fun h=>z1z h b)
  ·refine ⟨?_,c⟩
   have:=T a h2 h3 (by omega) (by rw [y76,z3q]; omega) (.inl c)
   rw [y76,z3q] at this; omega
  ·exact absurd h2 (fun h=>z1z h b)
 ·rcases h1 with ⟨a,b⟩|⟨a,b,c⟩|⟨a,b,c⟩
  ·exact absurd a (fun h=>z1z h h3)
  ·exact absurd a (fun h=>z1z h h3)
  ·refine ⟨c,?_⟩
   have:=T h2 h3 b (by rw [y76,z3q]; omega) (by rw [crs_ng]; omega) (.inr (by rw [crs_ng]; exact c))
   rw [y76,z3q] at this; omega
theorem y59 {l:List Pt} {P:Pt→Bool} (h:∀ x∈l,P x=true):l.filter P=l:=List.filter_eq_self.2 h
theorem z4o {l:List Pt} {P:Pt→Bool} (h:∀ x∈l,P x=false):l.filter P=[]:=List.filter_eq_nil_iff.2 (fun x hx=>by rw [h x hx]; simp)
theorem y9m (d:Pt):∀ (E:List Pt),E.Pairwise Bef→∃ E1 E2,E=E1++E2∧(∀ x∈E1,Bef x d)∧(∀ x∈E2,¬ Bef x d)
 |[],_=>⟨[],[],rfl,by simp,by simp⟩
 |e::E,h=>by
  by_cases he:Bef e d
  ·obtain ⟨E1,E2,h1,h2,h3⟩:=y9m d E (List.pairwise_cons.1 h).2
   refine ⟨e::E1,E2,by rw [h1]; rfl,fun x hx=>?_,h3⟩
   rcases List.mem_cons.1 hx with rfl|hx
   ·exact he
   ·exact h2 x hx
  ·refine ⟨[],e::E,rfl,by simp,fun x hx hb=>?_⟩
   rcases List.mem_cons.1 hx with rfl|hx
   ·exact he hb
   ·exact he (((List.pairwise_cons.1 h).1 x hx).trans hb)
theorem x67 {S:List Pt}:∀ {l:List Pt},Pth S l→∀ w∈ways l,w≠(0,0)
 |[],_,w,hw=>by simp [ways] at hw
 |[_],_,w,hw=>by simp [ways] at hw
 |a::b::l,h,w,hw=>by
  rcases List.mem_cons.1 hw with rfl|hw
  ·exact fun e=>h.1.2.1 (z4h.1 e).symm
  ·exact x67 (l:=b::l) h.2 w hw
theorem y23 {S:List Pt} {a b:Pt} {r:List Pt} (h:Cyc S (a::b::r)):
  Pth S (x24 a (wy (a::b::r)))∧z20 (wy (a::b::r))=(0,0)∧(∀ w∈wy (a::b::r),w≠(0,0))∧wy (a::b::r)≠[]:=by
 have hp:Pth S (a::b::r++[a]):=by
  rcases h.2.2 with ⟨h,_⟩|⟨_,h,_⟩
  ·cases h
  ·exact h
 have hw:x24 a (wy (a::b::r))=a::b::r++[a]:=y8u (b::r++[a]) a
 refine ⟨by rw [hw]; exact hp,?_,x67 hp,by simp [wy,ways]⟩
 have:=y8v (wy (a::b::r)) a
 rw [hw] at this
 have h2:(a::b::r++[a]).getLast?=some a:=by rw [List.getLast?_append]; simp
 rw [h2] at this
 have:=Option.some.inj this
 simp only [ad] at this
 have e1:=congrArg Prod.fst this
 have e2:=congrArg Prod.snd this
 simp only at e1 e2
 exact Prod.ext (by simp; omega) (by simp; omega)
def hd0 (c:List Pt):Pt:=c.headD (0,0)
theorem w6z {S:List Pt} {a b:Pt} {r:List Pt} (h:Cyc S (a::b::r)) {d:Pt} (hd:d≠(0,0)):
  ∃ α,α∈S∧α=ad a (z6u d (wy (a::b::r)))∧((∃ β,Nx S α β∧z7d d (sb β α)∧ad α (z9h d (wy (a::b::r)))=β)∨
   (z9h d (wy (a::b::r))=(0,0)∧∃ q β,q∈S∧Nx S q α∧Nx S α β∧0<crs (sb α q) d∧0<crs d (sb β α))):=by
  obtain ⟨hp,hsum,hnz,hne⟩:=y23 h
  have hs:=w60 h
  have hc0:∀ x∈S,Le a x:=h.2.1
  have haS:a∈S:=h.1
  generalize wy (a::b::r)=E at*
  obtain ⟨E1,E2,rfl,hb1,hb2⟩:=y9m d E hs
  have hB:z6u d (E1++E2)=z20 E1:=by
   rw [z7h,z6u,z6u,y59 (fun x hx=>by simpa using hb1 x hx),z4o (fun x hx=>by simpa using hb2 x hx),z14,z1e]
  have hS1:z9h d E1=(0,0):=by
   rw [z9h,z4o (fun x hx=>?_)]; · rfl
   have:=hb1 x hx
   simp only [decide_eq_false_iff_not]
   exact fun hs=>hs.not_bef' this
  have hin:=y29 haS hp E1 E2 rfl
  rw [hB,z9q,hS1,x1k]
  refine ⟨_,hin,rfl,?_⟩
  by_cases hsame:∃ e E3,E2=e::E3∧z7d d e
  ·obtain ⟨e,E3,rfl,he⟩:=hsame
   have hS2:z9h d (e::E3)=e:=by
    have h3:∀ x∈E3,Bef e x:=by
     rw [List.pairwise_append] at hs
     exact (List.pairwise_cons.1 hs.2.1).1
    rw [z9h,List.filter_cons_of_pos (by simpa using he),z4o (fun x hx=>?_),z0y,z14,z1e]
    simp only [decide_eq_false_iff_not]
    exact fun hs=>hs.not_bef (he.symm.bef_l (h3 x hx))
   have hnx:=z80 hp
   exact .inl ⟨_,hnx,by rw [x14]; exact he,by rw [hS2]⟩
  ·have hE2:∀ x∈E2,Bef d x:=by
    intro x hx
    have hxn:x≠(0,0):=hnz x (List.mem_append_right _ hx)
    rcases y1w hd hxn with h|h|h
    ·exact h
    ·
     match E2,hsame,hx,hb2 with
     |e::E3,hsame,hx,hb2=>
      rcases List.mem_cons.1 hx with rfl|hx
      ·exact absurd ⟨_,_,rfl,h⟩ hsame
      ·rw [List.pairwise_append] at hs
       have:=(List.pairwise_cons.1 hs.2.1).1 x hx
       exact absurd (h.symm.bef_r this) (hb2 e (by simp))
    ·exact absurd h (hb2 x hx)
   have hS2:z9h d E2=(0,0):=by
    rw [z9h,z4o (fun x hx=>?_)]; · rfl
    simp only [decide_eq_false_iff_not]
    exact fun hs=>hs.not_bef (hE2 x hx)
   refine .inr ⟨hS2,?_⟩
   have hprev:∃ p q,q∈S∧Nx S q (ad a (z20 E1))∧sb (ad a (z20 E1)) q=p∧((E1≠[]∧Bef p d)∨(E1=[]∧Pos (ng p))):=by
    rcases List.eq_nil_or_concat E1 with rfl|⟨E',p,rfl⟩
    ·rcases List.eq_nil_or_concat E2 with rfl|⟨E',p,rfl⟩
     ·exact absurd rfl hne
     ·rw [List.concat_eq_append,List.nil_append] at hp hsum
      have hnx:=z80 (E1:=E') (e:=p) (E3:=[]) hp
      have e0:ad (ad a (z20 E')) p=a:=by
       rw [z2q,z0y,z14,z1e] at hsum
       rw [z2h,hsum,z1e]
      rw [e0] at hnx
      refine ⟨p,_,y29 haS hp E' [p] rfl,by rw [z14,z1e]; exact hnx,?_, .inr ⟨rfl,?_⟩⟩
      ·have:=x14 (ad a (z20 E')) p
       rw [e0] at this
       rw [z14,z1e]; exact this
      ·have hq:ad a (z20 E')∈S:=y29 haS hp E' [p] rfl
       have hle:=hc0 _ hq
       have e1:=congrArg Prod.fst e0
       have e2:=congrArg Prod.snd e0
       have hp0:p≠(0,0):=hnz p (by simp)
       have hp1:¬ (p.1=0∧p.2=0):=fun e=>hp0 (Prod.ext e.1 e.2)
       rcases hle with hle|hle
       ·have e3:=congrArg Prod.fst hle
        have e4:=congrArg Prod.snd hle
        simp only [ad] at e1 e2 e3 e4
        exact absurd ⟨by omega,by omega⟩ hp1
       ·simp only [ad,Lt,Pos,sb,ng] at*
        omega
    ·rw [List.concat_eq_append] at*
     have hp':Pth S (x24 a (E'++p::E2)):=by simpa using hp
     have hnx:=z80 hp'
     have e0:ad a (z20 (E'++[p]))=ad (ad a (z20 E')) p:=by rw [z2q,z0y,z14,z1e,z2h]
     rw [e0]
     exact ⟨p,_,y29 haS hp' E' (p::E2) rfl,hnx,x14 _ _, .inl ⟨by simp,hb1 p (by simp)⟩⟩
   have hnext:∃ n q,Nx S (ad a (z20 E1)) q∧sb q (ad a (z20 E1))=n∧((E2≠[]∧Bef d n∧(E1=[]→Pos n))∨(E2=[]∧Pos n)):=by
    match E2,hE2 with
    |[],hE2=>
     match E1,hne with
     |n::E1,hne=>
      rw [List.append_nil] at hp hsum
      have hnx:=z80 (E1:=[]) (e:=n) (E3:=E1) hp
      rw [z14,z1e] at hnx
      rw [hsum,z1e]
      refine ⟨n,_,hnx,x14 _ _, .inr ⟨rfl,?_⟩⟩
      rcases hc0 _ hnx.1 with h|h
      ·exact absurd h hnx.2.1
      ·have h':Pos (sb (ad a n) a):=h
       rwa [x14] at h'
    |n::E3,hE2=>
     have hnx:=z80 hp
     refine ⟨n,_,hnx,x14 _ _, .inl ⟨by simp,hE2 n (by simp),fun e=>?_⟩⟩
     subst e
     rw [z14,z1e] at hnx
     rcases hc0 _ hnx.1 with h|h
     ·exact absurd h hnx.2.1
     ·have h':Pos (sb (ad a n) a):=h
      rwa [x14] at h'
   obtain ⟨p,q,hqS,n1,rfl,p2⟩:=hprev
   obtain ⟨n,q',n2,rfl,p3⟩:=hnext
   have hpn:0≤crs (sb (ad a (z20 E1)) q) (sb q' (ad a (z20 E1))):=by
    have:=(n1.2.2 q' n2.1).1
    have e:cr q (ad a (z20 E1)) q'=crs (sb (ad a (z20 E1)) q) (sb q' (ad a (z20 E1))):=by simp only [cr,crs,sb]; grind
    omega
   have:=x02 hpn (d:=d) (by
    rcases p2 with ⟨a1,a2⟩|⟨a1,a2⟩
    ·rcases p3 with ⟨b1,b2,b3⟩|⟨b1,b2⟩
     ·exact .inl ⟨a2,b2⟩
     ·refine .inr (.inr ⟨a2,b2,?_⟩)
      subst b1
      rw [List.append_nil] at hsum hnz
      rcases y31 (sb (ad a (z20 E1)) q) a2.ne1 with hpp|hpp
      ·exfalso
       rw [hsum,z1e] at hpp n1
       rcases hc0 q hqS with h|h
       ·exact n1.2.1 h.symm
       ·exact h.asymm hpp
      ·exact hpp
    ·rcases p3 with ⟨b1,b2,b3⟩|⟨b1,b2⟩
     ·exact .inr (.inl ⟨b2,b3 a1,a2⟩)
     ·exact absurd (show E1++E2=[] by rw [a1,b1]; rfl) hne)
   exact ⟨_,_,hqS,n1,n2,this.1,this.2⟩
theorem x4o {S c:List Pt} (h:Cyc S c) {d:Pt} (hd:d≠(0,0)):y8p S d (ad (hd0 c) (z6u d (wy c))) (ad (ad (hd0 c) (z6u d (wy c))) (z9h d (wy c))):=by
 match c,h with
 |[a],h=>
  have hS:∀ x∈S,x=a:=by
   rcases h.2.2 with ⟨_,h⟩|⟨h,_⟩
   ·exact h
   ·exact absurd rfl h
  show y8p S d (ad a (0,0)) (ad (ad a (0,0)) (0,0))
  rw [z1e,z1e]
  refine ⟨h.1,h.1,by simp [crs,sb],fun x hx=>?_,fun x hx _=>?_⟩
  ·rw [hS x hx]; simp [crs,sb]
  ·rw [hS x hx]; simp [dt,sb]
 |a::b::r,h=>
  obtain ⟨α,h1,h2,h3⟩:=w6z h hd
  show y8p S d (ad a (z6u d (wy (a::b::r)))) (ad (ad a (z6u d (wy (a::b::r)))) (z9h d (wy (a::b::r))))
  rw [←h2]
  rcases h3 with ⟨β,k1,k2,k3⟩|⟨k1,q,β,k2,k3,k4,k5,k6⟩
  ·rw [k3]; exact (w5k h1 k1).same k2.symm
  ·rw [k1,z1e]; exact x2x k3 k4 k5 k6
end M06
end
section
namespace M06
def grp:Pt→List Pt→List Pt
 |_,[]=>[]
 |now,[w]=>[ad now w]
 |now,w::w'::ws=>if z7d w w' then grp (ad now w) (w'::ws) else ad now w::grp (ad now w) (w'::ws)
def w1j (s0:Pt) (ws:List Pt):List Pt:=if 1<(s0::grp s0 ws).length then (s0::grp s0 ws).dropLast else s0::grp s0 ws
theorem x39:∀ (now w:Pt) (ws:List Pt),grp now (w::ws)≠[]
 |now,w,[]=>by simp [grp]
 |now,w,w'::ws=>by
  rw [grp]; split
  ·exact x39 _ _ _
  ·simp
theorem v28 {a b c:Pt} (h:Bef a b) (hc:c≠(0,0)) (h2:¬ Bef c b):Bef a c:=by
 rcases y1w h.ne2 hc with k|k|k
 ·exact h.trans k
 ·exact k.bef_r h
 ·exact absurd k h2
theorem v0o {a b c:Pt} (ha:a≠(0,0)) (h2:¬ Bef b a) (h:Bef b c):Bef a c:=by
 rcases y1w h.ne1 ha with k|k|k
 ·exact absurd k h2
 ·exact k.bef_l h
 ·exact k.trans h
theorem y87 {d:Pt}:∀ {l:List Pt},(∀ u∈l,Bef u d∨z7d d u)→z20 l=ad (z6u d l) (z9h d l)
 |[],_=>rfl
 |u::l,h=>by
  have ih:=y87 (l:=l) (fun x hx=>h x (List.mem_cons_of_mem _ hx))
  rcases h u (by simp) with hb|hs
  ·rw [z6u,z9h,List.filter_cons_of_pos (by simpa using hb),List.filter_cons_of_neg (by simpa using fun hs:z7d d u=>hs.not_bef' hb),z0y,z0y,ih,z2h]
   rfl
  ·rw [z6u,z9h,List.filter_cons_of_neg (by simpa using hs.not_bef'),List.filter_cons_of_pos (by simpa using hs),z0y,z0y,ih]
   show ad u (ad (z6u d l) (z9h d l))=ad (z6u d l) (ad u (z9h d l))
   rw [←z2h, ←z2h,w0e u]
theorem y3j {d:Pt} {l:List Pt} (h:∀ x∈l,¬ Bef x d):z6u d l=(0,0):=by
 rw [z6u,z4o (fun x hx=>by simpa using h x hx)]; rfl
theorem x7h {d:Pt} {l:List Pt} (h:∀ x∈l,¬ z7d d x):z9h d l=(0,0):=by
 rw [z9h,z4o (fun x hx=>by simpa using h x hx)]; rfl
theorem w00 {d:Pt} {l:List Pt} (h:∀ x∈l,Bef x d):z6u d l=z20 l:=by
 rw [z6u,y59 (fun x hx=>by simpa using h x hx)]
theorem y0n:∀ {l:List Pt},l≠[]→(∀ x∈l,Pos x)→Pos (z20 l)
 |[x],_,h=>by rw [z0y,z14,z1e]; exact h x (by simp)
 |x::y::l,_,h=>by
  rw [z0y]
  exact w5e (h x (by simp)) (y0n (l:=y::l) (by simp) (fun z hz=>h z (List.mem_cons_of_mem _ hz)))
theorem x1s:∀ (l:List Pt),z20 (l.map ng)=ng (z20 l)
 |[]=>by simp [z20,ng]
 |x::l=>by
  rw [List.map_cons,z0y,z0y,x1s l]
  simp only [ad,ng]; exact Prod.ext (by simp; omega) (by simp; omega)
theorem w13 {T ws:List Pt} {s0:Pt} (hnz:∀ w∈ws,w≠(0,0)) (hs:ws.Pairwise (fun u v=>¬ Bef v u))
  (hf:∀ d,d≠(0,0)→y8p T d (ad s0 (z6u d ws)) (ad (ad s0 (z6u d ws)) (z9h d ws))):
  ∀ (ws2 ws1:List Pt) (w cur:Pt),ws=ws1++w::ws2→cur=ad s0 (z6u w ws)→
   Pth T (cur::grp (ad s0 (z20 ws1)) (w::ws2))∧(grp (ad s0 (z20 ws1)) (w::ws2)).getLast?=some (ad s0 (z20 ws))∧
   ∀ x∈(grp (ad s0 (z20 ws1)) (w::ws2)).dropLast,∃ l1 l2,ws=l1++l2∧l1≠[]∧l2≠[]∧x=ad s0 (z20 l1)∧∀ u∈l1,∀ v∈l2,Bef u v:=by
 have step:∀ (l1 l2:List Pt) (w:Pt),ws=l1++l2→w∈l1→(∀ u∈l1,¬ Bef w u)→(∀ v∈l2,Bef w v)→Nx T (ad s0 (z6u w ws)) (ad s0 (z20 l1)):=by
  intro l1 l2 w he hw h1 h2
  have hw0:w≠(0,0):=hnz w (by rw [he]; exact List.mem_append_left _ hw)
  have e1:z6u w ws=z6u w l1:=by
   rw [he,z7h,y3j (l:=l2) (fun x hx hb=>(h2 x hx).asymm hb),z1e]
  have e2:z9h w ws=z9h w l1:=by
   rw [he,z9q,x7h (l:=l2) (fun x hx hs=>hs.not_bef (h2 x hx)),z1e]
  have e3:z20 l1=ad (z6u w ws) (z9h w ws):=by
   rw [e1,e2]
   refine y87 fun u hu=>?_
   have hu0:u≠(0,0):=hnz u (by rw [he]; exact List.mem_append_left _ hu)
   rcases y1w hw0 hu0 with k|k|k
   ·exact absurd k (h1 u hu)
   ·exact .inr k
   ·exact .inl k
  have hF:=hf w hw0
  rw [z2h, ←e3] at hF
  refine (face_nx hw0 hF fun hab=>?_).1
  have hz:z9h w ws=(0,0):=by
   rw [e3, ←z2h] at hab
   have a1:=congrArg Prod.fst hab
   have a2:=congrArg Prod.snd hab
   simp only [ad] at a1 a2
   exact Prod.ext (by simp; omega) (by simp; omega)
  have hfil:(ws.filter (fun x=>decide (z7d w x)))≠[]:=by
   intro hn
   have hww:w∈ws:=by rw [he]; exact List.mem_append_left _ hw
   have:=List.filter_eq_nil_iff.1 hn w hww
   simp only [decide_eq_true_eq] at this
   refine this ⟨by simp only [crs]; have:=Int.mul_comm w.1 w.2; omega,?_⟩
   exact z11 hw0
  rcases y31 w hw0 with hp|hp
  ·have:=y0n hfil (fun x hx=>z4t (by simpa using (List.mem_filter.1 hx).2) hp)
   exact z9j this hz
  ·have:=y0n (l:=(ws.filter (fun x=>decide (z7d w x))).map ng) (by simpa using hfil) (fun x hx=>by
    obtain ⟨y,hy,rfl⟩:=List.mem_map.1 hx
    have hsy:z7d w y:=by simpa using (List.mem_filter.1 hy).2
    exact z4t (y1i hsy) hp)
   rw [x1s] at this
   refine z9j this ?_
   show ng (z9h w ws)=_
   rw [hz]; rfl
 intro ws2
 induction ws2 with
 |nil=>
  intro ws1 w cur he hcur
  have hle:∀ u∈ws1++[w],¬ Bef w u:=by
   intro u hu hb
   rcases List.mem_append.1 hu with h|h
   ·rw [he,List.pairwise_append] at hs
    exact hs.2.2 u h w (by simp) hb
   ·simp at h; subst h; exact hb.irrefl
  have hn:=step (ws1++[w]) [] w (by rw [he]; simp) (by simp) hle (by simp)
  have e:ad (ad s0 (z20 ws1)) w=ad s0 (z20 (ws1++[w])):=by rw [z2q,z0y,z14,z1e,z2h]
  refine ⟨⟨?_,trivial⟩,?_,by simp [grp]⟩
  ·rw [hcur,e]; exact hn
  ·simp only [grp,List.getLast?_singleton]
   rw [e,he]
 |cons w' ws2 ih=>
  intro ws1 w cur he hcur
  have he':ws=(ws1++[w])++w'::ws2:=by rw [he]; simp
  have e:ad (ad s0 (z20 ws1)) w=ad s0 (z20 (ws1++[w])):=by rw [z2q,z0y,z14,z1e,z2h]
  have hw0:w≠(0,0):=hnz w (by rw [he]; simp)
  have hw0':w'≠(0,0):=hnz w' (by rw [he]; simp)
  by_cases hsame:z7d w w'
  ·rw [grp,if_pos hsame,e]
   refine ih (ws1++[w]) w' cur he' ?_
   rw [hcur]
   congr 1
   rw [z6u,z6u]
   congr 1
   refine List.filter_congr fun x _=>?_
   rw [decide_eq_decide]
   exact ⟨fun h=>hsame.bef_r h,fun h=>hsame.symm.bef_r h⟩
  ·rw [grp,if_neg hsame,e]
   have hww:Bef w w':=by
    rcases y1w hw0 hw0' with k|k|k
    ·exact k
    ·exact absurd k hsame
    ·rw [he',List.pairwise_append] at hs
     exact absurd k (hs.2.2 w (by simp) w' (by simp))
   have hle:∀ u∈ws1++[w],¬ Bef w u:=by
    intro u hu hb
    rcases List.mem_append.1 hu with h|h
    ·rw [he,List.pairwise_append] at hs
     exact hs.2.2 u h w (by simp) hb
    ·simp at h; subst h; exact hb.irrefl
   have hge:∀ v∈w'::ws2,¬ Bef v w':=by
    intro v hv hb
    rcases List.mem_cons.1 hv with h|h
    ·subst h; exact hb.irrefl
    ·rw [he',List.pairwise_append] at hs
     exact (List.pairwise_cons.1 hs.2.1).1 v h hb
   have hall:∀ u∈ws1++[w],∀ v∈w'::ws2,Bef u v:=by
    intro u hu v hv
    have h1:Bef w v:=v28 hww (hnz v (by rw [he']; exact List.mem_append_right _ hv)) (hge v hv)
    exact v0o (hnz u (by rw [he']; exact List.mem_append_left _ hu)) (hle u hu) h1
   have hn:=step (ws1++[w]) (w'::ws2) w he' (by simp) hle (fun v hv=>hall w (by simp) v hv)
   have hcur':ad s0 (z20 (ws1++[w]))=ad s0 (z6u w' ws):=by
    congr 1
    rw [he',z7h,y3j (l:=w'::ws2) hge,z1e,w00 (fun u hu=>hall u hu w' (by simp))]
   obtain ⟨i1,i2,i3⟩:=ih (ws1++[w]) w' _ he' hcur'
   refine ⟨⟨by rw [hcur]; exact hn,i1⟩,?_,?_⟩
   ·obtain ⟨a,r,hg⟩:∃ a r,grp (ad s0 (z20 (ws1++[w]))) (w'::ws2)=a::r:=by
     match hq:grp (ad s0 (z20 (ws1++[w]))) (w'::ws2) with
     |[]=>exact absurd hq (x39 _ _ _)
     |a::r=>exact ⟨a,r,rfl⟩
    rw [hg] at i2⊢
    rw [List.getLast?_cons_cons]; exact i2
   ·intro x hx
    obtain ⟨a,r,hg⟩:∃ a r,grp (ad s0 (z20 (ws1++[w]))) (w'::ws2)=a::r:=by
     match hq:grp (ad s0 (z20 (ws1++[w]))) (w'::ws2) with
     |[]=>exact absurd hq (x39 _ _ _)
     |a::r=>exact ⟨a,r,rfl⟩
    rw [hg] at hx i3
    rw [List.dropLast_cons_cons] at hx
    rcases List.mem_cons.1 hx with rfl|hx
    ·exact ⟨ws1++[w],w'::ws2,he',by simp,by simp,rfl,hall⟩
    ·exact i3 x hx
theorem w1i {A B T a b ws:List Pt} (hA:Cyc A a) (hB:Cyc B b) (hT:∀ z,z∈T↔∃ x∈A,∃ y∈B,z=ad x y) (hp:ws.Perm (wy a++wy b)) (hs:ws.Pairwise (fun u v=>¬ Bef v u)):
  Cyc T (w1j (ad (hd0 a) (hd0 b)) ws):=by
 have hf:∀ d,d≠(0,0)→y8p T d (ad (ad (hd0 a) (hd0 b)) (z6u d ws)) (ad (ad (ad (hd0 a) (hd0 b)) (z6u d ws)) (z9h d ws)):=by
  intro d hd
  have:=(x4o hA hd).sum hT (x4o hB hd)
  rw [x7i d hp,x7g d hp,z7h,z9q]
  have sw:∀ x y z w:Pt,ad (ad x y) (ad z w)=ad (ad x z) (ad y w):=by
   intros; simp only [ad]; exact Prod.ext (by simp; omega) (by simp; omega)
  rw [sw (hd0 a) (hd0 b) (z6u d (wy a)) (z6u d (wy b)),sw (ad (hd0 a) (z6u d (wy a))) (ad (hd0 b) (z6u d (wy b))) (z9h d (wy a)) (z9h d (wy b))]
  exact this
 have wprop:∀ {S c:List Pt},Cyc S c→z20 (wy c)=(0,0)∧(∀ w∈wy c,w≠(0,0))∧hd0 c∈S∧∀ x∈S,Le (hd0 c) x:=by
  intro S c h
  match c,h with
  |[x],h=>exact ⟨rfl,by simp [wy],h.1,h.2.1⟩
  |x::y::r,h=>
   have:=y23 h
   exact ⟨this.2.1,this.2.2.1,h.1,h.2.1⟩
 obtain ⟨a1,a2,a3,a4⟩:=wprop hA
 obtain ⟨b1,b2,b3,b4⟩:=wprop hB
 have hnz:∀ w∈ws,w≠(0,0):=fun w hw=>by
  rcases List.mem_append.1 (hp.mem_iff.1 hw) with h|h
  ·exact a2 w h
  ·exact b2 w h
 have hsum:z20 ws=(0,0):=by rw [y3i hp,z2q,a1,b1]; rfl
 generalize hs0:ad (hd0 a) (hd0 b)=s0 at*
 have hin:s0∈T:=(hT _).2 ⟨_,a3,_,b3,hs0.symm⟩
 have hle:∀ x∈T,Le s0 x:=by
  intro z hz
  obtain ⟨x,hx,y,hy,rfl⟩:=(hT z).1 hz
  have h1:=a4 x hx
  have h2:=b4 y hy
  rw [←hs0]
  generalize hd0 a=p at*
  generalize hd0 b=q at*
  rcases h1 with rfl|h1
  ·rcases h2 with rfl|h2
   ·exact .inl rfl
   ·right; simp only [Lt,Pos,sb,ad] at*; omega
  ·rcases h2 with rfl|h2
   ·right; simp only [Lt,Pos,sb,ad] at*; omega
   ·right; simp only [Lt,Pos,sb,ad] at*; omega
 match ws,hp,hs,hf,hnz,hsum with
 |[],hp,hs,hf,hnz,hsum=>
  have:w1j s0 []=[s0]:=by simp [w1j,grp]
  rw [this]
  refine ⟨hin,hle, .inl ⟨rfl,fun x hx=>?_⟩⟩
  have f1:=(hf (1,0) (by simp)).left x hx
  have f2:=(hf (-1,0) (by simp)).left x hx
  have f3:=(hf (0,1) (by simp)).left x hx
  have f4:=(hf (0, -1) (by simp)).left x hx
  simp only [z6u,z20,List.filter_nil,List.foldr_nil,z1e,crs,sb] at f1 f2 f3 f4
  exact Prod.ext (by omega) (by omega)
 |w::ws,hp,hs,hf,hnz,hsum=>
  have hcur:s0=ad s0 (z6u w (w::ws)):=by
   rw [y3j (fun x hx hb=>?_),z1e]
   rcases List.mem_cons.1 hx with h|h
   ·subst h; exact hb.irrefl
   ·exact (List.pairwise_cons.1 hs).1 x h hb
  obtain ⟨p1,p2,p3⟩:=w13 hnz hs hf ws [] w s0 rfl hcur
  rw [z14,z1e] at p1 p2 p3
  rw [hsum,z1e] at p2
  obtain ⟨r,hr⟩:∃ r,grp s0 (w::ws)=r++[s0]:=by
   have hne:=x39 s0 w ws
   refine ⟨(grp s0 (w::ws)).dropLast,?_⟩
   have:=List.dropLast_concat_getLast hne
   rw [List.getLast?_eq_some_getLast hne] at p2
   rw [Option.some.inj p2] at this
   exact this.symm
  rw [hr] at p1 p3
  have hm:w1j s0 (w::ws)=s0::r:=by
   rw [w1j,hr,if_pos (by simp), ←List.cons_append,List.dropLast_concat]
  rw [hm]
  rw [List.dropLast_concat] at p3
  refine ⟨hin,hle, .inr ⟨?_,p1,fun hmem=>?_⟩⟩
  ·rintro rfl
   exact p1.1.2.1 rfl
  ·obtain ⟨l1,l2,h1,h2,h3,h4,h5⟩:=p3 s0 hmem
   have hz1:z20 l1=(0,0):=by
    have a1:=congrArg Prod.fst h4
    have a2:=congrArg Prod.snd h4
    simp only [ad] at a1 a2
    exact Prod.ext (by simp; omega) (by simp; omega)
   have hz2:z20 l2=(0,0):=by rw [h1,z2q,hz1,x1k] at hsum; exact hsum
   by_cases hall:∀ u∈l1,Pos u
   ·exact z9j (y0n h2 hall) hz1
   ·have:∃ u∈l1,¬ Pos u:=Classical.byContradiction fun hn=>hall fun u hu=>Classical.byContradiction fun hp=>hn ⟨u,hu,hp⟩
    obtain ⟨u,hu,hup⟩:=this
    have hall2:∀ v∈l2.map ng,Pos v:=by
     intro v hv
     obtain ⟨y,hy,rfl⟩:=List.mem_map.1 hv
     rcases h5 u hu y hy with h|h|h
     ·exact h.2
     ·exact absurd h.1 hup
     ·exact h.2.1
    have:=y0n (by simpa using h3) hall2
    rw [x1s,hz2] at this
    exact z9j this rfl
end M06
end
section
namespace Go.Am
open M06
theorem x5i (l:List Pt):std.plain (z0d l)=true:=by
 show List.all _ _=true
 rw [List.all_eq_true]
 intro r hr
 obtain ⟨p,_,rfl⟩:=List.mem_map.1 hr
 rfl
theorem w4r {l:List Pt} (hn:l.length≤100000):G60 std (z0d l,())=some (z0d l,()):=by
 have key:=z6m (b:=w26 std) (fun (i:Nat)=>(z0d (l.take i++List.replicate (l.length - i) (0,0)),z0d l,(l.length:Int),(i:Int),())) (fun i=>i≤l.length) (fun i=>l.length - i) (fun _=>(z0d l,())) (fun i hi=>by
  by_cases hlt:i<l.length
  ·left
   obtain ⟨p,hp⟩:=z0w hlt
   have gp:=z07 hp
   have c1:(i:Int)<(l.length:Int):=by omega
   have c2:(i:Int)≥0:=by omega
   have hw:=z09 (i:=i) (by omega)
   refine ⟨i+1,?_,by omega,by omega,rfl⟩
   have hle:(z0d (l.take i++List.replicate (l.length - i) (0,0))).length=l.length:=by simp [z0d]; omega
   have hset:(l.take i++List.replicate (l.length - i) (0,0)).set i p=l.take (i+1)++List.replicate (l.length - (i+1)) (0,0):=by
    rw [z04 hp,show l.length - i=(l.length - (i+1))+1 by omega,List.replicate_succ,List.append_assoc,List.set_append_right _ _ (by simp; omega)]
    congr 1
    have:i - (l.take i).length=0:=by simp; omega
    rw [this]; rfl
   have hle2:(l.take i++List.replicate (l.length - i) (0,0)).length=l.length:=by simp; omega
   have hle3:(l.take (i+1)++List.replicate (l.length - (i+1)) (0,0)).length=l.length:=by simp; omega
   obtain ⟨r,h4⟩:=z0w (l:=l.take i++List.replicate (l.length - i) (0,0)) (i:=i) (by omega)
   have g3:=z07 h4
   simp only [w26,z1a,z1b,z02,z17,z16,z4p,z06,z0g,hle2,hle3,c1,c2,z0f,hw,gp,g3,hset]
  ·right
   have:i=l.length:=by omega
   subst this
   have hn:¬ ((l.length:Int)<(l.length:Int)):=by omega
   simp only [w26,z1a,z1b,hn,List.take_length,Nat.sub_self,List.replicate_zero,List.append_nil]) 0 (Nat.zero_le _)
 unfold G60
 have e0:z0d (l.take 0++List.replicate (l.length - 0) (0,0))=List.replicate l.length (eP (0,0)):=by simp [z0d]
 rw [e0] at key
 have z:[D.int IntKind.i64 (0:Int),D.int IntKind.i64 (0:Int)]=eP (0,0):=rfl
 have c0:(l.length:Int)≥0:=by omega
 have c1:(l.length:Int)≤(l.length:Int):=by omega
 have c2:(l.length:Int)≤1000000:=by omega
 simp only [g60,it0_eq,z1a,z1b,z0g,z,c0,c1,c2]
 have k0:((0:Nat):Int)=0:=rfl
 rw [k0] at key
 simp only [key,Option.bind_some,List.length_replicate,if_true,z0g,List.drop_zero,Nat.le_refl]
 rw [List.take_of_length_le (by rw [z0g]; exact Nat.le_refl _)]
def rvd (L:List Pt) (n i:Nat):List Pt:=(List.range L.length).map fun j=>if j<n∧(j<i∨n≤j+i) then L.getD (n - 1 - j) (0,0) else L.getD j (0,0)
theorem y1j {L:List Pt} {n i j:Nat} (hj:j<L.length):(rvd L n i)[j]?=some (if j<n∧(j<i∨n≤j+i) then L.getD (n - 1 - j) (0,0) else L.getD j (0,0)):=by
 simp [rvd,hj]
theorem z7m (L:List Pt) (n i:Nat):(rvd L n i).length=L.length:=by simp [rvd]
theorem y7n {α:Type} {a b:List α} (h:a.length=b.length) (k:∀ j,j<a.length→a[j]?=b[j]?):a=b:=by
 apply List.ext_getElem?
 intro j
 by_cases hj:j<a.length
 ·exact k j hj
 ·rw [List.getElem?_eq_none (by omega),List.getElem?_eq_none (by omega)]
theorem w05 (L:List Pt) (n:Nat):rvd L n 0=L:=by
 refine y7n (z7m _ _ _) fun j hj=>?_
 rw [z7m] at hj
 rw [y1j hj,if_neg (by omega)]
 simp [List.getD_eq_getElem?_getD,hj]
theorem w5b {L:List Pt} {n i:Nat} (hn:n≤L.length) (hi:n≤2*i+1):rvd L n i=(L.take n).reverse++L.drop n:=by
 refine y7n (by rw [z7m]; simp; omega) fun j hj=>?_
 rw [z7m] at hj
 rw [y1j hj]
 by_cases h:j<n
 ·rw [List.getElem?_append_left (by simp; omega),List.getElem?_reverse (by simp; omega)]
  have:(List.take n L).length - 1 - j=n - 1 - j:=by simp; omega
  rw [this,List.getElem?_take_of_lt (by omega)]
  by_cases k:j<i∨n≤j+i
  ·rw [if_pos ⟨h,k⟩]
   have:n - 1 - j<L.length:=by omega
   simp [List.getD_eq_getElem?_getD,this]
  ·rw [if_neg (by omega)]
   have:n - 1 - j=j:=by omega
   rw [this]
   simp [List.getD_eq_getElem?_getD,hj]
 ·rw [if_neg (by omega),List.getElem?_append_right (by simp; omega)]
  have:n+(j - (List.take n L).reverse.length)=j:=by simp; omega
  rw [List.getElem?_drop,this]
  simp [List.getD_eq_getElem?_getD,hj]
theorem w06 {L:List Pt} {n i:Nat} (hn:n≤L.length) (hi:2*i+1<n):
  ∃ p q,(rvd L n i)[i]?=some p∧(rvd L n i)[n - 1 - i]?=some q∧((rvd L n i).set i q).set (n - 1 - i) p=rvd L n (i+1):=by
 have h1:=y1j (L:=L) (n:=n) (i:=i) (j:=i) (by omega)
 have h2:=y1j (L:=L) (n:=n) (i:=i) (j:=n - 1 - i) (by omega)
 rw [if_neg (by omega)] at h1 h2
 refine ⟨_,_,h1,h2,?_⟩
 refine y7n (by simp [z7m]) fun j hj=>?_
 simp only [List.length_set,z7m] at hj
 rw [y1j hj]
 by_cases e1:n - 1 - i=j
 ·subst e1
  rw [List.getElem?_set_self (by simp [z7m]; omega),if_pos (by omega)]
  have:n - 1 - (n - 1 - i)=i:=by omega
  rw [this]
 ·rw [List.getElem?_set_ne e1]
  by_cases e2:i=j
  ·subst e2
   rw [List.getElem?_set_self (by simp [z7m]; omega),if_pos (by omega)]
  ·rw [List.getElem?_set_ne e2,y1j hj]
   congr 1
   by_cases k:j<n∧(j<i∨n≤j+i)
   ·rw [if_pos k,if_pos (by omega)]
   ·rw [if_neg k,if_neg (by omega)]
theorem v3v {L:List Pt} {m cap:Nat} (hm:m≤L.length) (hn:L.length≤100000):
  G89 std (z0d L,(0:Nat),m,cap,())=some (z0d ((L.take m).reverse++L.drop m),()):=by
 have key:=z6m (b:=w25 std) (fun (i:Nat)=>(z0d (rvd L m i),(0:Nat),m,cap,(i:Int),(m:Int) - 1 - i,())) (fun i=>i≤m) (fun i=>m - i) (fun _=>(z0d ((L.take m).reverse++L.drop m),())) (fun i hi=>by
  by_cases hlt:2*i+1<m
  ·left
   refine ⟨i+1,?_,by omega,by omega,rfl⟩
   obtain ⟨p,q,h1,h2,h3⟩:=w06 hm hlt
   have ej:(m:Int) - 1 - i=((m - 1 - i:Nat):Int):=by omega
   have c1:(i:Int)<((m - 1 - i:Nat):Int):=by omega
   have c2:((m - 1 - i:Nat):Int)≥0:=by omega
   have c3:((m - 1 - i:Nat):Int)<(m:Int):=by omega
   have c4:(i:Int)≥0:=by omega
   have c5:(i:Int)<(m:Int):=by omega
   have hw:=z09 (i:=i) (by omega)
   have hw2:IntKind.i64.wrap (((m - 1 - i:Nat):Int) - 1)=(m:Int) - 1 - ((i+1:Nat):Int):=by rw [z1t]<;>omega
   have g1:=z07 h1
   have g2:=z07 h2
   have h4:∃ r,((rvd L m i).set i q)[m - 1 - i]?=some r:=z0w (by rw [List.length_set,z7m]; omega)
   obtain ⟨r,h4⟩:=h4
   have g3:=z07 h4
   simp only [ej,w25,z1a,z1b,z02,z17,z16,z4p,z06,z0g,c1,c2,c3,c4,c5,z0f,z01,hw,hw2,g1,g2,g3,h3]
  ·right
   have hge:¬ ((i:Int)<(m:Int) - 1 - i):=by omega
   simp only [w25,z1a,z1b,hge]
   rw [w5b hm (by omega)]) 0 (Nat.zero_le _)
 unfold G89
 have hw:IntKind.i64.wrap ((m:Int) - 1)=(m:Int) - 1 - ((0:Nat):Int):=by rw [z1t]<;>omega
 rw [w05] at key
 simp only [g89,it0_eq,z1o,z01,hw,z4b,z4a]
 have k0:((0:Nat):Int)=0:=rfl
 simp only [k0] at key⊢
 simp only [key,Option.bind_some]
theorem x94 (l:List Pt):z23 l=chn l:=rfl
theorem w7f {q:List Pt} (hs:q.Pairwise Lt) (h2:2≤q.length):2≤(chn q).length∧2≤(chn q.reverse).length:=by
 have main:∀ {q:List Pt},q.Pairwise Lt→2≤q.length→2≤(chn q).length:=by
  intro q hs h2
  match q,h2 with
  |a::b::m,_=>
   obtain ⟨z,hz⟩:∃ z,(a::b::m).getLast?=some z:=⟨_,List.getLast?_eq_some_getLast (by simp)⟩
   have haz:Lt a z:=by
    have h:=hz
    rw [List.getLast?_cons_cons] at h
    exact (List.pairwise_cons.1 hs).1 z (List.mem_of_getLast? h)
   obtain ⟨t,h1,h3,_⟩:=y8a rfl hz hs
   rw [h1]
   match t,h3 with
   |[],h3=>exact absurd (Option.some.inj h3).symm haz.ne
   |x::t,_=>simp
 refine ⟨main hs h2,?_⟩
 have hrz:(q.reverse.map ng).Pairwise Lt:=by
  rw [List.pairwise_map,List.pairwise_reverse]
  exact hs.imp fun h=>(w5n _ _).2 h
 have:=main hrz (by simpa using h2)
 rw [w4i] at this
 simpa using this
theorem w4s {l:List Pt} (h1:1≤l.length) (h12:l.length≤12) (hl:∀ x∈l,z3h x):
  ∃ c,G59 std (z0d l,())=some (z0d c,())∧Cyc l c:=by
 obtain ⟨l',hs,hp,ho⟩:=w8x l h12
 have hlen:l'.length=l.length:=hp.length_eq
 obtain ⟨L,m,hg,hL,hm,hu⟩:=w8f (l:=l') ho (by omega)
 generalize hq:L.take m=q at hu
 have hql:q.length=m:=by rw [←hq]; simp; omega
 have hqm:∀ x,x∈q↔x∈l:=fun x=>(hu.2 x).trans hp.mem_iff
 have hqne:q≠[]:=by
  rintro rfl
  match l,h1 with
  |a::l,_=>have:=(hqm a).2 (by simp); simp at this
 have hm1:1≤m:=by rw [←hql]; exact List.length_pos_iff.2 hqne
 have hqs:∀ x∈q,z3h x:=fun x hx=>hl x ((hqm x).1 hx)
 obtain ⟨hc,_⟩:=x36 hqne hu.1 hqm
 refine ⟨w34 q,?_,hc⟩
 have e86:g86 it0 std (z0d l,())=some (z0d L,(0:Nat),m,l.length,()):=by
  have c0:(l.length:Int)≥0:=by omega
  have c1:(l.length:Int)≤(l.length:Int):=by omega
  have c2:(l.length:Int)≤1000000:=by omega
  have z:[D.int IntKind.i64 (0:Int),D.int IntKind.i64 (0:Int)]=eP (0,0):=rfl
  have hg':w6o it0 std (z0d l',(0:Nat),l.length,l.length,())=some (z0d L,(0:Nat),m,l.length,()):=by
   have:=hg
   rw [hlen] at this
   exact this
  have hs':v1m it0 std (z0d l,())=some (z0d l',()):=hs
  have hsp:List.take 0 (List.replicate l.length (eP (0,0)))++z0d l++List.drop (z0d l).length (List.replicate l.length (eP (0,0)))=z0d l:=by
   simp [z0g]
  simp only [g86,z1a,z1b,z0g,z,c0,c1,c2,Nat.le_refl,List.length_replicate]
  simp only [z0g] at hsp
  simp only [hsp,hs',Option.bind_some,hg',z0g,if_true]
 unfold G59
 have ht:(z0d L).take m=z0d q:=by rw [←hq]; simp [z0d]
 have cL:m≤L.length:=by omega
 by_cases hm':m=1
 ·have c1:(m:Int)=1:=by omega
  simp only [g59,e86,z1a,z1b,c1,cL,z0g,List.drop_zero,ht]
  rw [w34,if_pos (by omega)]
 ·have c1:¬ (m:Int)=1:=by omega
  have g1:=w4p hqs (by omega) (by omega)
  have hqr:∀ x∈q.reverse,z3h x:=fun x hx=>hqs x (by simpa using hx)
  have g2:=w4p hqr (by simp; omega) (by simp; omega)
  rw [x94] at g1 g2
  have hl2:=w7f hu.1 (by omega)
  have g89:=v3v (L:=L) (m:=m) (cap:=l.length) cL (by omega)
  obtain ⟨g1,g1a,g1b⟩:=g1
  obtain ⟨g2,g2a,g2b⟩:=g2
  unfold G88 at g1 g2
  unfold G89 at g89
  have ht2:(z0d ((L.take m).reverse++L.drop m)).take m=z0d q.reverse:=by
   rw [hq]
   have:(z0d (q.reverse++L.drop m))=z0d q.reverse++z0d (L.drop m):=by simp [z0d]
   rw [this,List.take_append_of_le_length (by rw [z0g]; simp; omega),List.take_of_length_le (by rw [z0g]; simp; omega)]
  have cL2:m≤((L.take m).reverse++L.drop m).length:=by simp; omega
  have n1:¬ ((chn q).length - 1+((chn q.reverse).length - 1)≤(chn q).length - 1):=by omega
  have n2:(chn q.reverse).length - 1≤(chn q.reverse).length:=by omega
  have n3:(chn q).length - 1≤(chn q).length:=by omega
  have n4:1≤(chn q.reverse).length - 1:=by omega
  simp only [List.length_reverse] at g2b
  have n5:(chn q).length - 1+((chn q.reverse).length - 1)≤1000000:=by omega
  have hd:∀ c:List Pt,(z0d c).take (c.length - 1)=z0d c.dropLast:=by
   intro c; rw [List.dropLast_eq_take]; simp [z0d]
  have hfin:∀ a b:List Pt,z0d a++z0d b=z0d (a++b):=by intros; simp [z0d]
  have n6:(chn q).length - 1+((chn q.reverse).length - 1)≤((chn q).dropLast++(chn q.reverse).dropLast).length:=by simp
  have htk:(z0d ((chn q).dropLast++(chn q.reverse).dropLast)).take ((chn q).length - 1+((chn q.reverse).length - 1))=z0d ((chn q).dropLast++(chn q.reverse).dropLast):=by
   rw [List.take_of_length_le (by rw [z0g]; simp)]
  simp only [g59,e86,z1a,z1b,c1,cL,z0g,List.drop_zero,ht,g1,x5i,g89,ht2,cL2,g2,n1,n2,n3,n4,n5,hd,hfin,n6,htk]
  rw [w34,if_neg (by omega)]
end Go.Am
end
noncomputable section
namespace Go.Am
def v2c:Ctr:=
 ⟨80,[.list 2, .list 2],[],[(.ret,⟨[(0, .list 2)],[],1⟩)]⟩
def la80:List LA:=
 [⟨80,[false,true,false,true,true],0,⟨⟨[(0, .list 2),(1, .list 2),(5, .bptr 0 0),(15, .full 1 1),(16, .int .i64),(17, .int .i64)],[.box [.vec 2 2], .row [(CK.list 2)], .row [ci,ci]],82⟩,[((AX.exit 0),⟨[(0, .list 2),(1, .list 2),(5, .bptr 0 0)],[.box [.vec 1 2], .row [ci,ci]],82⟩)]⟩⟩,
 ⟨94,[false,true],5,⟨⟨[(0, .yld 4),(1, .bptr 3 0),(6, .list 2),(7, .int .i64),(8, .int .i64)],[.box [.vec 5 2], .row [(CK.list 2)], .dead, .box [.list 2], .loop Go.LoopState.ready Option.none 80 [Bool.false,Bool.true,Bool.true,Bool.false,Bool.false,Bool.true,Bool.true,Bool.false,Bool.false,Bool.true,Bool.false,Bool.true,Bool.true] 82 [(22, .clo 94 [] [.bptr 3 0]),(16, .int .i64),(15, .full 1 1),(5, .bptr 0 0),(1, .list 2),(0, .list 2),(17, .int .i64)], .row [ci,ci]],33⟩,[(AX.ret,⟨[],[.box [.vec 5 2], .row [(CK.list 2)], .dead, .box [.list 2], .loop Go.LoopState.ready Option.none 80 [Bool.false,Bool.true,Bool.true,Bool.false,Bool.false,Bool.true,Bool.true,Bool.false,Bool.false,Bool.true,Bool.false,Bool.true,Bool.true] 82 [(22, .clo 94 [] [.bptr 3 0]),(16, .int .i64),(15, .full 1 1),(5, .bptr 0 0),(1, .list 2),(0, .list 2),(17, .int .i64)], .row [ci,ci]],33⟩),((AX.exit 0),⟨[],[.box [.vec 5 2], .row [(CK.list 2)], .dead, .box [.list 2], .loop Go.LoopState.ready Option.none 80 [Bool.false,Bool.true,Bool.true,Bool.false,Bool.false,Bool.true,Bool.true,Bool.false,Bool.false,Bool.true,Bool.false,Bool.true,Bool.true] 82 [(22, .clo 94 [] [.bptr 3 0]),(16, .int .i64),(15, .full 1 1),(5, .bptr 0 0),(1, .list 2),(0, .list 2),(17, .int .i64)], .row [ci,ci]],33⟩)]⟩⟩,
 ⟨80,[false,true,false,true,true,true,true,true,true],0,⟨⟨[(5, .bptr 0 0),(9, .bptr 1 0),(10, .sl 2 2),(42, .vec 3 2),(43, .int .i64),(44, .int .i64)],[.box [.vec 3 2], .box [.int .i64, .int .i64], .row [ci,ci], .row [ci,ci]],82⟩,[((AX.exit 4),⟨[(10, .sl 0 2)],[.row [ci,ci]],82⟩)]⟩⟩]
def ja80:List JA:=
 [⟨80,[true,true,false,false,true,true,false,false,true,false,true,true],0,[(AX.normal,⟨[(0, .list 2),(1, .list 2),(5, .bptr 0 0),(15, .full 1 1),(16, .int .i64),(17, .int .i64)],[.box [.vec 2 2], .row [(CK.list 2)], .row [ci,ci]],82⟩)]⟩,
 ⟨80,[false,true,true,false,false,true,false,true,true,true,true,true,true],0,[(AX.normal,⟨[(5, .bptr 0 0),(9, .bptr 1 0),(10, .sl 2 2),(42, .vec 3 2),(43, .int .i64),(44, .int .i64)],[.box [.vec 3 2], .box [.int .i64, .int .i64], .row [ci,ci], .row [ci,ci]],82⟩)]⟩,
 ⟨80,[true,false,true,true,true,true,true,true,true],0,[(AX.normal,⟨[(10, .sl 0 2)],[.row [ci,ci]],82⟩)]⟩]
def v6y:List CF:=
 [⟨w62,G98⟩,⟨v14,G99⟩,⟨x4q,v9z⟩]
def an80:Anns:=
 ⟨v6y,ja80,[]⟩
def x0z (it:It) (p:Prim):(LD×(LD×T30))→Option ((LD×(LD×T30))⊕(LD×T17)):=
 fun a=>opt.run _ (
 opt.ask _ (p.cmp .lss a.2.2.2.2.2.2.2.1 a.2.2.2.2.2.2.1) (
 opt.bnd ((LD×(LD×T30))) _ (
 opt.run ((LD×(LD×T30))) (
 opt.need _ (bif (p.cmp .geq a.2.2.2.2.2.2.2.1 (0:Int)) then (p.cmp .lss a.2.2.2.2.2.2.2.1 (p.ofNat (p.len a.2.1))) else Bool.false)<|
 opt.need _ (p.rowOk a.2.1 (p.add 0 (p.nat a.2.2.2.2.2.2.2.1)) [ci,ci])<|
 opt.need _ (p.and (p.leN (p.add 0 2) (p.len [[(D.int .i64 a.2.2.1),(D.int .i64 a.2.2.2.1)],[(D.int .i64 (p.rdI a.2.1 (p.add 0 (p.nat a.2.2.2.2.2.2.2.1)) 0)),(D.int .i64 (p.rdI a.2.1 (p.add 0 (p.nat a.2.2.2.2.2.2.2.1)) 1))]])) Bool.true)<|
 opt.bnd T4 _ (g99 it p ((p.cut [[(D.int .i64 a.2.2.1),(D.int .i64 a.2.2.2.1)],[(D.int .i64 (p.rdI a.2.1 (p.add 0 (p.nat a.2.2.2.2.2.2.2.1)) 0)),(D.int .i64 (p.rdI a.2.1 (p.add 0 (p.nat a.2.2.2.2.2.2.2.1)) 1))]] 0 2),())) fun b=>
 opt.ask _ (p.cmp .lss (p.ar .add .i64 a.2.2.2.2.2.2.2.1 (1:Int)) (p.ofNat (p.len a.2.1))) (
 opt.need _ (bif (p.cmp .geq (p.ar .add .i64 a.2.2.2.2.2.2.2.1 (1:Int)) (0:Int)) then (p.cmp .lss (p.ar .add .i64 a.2.2.2.2.2.2.2.1 (1:Int)) (p.ofNat (p.len a.2.1))) else Bool.false)<|
 opt.need _ (p.rowOk a.2.1 (p.add 0 (p.nat (p.ar .add .i64 a.2.2.2.2.2.2.2.1 (1:Int)))) [ci,ci])<|
 opt.bnd T0 _ (G98 p ((p.rdI a.2.1 (p.add 0 (p.nat a.2.2.2.2.2.2.2.1)) 0),((p.rdI a.2.1 (p.add 0 (p.nat a.2.2.2.2.2.2.2.1)) 1),((p.rdI a.2.1 (p.add 0 (p.nat (p.ar .add .i64 a.2.2.2.2.2.2.2.1 (1:Int)))) 0),((p.rdI a.2.1 (p.add 0 (p.nat (p.ar .add .i64 a.2.2.2.2.2.2.2.1 (1:Int)))) 1),()))))) fun c=>
 opt.ask _ (p.cmp .eql c.1 (0:Int)) (
 opt.need _ (p.eqN 0 0)<|
 opt.need _ (p.eqN (p.len a.2.1) (p.len a.2.1))<|
 opt.need _ (p.eqN 0 0)<|
 opt.need _ (p.eqN (p.len a.2.1) (p.len a.2.1))<|
 opt.ret _ (a.1,(a.2.1,(b.1,(b.2.1,(a.2.2.2.2.1,(a.2.2.2.2.2.1,(a.2.2.2.2.2.2.1,(a.2.2.2.2.2.2.2.1,()))))))))) (
 opt.need _ (p.and (p.leN (p.add 0 1) (p.len [[(D.int .i64 b.1),(D.int .i64 b.2.1)]])) (p.and (p.leN (p.add a.2.2.2.2.1 a.2.2.2.2.2.1) (p.len a.1)) (p.and (p.leN 1 1) (p.leN (p.add a.2.2.2.2.2.1 1) 1000000))))<|
 opt.need _ (p.eqN 0 0)<|
 opt.need _ (p.eqN (p.len a.2.1) (p.len a.2.1))<|
 opt.need _ (p.eqN 0 0)<|
 opt.need _ (p.eqN (p.len a.2.1) (p.len a.2.1))<|
 opt.ret _ ((p.app (p.cut a.1 a.2.2.2.2.1 a.2.2.2.2.2.1) (p.cut [[(D.int .i64 b.1),(D.int .i64 b.2.1)]] 0 1)),(a.2.1,(b.1,(b.2.1,(0,((p.add a.2.2.2.2.2.1 1),(a.2.2.2.2.2.2.1,(a.2.2.2.2.2.2.2.1,())))))))))) (
 opt.need _ (p.and (p.leN (p.add 0 1) (p.len [[(D.int .i64 b.1),(D.int .i64 b.2.1)]])) (p.and (p.leN (p.add a.2.2.2.2.1 a.2.2.2.2.2.1) (p.len a.1)) (p.and (p.leN 1 1) (p.leN (p.add a.2.2.2.2.2.1 1) 1000000))))<|
 opt.need _ (p.eqN 0 0)<|
 opt.need _ (p.eqN (p.len a.2.1) (p.len a.2.1))<|
 opt.need _ (p.eqN 0 0)<|
 opt.need _ (p.eqN (p.len a.2.1) (p.len a.2.1))<|
 opt.ret _ ((p.app (p.cut a.1 a.2.2.2.2.1 a.2.2.2.2.2.1) (p.cut [[(D.int .i64 b.1),(D.int .i64 b.2.1)]] 0 1)),(a.2.1,(b.1,(b.2.1,(0,((p.add a.2.2.2.2.2.1 1),(a.2.2.2.2.2.2.1,(a.2.2.2.2.2.2.2.1,()))))))))))) fun d=>
 opt.need _ (p.eqN 0 0)<|
 opt.need _ (p.eqN (p.len d.2.1) (p.len d.2.1))<|
 opt.need _ (p.eqN 0 0)<|
 opt.need _ (p.eqN (p.len d.2.1) (p.len d.2.1))<|
 opt.ret _ (Sum.inl (d.1,(d.2.1,(d.2.2.1,(d.2.2.2.1,(d.2.2.2.2.1,(d.2.2.2.2.2.1,(d.2.2.2.2.2.2.1,((p.ar .add .i64 d.2.2.2.2.2.2.2.1 (1:Int)),())))))))))) (
 opt.ret _ (Sum.inr (a.1,(a.2.2.2.2.1,(a.2.2.2.2.2.1,()))))))
def y8h (p:Prim):(LD×(LD×(LD×T61)))→Option ((LD×(LD×(LD×T61)))⊕((LD×(LD×(LD×T22)))⊕(LD×(LD×(LD×T22))))):=
 fun a=>opt.run _ (
 opt.ask _ (p.cmp .lss a.2.2.2.2.2.2.2.2.2.1 a.2.2.2.2.2.2.2.2.1) (
 opt.need _ (p.rowOk a.2.2.2.2.2.2.2.1 (p.nat a.2.2.2.2.2.2.2.2.2.1) [ci,ci])<|
 opt.need _ (p.cmp .geq a.2.2.2.2.2.2.2.2.2.1 (0:Int))<|
 opt.need _ (p.cmp .neq (p.ofNat (p.len a.2.2.1)) (0:Int))<|
 opt.need _ (p.rowOk a.2.2.1 (p.nat (p.ar .rem .i64 (p.ar .add .i64 a.2.2.2.2.2.2.2.2.2.1 (1:Int)) (p.ofNat (p.len a.2.2.1)))) [ci,ci])<|
 opt.need _ (p.cmp .geq (p.ar .rem .i64 (p.ar .add .i64 a.2.2.2.2.2.2.2.2.2.1 (1:Int)) (p.ofNat (p.len a.2.2.1))) (0:Int))<|
 opt.ask _ (bif (p.cmp .eql (p.ar .sub .i64 (p.rdI a.2.2.1 (p.nat (p.ar .rem .i64 (p.ar .add .i64 a.2.2.2.2.2.2.2.2.2.1 (1:Int)) (p.ofNat (p.len a.2.2.1)))) 0) (p.rdI a.2.2.2.2.2.2.2.1 (p.nat a.2.2.2.2.2.2.2.2.2.1) 0)) (0:Int)) then (bif (p.cmp .eql (p.ar .sub .i64 (p.rdI a.2.2.1 (p.nat (p.ar .rem .i64 (p.ar .add .i64 a.2.2.2.2.2.2.2.2.2.1 (1:Int)) (p.ofNat (p.len a.2.2.1)))) 1) (p.rdI a.2.2.2.2.2.2.2.1 (p.nat a.2.2.2.2.2.2.2.2.2.1) 1)) (0:Int)) then Bool.true else Bool.false) else Bool.false) (
 opt.need _ (p.eqN 0 0)<|
 opt.need _ (p.eqN (p.len a.2.1) (p.len a.2.1))<|
 opt.need _ (p.eqN 0 0)<|
 opt.need _ (p.eqN (p.len a.1) (p.len a.1))<|
 opt.need _ (p.eqN (p.len a.1) (p.len a.1))<|
 opt.ret _ (Sum.inr (Sum.inl (a.1,(a.2.1,(a.2.2.1,(a.2.2.2.1,(a.2.2.2.2.1,(a.2.2.2.2.2.1,(a.2.2.2.2.2.2.1,())))))))))) (
 opt.need _ (p.and (p.leN (p.add 0 1) (p.len [[(D.int .i64 (p.ar .sub .i64 (p.rdI a.2.2.1 (p.nat (p.ar .rem .i64 (p.ar .add .i64 a.2.2.2.2.2.2.2.2.2.1 (1:Int)) (p.ofNat (p.len a.2.2.1)))) 0) (p.rdI a.2.2.2.2.2.2.2.1 (p.nat a.2.2.2.2.2.2.2.2.2.1) 0))),(D.int .i64 (p.ar .sub .i64 (p.rdI a.2.2.1 (p.nat (p.ar .rem .i64 (p.ar .add .i64 a.2.2.2.2.2.2.2.2.2.1 (1:Int)) (p.ofNat (p.len a.2.2.1)))) 1) (p.rdI a.2.2.2.2.2.2.2.1 (p.nat a.2.2.2.2.2.2.2.2.2.1) 1)))]])) (p.and (p.leN (p.add 0 (p.len a.2.1)) (p.len a.2.1)) (p.and (p.leN 1 1) (p.leN (p.add (p.len a.2.1) 1) 1000000))))<|
 opt.need _ (p.eqN 0 0)<|
 opt.need _ (p.eqN (p.add (p.len a.2.1) 1) (p.len (p.app (p.cut a.2.1 0 (p.len a.2.1)) (p.cut [[(D.int .i64 (p.ar .sub .i64 (p.rdI a.2.2.1 (p.nat (p.ar .rem .i64 (p.ar .add .i64 a.2.2.2.2.2.2.2.2.2.1 (1:Int)) (p.ofNat (p.len a.2.2.1)))) 0) (p.rdI a.2.2.2.2.2.2.2.1 (p.nat a.2.2.2.2.2.2.2.2.2.1) 0))),(D.int .i64 (p.ar .sub .i64 (p.rdI a.2.2.1 (p.nat (p.ar .rem .i64 (p.ar .add .i64 a.2.2.2.2.2.2.2.2.2.1 (1:Int)) (p.ofNat (p.len a.2.2.1)))) 1) (p.rdI a.2.2.2.2.2.2.2.1 (p.nat a.2.2.2.2.2.2.2.2.2.1) 1)))]] 0 1))))<|
 opt.need _ (p.eqN 0 0)<|
 opt.need _ (p.eqN (p.len a.1) (p.len a.1))<|
 opt.need _ (p.eqN (p.len a.1) (p.len a.1))<|
 opt.ret _ (Sum.inl (a.1,((p.app (p.cut a.2.1 0 (p.len a.2.1)) (p.cut [[(D.int .i64 (p.ar .sub .i64 (p.rdI a.2.2.1 (p.nat (p.ar .rem .i64 (p.ar .add .i64 a.2.2.2.2.2.2.2.2.2.1 (1:Int)) (p.ofNat (p.len a.2.2.1)))) 0) (p.rdI a.2.2.2.2.2.2.2.1 (p.nat a.2.2.2.2.2.2.2.2.2.1) 0))),(D.int .i64 (p.ar .sub .i64 (p.rdI a.2.2.1 (p.nat (p.ar .rem .i64 (p.ar .add .i64 a.2.2.2.2.2.2.2.2.2.1 (1:Int)) (p.ofNat (p.len a.2.2.1)))) 1) (p.rdI a.2.2.2.2.2.2.2.1 (p.nat a.2.2.2.2.2.2.2.2.2.1) 1)))]] 0 1)),(a.2.2.1,(a.2.2.2.1,(a.2.2.2.2.1,(a.2.2.2.2.2.1,(a.2.2.2.2.2.2.1,(a.2.2.2.2.2.2.2.1,(a.2.2.2.2.2.2.2.2.1,((p.ar .add .i64 a.2.2.2.2.2.2.2.2.2.1 (1:Int)),()))))))))))))) (
 opt.need _ (p.eqN 0 0)<|
 opt.need _ (p.eqN (p.len a.2.1) (p.len a.2.1))<|
 opt.need _ (p.eqN 0 0)<|
 opt.need _ (p.eqN (p.len a.1) (p.len a.1))<|
 opt.need _ (p.eqN (p.len a.1) (p.len a.1))<|
 opt.ret _ (Sum.inr (Sum.inr (a.1,(a.2.1,(a.2.2.1,(a.2.2.2.1,(a.2.2.2.2.1,(a.2.2.2.2.2.1,(a.2.2.2.2.2.2.1,())))))))))))
def y2r (it:It) (p:Prim):(LD×(LD×(LD×(LD×T3))))→Option ((LD×(LD×(LD×(LD×T3))))⊕(LD×(LD×(LD×Unit)))):=
 fun a=>opt.run _ (
 opt.ask _ (p.cmp .lss a.2.2.2.2.2.1 a.2.2.2.2.1) (
 opt.need _ (bif (p.cmp .geq a.2.2.2.2.2.1 (0:Int)) then (p.cmp .lss a.2.2.2.2.2.1 (p.ofNat (p.len a.1))) else Bool.false)<|
 opt.need _ (p.rowOk a.1 (p.add 0 (p.nat a.2.2.2.2.2.1)) [(CK.list 2)])<|
 opt.bnd ((LD×(LD×(LD×(LD×T3))))) _ (
 opt.run ((LD×(LD×(LD×(LD×T3))))) (
 opt.need _ (p.eqN 0 0)<|
 opt.need _ (p.eqN (p.len a.2.1) (p.len a.2.1))<|
 opt.need _ (p.eqN 0 0)<|
 opt.need _ (p.eqN (p.len a.1) (p.len a.1))<|
 opt.need _ (p.eqN (p.len a.1) (p.len a.1))<|
 opt.alt ((LD×(LD×(LD×T22)))) ((LD×(LD×(LD×T22)))) _ (
 it _ _ (y8h p) (a.1,(a.2.1,((p.rdL a.1 (p.add 0 (p.nat a.2.2.2.2.2.1)) 0),(a.2.2.2.2.1,(a.2.2.2.1,(a.2.2.1,(a.2.2.2.2.2.1,((p.rdL a.1 (p.add 0 (p.nat a.2.2.2.2.2.1)) 0),((p.ofNat (p.len (p.rdL a.1 (p.add 0 (p.nat a.2.2.2.2.2.1)) 0))),((0:Int),()))))))))))) (fun b=>
 opt.need _ (p.eqN 0 0)<|
 opt.need _ (p.eqN (p.len b.2.1) (p.len b.2.1))<|
 opt.need _ (p.eqN 0 0)<|
 opt.need _ (p.eqN (p.len a.1) (p.len b.1))<|
 opt.need _ (p.eqN (p.len a.1) (p.len b.1))<|
 opt.ret _ (b.1,(b.2.1,(a.2.2.1,(a.2.2.2.1,(a.2.2.2.2.1,(a.2.2.2.2.2.1,()))))))) (fun c=>
 opt.bnd ((LD×(LD×(LD×T22)))) _ (some c) fun d=>
 opt.need _ (p.eqN 0 0)<|
 opt.need _ (p.eqN (p.len d.2.1) (p.len d.2.1))<|
 opt.need _ (p.eqN 0 0)<|
 opt.need _ (p.eqN (p.len a.1) (p.len d.1))<|
 opt.need _ (p.eqN (p.len a.1) (p.len d.1))<|
 opt.ret _ (d.1,(d.2.1,(a.2.2.1,(a.2.2.2.1,(a.2.2.2.2.1,(a.2.2.2.2.2.1,()))))))))) fun e=>
 opt.need _ (p.eqN 0 0)<|
 opt.need _ (p.eqN (p.len e.2.1) (p.len e.2.1))<|
 opt.need _ (p.eqN 0 0)<|
 opt.need _ (p.eqN (p.len e.1) (p.len e.1))<|
 opt.need _ (p.eqN (p.len e.1) (p.len e.1))<|
 opt.ret _ (Sum.inl (e.1,(e.2.1,(e.2.2.1,(e.2.2.2.1,(e.2.2.2.2.1,((p.ar .add .i64 e.2.2.2.2.2.1 (1:Int)),())))))))) (
 opt.need _ (p.eqN 0 0)<|
 opt.need _ (p.eqN (p.len a.2.1) (p.len a.2.1))<|
 opt.ret _ (Sum.inr (a.2.1,(a.2.2.1,(a.2.2.2.1,()))))))
def g80 (it:It):(p:Prim)→(LD×(LD×Unit))→Option ((LD×Unit)):=
 fun p x=>
 opt.need _ (p.eqN 0 0)<|
 opt.need _ (p.eqN 2 (p.len [[(D.list Bool.false 2 x.1)],[(D.list Bool.false 2 x.2.1)]]))<|
 opt.need _ (p.eqN 2 (p.len [[(D.list Bool.false 2 x.1)],[(D.list Bool.false 2 x.2.1)]]))<|
 opt.bnd ((LD×(LD×(LD×Unit)))) _ (
 it _ _ (y2r it p) ([[(D.list Bool.false 2 x.1)],[(D.list Bool.false 2 x.2.1)]],([],(x.1,(x.2.1,((p.ofNat 2),((0:Int),()))))))) fun a=>
 opt.need _ (p.eqN 0 0)<|
 opt.need _ (p.eqN (p.len a.1) (p.len a.1))<|
 opt.bnd ((LD×Unit)) _ (v1l it p (a.1,())) fun b=>
 opt.need _ (p.rowOk a.2.1 (p.nat (0:Int)) [ci,ci])<|
 opt.need _ (p.rowOk a.2.2.1 (p.nat (0:Int)) [ci,ci])<|
 opt.need _ (p.and (p.leN (p.add 0 2) (p.len [[(D.int .i64 (p.rdI a.2.1 (p.nat (0:Int)) 0)),(D.int .i64 (p.rdI a.2.1 (p.nat (0:Int)) 1))],[(D.int .i64 (p.rdI a.2.2.1 (p.nat (0:Int)) 0)),(D.int .i64 (p.rdI a.2.2.1 (p.nat (0:Int)) 1))]])) Bool.true)<|
 opt.bnd T4 _ (g99 it p ((p.cut [[(D.int .i64 (p.rdI a.2.1 (p.nat (0:Int)) 0)),(D.int .i64 (p.rdI a.2.1 (p.nat (0:Int)) 1))],[(D.int .i64 (p.rdI a.2.2.1 (p.nat (0:Int)) 0)),(D.int .i64 (p.rdI a.2.2.1 (p.nat (0:Int)) 1))]] 0 2),())) fun c=>
 opt.need _ (p.eqN 0 0)<|
 opt.need _ (p.eqN (p.len a.1) (p.len b.1))<|
 opt.need _ (p.leN (p.add 0 1) (p.len [[(D.int .i64 c.1),(D.int .i64 c.2.1)]]))<|
 opt.need _ (p.eqN 0 0)<|
 opt.need _ (p.eqN (p.len a.1) (p.len b.1))<|
 opt.bnd ((LD×T17)) _ (
 it _ _ (x0z it p) ([[(D.int .i64 c.1),(D.int .i64 c.2.1)]],(b.1,(c.1,(c.2.1,(0,(1,((p.ofNat (p.len a.1)),((0:Int),()))))))))) fun d=>
 opt.bnd ((LD×T17)) _ (
 opt.run ((LD×T17)) (
 opt.ask _ (p.cmp .gtr (p.ofNat d.2.2.1) (1:Int)) (
 opt.need _ (p.and (p.cmp .geq (0:Int) (0:Int)) (p.and (p.cmp .leq (0:Int) (p.ar .sub .i64 (p.ofNat d.2.2.1) (1:Int))) (p.cmp .leq (p.ar .sub .i64 (p.ofNat d.2.2.1) (1:Int)) (p.ofNat d.2.2.1))))<|
 opt.ret _ (d.1,((p.add d.2.1 (p.nat (0:Int))),((p.sub (p.nat (p.ar .sub .i64 (p.ofNat d.2.2.1) (1:Int))) (p.nat (0:Int))),())))) (
 opt.ret _ (d.1,(d.2.1,(d.2.2.1,())))))) fun e=>
 opt.need _ (p.leN (p.add e.2.1 e.2.2.1) (p.len e.1))<|
 opt.ret _ ((p.cut e.1 e.2.1 e.2.2.1),())
def G80:=g80 it0
theorem ok80:CtrOk PG v2c (G80 std):=okF (a:=an80) (l:=la80) (gC v47 (gC ok99 (gC v48 (gN)))) (by kernel_rfl) fun _ _=>by kernel_rfl
end Go.Am
end
noncomputable section
namespace Go.Am
def x6f:Ctr:=
 ⟨48,[.agg [.list 2, .list 1]],[],[(.ret,⟨[(0, .tuple [.nilp, .int .i64])],[],1⟩),(.ret,⟨[(0, .tuple [.bptr 0 0, .int .i64])],[.box [.list 2, .list 1, .list 2]],1⟩)]⟩
def la48:List LA:=
 [⟨48,[false,true,false,true,true,true],0,⟨⟨[(5, .bptr 0 0),(24, .list 1),(25, .int .i64),(26, .int .i64)],[.box [.list 2, .list 1, .list 2]],43⟩,[((AX.exit 0),⟨[(5, .bptr 0 0)],[.box [.list 2, .list 1, .list 2]],43⟩)]⟩⟩]
def ja48:List JA:=
 []
def v7k:List CF:=
 [⟨v2c,G80⟩,⟨w68,G59⟩,⟨w67,G60⟩,⟨v2y,G18⟩]
def an48:Anns:=
 ⟨v7k,ja48,[]⟩
def x20 (it:It) (p:Prim):(LD×(LD×(LD×(LD×T3))))→Option ((LD×(LD×(LD×(LD×T3))))⊕(LD×(LD×(LD×Unit)))):=
 fun a=>opt.run _ (
 opt.ask _ (p.cmp .lss a.2.2.2.2.2.1 a.2.2.2.2.1) (
 opt.need _ (p.rowOk a.2.2.2.1 (p.nat a.2.2.2.2.2.1) [(CK.list 2)])<|
 opt.need _ (p.cmp .geq a.2.2.2.2.2.1 (0:Int))<|
 opt.bnd ((LD×Unit)) _ (g60 it p ((p.rdL a.2.2.2.1 (p.nat a.2.2.2.2.2.1) 0),())) fun b=>
 opt.bnd ((LD×Unit)) _ (g59 it p (b.1,())) fun c=>
 opt.bnd ((LD×Unit)) _ (g80 it p (a.2.2.1,(c.1,()))) fun d=>
 opt.ret _ (Sum.inl (a.1,(a.2.1,(d.1,(a.2.2.2.1,(a.2.2.2.2.1,((p.ar .add .i64 a.2.2.2.2.2.1 (1:Int)),())))))))) (
 opt.ret _ (Sum.inr (a.1,(a.2.1,(a.2.2.1,()))))))
def g48 (it:It):(p:Prim)→(LD×(LD×Unit))→Option (((Int×Unit)⊕(LD×(LD×(LD×(Int×Unit)))))):=
 fun p x=>
 opt.bnd T0 _ (g18 it p (x.1,(x.2.1,()))) fun a=>
 opt.ask _ (p.cmp .neq a.1 (0:Int)) (
 opt.ret _ (Sum.inl (a.1,()))) (
 opt.bnd ((LD×Unit)) _ (g60 it p (x.1,())) fun b=>
 opt.bnd ((LD×Unit)) _ (g59 it p (b.1,())) fun c=>
 opt.bnd ((LD×(LD×(LD×Unit)))) _ (
 it _ _ (x20 it p) (x.1,(x.2.1,(c.1,(x.2.1,((p.ofNat (p.len x.2.1)),((0:Int),()))))))) fun d=>
 opt.ret _ (Sum.inr (d.1,(d.2.1,(d.2.2.1,((0:Int),()))))))
def G48:=g48 it0
theorem w85:CtrOk PG x6f (G48 std):=okF (a:=an48) (l:=la48) (gC ok80 (gC v9c (gC v9b (gC ok18 (gN))))) (by kernel_rfl) fun _ _=>by kernel_rfl
def w7d:Ctr:=
 ⟨16,[.agg [.list 2, .list 1]],[],[(.ret,⟨[(0, .tuple [.vec 0 2, .int .i64])],[.row [ci,ci]],1⟩)]⟩
def la16:List LA:=
 [⟨16,[false,true,false,true,true,true,true],0,⟨⟨[(6, .vec 0 2),(20, .list 2),(21, .int .i64),(22, .int .i64)],[.row [ci,ci]],36⟩,[((AX.exit 0),⟨[(6, .vec 0 2)],[.row [ci,ci]],36⟩)]⟩⟩]
def ja16:List JA:=
 []
def v71:List CF:=
 [⟨x6f,G48⟩]
def an16:Anns:=
 ⟨v71,ja16,[]⟩
def w3c (p:Prim):(LD×(LD×T3))→Option ((LD×(LD×T3))⊕(LD×Unit)):=
 fun a=>opt.run _ (
 opt.ask _ (p.cmp .lss a.2.2.2.1 a.2.2.1) (
 opt.need _ (p.rowOk a.2.1 (p.nat a.2.2.2.1) [ci,ci])<|
 opt.need _ (p.cmp .geq a.2.2.2.1 (0:Int))<|
 opt.need _ (p.and (p.leN (p.add 0 1) (p.len [[(D.int .i64 (p.rdI a.2.1 (p.nat a.2.2.2.1) 0)),(D.int .i64 (p.rdI a.2.1 (p.nat a.2.2.2.1) 1))]])) (p.and (p.leN (p.add 0 (p.len a.1)) (p.len a.1)) (p.and (p.leN 1 1) (p.leN (p.add (p.len a.1) 1) 1000000))))<|
 opt.need _ (p.eqN 0 0)<|
 opt.need _ (p.eqN (p.add (p.len a.1) 1) (p.len (p.app (p.cut a.1 0 (p.len a.1)) (p.cut [[(D.int .i64 (p.rdI a.2.1 (p.nat a.2.2.2.1) 0)),(D.int .i64 (p.rdI a.2.1 (p.nat a.2.2.2.1) 1))]] 0 1))))<|
 opt.ret _ (Sum.inl ((p.app (p.cut a.1 0 (p.len a.1)) (p.cut [[(D.int .i64 (p.rdI a.2.1 (p.nat a.2.2.2.1) 0)),(D.int .i64 (p.rdI a.2.1 (p.nat a.2.2.2.1) 1))]] 0 1)),(a.2.1,(a.2.2.1,((p.ar .add .i64 a.2.2.2.1 (1:Int)),())))))) (
 opt.need _ (p.eqN 0 0)<|
 opt.need _ (p.eqN (p.len a.1) (p.len a.1))<|
 opt.ret _ (Sum.inr (a.1,()))))
def g16 (it:It):(p:Prim)→(LD×(LD×Unit))→Option ((LD×T1)):=
 fun p x=>
 opt.alt T0 ((LD×(LD×(LD×T1)))) _ (g48 it p (x.1,(x.2.1,()))) (fun a=>
 opt.ask _ (p.cmp .neq a.1 (0:Int)) (
 opt.ret _ ([],(a.1,()))) (
 opt.no _ 41)) (fun b=>
 opt.bnd ((LD×(LD×(LD×T1)))) _ (some b) fun c=>
 opt.ask _ (p.cmp .neq c.2.2.2.1 (0:Int)) (
 opt.ret _ ([],(c.2.2.2.1,()))) (
 opt.bnd ((LD×Unit)) _ (
 it _ _ (w3c p) ([],(c.2.2.1,((p.ofNat (p.len c.2.2.1)),((0:Int),()))))) fun d=>
 opt.need _ (p.eqN 0 0)<|
 opt.need _ (p.eqN (p.len d.1) (p.len d.1))<|
 opt.ret _ (d.1,((0:Int),()))))
def G16:=g16 it0
theorem v9h:CtrOk PG w7d (G16 std):=okF (a:=an16) (l:=la16) (gC w85 (gN)) (by kernel_rfl) fun _ _=>by kernel_rfl
def x9j:Ctr:=
 ⟨62,[.agg [.list 2, .list 1], .agg [.list 2, .list 1]],[],[(.ret,⟨[(0, .tuple [.nilp, .nilp, .int .i64])],[],1⟩),(.ret,⟨[(0, .tuple [.nilp, .bptr 0 0, .int .i64])],[.box [.list 2, .list 1, .list 2]],1⟩),(.ret,⟨[(0, .tuple [.bptr 0 0, .nilp, .int .i64])],[.box [.list 2, .list 1, .list 2]],1⟩),(.ret,⟨[(0, .tuple [.bptr 0 0, .bptr 1 0, .int .i64])],[.box [.list 2, .list 1, .list 2], .box [.list 2, .list 1, .list 2]],1⟩)]⟩
def la62:List LA:=
 []
def ja62:List JA:=
 []
def v69:List CF:=
 [⟨x6f,G48⟩]
def an62:Anns:=
 ⟨v69,ja62,[]⟩
def g62 (it:It):(p:Prim)→(LD×(LD×(LD×(LD×Unit))))→Option (((Int×Unit)⊕((LD×(LD×(LD×(Int×Unit))))⊕((LD×(LD×(LD×(Int×Unit))))⊕(LD×(LD×(LD×(LD×(LD×(LD×(Int×Unit))))))))))):=
 fun p x=>
 opt.alt T0 ((LD×(LD×(LD×T1)))) _ (g48 it p (x.1,(x.2.1,()))) (fun a=>
 opt.ask _ (p.cmp .neq a.1 (0:Int)) (
 opt.ret _ (Sum.inl (a.1,()))) (
 opt.alt T0 ((LD×(LD×(LD×T1)))) _ (g48 it p (x.2.2.1,(x.2.2.2.1,()))) (fun b=>
 opt.ret _ (Sum.inl (b.1,()))) (fun c=>
 opt.bnd ((LD×(LD×(LD×T1)))) _ (some c) fun d=>
 opt.ret _ (Sum.inr (Sum.inl (d.1,(d.2.1,(d.2.2.1,(d.2.2.2.1,()))))))))) (fun e=>
 opt.bnd ((LD×(LD×(LD×T1)))) _ (some e) fun f=>
 opt.ask _ (p.cmp .neq f.2.2.2.1 (0:Int)) (
 opt.ret _ (Sum.inl (f.2.2.2.1,()))) (
 opt.alt T0 ((LD×(LD×(LD×T1)))) _ (g48 it p (x.2.2.1,(x.2.2.2.1,()))) (fun g=>
 opt.ret _ (Sum.inr (Sum.inr (Sum.inl (f.1,(f.2.1,(f.2.2.1,(g.1,())))))))) (fun h=>
 opt.bnd ((LD×(LD×(LD×T1)))) _ (some h) fun i=>
 opt.ret _ (Sum.inr (Sum.inr (Sum.inr (f.1,(f.2.1,(f.2.2.1,(i.1,(i.2.1,(i.2.2.1,(i.2.2.2.1,())))))))))))))
def G62:=g62 it0
theorem v4k:CtrOk PG x9j (G62 std):=okF (a:=an62) (l:=la62) (gC w85 (gN)) (by kernel_rfl) fun _ _=>by kernel_rfl
end Go.Am
end
section
namespace Go.Am
open M06
theorem y1z {x:Pt} (h:x≠(0,0)):(z2c x=false↔Pos x)∧(z2c x=true↔Pos (ng x)):=z7w h
theorem x26 {x y:Pt} (hx:x≠(0,0)) (hy:y≠(0,0)):z5q x y<0↔Bef x y:=by
 rw [y85]
 obtain ⟨a1,a2⟩:=y1z hx
 obtain ⟨b1,b2⟩:=y1z hy
 unfold Bef
 rw [←a1, ←a2, ←b1, ←b2]
 cases z2c x<;>cases z2c y<;>simp
theorem y83 {x y:Pt} (hx:x≠(0,0)) (hy:y≠(0,0)):z5q x y=0↔z7d x y:=by
 have e1:=x26 hx hy
 constructor
 ·intro h
  rcases y1w hx hy with k|k|k
  ·have:=e1.2 k; omega
  ·exact k
  ·
   exfalso
   obtain ⟨a1,a2⟩:=y1z hx
   obtain ⟨b1,b2⟩:=y1z hy
   unfold z5q x0u at h
   rcases k with k|k|k
   ·have i1:=a2.2 k.2
    have i2:=b1.2 k.1
    simp [i1,i2] at h
   ·have i1:=a1.2 k.2.1
    have i2:=b1.2 k.1
    have:=k.2.2
    simp only [crs] at this
    have q1:¬ (0<x.1*y.2 - x.2*y.1):=by have:=Int.mul_comm x.1 y.2; have:=Int.mul_comm x.2 y.1; omega
    have q2:(0:Int)>x.1*y.2 - x.2*y.1:=by have:=Int.mul_comm x.1 y.2; have:=Int.mul_comm x.2 y.1; omega
    rw [if_neg (by rw [i1,i2]; simp),if_neg (by rw [i1,i2]; simp),if_neg q1,if_pos q2] at h
    cases h
   ·have i1:=a2.2 k.2.1
    have i2:=b2.2 k.1
    have:=k.2.2
    simp only [crs] at this
    have q1:¬ (0<x.1*y.2 - x.2*y.1):=by have:=Int.mul_comm x.1 y.2; have:=Int.mul_comm x.2 y.1; omega
    have q2:(0:Int)>x.1*y.2 - x.2*y.1:=by have:=Int.mul_comm x.1 y.2; have:=Int.mul_comm x.2 y.1; omega
    rw [if_neg (by rw [i1,i2]; simp),if_neg (by rw [i1,i2]; simp),if_neg q1,if_pos q2] at h
    cases h
 ·intro h
  obtain ⟨a1,a2⟩:=y1z hx
  obtain ⟨b1,b2⟩:=y1z hy
  have hb:z2c x=z2c y:=by
   rcases y31 x hx with p|p
   ·rw [a1.2 p,b1.2 (z4t h p)]
   ·rw [a2.2 p,b2.2 (z4t (y1i h) p)]
  have:=h.1
  simp only [crs] at this
  unfold z5q x0u
  rw [hb,this]
  cases z2c y<;>simp
theorem w4o {x y:Pt} (hx:z3h x) (hy:z3h y):G99 std ([eP x,eP y],())=some ((ad x y).1,(ad x y).2,()):=by
 have inner:∀ (u v o1 o2 q1 q2 n i:Int) (L:List (List D)), -2097152≤o1→o1≤2097152→ -2097152≤o2→o2≤2097152→ -2097152≤q1→q1≤2097152→ -2097152≤q2→q2≤2097152→
   z5k (x03 std) (u,v,o1,o2,L,n,i,q1,q2,(0:Int),())=some (u,v,o1+q1,o2+q2,L,n,i,()):=by
  intro u v o1 o2 q1 q2 n i L h1 h2 h3 h4 h5 h6 h7 h8
  have w1:IntKind.i64.wrap (o1+q1)=o1+q1:=by rw [z1t]<;>omega
  have w2:IntKind.i64.wrap (o2+q2)=o2+q2:=by rw [z1t]<;>omega
  have v1:IntKind.i64.wrap 1=1:=by decide
  have v2:IntKind.i64.wrap 2=2:=by decide
  have s0:x03 std (u,v,o1,o2,L,n,i,q1,q2,(0:Int),())=some (.inl (u,v,o1+q1,o2,L,n,i,q1,q2,(1:Int),())):=by
   simp [x03,z1a,z1b,z0f,w1,v1]
  have s1:x03 std (u,v,o1+q1,o2,L,n,i,q1,q2,(1:Int),())=some (.inl (u,v,o1+q1,o2+q2,L,n,i,q1,q2,(2:Int),())):=by
   simp [x03,z1a,z1b,z0f,w2,v2]
  have s2:x03 std (u,v,o1+q1,o2+q2,L,n,i,q1,q2,(2:Int),())=some (.inr (u,v,o1+q1,o2+q2,L,n,i,())):=by
   simp [x03,z1a,z1b]
  rw [z0l,s0]
  simp only
  rw [z0l,s1]
  simp only
  rw [z0l,s2]
 obtain ⟨x1,x2,x3,x4⟩:=hx
 obtain ⟨y1,y2,y3,y4⟩:=hy
 have v1:IntKind.i64.wrap ((0:Int)+1)=1:=by decide
 have v2:IntKind.i64.wrap ((1:Int)+1)=2:=by decide
 have t0:y8f it0 std ((0:Int),(0:Int),(0:Int),(0:Int),[eP x,eP y],(2:Int),(0:Int),())=some (.inl ((0:Int),(0:Int),x.1,x.2,[eP x,eP y],(2:Int),(1:Int),())):=by
  have:=inner 0 0 0 0 x.1 x.2 2 0 [eP x,eP y] (by omega) (by omega) (by omega) (by omega) (by omega) (by omega) (by omega) (by omega)
  simp only [Int.zero_add] at this
  have e1:std.rdI [eP x,eP y] 0 0=x.1:=rfl
  have e2:std.rdI [eP x,eP y] 0 1=x.2:=rfl
  have c1:(0:Int)<2:=by omega
  simp only [y8f,it0_eq,z3j,z52,z4a,z4b,z5v,z9t,y1e,Int.toNat_zero,e1,e2,this,Option.bind_some,z0f,v1,c1,decide_true,if_true,y9i]
  rfl
 have t1:y8f it0 std ((0:Int),(0:Int),x.1,x.2,[eP x,eP y],(2:Int),(1:Int),())=some (.inl ((0:Int),(0:Int),x.1+y.1,x.2+y.2,[eP x,eP y],(2:Int),(2:Int),())):=by
  have:=inner 0 0 x.1 x.2 y.1 y.2 2 1 [eP x,eP y] (by omega) (by omega) (by omega) (by omega) (by omega) (by omega) (by omega) (by omega)
  have e1:std.rdI [eP x,eP y] 1 0=y.1:=rfl
  have e2:std.rdI [eP x,eP y] 1 1=y.2:=rfl
  have e3:(1:Int).toNat=1:=rfl
  have c1:(1:Int)<2:=by omega
  simp only [y8f,it0_eq,z3j,z52,z4a,z4b,z5v,z9t,y1e,e3,e1,e2,this,Option.bind_some,z0f,v2,c1,decide_true,if_true,y9i]
  rfl
 have t2:y8f it0 std ((0:Int),(0:Int),x.1+y.1,x.2+y.2,[eP x,eP y],(2:Int),(2:Int),())=some (.inr ((0:Int),(0:Int),x.1+y.1,x.2+y.2,())):=by
  have c1:¬ (2:Int)<2:=by omega
  simp only [y8f,it0_eq,z3j,z52,z4a,z4b,z5v,z9t,c1,decide_false,Bool.false_eq_true,if_false]
 unfold G99
 have e2:std.ofNat (std.len [eP x,eP y])=(2:Int):=rfl
 simp only [g99,it0_eq,e2,z4b,z4a]
 rw [z0l,t0]
 simp only
 rw [z0l,t1]
 simp only
 rw [z0l,t2]
 rfl
end Go.Am
end
