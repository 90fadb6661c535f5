/- Texts of this claim. -/
import Derived.Test.YtejcgpekgbiooaaGreatDoorT14
import Derived.Test.YtejcgpekgbiooaaGreatDoorProg
import Derived.KernelRfl
set_option linter.unusedVariables false
set_option linter.unusedSimpArgs false
set_option linter.unusedSectionVars false
set_option maxRecDepth 100000
set_option maxHeartbeats 0
section
namespace Go.Am
open Go Go.RowKit Go.Proofs D12
theorem u8_lit {n:Int} (h:(Lit.int IntKind.u8 n).wf=true):0≤n∧n≤255:=by
 simp only [Lit.wf,IntKind.min,IntKind.max,IntKind.signed,IntKind.bits] at h
 simp at h
 omega
theorem u8_of {x:D} (h:DK (.int .u8) x):∃ n:Int,x= .int .u8 n∧0≤n∧n≤255:=by
 obtain ⟨n,rfl,hn⟩:=x4u h
 exact ⟨n,rfl,u8_lit hn⟩
end Go.Am
end
noncomputable section
namespace Go.Am
def ctr116:Ctr:=
 ⟨116,[.list 1, .int .i64],[],[(.ret,⟨[(0, .int .i64)],[],1⟩)]⟩
def la116:List LA:=
 [⟨116,[false,true,false,true],0,⟨⟨[(0, .list 1),(1, .int .i64),(7, .int .i64),(8, .int .i64)],[],19⟩,[(AX.ret,⟨[(4, .int .i64)],[],19⟩),((AX.exit 0),⟨[],[],19⟩)]⟩⟩]
def ja116:List JA:=
 []
def gam116:List CF:=
 []
def an116:y5o:=
 ⟨gam116,ja116,[]⟩
def b116_1 (p:z0n):(LD×(Int×(Int×(Int×Unit))))→Option ((LD×(Int×(Int×(Int×Unit))))⊕((Int×Unit)⊕Unit)):=
 fun a=>opt.run _ (
 opt.ask _ (p.cmp .lss a.2.2.2.1 a.2.2.1) (
 opt.need _ (p.rowOk a.1 (p.nat a.2.2.2.1) [ci])<|
 opt.need _ (p.cmp .geq a.2.2.2.1 (0:Int))<|
 opt.ask _ (p.cmp .eql a.2.1 (p.rdI a.1 (p.nat a.2.2.2.1) 0)) (
 opt.ret _ (Sum.inr (Sum.inl (a.2.2.2.1,())))) (
 opt.ret _ (Sum.inl (a.1,(a.2.1,(a.2.2.1,((p.ar .add .i64 a.2.2.2.1 (1:Int)),()))))))) (
 opt.ret _ (Sum.inr (Sum.inr ()))))
def G116:(p:z0n)→(LD×(Int×Unit))→Option ((Int×Unit)):=
 fun p x=>
 opt.alt ((Int×Unit)) (Unit) _ (
 z6j (b116_1 p) (x.1,(x.2.1,((p.ofNat (p.len x.1)),((0:Int),()))))) (fun a=>
 opt.ret _ (a.1,())) (fun b=>
 opt.bnd (Unit) _ (some b) fun c=>
 opt.ret _ ((-1:Int),()))
def F116:z0n→Tup (ctr116).scs→Option (z6k (z6i (ctr116).outs)):=
 fun p x=>G116 p x
theorem eq116 (p:z0n) (x:Tup (ctr116).scs):z2r opt p (z0r [] Go.Proofs.Tryz.prog) (z6d opt p (z0r [] Go.Proofs.Tryz.prog) 400 (an116) la116) 400 ctr116 x=G116 p x:=by kernel_rfl
theorem gok116:z5q Go.Proofs.Tryz.prog gam116:=fun cf h=>by cases h
theorem enters116:z1m Go.Proofs.Tryz.prog 116:=z0v (b:=_) rfl (by kernel_rfl)
theorem ok116:z27 Go.Proofs.Tryz.prog ctr116 (F116 std):=z0w (z0h z0c) (z1v (z0h z0c) gok116 _) enters116 (fun x=>eq116 std x)
def ctr71:Ctr:=
 ⟨71,[.list 1, .int .i64],[],[(.ret,⟨[(0, .bool)],[],1⟩)]⟩
def la71:List LA:=
 []
def ja71:List JA:=
 []
def gam71:List CF:=
 [⟨ctr116,F116⟩]
def an71:y5o:=
 ⟨gam71,ja71,[]⟩
def G71:(p:z0n)→(LD×(Int×Unit))→Option ((Bool×Unit)):=
 fun p x=>
 opt.bnd ((Int×Unit)) _ (G116 p (x.1,(x.2.1,()))) fun a=>
 opt.ret _ ((p.cmp .geq a.1 (0:Int)),())
def F71:z0n→Tup (ctr71).scs→Option (z6k (z6i (ctr71).outs)):=
 fun p x=>G71 p x
theorem eq71 (p:z0n) (x:Tup (ctr71).scs):z2r opt p (z0r [] Go.Proofs.Tryz.prog) (z6d opt p (z0r [] Go.Proofs.Tryz.prog) 400 (an71) la71) 400 ctr71 x=G71 p x:=by kernel_rfl
theorem gok71:z5q Go.Proofs.Tryz.prog (gam71):=by
 intro cf h
 simp only [gam71,List.mem_cons,List.not_mem_nil,or_false] at h
 rcases h with rfl
 ·exact ok116
theorem enters71:z1m Go.Proofs.Tryz.prog 71:=z0v (b:=_) rfl (by kernel_rfl)
theorem ok71:z27 Go.Proofs.Tryz.prog ctr71 (F71 std):=z0w (z0h z0c) (z1v (z0h z0c) gok71 _) enters71 (fun x=>eq71 std x)
end Go.Am
end
noncomputable section
namespace Go.Am
def ctr117:Ctr:=
 ⟨117,[.list 1],[],[(.ret,⟨[(0, .list 1)],[],1⟩)]⟩
def la117:List LA:=
 []
def ja117:List JA:=
 []
def gam117:List CF:=
 []
def an117:y5o:=
 ⟨gam117,ja117,[]⟩
def G117:(p:z0n)→(LD×Unit)→Option ((LD×Unit)):=
 fun p x=>
 opt.need _ (p.leN 1 (p.len x.1))<|
 opt.ask _ (p.leN (p.add 0 (p.len x.1)) 0) (
 opt.need _ (p.and Bool.true (p.and (p.leN (p.add 0 0) (p.len [])) (p.leN (p.add 0 0) (p.len []))))<|
 opt.need _ (p.leN (p.add 0 (p.add 0 (p.len x.1))) (p.len (p.splice [] (p.add 0 0) x.1)))<|
 opt.ret _ ((p.cut (p.splice [] (p.add 0 0) x.1) 0 (p.add 0 (p.len x.1))),())) (
 opt.need _ (p.and Bool.true (p.and (p.leN (p.add 0 0) (p.len [])) (p.and (p.leN 1 (p.len x.1)) (p.leN (p.add 0 (p.len x.1)) 1000000))))<|
 opt.need _ (p.leN (p.add 0 (p.add 0 (p.len x.1))) (p.len (p.app (p.cut [] 0 0) x.1)))<|
 opt.ret _ ((p.cut (p.app (p.cut [] 0 0) x.1) 0 (p.add 0 (p.len x.1))),()))
def F117:z0n→Tup (ctr117).scs→Option (z6k (z6i (ctr117).outs)):=
 fun p x=>G117 p x
theorem eq117 (p:z0n) (x:Tup (ctr117).scs):z2r opt p (z0r [] Go.Proofs.Tryz.prog) (z6d opt p (z0r [] Go.Proofs.Tryz.prog) 400 (an117) la117) 400 ctr117 x=G117 p x:=by kernel_rfl
theorem gok117:z5q Go.Proofs.Tryz.prog gam117:=fun cf h=>by cases h
theorem enters117:z1m Go.Proofs.Tryz.prog 117:=z0v (b:=_) rfl (by kernel_rfl)
theorem ok117:z27 Go.Proofs.Tryz.prog ctr117 (F117 std):=z0w (z0h z0c) (z1v (z0h z0c) gok117 _) enters117 (fun x=>eq117 std x)
end Go.Am
end
noncomputable section
namespace Go.Am
def ctr72:Ctr:=
 ⟨72,[.agg [.int .u64, .int .u64], .int .i64],[],[(.ret,⟨[(0, .agg [.int .u64, .int .u64])],[],1⟩)]⟩
def la72:List LA:=
 []
def ja72:List JA:=
 []
def gam72:List CF:=
 []
def an72:y5o:=
 ⟨gam72,ja72,[]⟩
def G72:(p:z0n)→(Int×(Int×(Int×Unit)))→Option ((Int×(Int×Unit))):=
 fun p x=>
 opt.need _ (p.cmp .neq (64:Int) (0:Int))<|
 opt.ask _ (p.cmp .eql (p.ar .quo .i64 x.2.2.1 (64:Int)) (0:Int)) (
 opt.need _ (bif (p.cmp .geq (0:Int) (0:Int)) then (p.cmp .lss (0:Int) (p.ofNat 2)) else Bool.false)<|
 opt.need _ (p.cmp .neq (64:Int) (0:Int))<|
 opt.need _ (p.cmp .geq (p.ar .rem .i64 x.2.2.1 (64:Int)) (0:Int))<|
 opt.ask _ (p.cmp .eql (0:Int) (0:Int)) (
 opt.need _ (bif (p.cmp .geq (0:Int) (0:Int)) then (p.cmp .lss (0:Int) (p.ofNat 2)) else Bool.false)<|
 opt.ret _ ((p.ar .or .u64 x.1 (p.ar .shl .u64 (1:Int) (p.ar .rem .i64 x.2.2.1 (64:Int)))),(x.2.1,()))) (
 opt.need _ (p.cmp .eql (0:Int) (1:Int))<|
 opt.need _ (bif (p.cmp .geq (1:Int) (0:Int)) then (p.cmp .lss (1:Int) (p.ofNat 2)) else Bool.false)<|
 opt.ret _ (x.1,((p.ar .or .u64 x.1 (p.ar .shl .u64 (1:Int) (p.ar .rem .i64 x.2.2.1 (64:Int)))),())))) (
 opt.need _ (p.cmp .eql (p.ar .quo .i64 x.2.2.1 (64:Int)) (1:Int))<|
 opt.need _ (bif (p.cmp .geq (1:Int) (0:Int)) then (p.cmp .lss (1:Int) (p.ofNat 2)) else Bool.false)<|
 opt.need _ (p.cmp .neq (64:Int) (0:Int))<|
 opt.need _ (p.cmp .geq (p.ar .rem .i64 x.2.2.1 (64:Int)) (0:Int))<|
 opt.ask _ (p.cmp .eql (1:Int) (0:Int)) (
 opt.need _ (bif (p.cmp .geq (0:Int) (0:Int)) then (p.cmp .lss (0:Int) (p.ofNat 2)) else Bool.false)<|
 opt.ret _ ((p.ar .or .u64 x.2.1 (p.ar .shl .u64 (1:Int) (p.ar .rem .i64 x.2.2.1 (64:Int)))),(x.2.1,()))) (
 opt.need _ (p.cmp .eql (1:Int) (1:Int))<|
 opt.need _ (bif (p.cmp .geq (1:Int) (0:Int)) then (p.cmp .lss (1:Int) (p.ofNat 2)) else Bool.false)<|
 opt.ret _ (x.1,((p.ar .or .u64 x.2.1 (p.ar .shl .u64 (1:Int) (p.ar .rem .i64 x.2.2.1 (64:Int)))),()))))
def F72:z0n→Tup (ctr72).scs→Option (z6k (z6i (ctr72).outs)):=
 fun p x=>G72 p x
theorem eq72 (p:z0n) (x:Tup (ctr72).scs):z2r opt p (z0r [] Go.Proofs.Tryz.prog) (z6d opt p (z0r [] Go.Proofs.Tryz.prog) 400 (an72) la72) 400 ctr72 x=G72 p x:=by kernel_rfl
theorem gok72:z5q Go.Proofs.Tryz.prog gam72:=fun cf h=>by cases h
theorem enters72:z1m Go.Proofs.Tryz.prog 72:=z0v (b:=_) rfl (by kernel_rfl)
theorem ok72:z27 Go.Proofs.Tryz.prog ctr72 (F72 std):=z0w (z0h z0c) (z1v (z0h z0c) gok72 _) enters72 (fun x=>eq72 std x)
def ctr73:Ctr:=
 ⟨73,[.agg [.int .u64, .int .u64], .agg [.int .u64, .int .u64]],[],[(.ret,⟨[(0, .agg [.int .u64, .int .u64])],[],1⟩)]⟩
def la73:List LA:=
 [⟨73,[false,true,false,true],0,⟨⟨[(2, .bptr 0 0),(3, .bptr 1 0),(4, .bptr 2 0),(6, .int .i64)],[.box [.int .u64, .int .u64], .box [.int .u64, .int .u64], .box [.int .u64, .int .u64]],19⟩,[((AX.exit 0),⟨[(2, .bptr 0 0),(4, .bptr 1 0)],[.box [.int .u64, .int .u64], .box [.int .u64, .int .u64]],19⟩)]⟩⟩]
def ja73:List JA:=
 [⟨73,[false,true,true,false,false,true,false,true],0,[(AX.normal,⟨[(2, .bptr 0 0),(3, .bptr 1 0),(4, .bptr 2 0),(6, .int .i64)],[.box [.int .u64, .int .u64], .box [.int .u64, .int .u64], .box [.int .u64, .int .u64]],19⟩)]⟩]
def gam73:List CF:=
 []
def an73:y5o:=
 ⟨gam73,ja73,[]⟩
def b73_1 (p:z0n):(Int×(Int×(Int×(Int×(Int×(Int×(Int×Unit)))))))→Option ((Int×(Int×(Int×(Int×(Int×(Int×(Int×Unit)))))))⊕(Int×(Int×(Int×(Int×Unit))))):=
 fun a=>opt.run _ (
 opt.ask _ (p.cmp .lss a.2.2.2.2.2.2.1 (2:Int)) (
 opt.bnd ((Int×(Int×(Int×(Int×(Int×(Int×(Int×Unit)))))))) _ (
 opt.run ((Int×(Int×(Int×(Int×(Int×(Int×(Int×Unit)))))))) (
 opt.ask _ (p.cmp .eql a.2.2.2.2.2.2.1 (0:Int)) (
 opt.need _ (bif (p.cmp .geq (0:Int) (0:Int)) then (p.cmp .lss (0:Int) (p.ofNat 2)) else Bool.false)<|
 opt.ask _ (p.cmp .eql a.2.2.2.2.2.2.1 (0:Int)) (
 opt.need _ (bif (p.cmp .geq (0:Int) (0:Int)) then (p.cmp .lss (0:Int) (p.ofNat 2)) else Bool.false)<|
 opt.ask _ (p.cmp .eql (0:Int) (0:Int)) (
 opt.need _ (bif (p.cmp .geq (0:Int) (0:Int)) then (p.cmp .lss (0:Int) (p.ofNat 2)) else Bool.false)<|
 opt.ret _ ((p.ar .or .u64 a.1 a.2.2.1),(a.2.1,(a.2.2.1,(a.2.2.2.1,(a.2.2.2.2.1,(a.2.2.2.2.2.1,(a.2.2.2.2.2.2.1,())))))))) (
 opt.need _ (p.cmp .eql (0:Int) (1:Int))<|
 opt.need _ (bif (p.cmp .geq (1:Int) (0:Int)) then (p.cmp .lss (1:Int) (p.ofNat 2)) else Bool.false)<|
 opt.ret _ (a.1,((p.ar .or .u64 a.1 a.2.2.1),(a.2.2.1,(a.2.2.2.1,(a.2.2.2.2.1,(a.2.2.2.2.2.1,(a.2.2.2.2.2.2.1,()))))))))) (
 opt.need _ (p.cmp .eql a.2.2.2.2.2.2.1 (1:Int))<|
 opt.need _ (bif (p.cmp .geq (1:Int) (0:Int)) then (p.cmp .lss (1:Int) (p.ofNat 2)) else Bool.false)<|
 opt.ask _ (p.cmp .eql (0:Int) (0:Int)) (
 opt.need _ (bif (p.cmp .geq (0:Int) (0:Int)) then (p.cmp .lss (0:Int) (p.ofNat 2)) else Bool.false)<|
 opt.ret _ ((p.ar .or .u64 a.1 a.2.2.2.1),(a.2.1,(a.2.2.1,(a.2.2.2.1,(a.2.2.2.2.1,(a.2.2.2.2.2.1,(a.2.2.2.2.2.2.1,())))))))) (
 opt.need _ (p.cmp .eql (0:Int) (1:Int))<|
 opt.need _ (bif (p.cmp .geq (1:Int) (0:Int)) then (p.cmp .lss (1:Int) (p.ofNat 2)) else Bool.false)<|
 opt.ret _ (a.1,((p.ar .or .u64 a.1 a.2.2.2.1),(a.2.2.1,(a.2.2.2.1,(a.2.2.2.2.1,(a.2.2.2.2.2.1,(a.2.2.2.2.2.2.1,())))))))))) (
 opt.need _ (p.cmp .eql a.2.2.2.2.2.2.1 (1:Int))<|
 opt.need _ (bif (p.cmp .geq (1:Int) (0:Int)) then (p.cmp .lss (1:Int) (p.ofNat 2)) else Bool.false)<|
 opt.ask _ (p.cmp .eql a.2.2.2.2.2.2.1 (0:Int)) (
 opt.need _ (bif (p.cmp .geq (0:Int) (0:Int)) then (p.cmp .lss (0:Int) (p.ofNat 2)) else Bool.false)<|
 opt.ask _ (p.cmp .eql (1:Int) (0:Int)) (
 opt.need _ (bif (p.cmp .geq (0:Int) (0:Int)) then (p.cmp .lss (0:Int) (p.ofNat 2)) else Bool.false)<|
 opt.ret _ ((p.ar .or .u64 a.2.1 a.2.2.1),(a.2.1,(a.2.2.1,(a.2.2.2.1,(a.2.2.2.2.1,(a.2.2.2.2.2.1,(a.2.2.2.2.2.2.1,())))))))) (
 opt.need _ (p.cmp .eql (1:Int) (1:Int))<|
 opt.need _ (bif (p.cmp .geq (1:Int) (0:Int)) then (p.cmp .lss (1:Int) (p.ofNat 2)) else Bool.false)<|
 opt.ret _ (a.1,((p.ar .or .u64 a.2.1 a.2.2.1),(a.2.2.1,(a.2.2.2.1,(a.2.2.2.2.1,(a.2.2.2.2.2.1,(a.2.2.2.2.2.2.1,()))))))))) (
 opt.need _ (p.cmp .eql a.2.2.2.2.2.2.1 (1:Int))<|
 opt.need _ (bif (p.cmp .geq (1:Int) (0:Int)) then (p.cmp .lss (1:Int) (p.ofNat 2)) else Bool.false)<|
 opt.ask _ (p.cmp .eql (1:Int) (0:Int)) (
 opt.need _ (bif (p.cmp .geq (0:Int) (0:Int)) then (p.cmp .lss (0:Int) (p.ofNat 2)) else Bool.false)<|
 opt.ret _ ((p.ar .or .u64 a.2.1 a.2.2.2.1),(a.2.1,(a.2.2.1,(a.2.2.2.1,(a.2.2.2.2.1,(a.2.2.2.2.2.1,(a.2.2.2.2.2.2.1,())))))))) (
 opt.need _ (p.cmp .eql (1:Int) (1:Int))<|
 opt.need _ (bif (p.cmp .geq (1:Int) (0:Int)) then (p.cmp .lss (1:Int) (p.ofNat 2)) else Bool.false)<|
 opt.ret _ (a.1,((p.ar .or .u64 a.2.1 a.2.2.2.1),(a.2.2.1,(a.2.2.2.1,(a.2.2.2.2.1,(a.2.2.2.2.2.1,(a.2.2.2.2.2.2.1,())))))))))))) fun b=>
 opt.ret _ (Sum.inl (b.1,(b.2.1,(b.2.2.1,(b.2.2.2.1,(b.2.2.2.2.1,(b.2.2.2.2.2.1,((p.ar .add .i64 b.2.2.2.2.2.2.1 (1:Int)),()))))))))) (
 opt.ret _ (Sum.inr (a.1,(a.2.1,(a.2.2.2.2.1,(a.2.2.2.2.2.1,())))))))
def G73:(p:z0n)→(Int×(Int×(Int×(Int×Unit))))→Option ((Int×(Int×Unit))):=
 fun p x=>
 opt.bnd ((Int×(Int×(Int×(Int×Unit))))) _ (
 z6j (b73_1 p) (x.1,(x.2.1,(x.2.2.1,(x.2.2.2.1,((0:Int),((0:Int),((0:Int),())))))))) fun a=>
 opt.ret _ (a.1,(a.2.1,()))
def F73:z0n→Tup (ctr73).scs→Option (z6k (z6i (ctr73).outs)):=
 fun p x=>G73 p x
theorem eq73 (p:z0n) (x:Tup (ctr73).scs):z2r opt p (z0r [] Go.Proofs.Tryz.prog) (z6d opt p (z0r [] Go.Proofs.Tryz.prog) 400 (an73) la73) 400 ctr73 x=G73 p x:=by kernel_rfl
theorem gok73:z5q Go.Proofs.Tryz.prog gam73:=fun cf h=>by cases h
theorem enters73:z1m Go.Proofs.Tryz.prog 73:=z0v (b:=_) rfl (by kernel_rfl)
theorem ok73:z27 Go.Proofs.Tryz.prog ctr73 (F73 std):=z0w (z0h z0c) (z1v (z0h z0c) gok73 _) enters73 (fun x=>eq73 std x)
def ctr74:Ctr:=
 ⟨74,[.agg [.int .u64, .int .u64], .int .i64],[],[(.ret,⟨[(0, .bool)],[],1⟩)]⟩
def la74:List LA:=
 []
def ja74:List JA:=
 [⟨74,[false,true],0,[(AX.normal,⟨[(4, .bool)],[],14⟩)]⟩]
def gam74:List CF:=
 []
def an74:y5o:=
 ⟨gam74,ja74,[]⟩
def G74:(p:z0n)→(Int×(Int×(Int×Unit)))→Option ((Bool×Unit)):=
 fun p x=>
 opt.bnd ((Bool×Unit)) _ (
 opt.run ((Bool×Unit)) (
 opt.need _ (p.cmp .neq (64:Int) (0:Int))<|
 opt.ask _ (p.cmp .eql (p.ar .quo .i64 x.2.2.1 (64:Int)) (0:Int)) (
 opt.need _ (bif (p.cmp .geq (0:Int) (0:Int)) then (p.cmp .lss (0:Int) (p.ofNat 2)) else Bool.false)<|
 opt.need _ (p.cmp .neq (64:Int) (0:Int))<|
 opt.need _ (p.cmp .geq (p.ar .rem .i64 x.2.2.1 (64:Int)) (0:Int))<|
 opt.ret _ ((p.cmp .eql (p.ar .and .u64 (p.ar .shr .u64 x.1 (p.ar .rem .i64 x.2.2.1 (64:Int))) (1:Int)) (1:Int)),())) (
 opt.need _ (p.cmp .eql (p.ar .quo .i64 x.2.2.1 (64:Int)) (1:Int))<|
 opt.need _ (bif (p.cmp .geq (1:Int) (0:Int)) then (p.cmp .lss (1:Int) (p.ofNat 2)) else Bool.false)<|
 opt.need _ (p.cmp .neq (64:Int) (0:Int))<|
 opt.need _ (p.cmp .geq (p.ar .rem .i64 x.2.2.1 (64:Int)) (0:Int))<|
 opt.ret _ ((p.cmp .eql (p.ar .and .u64 (p.ar .shr .u64 x.2.1 (p.ar .rem .i64 x.2.2.1 (64:Int))) (1:Int)) (1:Int)),())))) fun a=>
 opt.ret _ (a.1,())
def F74:z0n→Tup (ctr74).scs→Option (z6k (z6i (ctr74).outs)):=
 fun p x=>G74 p x
theorem eq74 (p:z0n) (x:Tup (ctr74).scs):z2r opt p (z0r [] Go.Proofs.Tryz.prog) (z6d opt p (z0r [] Go.Proofs.Tryz.prog) 400 (an74) la74) 400 ctr74 x=G74 p x:=by kernel_rfl
theorem gok74:z5q Go.Proofs.Tryz.prog gam74:=fun cf h=>by cases h
theorem enters74:z1m Go.Proofs.Tryz.prog 74:=z0v (b:=_) rfl (by kernel_rfl)
theorem ok74:z27 Go.Proofs.Tryz.prog ctr74 (F74 std):=z0w (z0h z0c) (z1v (z0h z0c) gok74 _) enters74 (fun x=>eq74 std x)
def ctr75:Ctr:=
 ⟨75,[.agg [.int .i64, .int .i64, .list 1, .int .i64]],[],[(.ret,⟨[(0, .agg [.int .i64, .int .i64, .list 1, .int .i64])],[],1⟩)]⟩
def la75:List LA:=
 []
def ja75:List JA:=
 []
def gam75:List CF:=
 [⟨ctr117,F117⟩]
def an75:y5o:=
 ⟨gam75,ja75,[]⟩
def G75:(p:z0n)→(Int×(Int×(LD×(Int×Unit))))→Option ((Int×(Int×(LD×(Int×Unit))))):=
 fun p x=>
 opt.bnd ((LD×Unit)) _ (G117 p (x.2.2.1,())) fun a=>
 opt.ret _ (x.1,(x.2.1,(a.1,(x.2.2.2.1,()))))
def F75:z0n→Tup (ctr75).scs→Option (z6k (z6i (ctr75).outs)):=
 fun p x=>G75 p x
theorem eq75 (p:z0n) (x:Tup (ctr75).scs):z2r opt p (z0r [] Go.Proofs.Tryz.prog) (z6d opt p (z0r [] Go.Proofs.Tryz.prog) 400 (an75) la75) 400 ctr75 x=G75 p x:=by kernel_rfl
theorem gok75:z5q Go.Proofs.Tryz.prog (gam75):=by
 intro cf h
 simp only [gam75,List.mem_cons,List.not_mem_nil,or_false] at h
 rcases h with rfl
 ·exact ok117
theorem enters75:z1m Go.Proofs.Tryz.prog 75:=z0v (b:=_) rfl (by kernel_rfl)
theorem ok75:z27 Go.Proofs.Tryz.prog ctr75 (F75 std):=z0w (z0h z0c) (z1v (z0h z0c) gok75 _) enters75 (fun x=>eq75 std x)
end Go.Am
end
noncomputable section
namespace Go.Am
def ctr66:Ctr:=
 ⟨66,[.list 1],[],[(.ret,⟨[(0, .bptr 0 0)],[.box [.sl 1 4, .map 2, .full 3 2], .row [ci,ci,(CK.list 1),ci], .map, .row [(CK.int .u64),(CK.int .u64)]],1⟩)]⟩
def la66:List LA:=
 [⟨66,[false,true,false,true,true],0,⟨⟨[(0, .list 1),(3, .bptr 0 0),(23, .list 1),(24, .int .i64),(25, .int .i64)],[.box [.sl 2 4, .map 1, .nils], .map, .row [ci,ci,(CK.list 1),ci]],146⟩,[((AX.exit 0),⟨[(0, .list 1),(3, .bptr 0 0)],[.box [.sl 1 4, .map 2, .nils], .row [ci,ci,(CK.list 1),ci], .map],146⟩)]⟩⟩,
 ⟨66,[false,true,true,false,false,true,true,false,false,true,false,true,true],0,⟨⟨[(0, .list 1),(3, .bptr 0 0),(23, .list 1),(24, .int .i64),(25, .int .i64),(29, .list 4),(30, .int .i64),(31, .int .i64)],[.box [.sl 1 4, .map 2, .nils], .row [ci,ci,(CK.list 1),ci], .map],146⟩,[((AX.exit 2),⟨[(0, .list 1),(3, .bptr 0 0),(23, .list 1),(24, .int .i64),(25, .int .i64)],[.box [.sl 1 4, .map 2, .nils], .row [ci,ci,(CK.list 1),ci], .map],146⟩)]⟩⟩,
 ⟨66,[false,true,false,true,true,true,true],0,⟨⟨[(3, .bptr 0 0),(90, .list 1),(91, .int .i64),(92, .int .i64)],[.box [.sl 1 4, .map 2, .full 3 2], .row [ci,ci,(CK.list 1),ci], .map, .row [(CK.int .u64),(CK.int .u64)]],146⟩,[((AX.exit 4),⟨[(3, .bptr 0 0)],[.box [.sl 1 4, .map 2, .full 3 2], .row [ci,ci,(CK.list 1),ci], .map, .row [(CK.int .u64),(CK.int .u64)]],146⟩)]⟩⟩,
 ⟨66,[false,true,true,true,false,false,true,true,false,false,true,false,true,true,true,true],0,⟨⟨[(3, .bptr 0 0),(12, .map 1),(90, .list 1),(91, .int .i64),(92, .int .i64),(97, .list 4),(98, .int .i64),(99, .int .i64)],[.box [.sl 2 4, .map 3, .full 4 2], .map, .row [ci,ci,(CK.list 1),ci], .map, .row [(CK.int .u64),(CK.int .u64)]],146⟩,[((AX.exit 6),⟨[(3, .bptr 0 0),(90, .list 1),(91, .int .i64),(92, .int .i64)],[.box [.sl 1 4, .map 2, .full 3 2], .row [ci,ci,(CK.list 1),ci], .map, .row [(CK.int .u64),(CK.int .u64)]],146⟩)]⟩⟩,
 ⟨66,[false,true,true,true,false,false,true,true,false,false,true,true,true,false,false,true,true,false,false,true,false,true,true,true,true],0,⟨⟨[(3, .bptr 0 0),(12, .map 1),(15, .int .i64),(90, .list 1),(91, .int .i64),(92, .int .i64),(97, .list 4),(98, .int .i64),(99, .int .i64),(111, .list 1),(112, .int .i64),(113, .int .i64)],[.box [.sl 2 4, .map 3, .full 4 2], .map, .row [ci,ci,(CK.list 1),ci], .map, .row [(CK.int .u64),(CK.int .u64)]],146⟩,[((AX.exit 8),⟨[(3, .bptr 0 0),(12, .map 1),(90, .list 1),(91, .int .i64),(92, .int .i64),(97, .list 4),(98, .int .i64),(99, .int .i64)],[.box [.sl 2 4, .map 3, .full 4 2], .map, .row [ci,ci,(CK.list 1),ci], .map, .row [(CK.int .u64),(CK.int .u64)]],146⟩)]⟩⟩]
def ja66:List JA:=
 [⟨66,[false,true,true,false,false,true,true,true,false,false,true,true,false,false,true,false,true,true,true,true],0,[(AX.normal,⟨[(3, .bptr 0 0),(12, .map 1),(90, .list 1),(91, .int .i64),(92, .int .i64),(97, .list 4),(98, .int .i64),(99, .int .i64)],[.box [.sl 2 4, .map 3, .full 4 2], .map, .row [ci,ci,(CK.list 1),ci], .map, .row [(CK.int .u64),(CK.int .u64)]],146⟩)]⟩,
 ⟨66,[false,true,true,false,false,true,true,true,false,false,true,true,false,false,true,true,true,false,false,true,true,false,false,true,false,true,true,true,true],0,[(AX.normal,⟨[(3, .bptr 0 0),(12, .map 1),(15, .int .i64),(90, .list 1),(91, .int .i64),(92, .int .i64),(97, .list 4),(98, .int .i64),(99, .int .i64),(111, .list 1),(112, .int .i64),(113, .int .i64)],[.box [.sl 2 4, .map 3, .full 4 2], .map, .row [ci,ci,(CK.list 1),ci], .map, .row [(CK.int .u64),(CK.int .u64)]],146⟩)]⟩,
 ⟨66,[false,true,true,false,false,true,true,false,false,true,true,false,false,true,false,true,true],0,[(AX.normal,⟨[(0, .list 1),(3, .bptr 0 0),(23, .list 1),(24, .int .i64),(25, .int .i64),(29, .list 4),(30, .int .i64),(31, .int .i64)],[.box [.sl 1 4, .map 2, .nils], .row [ci,ci,(CK.list 1),ci], .map],146⟩)]⟩,
 ⟨66,[true,true,true,false,false,true,true,false,false,true,true,false,false,true,true,false,false,true,false,true,true],0,[(AX.normal,⟨[(0, .list 1),(3, .bptr 0 0),(23, .list 1),(24, .int .i64),(25, .int .i64),(29, .list 4),(30, .int .i64),(31, .int .i64)],[.box [.sl 1 4, .map 2, .nils], .row [ci,ci,(CK.list 1),ci], .map],146⟩)]⟩]
def gam66:List CF:=
 [⟨ctr72,F72⟩]
def an66:y5o:=
 ⟨gam66,ja66,[]⟩
def b66_6 (p:z0n):(List ((D×D))×(LD×(List ((D×D))×(LD×(Nat×(Nat×(Int×(LD×(Int×(Int×(LD×(Int×(Int×(LD×(Int×(Int×Unit))))))))))))))))→Option ((List ((D×D))×(LD×(List ((D×D))×(LD×(Nat×(Nat×(Int×(LD×(Int×(Int×(LD×(Int×(Int×(LD×(Int×(Int×Unit))))))))))))))))⊕(List ((D×D))×(LD×(List ((D×D))×(LD×(Nat×(Nat×(LD×(Int×(Int×(LD×(Int×(Int×Unit))))))))))))):=
 fun a=>opt.run _ (
 opt.ask _ (p.cmp .lss a.2.2.2.2.2.2.2.2.2.2.2.2.2.2.2.1 a.2.2.2.2.2.2.2.2.2.2.2.2.2.2.1) (
 opt.bnd ((List ((D×D))×(LD×(List ((D×D))×(LD×(Nat×(Nat×(Int×(LD×(Int×(Int×(LD×(Int×(Int×(LD×(Int×(Int×Unit))))))))))))))))) _ (
 opt.run ((List ((D×D))×(LD×(List ((D×D))×(LD×(Nat×(Nat×(Int×(LD×(Int×(Int×(LD×(Int×(Int×(LD×(Int×(Int×Unit))))))))))))))))) (
 opt.need _ (p.rowOk a.2.2.2.2.2.2.2.2.2.2.2.2.2.1 (p.nat a.2.2.2.2.2.2.2.2.2.2.2.2.2.2.2.1) [ci])<|
 opt.need _ (p.cmp .geq a.2.2.2.2.2.2.2.2.2.2.2.2.2.2.2.1 (0:Int))<|
 opt.need _ (p.mOk a.1 [SK.i] Bool.false (D.int .i64 (p.rdI a.2.2.2.2.2.2.2.2.2.2.2.2.2.1 (p.nat a.2.2.2.2.2.2.2.2.2.2.2.2.2.2.2.1) 0)) Bool.false [ci])<|
 opt.ask _ (p.mhas a.1 [SK.i] Bool.false (D.int .i64 (p.rdI a.2.2.2.2.2.2.2.2.2.2.2.2.2.1 (p.nat a.2.2.2.2.2.2.2.2.2.2.2.2.2.2.2.1) 0))) (
 opt.need _ (bif (p.cmp .geq a.2.2.2.2.2.2.1 (0:Int)) then (p.cmp .lss a.2.2.2.2.2.2.1 (p.ofNat (p.len a.2.2.2.1))) else Bool.false)<|
 opt.need _ (p.rowOk a.2.2.2.1 (p.add 0 (p.nat a.2.2.2.2.2.2.1)) [(CK.int .u64),(CK.int .u64)])<|
 opt.bnd ((Int×(Int×Unit))) _ (G72 p ((p.rdI a.2.2.2.1 (p.add 0 (p.nat a.2.2.2.2.2.2.1)) 0),((p.rdI a.2.2.2.1 (p.add 0 (p.nat a.2.2.2.2.2.2.1)) 1),((p.mI a.1 [SK.i] Bool.false (D.int .i64 (p.rdI a.2.2.2.2.2.2.2.2.2.2.2.2.2.1 (p.nat a.2.2.2.2.2.2.2.2.2.2.2.2.2.2.2.1) 0)) 0),())))) fun b=>
 opt.need _ (bif (p.cmp .geq a.2.2.2.2.2.2.1 (0:Int)) then (p.cmp .lss a.2.2.2.2.2.2.1 (p.ofNat (p.len a.2.2.2.1))) else Bool.false)<|
 opt.need _ (p.rowOk a.2.2.2.1 (p.add 0 (p.nat a.2.2.2.2.2.2.1)) [(CK.int .u64),(CK.int .u64)])<|
 opt.need _ (p.mOk a.1 [SK.i] Bool.false (D.int .i64 (p.rdI a.2.2.2.2.2.2.2.2.2.2.2.2.2.1 (p.nat a.2.2.2.2.2.2.2.2.2.2.2.2.2.2.2.1) 0)) Bool.false [ci])<|
 opt.ask _ (p.mhas a.1 [SK.i] Bool.false (D.int .i64 (p.rdI a.2.2.2.2.2.2.2.2.2.2.2.2.2.1 (p.nat a.2.2.2.2.2.2.2.2.2.2.2.2.2.2.2.1) 0))) (
 opt.need _ (p.eqN 0 0)<|
 opt.need _ (p.eqN (p.len a.2.2.2.1) (p.len (p.set a.2.2.2.1 (p.add 0 (p.nat a.2.2.2.2.2.2.1)) [(D.int .u64 b.1),(D.int .u64 b.2.1)])))<|
 opt.need _ (p.eqN (p.len a.2.2.2.1) (p.len (p.set a.2.2.2.1 (p.add 0 (p.nat a.2.2.2.2.2.2.1)) [(D.int .u64 b.1),(D.int .u64 b.2.1)])))<|
 opt.ret _ ((p.mset a.1 (p.nat (p.ofNat (p.mpos a.1 [SK.i] Bool.false (D.int .i64 (p.rdI a.2.2.2.2.2.2.2.2.2.2.2.2.2.1 (p.nat a.2.2.2.2.2.2.2.2.2.2.2.2.2.2.2.1) 0))))) (D.int .i64 (p.rdI a.2.2.2.2.2.2.2.2.2.2.2.2.2.1 (p.nat a.2.2.2.2.2.2.2.2.2.2.2.2.2.2.2.1) 0)) (D.int .i64 a.2.2.2.2.2.2.1)),(a.2.1,(a.2.2.1,((p.set a.2.2.2.1 (p.add 0 (p.nat a.2.2.2.2.2.2.1)) [(D.int .u64 b.1),(D.int .u64 b.2.1)]),(a.2.2.2.2.1,(a.2.2.2.2.2.1,(a.2.2.2.2.2.2.1,(a.2.2.2.2.2.2.2.1,(a.2.2.2.2.2.2.2.2.1,(a.2.2.2.2.2.2.2.2.2.1,(a.2.2.2.2.2.2.2.2.2.2.1,(a.2.2.2.2.2.2.2.2.2.2.2.1,(a.2.2.2.2.2.2.2.2.2.2.2.2.1,(a.2.2.2.2.2.2.2.2.2.2.2.2.2.1,(a.2.2.2.2.2.2.2.2.2.2.2.2.2.2.1,(a.2.2.2.2.2.2.2.2.2.2.2.2.2.2.2.1,()))))))))))))))))) (
 opt.need _ (p.eqN 0 0)<|
 opt.need _ (p.eqN (p.len a.2.2.2.1) (p.len (p.set a.2.2.2.1 (p.add 0 (p.nat a.2.2.2.2.2.2.1)) [(D.int .u64 b.1),(D.int .u64 b.2.1)])))<|
 opt.need _ (p.eqN (p.len a.2.2.2.1) (p.len (p.set a.2.2.2.1 (p.add 0 (p.nat a.2.2.2.2.2.2.1)) [(D.int .u64 b.1),(D.int .u64 b.2.1)])))<|
 opt.ret _ ((p.madd a.1 (D.int .i64 (p.rdI a.2.2.2.2.2.2.2.2.2.2.2.2.2.1 (p.nat a.2.2.2.2.2.2.2.2.2.2.2.2.2.2.2.1) 0)) (D.int .i64 a.2.2.2.2.2.2.1)),(a.2.1,(a.2.2.1,((p.set a.2.2.2.1 (p.add 0 (p.nat a.2.2.2.2.2.2.1)) [(D.int .u64 b.1),(D.int .u64 b.2.1)]),(a.2.2.2.2.1,(a.2.2.2.2.2.1,(a.2.2.2.2.2.2.1,(a.2.2.2.2.2.2.2.1,(a.2.2.2.2.2.2.2.2.1,(a.2.2.2.2.2.2.2.2.2.1,(a.2.2.2.2.2.2.2.2.2.2.1,(a.2.2.2.2.2.2.2.2.2.2.2.1,(a.2.2.2.2.2.2.2.2.2.2.2.2.1,(a.2.2.2.2.2.2.2.2.2.2.2.2.2.1,(a.2.2.2.2.2.2.2.2.2.2.2.2.2.2.1,(a.2.2.2.2.2.2.2.2.2.2.2.2.2.2.2.1,())))))))))))))))))) (
 opt.need _ (p.mOk a.1 [SK.i] Bool.false (D.int .i64 (p.rdI a.2.2.2.2.2.2.2.2.2.2.2.2.2.1 (p.nat a.2.2.2.2.2.2.2.2.2.2.2.2.2.2.2.1) 0)) Bool.false [ci])<|
 opt.ask _ (p.mhas a.1 [SK.i] Bool.false (D.int .i64 (p.rdI a.2.2.2.2.2.2.2.2.2.2.2.2.2.1 (p.nat a.2.2.2.2.2.2.2.2.2.2.2.2.2.2.2.1) 0))) (
 opt.need _ (p.eqN 0 0)<|
 opt.need _ (p.eqN (p.len a.2.2.2.1) (p.len a.2.2.2.1))<|
 opt.need _ (p.eqN (p.len a.2.2.2.1) (p.len a.2.2.2.1))<|
 opt.ret _ ((p.mset a.1 (p.nat (p.ofNat (p.mpos a.1 [SK.i] Bool.false (D.int .i64 (p.rdI a.2.2.2.2.2.2.2.2.2.2.2.2.2.1 (p.nat a.2.2.2.2.2.2.2.2.2.2.2.2.2.2.2.1) 0))))) (D.int .i64 (p.rdI a.2.2.2.2.2.2.2.2.2.2.2.2.2.1 (p.nat a.2.2.2.2.2.2.2.2.2.2.2.2.2.2.2.1) 0)) (D.int .i64 a.2.2.2.2.2.2.1)),(a.2.1,(a.2.2.1,(a.2.2.2.1,(a.2.2.2.2.1,(a.2.2.2.2.2.1,(a.2.2.2.2.2.2.1,(a.2.2.2.2.2.2.2.1,(a.2.2.2.2.2.2.2.2.1,(a.2.2.2.2.2.2.2.2.2.1,(a.2.2.2.2.2.2.2.2.2.2.1,(a.2.2.2.2.2.2.2.2.2.2.2.1,(a.2.2.2.2.2.2.2.2.2.2.2.2.1,(a.2.2.2.2.2.2.2.2.2.2.2.2.2.1,(a.2.2.2.2.2.2.2.2.2.2.2.2.2.2.1,(a.2.2.2.2.2.2.2.2.2.2.2.2.2.2.2.1,()))))))))))))))))) (
 opt.need _ (p.eqN 0 0)<|
 opt.need _ (p.eqN (p.len a.2.2.2.1) (p.len a.2.2.2.1))<|
 opt.need _ (p.eqN (p.len a.2.2.2.1) (p.len a.2.2.2.1))<|
 opt.ret _ ((p.madd a.1 (D.int .i64 (p.rdI a.2.2.2.2.2.2.2.2.2.2.2.2.2.1 (p.nat a.2.2.2.2.2.2.2.2.2.2.2.2.2.2.2.1) 0)) (D.int .i64 a.2.2.2.2.2.2.1)),(a.2.1,(a.2.2.1,(a.2.2.2.1,(a.2.2.2.2.1,(a.2.2.2.2.2.1,(a.2.2.2.2.2.2.1,(a.2.2.2.2.2.2.2.1,(a.2.2.2.2.2.2.2.2.1,(a.2.2.2.2.2.2.2.2.2.1,(a.2.2.2.2.2.2.2.2.2.2.1,(a.2.2.2.2.2.2.2.2.2.2.2.1,(a.2.2.2.2.2.2.2.2.2.2.2.2.1,(a.2.2.2.2.2.2.2.2.2.2.2.2.2.1,(a.2.2.2.2.2.2.2.2.2.2.2.2.2.2.1,(a.2.2.2.2.2.2.2.2.2.2.2.2.2.2.2.1,())))))))))))))))))))) fun c=>
 opt.need _ (p.eqN 0 0)<|
 opt.need _ (p.eqN (p.len c.2.2.2.1) (p.len c.2.2.2.1))<|
 opt.need _ (p.eqN (p.len c.2.2.2.1) (p.len c.2.2.2.1))<|
 opt.ret _ (Sum.inl (c.1,(c.2.1,(c.2.2.1,(c.2.2.2.1,(c.2.2.2.2.1,(c.2.2.2.2.2.1,(c.2.2.2.2.2.2.1,(c.2.2.2.2.2.2.2.1,(c.2.2.2.2.2.2.2.2.1,(c.2.2.2.2.2.2.2.2.2.1,(c.2.2.2.2.2.2.2.2.2.2.1,(c.2.2.2.2.2.2.2.2.2.2.2.1,(c.2.2.2.2.2.2.2.2.2.2.2.2.1,(c.2.2.2.2.2.2.2.2.2.2.2.2.2.1,(c.2.2.2.2.2.2.2.2.2.2.2.2.2.2.1,((p.ar .add .i64 c.2.2.2.2.2.2.2.2.2.2.2.2.2.2.2.1 (1:Int)),())))))))))))))))))) (
 opt.need _ (p.eqN 0 0)<|
 opt.need _ (p.eqN (p.len a.2.2.2.1) (p.len a.2.2.2.1))<|
 opt.need _ (p.eqN (p.len a.2.2.2.1) (p.len a.2.2.2.1))<|
 opt.ret _ (Sum.inr (a.1,(a.2.1,(a.2.2.1,(a.2.2.2.1,(a.2.2.2.2.1,(a.2.2.2.2.2.1,(a.2.2.2.2.2.2.2.1,(a.2.2.2.2.2.2.2.2.1,(a.2.2.2.2.2.2.2.2.2.1,(a.2.2.2.2.2.2.2.2.2.2.1,(a.2.2.2.2.2.2.2.2.2.2.2.1,(a.2.2.2.2.2.2.2.2.2.2.2.2.1,())))))))))))))))
def b66_5 (p:z0n):(List ((D×D))×(LD×(List ((D×D))×(LD×(Nat×(Nat×(Int×(LD×(Int×(Int×(LD×(Int×(Int×(LD×(Int×(Int×Unit))))))))))))))))→Option ((List ((D×D))×(LD×(List ((D×D))×(LD×(Nat×(Nat×(Int×(LD×(Int×(Int×(LD×(Int×(Int×(LD×(Int×(Int×Unit))))))))))))))))⊕(List ((D×D))×(LD×(List ((D×D))×(LD×(Nat×(Nat×(LD×(Int×(Int×(LD×(Int×(Int×Unit))))))))))))):=
 fun a=>opt.run _ (
 opt.ask _ (p.cmp .lss a.2.2.2.2.2.2.2.2.2.2.2.2.2.2.2.1 a.2.2.2.2.2.2.2.2.2.2.2.2.2.2.1) (
 opt.bnd ((List ((D×D))×(LD×(List ((D×D))×(LD×(Nat×(Nat×(Int×(LD×(Int×(Int×(LD×(Int×(Int×(LD×(Int×(Int×Unit))))))))))))))))) _ (
 opt.run ((List ((D×D))×(LD×(List ((D×D))×(LD×(Nat×(Nat×(Int×(LD×(Int×(Int×(LD×(Int×(Int×(LD×(Int×(Int×Unit))))))))))))))))) (
 opt.need _ (p.rowOk a.2.2.2.2.2.2.2.2.2.2.2.2.2.1 (p.nat a.2.2.2.2.2.2.2.2.2.2.2.2.2.2.2.1) [ci])<|
 opt.need _ (p.cmp .geq a.2.2.2.2.2.2.2.2.2.2.2.2.2.2.2.1 (0:Int))<|
 opt.need _ (p.mOk a.1 [SK.i] Bool.false (D.int .i64 (p.rdI a.2.2.2.2.2.2.2.2.2.2.2.2.2.1 (p.nat a.2.2.2.2.2.2.2.2.2.2.2.2.2.2.2.1) 0)) Bool.false [ci])<|
 opt.ask _ (p.mhas a.1 [SK.i] Bool.false (D.int .i64 (p.rdI a.2.2.2.2.2.2.2.2.2.2.2.2.2.1 (p.nat a.2.2.2.2.2.2.2.2.2.2.2.2.2.2.2.1) 0))) (
 opt.need _ (bif (p.cmp .geq a.2.2.2.2.2.2.1 (0:Int)) then (p.cmp .lss a.2.2.2.2.2.2.1 (p.ofNat (p.len a.2.2.2.1))) else Bool.false)<|
 opt.need _ (p.rowOk a.2.2.2.1 (p.add 0 (p.nat a.2.2.2.2.2.2.1)) [(CK.int .u64),(CK.int .u64)])<|
 opt.bnd ((Int×(Int×Unit))) _ (G72 p ((p.rdI a.2.2.2.1 (p.add 0 (p.nat a.2.2.2.2.2.2.1)) 0),((p.rdI a.2.2.2.1 (p.add 0 (p.nat a.2.2.2.2.2.2.1)) 1),((p.mI a.1 [SK.i] Bool.false (D.int .i64 (p.rdI a.2.2.2.2.2.2.2.2.2.2.2.2.2.1 (p.nat a.2.2.2.2.2.2.2.2.2.2.2.2.2.2.2.1) 0)) 0),())))) fun b=>
 opt.need _ (bif (p.cmp .geq a.2.2.2.2.2.2.1 (0:Int)) then (p.cmp .lss a.2.2.2.2.2.2.1 (p.ofNat (p.len a.2.2.2.1))) else Bool.false)<|
 opt.need _ (p.rowOk a.2.2.2.1 (p.add 0 (p.nat a.2.2.2.2.2.2.1)) [(CK.int .u64),(CK.int .u64)])<|
 opt.need _ (p.mOk a.1 [SK.i] Bool.false (D.int .i64 (p.rdI a.2.2.2.2.2.2.2.2.2.2.2.2.2.1 (p.nat a.2.2.2.2.2.2.2.2.2.2.2.2.2.2.2.1) 0)) Bool.false [ci])<|
 opt.ask _ (p.mhas a.1 [SK.i] Bool.false (D.int .i64 (p.rdI a.2.2.2.2.2.2.2.2.2.2.2.2.2.1 (p.nat a.2.2.2.2.2.2.2.2.2.2.2.2.2.2.2.1) 0))) (
 opt.need _ (p.eqN 0 0)<|
 opt.need _ (p.eqN (p.len a.2.2.2.1) (p.len (p.set a.2.2.2.1 (p.add 0 (p.nat a.2.2.2.2.2.2.1)) [(D.int .u64 b.1),(D.int .u64 b.2.1)])))<|
 opt.need _ (p.eqN (p.len a.2.2.2.1) (p.len (p.set a.2.2.2.1 (p.add 0 (p.nat a.2.2.2.2.2.2.1)) [(D.int .u64 b.1),(D.int .u64 b.2.1)])))<|
 opt.ret _ ((p.mset a.1 (p.nat (p.ofNat (p.mpos a.1 [SK.i] Bool.false (D.int .i64 (p.rdI a.2.2.2.2.2.2.2.2.2.2.2.2.2.1 (p.nat a.2.2.2.2.2.2.2.2.2.2.2.2.2.2.2.1) 0))))) (D.int .i64 (p.rdI a.2.2.2.2.2.2.2.2.2.2.2.2.2.1 (p.nat a.2.2.2.2.2.2.2.2.2.2.2.2.2.2.2.1) 0)) (D.int .i64 a.2.2.2.2.2.2.1)),(a.2.1,(a.2.2.1,((p.set a.2.2.2.1 (p.add 0 (p.nat a.2.2.2.2.2.2.1)) [(D.int .u64 b.1),(D.int .u64 b.2.1)]),(a.2.2.2.2.1,(a.2.2.2.2.2.1,(a.2.2.2.2.2.2.1,(a.2.2.2.2.2.2.2.1,(a.2.2.2.2.2.2.2.2.1,(a.2.2.2.2.2.2.2.2.2.1,(a.2.2.2.2.2.2.2.2.2.2.1,(a.2.2.2.2.2.2.2.2.2.2.2.1,(a.2.2.2.2.2.2.2.2.2.2.2.2.1,(a.2.2.2.2.2.2.2.2.2.2.2.2.2.1,(a.2.2.2.2.2.2.2.2.2.2.2.2.2.2.1,(a.2.2.2.2.2.2.2.2.2.2.2.2.2.2.2.1,()))))))))))))))))) (
 opt.need _ (p.eqN 0 0)<|
 opt.need _ (p.eqN (p.len a.2.2.2.1) (p.len (p.set a.2.2.2.1 (p.add 0 (p.nat a.2.2.2.2.2.2.1)) [(D.int .u64 b.1),(D.int .u64 b.2.1)])))<|
 opt.need _ (p.eqN (p.len a.2.2.2.1) (p.len (p.set a.2.2.2.1 (p.add 0 (p.nat a.2.2.2.2.2.2.1)) [(D.int .u64 b.1),(D.int .u64 b.2.1)])))<|
 opt.ret _ ((p.madd a.1 (D.int .i64 (p.rdI a.2.2.2.2.2.2.2.2.2.2.2.2.2.1 (p.nat a.2.2.2.2.2.2.2.2.2.2.2.2.2.2.2.1) 0)) (D.int .i64 a.2.2.2.2.2.2.1)),(a.2.1,(a.2.2.1,((p.set a.2.2.2.1 (p.add 0 (p.nat a.2.2.2.2.2.2.1)) [(D.int .u64 b.1),(D.int .u64 b.2.1)]),(a.2.2.2.2.1,(a.2.2.2.2.2.1,(a.2.2.2.2.2.2.1,(a.2.2.2.2.2.2.2.1,(a.2.2.2.2.2.2.2.2.1,(a.2.2.2.2.2.2.2.2.2.1,(a.2.2.2.2.2.2.2.2.2.2.1,(a.2.2.2.2.2.2.2.2.2.2.2.1,(a.2.2.2.2.2.2.2.2.2.2.2.2.1,(a.2.2.2.2.2.2.2.2.2.2.2.2.2.1,(a.2.2.2.2.2.2.2.2.2.2.2.2.2.2.1,(a.2.2.2.2.2.2.2.2.2.2.2.2.2.2.2.1,())))))))))))))))))) (
 opt.need _ (p.mOk a.1 [SK.i] Bool.false (D.int .i64 (p.rdI a.2.2.2.2.2.2.2.2.2.2.2.2.2.1 (p.nat a.2.2.2.2.2.2.2.2.2.2.2.2.2.2.2.1) 0)) Bool.false [ci])<|
 opt.ask _ (p.mhas a.1 [SK.i] Bool.false (D.int .i64 (p.rdI a.2.2.2.2.2.2.2.2.2.2.2.2.2.1 (p.nat a.2.2.2.2.2.2.2.2.2.2.2.2.2.2.2.1) 0))) (
 opt.need _ (p.eqN 0 0)<|
 opt.need _ (p.eqN (p.len a.2.2.2.1) (p.len a.2.2.2.1))<|
 opt.need _ (p.eqN (p.len a.2.2.2.1) (p.len a.2.2.2.1))<|
 opt.ret _ ((p.mset a.1 (p.nat (p.ofNat (p.mpos a.1 [SK.i] Bool.false (D.int .i64 (p.rdI a.2.2.2.2.2.2.2.2.2.2.2.2.2.1 (p.nat a.2.2.2.2.2.2.2.2.2.2.2.2.2.2.2.1) 0))))) (D.int .i64 (p.rdI a.2.2.2.2.2.2.2.2.2.2.2.2.2.1 (p.nat a.2.2.2.2.2.2.2.2.2.2.2.2.2.2.2.1) 0)) (D.int .i64 a.2.2.2.2.2.2.1)),(a.2.1,(a.2.2.1,(a.2.2.2.1,(a.2.2.2.2.1,(a.2.2.2.2.2.1,(a.2.2.2.2.2.2.1,(a.2.2.2.2.2.2.2.1,(a.2.2.2.2.2.2.2.2.1,(a.2.2.2.2.2.2.2.2.2.1,(a.2.2.2.2.2.2.2.2.2.2.1,(a.2.2.2.2.2.2.2.2.2.2.2.1,(a.2.2.2.2.2.2.2.2.2.2.2.2.1,(a.2.2.2.2.2.2.2.2.2.2.2.2.2.1,(a.2.2.2.2.2.2.2.2.2.2.2.2.2.2.1,(a.2.2.2.2.2.2.2.2.2.2.2.2.2.2.2.1,()))))))))))))))))) (
 opt.need _ (p.eqN 0 0)<|
 opt.need _ (p.eqN (p.len a.2.2.2.1) (p.len a.2.2.2.1))<|
 opt.need _ (p.eqN (p.len a.2.2.2.1) (p.len a.2.2.2.1))<|
 opt.ret _ ((p.madd a.1 (D.int .i64 (p.rdI a.2.2.2.2.2.2.2.2.2.2.2.2.2.1 (p.nat a.2.2.2.2.2.2.2.2.2.2.2.2.2.2.2.1) 0)) (D.int .i64 a.2.2.2.2.2.2.1)),(a.2.1,(a.2.2.1,(a.2.2.2.1,(a.2.2.2.2.1,(a.2.2.2.2.2.1,(a.2.2.2.2.2.2.1,(a.2.2.2.2.2.2.2.1,(a.2.2.2.2.2.2.2.2.1,(a.2.2.2.2.2.2.2.2.2.1,(a.2.2.2.2.2.2.2.2.2.2.1,(a.2.2.2.2.2.2.2.2.2.2.2.1,(a.2.2.2.2.2.2.2.2.2.2.2.2.1,(a.2.2.2.2.2.2.2.2.2.2.2.2.2.1,(a.2.2.2.2.2.2.2.2.2.2.2.2.2.2.1,(a.2.2.2.2.2.2.2.2.2.2.2.2.2.2.2.1,())))))))))))))))))))) fun c=>
 opt.need _ (p.eqN 0 0)<|
 opt.need _ (p.eqN (p.len c.2.2.2.1) (p.len c.2.2.2.1))<|
 opt.need _ (p.eqN (p.len c.2.2.2.1) (p.len c.2.2.2.1))<|
 opt.ret _ (Sum.inl (c.1,(c.2.1,(c.2.2.1,(c.2.2.2.1,(c.2.2.2.2.1,(c.2.2.2.2.2.1,(c.2.2.2.2.2.2.1,(c.2.2.2.2.2.2.2.1,(c.2.2.2.2.2.2.2.2.1,(c.2.2.2.2.2.2.2.2.2.1,(c.2.2.2.2.2.2.2.2.2.2.1,(c.2.2.2.2.2.2.2.2.2.2.2.1,(c.2.2.2.2.2.2.2.2.2.2.2.2.1,(c.2.2.2.2.2.2.2.2.2.2.2.2.2.1,(c.2.2.2.2.2.2.2.2.2.2.2.2.2.2.1,((p.ar .add .i64 c.2.2.2.2.2.2.2.2.2.2.2.2.2.2.2.1 (1:Int)),())))))))))))))))))) (
 opt.need _ (p.eqN 0 0)<|
 opt.need _ (p.eqN (p.len a.2.2.2.1) (p.len a.2.2.2.1))<|
 opt.need _ (p.eqN (p.len a.2.2.2.1) (p.len a.2.2.2.1))<|
 opt.ret _ (Sum.inr (a.1,(a.2.1,(a.2.2.1,(a.2.2.2.1,(a.2.2.2.2.1,(a.2.2.2.2.2.1,(a.2.2.2.2.2.2.2.1,(a.2.2.2.2.2.2.2.2.1,(a.2.2.2.2.2.2.2.2.2.1,(a.2.2.2.2.2.2.2.2.2.2.1,(a.2.2.2.2.2.2.2.2.2.2.2.1,(a.2.2.2.2.2.2.2.2.2.2.2.2.1,())))))))))))))))
def b66_4 (p:z0n):(List ((D×D))×(LD×(List ((D×D))×(LD×(Nat×(Nat×(LD×(Int×(Int×(LD×(Int×(Int×Unit))))))))))))→Option ((List ((D×D))×(LD×(List ((D×D))×(LD×(Nat×(Nat×(LD×(Int×(Int×(LD×(Int×(Int×Unit))))))))))))⊕(LD×(List ((D×D))×(LD×(Nat×(Nat×(LD×(Int×(Int×Unit))))))))):=
 fun a=>opt.run _ (
 opt.ask _ (p.cmp .lss a.2.2.2.2.2.2.2.2.2.2.2.1 a.2.2.2.2.2.2.2.2.2.2.1) (
 opt.bnd ((List ((D×D))×(LD×(List ((D×D))×(LD×(Nat×(Nat×(LD×(Int×(Int×(LD×(Int×(Int×Unit))))))))))))) _ (
 opt.run ((List ((D×D))×(LD×(List ((D×D))×(LD×(Nat×(Nat×(LD×(Int×(Int×(LD×(Int×(Int×Unit))))))))))))) (
 opt.need _ (p.rowOk a.2.2.2.2.2.2.2.2.2.1 (p.nat a.2.2.2.2.2.2.2.2.2.2.2.1) [ci,ci,(CK.list 1),ci])<|
 opt.need _ (p.cmp .geq a.2.2.2.2.2.2.2.2.2.2.2.1 (0:Int))<|
 opt.need _ (p.mOk a.2.2.1 [SK.i] Bool.false (D.int .i64 (p.rdI a.2.2.2.2.2.2.2.2.2.1 (p.nat a.2.2.2.2.2.2.2.2.2.2.2.1) 0)) Bool.false [ci])<|
 opt.ask _ (p.mhas a.2.2.1 [SK.i] Bool.false (D.int .i64 (p.rdI a.2.2.2.2.2.2.2.2.2.1 (p.nat a.2.2.2.2.2.2.2.2.2.2.2.1) 0))) (
 opt.need _ (p.eqN 0 0)<|
 opt.need _ (p.eqN (p.len a.2.2.2.1) (p.len a.2.2.2.1))<|
 opt.need _ (p.eqN (p.len a.2.2.2.1) (p.len a.2.2.2.1))<|
 opt.bnd ((List ((D×D))×(LD×(List ((D×D))×(LD×(Nat×(Nat×(LD×(Int×(Int×(LD×(Int×(Int×Unit))))))))))))) _ (
 z6j (b66_5 p) (a.1,(a.2.1,(a.2.2.1,(a.2.2.2.1,(a.2.2.2.2.1,(a.2.2.2.2.2.1,((p.mI a.2.2.1 [SK.i] Bool.false (D.int .i64 (p.rdI a.2.2.2.2.2.2.2.2.2.1 (p.nat a.2.2.2.2.2.2.2.2.2.2.2.1) 0)) 0),(a.2.2.2.2.2.2.1,(a.2.2.2.2.2.2.2.1,(a.2.2.2.2.2.2.2.2.1,(a.2.2.2.2.2.2.2.2.2.1,(a.2.2.2.2.2.2.2.2.2.2.1,(a.2.2.2.2.2.2.2.2.2.2.2.1,((p.rdL a.2.2.2.2.2.2.2.2.2.1 (p.nat a.2.2.2.2.2.2.2.2.2.2.2.1) 2),((p.ofNat (p.len (p.rdL a.2.2.2.2.2.2.2.2.2.1 (p.nat a.2.2.2.2.2.2.2.2.2.2.2.1) 2))),((0:Int),()))))))))))))))))) fun b=>
 opt.need _ (p.eqN 0 0)<|
 opt.need _ (p.eqN (p.len b.2.2.2.1) (p.len b.2.2.2.1))<|
 opt.need _ (p.eqN (p.len b.2.2.2.1) (p.len b.2.2.2.1))<|
 opt.ret _ (b.1,(b.2.1,(b.2.2.1,(b.2.2.2.1,(b.2.2.2.2.1,(b.2.2.2.2.2.1,(b.2.2.2.2.2.2.1,(b.2.2.2.2.2.2.2.1,(b.2.2.2.2.2.2.2.2.1,(b.2.2.2.2.2.2.2.2.2.1,(b.2.2.2.2.2.2.2.2.2.2.1,(b.2.2.2.2.2.2.2.2.2.2.2.1,()))))))))))))) (
 opt.need _ (p.eqN 0 0)<|
 opt.need _ (p.eqN (p.len a.2.2.2.1) (p.len a.2.2.2.1))<|
 opt.need _ (p.eqN (p.len a.2.2.2.1) (p.len a.2.2.2.1))<|
 opt.bnd ((List ((D×D))×(LD×(List ((D×D))×(LD×(Nat×(Nat×(LD×(Int×(Int×(LD×(Int×(Int×Unit))))))))))))) _ (
 z6j (b66_6 p) (a.1,(a.2.1,(a.2.2.1,(a.2.2.2.1,(a.2.2.2.2.1,(a.2.2.2.2.2.1,((0:Int),(a.2.2.2.2.2.2.1,(a.2.2.2.2.2.2.2.1,(a.2.2.2.2.2.2.2.2.1,(a.2.2.2.2.2.2.2.2.2.1,(a.2.2.2.2.2.2.2.2.2.2.1,(a.2.2.2.2.2.2.2.2.2.2.2.1,((p.rdL a.2.2.2.2.2.2.2.2.2.1 (p.nat a.2.2.2.2.2.2.2.2.2.2.2.1) 2),((p.ofNat (p.len (p.rdL a.2.2.2.2.2.2.2.2.2.1 (p.nat a.2.2.2.2.2.2.2.2.2.2.2.1) 2))),((0:Int),()))))))))))))))))) fun c=>
 opt.need _ (p.eqN 0 0)<|
 opt.need _ (p.eqN (p.len c.2.2.2.1) (p.len c.2.2.2.1))<|
 opt.need _ (p.eqN (p.len c.2.2.2.1) (p.len c.2.2.2.1))<|
 opt.ret _ (c.1,(c.2.1,(c.2.2.1,(c.2.2.2.1,(c.2.2.2.2.1,(c.2.2.2.2.2.1,(c.2.2.2.2.2.2.1,(c.2.2.2.2.2.2.2.1,(c.2.2.2.2.2.2.2.2.1,(c.2.2.2.2.2.2.2.2.2.1,(c.2.2.2.2.2.2.2.2.2.2.1,(c.2.2.2.2.2.2.2.2.2.2.2.1,()))))))))))))))) fun d=>
 opt.need _ (p.eqN 0 0)<|
 opt.need _ (p.eqN (p.len d.2.2.2.1) (p.len d.2.2.2.1))<|
 opt.need _ (p.eqN (p.len d.2.2.2.1) (p.len d.2.2.2.1))<|
 opt.ret _ (Sum.inl (d.1,(d.2.1,(d.2.2.1,(d.2.2.2.1,(d.2.2.2.2.1,(d.2.2.2.2.2.1,(d.2.2.2.2.2.2.1,(d.2.2.2.2.2.2.2.1,(d.2.2.2.2.2.2.2.2.1,(d.2.2.2.2.2.2.2.2.2.1,(d.2.2.2.2.2.2.2.2.2.2.1,((p.ar .add .i64 d.2.2.2.2.2.2.2.2.2.2.2.1 (1:Int)),())))))))))))))) (
 opt.need _ (p.eqN 0 0)<|
 opt.need _ (p.eqN (p.len a.2.2.2.1) (p.len a.2.2.2.1))<|
 opt.need _ (p.eqN (p.len a.2.2.2.1) (p.len a.2.2.2.1))<|
 opt.ret _ (Sum.inr (a.2.1,(a.2.2.1,(a.2.2.2.1,(a.2.2.2.2.1,(a.2.2.2.2.2.1,(a.2.2.2.2.2.2.1,(a.2.2.2.2.2.2.2.1,(a.2.2.2.2.2.2.2.2.1,())))))))))))
def b66_3 (p:z0n):(LD×(List ((D×D))×(LD×(Nat×(Nat×(LD×(Int×(Int×Unit))))))))→Option ((LD×(List ((D×D))×(LD×(Nat×(Nat×(LD×(Int×(Int×Unit))))))))⊕(LD×(List ((D×D))×(LD×(Nat×(Nat×Unit)))))):=
 fun a=>opt.run _ (
 opt.ask _ (p.cmp .lss a.2.2.2.2.2.2.2.1 a.2.2.2.2.2.2.1) (
 opt.need _ (p.rowOk a.2.2.2.2.2.1 (p.nat a.2.2.2.2.2.2.2.1) [(CK.list 4)])<|
 opt.need _ (p.cmp .geq a.2.2.2.2.2.2.2.1 (0:Int))<|
 opt.need _ (p.eqN 0 0)<|
 opt.need _ (p.eqN (p.len a.2.2.1) (p.len a.2.2.1))<|
 opt.need _ (p.eqN (p.len a.2.2.1) (p.len a.2.2.1))<|
 opt.bnd ((LD×(List ((D×D))×(LD×(Nat×(Nat×(LD×(Int×(Int×Unit))))))))) _ (
 z6j (b66_4 p) ([],(a.1,(a.2.1,(a.2.2.1,(a.2.2.2.1,(a.2.2.2.2.1,(a.2.2.2.2.2.1,(a.2.2.2.2.2.2.1,(a.2.2.2.2.2.2.2.1,((p.rdL a.2.2.2.2.2.1 (p.nat a.2.2.2.2.2.2.2.1) 0),((p.ofNat (p.len (p.rdL a.2.2.2.2.2.1 (p.nat a.2.2.2.2.2.2.2.1) 0))),((0:Int),()))))))))))))) fun b=>
 opt.need _ (p.eqN 0 0)<|
 opt.need _ (p.eqN (p.len b.2.2.1) (p.len b.2.2.1))<|
 opt.need _ (p.eqN (p.len b.2.2.1) (p.len b.2.2.1))<|
 opt.ret _ (Sum.inl (b.1,(b.2.1,(b.2.2.1,(b.2.2.2.1,(b.2.2.2.2.1,(b.2.2.2.2.2.1,(b.2.2.2.2.2.2.1,((p.ar .add .i64 b.2.2.2.2.2.2.2.1 (1:Int)),())))))))))) (
 opt.need _ (p.eqN 0 0)<|
 opt.need _ (p.eqN (p.len a.2.2.1) (p.len a.2.2.1))<|
 opt.need _ (p.eqN (p.len a.2.2.1) (p.len a.2.2.1))<|
 opt.ret _ (Sum.inr (a.1,(a.2.1,(a.2.2.1,(a.2.2.2.1,(a.2.2.2.2.1,()))))))))
def b66_2 (p:z0n):(LD×(List ((D×D))×(Nat×(Nat×(LD×(LD×(Int×(Int×(LD×(Int×(Int×Unit)))))))))))→Option ((LD×(List ((D×D))×(Nat×(Nat×(LD×(LD×(Int×(Int×(LD×(Int×(Int×Unit)))))))))))⊕(LD×(List ((D×D))×(Nat×(Nat×(LD×(LD×(Int×(Int×Unit))))))))):=
 fun a=>opt.run _ (
 opt.ask _ (p.cmp .lss a.2.2.2.2.2.2.2.2.2.2.1 a.2.2.2.2.2.2.2.2.2.1) (
 opt.bnd ((LD×(List ((D×D))×(Nat×(Nat×(LD×(LD×(Int×(Int×(LD×(Int×(Int×Unit)))))))))))) _ (
 opt.run ((LD×(List ((D×D))×(Nat×(Nat×(LD×(LD×(Int×(Int×(LD×(Int×(Int×Unit)))))))))))) (
 opt.need _ (p.rowOk a.2.2.2.2.2.2.2.2.1 (p.nat a.2.2.2.2.2.2.2.2.2.2.1) [ci,ci,(CK.list 1),ci])<|
 opt.need _ (p.cmp .geq a.2.2.2.2.2.2.2.2.2.2.1 (0:Int))<|
 opt.need _ (p.mOk a.2.1 [SK.i] Bool.false (D.int .i64 (p.rdI a.2.2.2.2.2.2.2.2.1 (p.nat a.2.2.2.2.2.2.2.2.2.2.1) 0)) Bool.false [ci])<|
 opt.ask _ (p.mhas a.2.1 [SK.i] Bool.false (D.int .i64 (p.rdI a.2.2.2.2.2.2.2.2.1 (p.nat a.2.2.2.2.2.2.2.2.2.2.1) 0))) (
 opt.bnd ((LD×(List ((D×D))×(Nat×(Nat×(LD×(LD×(Int×(Int×(LD×(Int×(Int×Unit)))))))))))) _ (
 opt.run ((LD×(List ((D×D))×(Nat×(Nat×(LD×(LD×(Int×(Int×(LD×(Int×(Int×Unit)))))))))))) (
 opt.ret _ (a.1,(a.2.1,(a.2.2.1,(a.2.2.2.1,(a.2.2.2.2.1,(a.2.2.2.2.2.1,(a.2.2.2.2.2.2.1,(a.2.2.2.2.2.2.2.1,(a.2.2.2.2.2.2.2.2.1,(a.2.2.2.2.2.2.2.2.2.1,(a.2.2.2.2.2.2.2.2.2.2.1,()))))))))))))) fun b=>
 opt.ret _ (b.1,(b.2.1,(b.2.2.1,(b.2.2.2.1,(b.2.2.2.2.1,(b.2.2.2.2.2.1,(b.2.2.2.2.2.2.1,(b.2.2.2.2.2.2.2.1,(b.2.2.2.2.2.2.2.2.1,(b.2.2.2.2.2.2.2.2.2.1,(b.2.2.2.2.2.2.2.2.2.2.1,())))))))))))) (
 opt.bnd ((LD×(List ((D×D))×(Nat×(Nat×(LD×(LD×(Int×(Int×(LD×(Int×(Int×Unit)))))))))))) _ (
 opt.run ((LD×(List ((D×D))×(Nat×(Nat×(LD×(LD×(Int×(Int×(LD×(Int×(Int×Unit)))))))))))) (
 opt.need _ (p.mOk a.2.1 [SK.i] Bool.false (D.int .i64 (p.rdI a.2.2.2.2.2.2.2.2.1 (p.nat a.2.2.2.2.2.2.2.2.2.2.1) 0)) Bool.false [ci])<|
 opt.ask _ (p.mhas a.2.1 [SK.i] Bool.false (D.int .i64 (p.rdI a.2.2.2.2.2.2.2.2.1 (p.nat a.2.2.2.2.2.2.2.2.2.2.1) 0))) (
 opt.need _ (p.and (p.cmp .geq (0:Int) (0:Int)) (p.and (p.cmp .leq (0:Int) (p.ofNat a.2.2.2.1)) (p.and (p.cmp .leq (p.ofNat a.2.2.2.1) (p.ofNat a.2.2.2.1)) (p.cmp .leq (p.ofNat a.2.2.2.1) (p.ofNat a.2.2.2.1)))))<|
 opt.ask _ (p.leN (p.add (p.sub (p.nat (p.ofNat a.2.2.2.1)) (p.nat (0:Int))) 1) (p.sub (p.nat (p.ofNat a.2.2.2.1)) (p.nat (0:Int)))) (
 opt.need _ (p.and (p.leN (p.add 0 1) (p.len [[(D.int .i64 (p.rdI a.2.2.2.2.2.2.2.2.1 (p.nat a.2.2.2.2.2.2.2.2.2.2.1) 0)),(D.int .i64 (p.rdI a.2.2.2.2.2.2.2.2.1 (p.nat a.2.2.2.2.2.2.2.2.2.2.1) 1)),(D.list (p.rdF a.2.2.2.2.2.2.2.2.1 (p.nat a.2.2.2.2.2.2.2.2.2.2.1) 2 1) 1 (p.rdL a.2.2.2.2.2.2.2.2.1 (p.nat a.2.2.2.2.2.2.2.2.2.2.1) 2)),(D.int .i64 (p.rdI a.2.2.2.2.2.2.2.2.1 (p.nat a.2.2.2.2.2.2.2.2.2.2.1) 3))]])) (p.and (p.leN (p.add (p.add a.2.2.1 (p.nat (0:Int))) (p.sub (p.nat (p.ofNat a.2.2.2.1)) (p.nat (0:Int)))) (p.len a.1)) (p.and (p.leN 1 1) (p.leN (p.add (p.add a.2.2.1 (p.nat (0:Int))) (p.sub (p.nat (p.ofNat a.2.2.2.1)) (p.nat (0:Int)))) (p.len a.1)))))<|
 opt.need _ (p.leN (p.add (p.add a.2.2.1 (p.nat (0:Int))) (p.sub (p.nat (p.ofNat a.2.2.2.1)) (p.nat (0:Int)))) (p.len (p.splice a.1 (p.add (p.add a.2.2.1 (p.nat (0:Int))) (p.sub (p.nat (p.ofNat a.2.2.2.1)) (p.nat (0:Int)))) (p.cut [[(D.int .i64 (p.rdI a.2.2.2.2.2.2.2.2.1 (p.nat a.2.2.2.2.2.2.2.2.2.2.1) 0)),(D.int .i64 (p.rdI a.2.2.2.2.2.2.2.2.1 (p.nat a.2.2.2.2.2.2.2.2.2.2.1) 1)),(D.list (p.rdF a.2.2.2.2.2.2.2.2.1 (p.nat a.2.2.2.2.2.2.2.2.2.2.1) 2 1) 1 (p.rdL a.2.2.2.2.2.2.2.2.1 (p.nat a.2.2.2.2.2.2.2.2.2.2.1) 2)),(D.int .i64 (p.rdI a.2.2.2.2.2.2.2.2.1 (p.nat a.2.2.2.2.2.2.2.2.2.2.1) 3))]] 0 1))))<|
 opt.ret _ ((p.splice a.1 (p.add (p.add a.2.2.1 (p.nat (0:Int))) (p.sub (p.nat (p.ofNat a.2.2.2.1)) (p.nat (0:Int)))) (p.cut [[(D.int .i64 (p.rdI a.2.2.2.2.2.2.2.2.1 (p.nat a.2.2.2.2.2.2.2.2.2.2.1) 0)),(D.int .i64 (p.rdI a.2.2.2.2.2.2.2.2.1 (p.nat a.2.2.2.2.2.2.2.2.2.2.1) 1)),(D.list (p.rdF a.2.2.2.2.2.2.2.2.1 (p.nat a.2.2.2.2.2.2.2.2.2.2.1) 2 1) 1 (p.rdL a.2.2.2.2.2.2.2.2.1 (p.nat a.2.2.2.2.2.2.2.2.2.2.1) 2)),(D.int .i64 (p.rdI a.2.2.2.2.2.2.2.2.1 (p.nat a.2.2.2.2.2.2.2.2.2.2.1) 3))]] 0 1)),((p.mset a.2.1 (p.nat (p.ofNat (p.mpos a.2.1 [SK.i] Bool.false (D.int .i64 (p.rdI a.2.2.2.2.2.2.2.2.1 (p.nat a.2.2.2.2.2.2.2.2.2.2.1) 0))))) (D.int .i64 (p.rdI a.2.2.2.2.2.2.2.2.1 (p.nat a.2.2.2.2.2.2.2.2.2.2.1) 0)) (D.int .i64 (p.ofNat a.2.2.2.1))),((p.add a.2.2.1 (p.nat (0:Int))),((p.add (p.sub (p.nat (p.ofNat a.2.2.2.1)) (p.nat (0:Int))) 1),(a.2.2.2.2.1,(a.2.2.2.2.2.1,(a.2.2.2.2.2.2.1,(a.2.2.2.2.2.2.2.1,(a.2.2.2.2.2.2.2.2.1,(a.2.2.2.2.2.2.2.2.2.1,(a.2.2.2.2.2.2.2.2.2.2.1,())))))))))))) (
 opt.need _ (p.and (p.leN (p.add 0 1) (p.len [[(D.int .i64 (p.rdI a.2.2.2.2.2.2.2.2.1 (p.nat a.2.2.2.2.2.2.2.2.2.2.1) 0)),(D.int .i64 (p.rdI a.2.2.2.2.2.2.2.2.1 (p.nat a.2.2.2.2.2.2.2.2.2.2.1) 1)),(D.list (p.rdF a.2.2.2.2.2.2.2.2.1 (p.nat a.2.2.2.2.2.2.2.2.2.2.1) 2 1) 1 (p.rdL a.2.2.2.2.2.2.2.2.1 (p.nat a.2.2.2.2.2.2.2.2.2.2.1) 2)),(D.int .i64 (p.rdI a.2.2.2.2.2.2.2.2.1 (p.nat a.2.2.2.2.2.2.2.2.2.2.1) 3))]])) (p.and (p.leN (p.add (p.add a.2.2.1 (p.nat (0:Int))) (p.sub (p.nat (p.ofNat a.2.2.2.1)) (p.nat (0:Int)))) (p.len a.1)) (p.and (p.leN 1 1) (p.leN (p.add (p.sub (p.nat (p.ofNat a.2.2.2.1)) (p.nat (0:Int))) 1) 1000000))))<|
 opt.ret _ ((p.app (p.cut a.1 (p.add a.2.2.1 (p.nat (0:Int))) (p.sub (p.nat (p.ofNat a.2.2.2.1)) (p.nat (0:Int)))) (p.cut [[(D.int .i64 (p.rdI a.2.2.2.2.2.2.2.2.1 (p.nat a.2.2.2.2.2.2.2.2.2.2.1) 0)),(D.int .i64 (p.rdI a.2.2.2.2.2.2.2.2.1 (p.nat a.2.2.2.2.2.2.2.2.2.2.1) 1)),(D.list (p.rdF a.2.2.2.2.2.2.2.2.1 (p.nat a.2.2.2.2.2.2.2.2.2.2.1) 2 1) 1 (p.rdL a.2.2.2.2.2.2.2.2.1 (p.nat a.2.2.2.2.2.2.2.2.2.2.1) 2)),(D.int .i64 (p.rdI a.2.2.2.2.2.2.2.2.1 (p.nat a.2.2.2.2.2.2.2.2.2.2.1) 3))]] 0 1)),((p.mset a.2.1 (p.nat (p.ofNat (p.mpos a.2.1 [SK.i] Bool.false (D.int .i64 (p.rdI a.2.2.2.2.2.2.2.2.1 (p.nat a.2.2.2.2.2.2.2.2.2.2.1) 0))))) (D.int .i64 (p.rdI a.2.2.2.2.2.2.2.2.1 (p.nat a.2.2.2.2.2.2.2.2.2.2.1) 0)) (D.int .i64 (p.ofNat a.2.2.2.1))),(0,((p.add (p.sub (p.nat (p.ofNat a.2.2.2.1)) (p.nat (0:Int))) 1),(a.2.2.2.2.1,(a.2.2.2.2.2.1,(a.2.2.2.2.2.2.1,(a.2.2.2.2.2.2.2.1,(a.2.2.2.2.2.2.2.2.1,(a.2.2.2.2.2.2.2.2.2.1,(a.2.2.2.2.2.2.2.2.2.2.1,()))))))))))))) (
 opt.need _ (p.and (p.cmp .geq (0:Int) (0:Int)) (p.and (p.cmp .leq (0:Int) (p.ofNat a.2.2.2.1)) (p.and (p.cmp .leq (p.ofNat a.2.2.2.1) (p.ofNat a.2.2.2.1)) (p.cmp .leq (p.ofNat a.2.2.2.1) (p.ofNat a.2.2.2.1)))))<|
 opt.ask _ (p.leN (p.add (p.sub (p.nat (p.ofNat a.2.2.2.1)) (p.nat (0:Int))) 1) (p.sub (p.nat (p.ofNat a.2.2.2.1)) (p.nat (0:Int)))) (
 opt.need _ (p.and (p.leN (p.add 0 1) (p.len [[(D.int .i64 (p.rdI a.2.2.2.2.2.2.2.2.1 (p.nat a.2.2.2.2.2.2.2.2.2.2.1) 0)),(D.int .i64 (p.rdI a.2.2.2.2.2.2.2.2.1 (p.nat a.2.2.2.2.2.2.2.2.2.2.1) 1)),(D.list (p.rdF a.2.2.2.2.2.2.2.2.1 (p.nat a.2.2.2.2.2.2.2.2.2.2.1) 2 1) 1 (p.rdL a.2.2.2.2.2.2.2.2.1 (p.nat a.2.2.2.2.2.2.2.2.2.2.1) 2)),(D.int .i64 (p.rdI a.2.2.2.2.2.2.2.2.1 (p.nat a.2.2.2.2.2.2.2.2.2.2.1) 3))]])) (p.and (p.leN (p.add (p.add a.2.2.1 (p.nat (0:Int))) (p.sub (p.nat (p.ofNat a.2.2.2.1)) (p.nat (0:Int)))) (p.len a.1)) (p.and (p.leN 1 1) (p.leN (p.add (p.add a.2.2.1 (p.nat (0:Int))) (p.sub (p.nat (p.ofNat a.2.2.2.1)) (p.nat (0:Int)))) (p.len a.1)))))<|
 opt.need _ (p.leN (p.add (p.add a.2.2.1 (p.nat (0:Int))) (p.sub (p.nat (p.ofNat a.2.2.2.1)) (p.nat (0:Int)))) (p.len (p.splice a.1 (p.add (p.add a.2.2.1 (p.nat (0:Int))) (p.sub (p.nat (p.ofNat a.2.2.2.1)) (p.nat (0:Int)))) (p.cut [[(D.int .i64 (p.rdI a.2.2.2.2.2.2.2.2.1 (p.nat a.2.2.2.2.2.2.2.2.2.2.1) 0)),(D.int .i64 (p.rdI a.2.2.2.2.2.2.2.2.1 (p.nat a.2.2.2.2.2.2.2.2.2.2.1) 1)),(D.list (p.rdF a.2.2.2.2.2.2.2.2.1 (p.nat a.2.2.2.2.2.2.2.2.2.2.1) 2 1) 1 (p.rdL a.2.2.2.2.2.2.2.2.1 (p.nat a.2.2.2.2.2.2.2.2.2.2.1) 2)),(D.int .i64 (p.rdI a.2.2.2.2.2.2.2.2.1 (p.nat a.2.2.2.2.2.2.2.2.2.2.1) 3))]] 0 1))))<|
 opt.ret _ ((p.splice a.1 (p.add (p.add a.2.2.1 (p.nat (0:Int))) (p.sub (p.nat (p.ofNat a.2.2.2.1)) (p.nat (0:Int)))) (p.cut [[(D.int .i64 (p.rdI a.2.2.2.2.2.2.2.2.1 (p.nat a.2.2.2.2.2.2.2.2.2.2.1) 0)),(D.int .i64 (p.rdI a.2.2.2.2.2.2.2.2.1 (p.nat a.2.2.2.2.2.2.2.2.2.2.1) 1)),(D.list (p.rdF a.2.2.2.2.2.2.2.2.1 (p.nat a.2.2.2.2.2.2.2.2.2.2.1) 2 1) 1 (p.rdL a.2.2.2.2.2.2.2.2.1 (p.nat a.2.2.2.2.2.2.2.2.2.2.1) 2)),(D.int .i64 (p.rdI a.2.2.2.2.2.2.2.2.1 (p.nat a.2.2.2.2.2.2.2.2.2.2.1) 3))]] 0 1)),((p.madd a.2.1 (D.int .i64 (p.rdI a.2.2.2.2.2.2.2.2.1 (p.nat a.2.2.2.2.2.2.2.2.2.2.1) 0)) (D.int .i64 (p.ofNat a.2.2.2.1))),((p.add a.2.2.1 (p.nat (0:Int))),((p.add (p.sub (p.nat (p.ofNat a.2.2.2.1)) (p.nat (0:Int))) 1),(a.2.2.2.2.1,(a.2.2.2.2.2.1,(a.2.2.2.2.2.2.1,(a.2.2.2.2.2.2.2.1,(a.2.2.2.2.2.2.2.2.1,(a.2.2.2.2.2.2.2.2.2.1,(a.2.2.2.2.2.2.2.2.2.2.1,())))))))))))) (
 opt.need _ (p.and (p.leN (p.add 0 1) (p.len [[(D.int .i64 (p.rdI a.2.2.2.2.2.2.2.2.1 (p.nat a.2.2.2.2.2.2.2.2.2.2.1) 0)),(D.int .i64 (p.rdI a.2.2.2.2.2.2.2.2.1 (p.nat a.2.2.2.2.2.2.2.2.2.2.1) 1)),(D.list (p.rdF a.2.2.2.2.2.2.2.2.1 (p.nat a.2.2.2.2.2.2.2.2.2.2.1) 2 1) 1 (p.rdL a.2.2.2.2.2.2.2.2.1 (p.nat a.2.2.2.2.2.2.2.2.2.2.1) 2)),(D.int .i64 (p.rdI a.2.2.2.2.2.2.2.2.1 (p.nat a.2.2.2.2.2.2.2.2.2.2.1) 3))]])) (p.and (p.leN (p.add (p.add a.2.2.1 (p.nat (0:Int))) (p.sub (p.nat (p.ofNat a.2.2.2.1)) (p.nat (0:Int)))) (p.len a.1)) (p.and (p.leN 1 1) (p.leN (p.add (p.sub (p.nat (p.ofNat a.2.2.2.1)) (p.nat (0:Int))) 1) 1000000))))<|
 opt.ret _ ((p.app (p.cut a.1 (p.add a.2.2.1 (p.nat (0:Int))) (p.sub (p.nat (p.ofNat a.2.2.2.1)) (p.nat (0:Int)))) (p.cut [[(D.int .i64 (p.rdI a.2.2.2.2.2.2.2.2.1 (p.nat a.2.2.2.2.2.2.2.2.2.2.1) 0)),(D.int .i64 (p.rdI a.2.2.2.2.2.2.2.2.1 (p.nat a.2.2.2.2.2.2.2.2.2.2.1) 1)),(D.list (p.rdF a.2.2.2.2.2.2.2.2.1 (p.nat a.2.2.2.2.2.2.2.2.2.2.1) 2 1) 1 (p.rdL a.2.2.2.2.2.2.2.2.1 (p.nat a.2.2.2.2.2.2.2.2.2.2.1) 2)),(D.int .i64 (p.rdI a.2.2.2.2.2.2.2.2.1 (p.nat a.2.2.2.2.2.2.2.2.2.2.1) 3))]] 0 1)),((p.madd a.2.1 (D.int .i64 (p.rdI a.2.2.2.2.2.2.2.2.1 (p.nat a.2.2.2.2.2.2.2.2.2.2.1) 0)) (D.int .i64 (p.ofNat a.2.2.2.1))),(0,((p.add (p.sub (p.nat (p.ofNat a.2.2.2.1)) (p.nat (0:Int))) 1),(a.2.2.2.2.1,(a.2.2.2.2.2.1,(a.2.2.2.2.2.2.1,(a.2.2.2.2.2.2.2.1,(a.2.2.2.2.2.2.2.2.1,(a.2.2.2.2.2.2.2.2.2.1,(a.2.2.2.2.2.2.2.2.2.2.1,()))))))))))))))) fun c=>
 opt.ret _ (c.1,(c.2.1,(c.2.2.1,(c.2.2.2.1,(c.2.2.2.2.1,(c.2.2.2.2.2.1,(c.2.2.2.2.2.2.1,(c.2.2.2.2.2.2.2.1,(c.2.2.2.2.2.2.2.2.1,(c.2.2.2.2.2.2.2.2.2.1,(c.2.2.2.2.2.2.2.2.2.2.1,())))))))))))))) fun d=>
 opt.ret _ (Sum.inl (d.1,(d.2.1,(d.2.2.1,(d.2.2.2.1,(d.2.2.2.2.1,(d.2.2.2.2.2.1,(d.2.2.2.2.2.2.1,(d.2.2.2.2.2.2.2.1,(d.2.2.2.2.2.2.2.2.1,(d.2.2.2.2.2.2.2.2.2.1,((p.ar .add .i64 d.2.2.2.2.2.2.2.2.2.2.1 (1:Int)),()))))))))))))) (
 opt.ret _ (Sum.inr (a.1,(a.2.1,(a.2.2.1,(a.2.2.2.1,(a.2.2.2.2.1,(a.2.2.2.2.2.1,(a.2.2.2.2.2.2.1,(a.2.2.2.2.2.2.2.1,())))))))))))
def b66_1 (p:z0n):(List ((D×D))×(LD×(Nat×(Nat×(LD×(LD×(Int×(Int×Unit))))))))→Option ((List ((D×D))×(LD×(Nat×(Nat×(LD×(LD×(Int×(Int×Unit))))))))⊕(LD×(List ((D×D))×(Nat×(Nat×(LD×Unit)))))):=
 fun a=>opt.run _ (
 opt.ask _ (p.cmp .lss a.2.2.2.2.2.2.2.1 a.2.2.2.2.2.2.1) (
 opt.need _ (p.rowOk a.2.2.2.2.2.1 (p.nat a.2.2.2.2.2.2.2.1) [(CK.list 4)])<|
 opt.need _ (p.cmp .geq a.2.2.2.2.2.2.2.1 (0:Int))<|
 opt.bnd ((LD×(List ((D×D))×(Nat×(Nat×(LD×(LD×(Int×(Int×Unit))))))))) _ (
 z6j (b66_2 p) (a.2.1,(a.1,(a.2.2.1,(a.2.2.2.1,(a.2.2.2.2.1,(a.2.2.2.2.2.1,(a.2.2.2.2.2.2.1,(a.2.2.2.2.2.2.2.1,((p.rdL a.2.2.2.2.2.1 (p.nat a.2.2.2.2.2.2.2.1) 0),((p.ofNat (p.len (p.rdL a.2.2.2.2.2.1 (p.nat a.2.2.2.2.2.2.2.1) 0))),((0:Int),())))))))))))) fun b=>
 opt.ret _ (Sum.inl (b.2.1,(b.1,(b.2.2.1,(b.2.2.2.1,(b.2.2.2.2.1,(b.2.2.2.2.2.1,(b.2.2.2.2.2.2.1,((p.ar .add .i64 b.2.2.2.2.2.2.2.1 (1:Int)),())))))))))) (
 opt.ret _ (Sum.inr (a.2.1,(a.1,(a.2.2.1,(a.2.2.2.1,(a.2.2.2.2.1,()))))))))
def G66:(p:z0n)→(LD×Unit)→Option ((LD×(List ((D×D))×(LD×(Nat×(Nat×Unit)))))):=
 fun p x=>
 opt.bnd ((LD×(List ((D×D))×(Nat×(Nat×(LD×Unit)))))) _ (
 z6j (b66_1 p) ([],([],(0,(0,(x.1,(x.1,((p.ofNat (p.len x.1)),((0:Int),()))))))))) fun a=>
 opt.need _ (p.and (p.cmp .geq (p.ofNat a.2.2.2.1) (0:Int)) (p.and (p.cmp .leq (p.ofNat a.2.2.2.1) (p.ofNat a.2.2.2.1)) (p.cmp .leq (p.ofNat a.2.2.2.1) (1000000:Int))))<|
 opt.need _ (p.eqN 0 0)<|
 opt.need _ (p.eqN (p.nat (p.ofNat a.2.2.2.1)) (p.len (p.rep (p.nat (p.ofNat a.2.2.2.1)) [(D.int .u64 (0:Int)),(D.int .u64 (0:Int))])))<|
 opt.need _ (p.eqN (p.nat (p.ofNat a.2.2.2.1)) (p.len (p.rep (p.nat (p.ofNat a.2.2.2.1)) [(D.int .u64 (0:Int)),(D.int .u64 (0:Int))])))<|
 opt.bnd ((LD×(List ((D×D))×(LD×(Nat×(Nat×Unit)))))) _ (
 z6j (b66_3 p) (a.1,(a.2.1,((p.rep (p.nat (p.ofNat a.2.2.2.1)) [(D.int .u64 (0:Int)),(D.int .u64 (0:Int))]),(a.2.2.1,(a.2.2.2.1,(a.2.2.2.2.1,((p.ofNat (p.len a.2.2.2.2.1)),((0:Int),()))))))))) fun b=>
 opt.need _ (p.eqN 0 0)<|
 opt.need _ (p.eqN (p.len b.2.2.1) (p.len b.2.2.1))<|
 opt.need _ (p.eqN (p.len b.2.2.1) (p.len b.2.2.1))<|
 opt.ret _ (b.1,(b.2.1,(b.2.2.1,(b.2.2.2.1,(b.2.2.2.2.1,())))))
def F66:z0n→Tup (ctr66).scs→Option (z6k (z6i (ctr66).outs)):=
 fun p x=>G66 p x
theorem eq66 (p:z0n) (x:Tup (ctr66).scs):z2r opt p (z0r [] Go.Proofs.Tryz.prog) (z6d opt p (z0r [] Go.Proofs.Tryz.prog) 400 (an66) la66) 400 ctr66 x=G66 p x:=by kernel_rfl
theorem gok66:z5q Go.Proofs.Tryz.prog (gam66):=by
 intro cf h
 simp only [gam66,List.mem_cons,List.not_mem_nil,or_false] at h
 rcases h with rfl
 ·exact ok72
theorem enters66:z1m Go.Proofs.Tryz.prog 66:=z0v (b:=_) rfl (by kernel_rfl)
theorem ok66:z27 Go.Proofs.Tryz.prog ctr66 (F66 std):=z0w (z0h z0c) (z1v (z0h z0c) gok66 _) enters66 (fun x=>eq66 std x)
end Go.Am
end
noncomputable section
namespace Go.Am
def ctr70:Ctr:=
 ⟨70,[.bptr 0 0],[.box [.sl 1 4, .map 2, .full 3 2], .row [ci,ci,(CK.list 1),ci], .map, .row [(CK.int .u64),(CK.int .u64)]],[(.ret,⟨[(0, .tuple [])],[.box [.sl 1 4, .map 2, .full 3 2], .row [ci,ci,(CK.list 1),ci], .map, .row [(CK.int .u64),(CK.int .u64)]],1⟩)]⟩
def la70:List LA:=
 [⟨70,[false,true],4,⟨⟨[(0, .bptr 0 0),(8, .int .i64),(9, .int .i64)],[.box [.sl 1 4, .map 2, .full 3 2], .row [ci,ci,(CK.list 1),ci], .map, .row [(CK.int .u64),(CK.int .u64)]],52⟩,[((AX.exit 0),⟨[],[.box [.sl 1 4, .map 2, .full 3 2], .row [ci,ci,(CK.list 1),ci], .map, .row [(CK.int .u64),(CK.int .u64)]],52⟩)]⟩⟩,
 ⟨70,[false,true,true,false,false,true,true,false,false,true],4,⟨⟨[(0, .bptr 0 0),(2, .int .i64),(8, .int .i64),(9, .int .i64),(16, .int .i64),(17, .int .i64)],[.box [.sl 1 4, .map 2, .full 3 2], .row [ci,ci,(CK.list 1),ci], .map, .row [(CK.int .u64),(CK.int .u64)]],52⟩,[((AX.exit 2),⟨[(0, .bptr 0 0),(8, .int .i64),(9, .int .i64)],[.box [.sl 1 4, .map 2, .full 3 2], .row [ci,ci,(CK.list 1),ci], .map, .row [(CK.int .u64),(CK.int .u64)]],52⟩)]⟩⟩]
def ja70:List JA:=
 [⟨70,[true,true,false,false,true,true,false,false,true,true,false,false,true,true,false,false,true],4,[(AX.normal,⟨[(0, .bptr 0 0),(2, .int .i64),(8, .int .i64),(9, .int .i64),(16, .int .i64),(17, .int .i64)],[.box [.sl 1 4, .map 2, .full 3 2], .row [ci,ci,(CK.list 1),ci], .map, .row [(CK.int .u64),(CK.int .u64)]],52⟩)]⟩]
def gam70:List CF:=
 [⟨ctr73,F73⟩,⟨ctr74,F74⟩]
def an70:y5o:=
 ⟨gam70,ja70,[]⟩
def b70_2 (p:z0n):(LD×(List ((D×D))×(LD×(Nat×(Nat×(Int×(Int×(Int×(Int×(Int×Unit))))))))))→Option ((LD×(List ((D×D))×(LD×(Nat×(Nat×(Int×(Int×(Int×(Int×(Int×Unit))))))))))⊕(LD×(List ((D×D))×(LD×(Nat×(Nat×(Int×(Int×Unit)))))))):=
 fun a=>opt.run _ (
 opt.ask _ (p.cmp .lss a.2.2.2.2.2.2.2.2.2.1 a.2.2.2.2.2.2.2.2.1) (
 opt.need _ (bif (p.cmp .geq a.2.2.2.2.2.2.2.2.2.1 (0:Int)) then (p.cmp .lss a.2.2.2.2.2.2.2.2.2.1 (p.ofNat (p.len a.2.2.1))) else Bool.false)<|
 opt.need _ (p.rowOk a.2.2.1 (p.add 0 (p.nat a.2.2.2.2.2.2.2.2.2.1)) [(CK.int .u64),(CK.int .u64)])<|
 opt.bnd ((Bool×Unit)) _ (G74 p ((p.rdI a.2.2.1 (p.add 0 (p.nat a.2.2.2.2.2.2.2.2.2.1)) 0),((p.rdI a.2.2.1 (p.add 0 (p.nat a.2.2.2.2.2.2.2.2.2.1)) 1),(a.2.2.2.2.2.1,())))) fun b=>
 opt.bnd ((LD×(List ((D×D))×(LD×(Nat×(Nat×(Int×(Int×(Int×(Int×(Int×Unit))))))))))) _ (
 opt.run ((LD×(List ((D×D))×(LD×(Nat×(Nat×(Int×(Int×(Int×(Int×(Int×Unit))))))))))) (
 opt.ask _ b.1 (
 opt.need _ (bif (p.cmp .geq a.2.2.2.2.2.2.2.2.2.1 (0:Int)) then (p.cmp .lss a.2.2.2.2.2.2.2.2.2.1 (p.ofNat (p.len a.2.2.1))) else Bool.false)<|
 opt.need _ (p.rowOk a.2.2.1 (p.add 0 (p.nat a.2.2.2.2.2.2.2.2.2.1)) [(CK.int .u64),(CK.int .u64)])<|
 opt.need _ (bif (p.cmp .geq a.2.2.2.2.2.1 (0:Int)) then (p.cmp .lss a.2.2.2.2.2.1 (p.ofNat (p.len a.2.2.1))) else Bool.false)<|
 opt.need _ (p.rowOk a.2.2.1 (p.add 0 (p.nat a.2.2.2.2.2.1)) [(CK.int .u64),(CK.int .u64)])<|
 opt.bnd ((Int×(Int×Unit))) _ (G73 p ((p.rdI a.2.2.1 (p.add 0 (p.nat a.2.2.2.2.2.2.2.2.2.1)) 0),((p.rdI a.2.2.1 (p.add 0 (p.nat a.2.2.2.2.2.2.2.2.2.1)) 1),((p.rdI a.2.2.1 (p.add 0 (p.nat a.2.2.2.2.2.1)) 0),((p.rdI a.2.2.1 (p.add 0 (p.nat a.2.2.2.2.2.1)) 1),()))))) fun c=>
 opt.need _ (bif (p.cmp .geq a.2.2.2.2.2.2.2.2.2.1 (0:Int)) then (p.cmp .lss a.2.2.2.2.2.2.2.2.2.1 (p.ofNat (p.len a.2.2.1))) else Bool.false)<|
 opt.need _ (p.rowOk a.2.2.1 (p.add 0 (p.nat a.2.2.2.2.2.2.2.2.2.1)) [(CK.int .u64),(CK.int .u64)])<|
 opt.need _ (p.eqN 0 0)<|
 opt.need _ (p.eqN (p.len a.2.2.1) (p.len (p.set a.2.2.1 (p.add 0 (p.nat a.2.2.2.2.2.2.2.2.2.1)) [(D.int .u64 c.1),(D.int .u64 c.2.1)])))<|
 opt.need _ (p.eqN (p.len a.2.2.1) (p.len (p.set a.2.2.1 (p.add 0 (p.nat a.2.2.2.2.2.2.2.2.2.1)) [(D.int .u64 c.1),(D.int .u64 c.2.1)])))<|
 opt.ret _ (a.1,(a.2.1,((p.set a.2.2.1 (p.add 0 (p.nat a.2.2.2.2.2.2.2.2.2.1)) [(D.int .u64 c.1),(D.int .u64 c.2.1)]),(a.2.2.2.1,(a.2.2.2.2.1,(a.2.2.2.2.2.1,(a.2.2.2.2.2.2.1,(a.2.2.2.2.2.2.2.1,(a.2.2.2.2.2.2.2.2.1,(a.2.2.2.2.2.2.2.2.2.1,()))))))))))) (
 opt.need _ (p.eqN 0 0)<|
 opt.need _ (p.eqN (p.len a.2.2.1) (p.len a.2.2.1))<|
 opt.need _ (p.eqN (p.len a.2.2.1) (p.len a.2.2.1))<|
 opt.ret _ (a.1,(a.2.1,(a.2.2.1,(a.2.2.2.1,(a.2.2.2.2.1,(a.2.2.2.2.2.1,(a.2.2.2.2.2.2.1,(a.2.2.2.2.2.2.2.1,(a.2.2.2.2.2.2.2.2.1,(a.2.2.2.2.2.2.2.2.2.1,()))))))))))))) fun d=>
 opt.need _ (p.eqN 0 0)<|
 opt.need _ (p.eqN (p.len d.2.2.1) (p.len d.2.2.1))<|
 opt.need _ (p.eqN (p.len d.2.2.1) (p.len d.2.2.1))<|
 opt.ret _ (Sum.inl (d.1,(d.2.1,(d.2.2.1,(d.2.2.2.1,(d.2.2.2.2.1,(d.2.2.2.2.2.1,(d.2.2.2.2.2.2.1,(d.2.2.2.2.2.2.2.1,(d.2.2.2.2.2.2.2.2.1,((p.ar .add .i64 d.2.2.2.2.2.2.2.2.2.1 (1:Int)),())))))))))))) (
 opt.need _ (p.eqN 0 0)<|
 opt.need _ (p.eqN (p.len a.2.2.1) (p.len a.2.2.1))<|
 opt.need _ (p.eqN (p.len a.2.2.1) (p.len a.2.2.1))<|
 opt.ret _ (Sum.inr (a.1,(a.2.1,(a.2.2.1,(a.2.2.2.1,(a.2.2.2.2.1,(a.2.2.2.2.2.2.1,(a.2.2.2.2.2.2.2.1,()))))))))))
def b70_1 (p:z0n):(LD×(List ((D×D))×(LD×(Nat×(Nat×(Int×(Int×Unit)))))))→Option ((LD×(List ((D×D))×(LD×(Nat×(Nat×(Int×(Int×Unit)))))))⊕(LD×(List ((D×D))×(LD×(Nat×(Nat×Unit)))))):=
 fun a=>opt.run _ (
 opt.ask _ (p.cmp .lss a.2.2.2.2.2.2.1 a.2.2.2.2.2.1) (
 opt.need _ (p.eqN 0 0)<|
 opt.need _ (p.eqN (p.len a.2.2.1) (p.len a.2.2.1))<|
 opt.need _ (p.eqN (p.len a.2.2.1) (p.len a.2.2.1))<|
 opt.bnd ((LD×(List ((D×D))×(LD×(Nat×(Nat×(Int×(Int×Unit)))))))) _ (
 z6j (b70_2 p) (a.1,(a.2.1,(a.2.2.1,(a.2.2.2.1,(a.2.2.2.2.1,(a.2.2.2.2.2.2.1,(a.2.2.2.2.2.1,(a.2.2.2.2.2.2.1,((p.ofNat a.2.2.2.2.1),((0:Int),()))))))))))) fun b=>
 opt.need _ (p.eqN 0 0)<|
 opt.need _ (p.eqN (p.len b.2.2.1) (p.len b.2.2.1))<|
 opt.need _ (p.eqN (p.len b.2.2.1) (p.len b.2.2.1))<|
 opt.ret _ (Sum.inl (b.1,(b.2.1,(b.2.2.1,(b.2.2.2.1,(b.2.2.2.2.1,(b.2.2.2.2.2.1,((p.ar .add .i64 b.2.2.2.2.2.2.1 (1:Int)),()))))))))) (
 opt.need _ (p.eqN 0 0)<|
 opt.need _ (p.eqN (p.len a.2.2.1) (p.len a.2.2.1))<|
 opt.need _ (p.eqN (p.len a.2.2.1) (p.len a.2.2.1))<|
 opt.ret _ (Sum.inr (a.1,(a.2.1,(a.2.2.1,(a.2.2.2.1,(a.2.2.2.2.1,()))))))))
def G70:(p:z0n)→(LD×(List ((D×D))×(LD×(Nat×(Nat×Unit)))))→Option ((LD×(List ((D×D))×(LD×(Nat×(Nat×Unit)))))):=
 fun p x=>
 opt.need _ (p.eqN 0 0)<|
 opt.need _ (p.eqN (p.len x.2.2.1) (p.len x.2.2.1))<|
 opt.need _ (p.eqN (p.len x.2.2.1) (p.len x.2.2.1))<|
 opt.bnd ((LD×(List ((D×D))×(LD×(Nat×(Nat×Unit)))))) _ (
 z6j (b70_1 p) (x.1,(x.2.1,(x.2.2.1,(x.2.2.2.1,(x.2.2.2.2.1,((p.ofNat x.2.2.2.2.1),((0:Int),())))))))) fun a=>
 opt.need _ (p.eqN 0 0)<|
 opt.need _ (p.eqN (p.len a.2.2.1) (p.len a.2.2.1))<|
 opt.need _ (p.eqN (p.len a.2.2.1) (p.len a.2.2.1))<|
 opt.ret _ (a.1,(a.2.1,(a.2.2.1,(a.2.2.2.1,(a.2.2.2.2.1,())))))
def F70:z0n→Tup (ctr70).scs→Option (z6k (z6i (ctr70).outs)):=
 fun p x=>G70 p x
theorem eq70 (p:z0n) (x:Tup (ctr70).scs):z2r opt p (z0r [] Go.Proofs.Tryz.prog) (z6d opt p (z0r [] Go.Proofs.Tryz.prog) 400 (an70) la70) 400 ctr70 x=G70 p x:=by kernel_rfl
theorem gok70:z5q Go.Proofs.Tryz.prog (gam70):=by
 intro cf h
 simp only [gam70,List.mem_cons,List.not_mem_nil,or_false] at h
 rcases h with rfl|rfl
 ·exact ok73
 ·exact ok74
theorem enters70:z1m Go.Proofs.Tryz.prog 70:=z0v (b:=_) rfl (by kernel_rfl)
theorem ok70:z27 Go.Proofs.Tryz.prog ctr70 (F70 std):=z0w (z0h z0c) (z1v (z0h z0c) gok70 _) enters70 (fun x=>eq70 std x)
end Go.Am
end
noncomputable section
namespace Go.Am
def ctr31:Ctr:=
 ⟨31,[.list 4, .int .i64],[],[(.ret,⟨[(0, .tuple [.vec 0 4, .int .i64])],[.row [ci,ci,(CK.list 1),ci]],1⟩)]⟩
def la31:List LA:=
 [⟨31,[false,true,false,true,true,true,true,true,true],0,⟨⟨[(0, .list 4),(1, .int .i64),(7, .bptr 0 0),(8, .bptr 1 0),(29, .list 4),(30, .int .i64),(31, .int .i64)],[.box [.sl 2 4, .map 3, .full 4 2], .box [.int .u64, .int .u64], .row [ci,ci,(CK.list 1),ci], .map, .row [(CK.int .u64),(CK.int .u64)]],71⟩,[((AX.exit 0),⟨[(0, .list 4),(8, .bptr 0 0)],[.box [.int .u64, .int .u64]],71⟩)]⟩⟩,
 ⟨31,[false,true,false,true,true,true,true,true,true,true,true,true],0,⟨⟨[(11, .vec 0 4),(12, .clo 74 [.agg [.int .u64, .int .u64]] []),(54, .list 4),(55, .int .i64),(56, .int .i64)],[.row [ci,ci,(CK.list 1),ci]],71⟩,[((AX.exit 2),⟨[(11, .vec 0 4)],[.row [ci,ci,(CK.list 1),ci]],71⟩)]⟩⟩]
def ja31:List JA:=
 [⟨31,[true,true,false,false,true,true,false,false,true,false,true,true,true,true,true,true,true,true,true],0,[(AX.normal,⟨[(11, .vec 0 4),(12, .clo 74 [.agg [.int .u64, .int .u64]] []),(54, .list 4),(55, .int .i64),(56, .int .i64)],[.row [ci,ci,(CK.list 1),ci]],71⟩)]⟩,
 ⟨31,[true,true,false,false,true,true,false,false,true,false,true,true,true,true,true,true],0,[(AX.normal,⟨[(0, .list 4),(1, .int .i64),(7, .bptr 0 0),(8, .bptr 1 0),(29, .list 4),(30, .int .i64),(31, .int .i64)],[.box [.sl 2 4, .map 3, .full 4 2], .box [.int .u64, .int .u64], .row [ci,ci,(CK.list 1),ci], .map, .row [(CK.int .u64),(CK.int .u64)]],71⟩)]⟩]
def gam31:List CF:=
 [⟨ctr70,F70⟩,⟨ctr66,F66⟩,⟨ctr75,F75⟩,⟨ctr74,F74⟩,⟨ctr73,F73⟩,⟨ctr72,F72⟩,⟨ctr71,F71⟩,⟨x7b,F56⟩,⟨x7d,F19⟩]
def an31:y5o:=
 ⟨gam31,ja31,[]⟩
def b31_2 (p:z0n):(LD×(Int×(Int×(LD×(Int×(Int×Unit))))))→Option ((LD×(Int×(Int×(LD×(Int×(Int×Unit))))))⊕(LD×Unit)):=
 fun a=>opt.run _ (
 opt.ask _ (p.cmp .lss a.2.2.2.2.2.1 a.2.2.2.2.1) (
 opt.need _ (p.rowOk a.2.2.2.1 (p.nat a.2.2.2.2.2.1) [ci,ci,(CK.list 1),ci])<|
 opt.need _ (p.cmp .geq a.2.2.2.2.2.1 (0:Int))<|
 opt.bnd ((Bool×Unit)) _ (G74 p (a.2.1,(a.2.2.1,(a.2.2.2.2.2.1,())))) fun b=>
 opt.bnd ((LD×(Int×(Int×(LD×(Int×(Int×Unit))))))) _ (
 opt.run ((LD×(Int×(Int×(LD×(Int×(Int×Unit))))))) (
 opt.ask _ b.1 (
 opt.bnd ((Int×(Int×(LD×(Int×Unit))))) _ (G75 p ((p.rdI a.2.2.2.1 (p.nat a.2.2.2.2.2.1) 0),((p.rdI a.2.2.2.1 (p.nat a.2.2.2.2.2.1) 1),((p.rdL a.2.2.2.1 (p.nat a.2.2.2.2.2.1) 2),((p.rdI a.2.2.2.1 (p.nat a.2.2.2.2.2.1) 3),()))))) fun c=>
 opt.need _ (p.and (p.leN (p.add 0 1) (p.len [[(D.int .i64 c.1),(D.int .i64 c.2.1),(D.list Bool.false 1 c.2.2.1),(D.int .i64 c.2.2.2.1)]])) (p.and (p.leN (p.add 0 (p.len a.1)) (p.len a.1)) (p.and (p.leN 1 1) (p.leN (p.add (p.len a.1) 1) 1000000))))<|
 opt.need _ (p.eqN 0 0)<|
 opt.need _ (p.eqN (p.add (p.len a.1) 1) (p.len (p.app (p.cut a.1 0 (p.len a.1)) (p.cut [[(D.int .i64 c.1),(D.int .i64 c.2.1),(D.list Bool.false 1 c.2.2.1),(D.int .i64 c.2.2.2.1)]] 0 1))))<|
 opt.ret _ ((p.app (p.cut a.1 0 (p.len a.1)) (p.cut [[(D.int .i64 c.1),(D.int .i64 c.2.1),(D.list Bool.false 1 c.2.2.1),(D.int .i64 c.2.2.2.1)]] 0 1)),(a.2.1,(a.2.2.1,(a.2.2.2.1,(a.2.2.2.2.1,(a.2.2.2.2.2.1,()))))))) (
 opt.need _ (p.eqN 0 0)<|
 opt.need _ (p.eqN (p.len a.1) (p.len a.1))<|
 opt.ret _ (a.1,(a.2.1,(a.2.2.1,(a.2.2.2.1,(a.2.2.2.2.1,(a.2.2.2.2.2.1,()))))))))) fun d=>
 opt.need _ (p.eqN 0 0)<|
 opt.need _ (p.eqN (p.len d.1) (p.len d.1))<|
 opt.ret _ (Sum.inl (d.1,(d.2.1,(d.2.2.1,(d.2.2.2.1,(d.2.2.2.2.1,((p.ar .add .i64 d.2.2.2.2.2.1 (1:Int)),())))))))) (
 opt.need _ (p.eqN 0 0)<|
 opt.need _ (p.eqN (p.len a.1) (p.len a.1))<|
 opt.ret _ (Sum.inr (a.1,()))))
def b31_1 (p:z0n):(LD×(List ((D×D))×(LD×(Nat×(Nat×(Int×(Int×(LD×(Int×(LD×(Int×(Int×Unit))))))))))))→Option ((LD×(List ((D×D))×(LD×(Nat×(Nat×(Int×(Int×(LD×(Int×(LD×(Int×(Int×Unit))))))))))))⊕(Int×(Int×(LD×Unit)))):=
 fun a=>opt.run _ (
 opt.ask _ (p.cmp .lss a.2.2.2.2.2.2.2.2.2.2.2.1 a.2.2.2.2.2.2.2.2.2.2.1) (
 opt.need _ (p.rowOk a.2.2.2.2.2.2.2.2.2.1 (p.nat a.2.2.2.2.2.2.2.2.2.2.2.1) [ci,ci,(CK.list 1),ci])<|
 opt.need _ (p.cmp .geq a.2.2.2.2.2.2.2.2.2.2.2.1 (0:Int))<|
 opt.bnd ((Bool×Unit)) _ (G71 p ((p.rdL a.2.2.2.2.2.2.2.2.2.1 (p.nat a.2.2.2.2.2.2.2.2.2.2.2.1) 2),(a.2.2.2.2.2.2.2.2.1,()))) fun b=>
 opt.bnd ((LD×(List ((D×D))×(LD×(Nat×(Nat×(Int×(Int×(LD×(Int×(LD×(Int×(Int×Unit))))))))))))) _ (
 opt.run ((LD×(List ((D×D))×(LD×(Nat×(Nat×(Int×(Int×(LD×(Int×(LD×(Int×(Int×Unit))))))))))))) (
 opt.ask _ b.1 (
 opt.bnd ((Int×(Int×Unit))) _ (G72 p (a.2.2.2.2.2.1,(a.2.2.2.2.2.2.1,(a.2.2.2.2.2.2.2.2.2.2.2.1,())))) fun c=>
 opt.need _ (bif (p.cmp .geq a.2.2.2.2.2.2.2.2.2.2.2.1 (0:Int)) then (p.cmp .lss a.2.2.2.2.2.2.2.2.2.2.2.1 (p.ofNat (p.len a.2.2.1))) else Bool.false)<|
 opt.need _ (p.rowOk a.2.2.1 (p.add 0 (p.nat a.2.2.2.2.2.2.2.2.2.2.2.1)) [(CK.int .u64),(CK.int .u64)])<|
 opt.bnd ((Int×(Int×Unit))) _ (G73 p (c.1,(c.2.1,((p.rdI a.2.2.1 (p.add 0 (p.nat a.2.2.2.2.2.2.2.2.2.2.2.1)) 0),((p.rdI a.2.2.1 (p.add 0 (p.nat a.2.2.2.2.2.2.2.2.2.2.2.1)) 1),()))))) fun d=>
 opt.need _ (p.eqN 0 0)<|
 opt.need _ (p.eqN (p.len a.2.2.1) (p.len a.2.2.1))<|
 opt.need _ (p.eqN (p.len a.2.2.1) (p.len a.2.2.1))<|
 opt.ret _ (a.1,(a.2.1,(a.2.2.1,(a.2.2.2.1,(a.2.2.2.2.1,(d.1,(d.2.1,(a.2.2.2.2.2.2.2.1,(a.2.2.2.2.2.2.2.2.1,(a.2.2.2.2.2.2.2.2.2.1,(a.2.2.2.2.2.2.2.2.2.2.1,(a.2.2.2.2.2.2.2.2.2.2.2.1,()))))))))))))) (
 opt.need _ (p.eqN 0 0)<|
 opt.need _ (p.eqN (p.len a.2.2.1) (p.len a.2.2.1))<|
 opt.need _ (p.eqN (p.len a.2.2.1) (p.len a.2.2.1))<|
 opt.ret _ (a.1,(a.2.1,(a.2.2.1,(a.2.2.2.1,(a.2.2.2.2.1,(a.2.2.2.2.2.1,(a.2.2.2.2.2.2.1,(a.2.2.2.2.2.2.2.1,(a.2.2.2.2.2.2.2.2.1,(a.2.2.2.2.2.2.2.2.2.1,(a.2.2.2.2.2.2.2.2.2.2.1,(a.2.2.2.2.2.2.2.2.2.2.2.1,()))))))))))))))) fun e=>
 opt.need _ (p.eqN 0 0)<|
 opt.need _ (p.eqN (p.len e.2.2.1) (p.len e.2.2.1))<|
 opt.need _ (p.eqN (p.len e.2.2.1) (p.len e.2.2.1))<|
 opt.ret _ (Sum.inl (e.1,(e.2.1,(e.2.2.1,(e.2.2.2.1,(e.2.2.2.2.1,(e.2.2.2.2.2.1,(e.2.2.2.2.2.2.1,(e.2.2.2.2.2.2.2.1,(e.2.2.2.2.2.2.2.2.1,(e.2.2.2.2.2.2.2.2.2.1,(e.2.2.2.2.2.2.2.2.2.2.1,((p.ar .add .i64 e.2.2.2.2.2.2.2.2.2.2.2.1 (1:Int)),())))))))))))))) (
 opt.ret _ (Sum.inr (a.2.2.2.2.2.1,(a.2.2.2.2.2.2.1,(a.2.2.2.2.2.2.2.1,()))))))
def G31:(p:z0n)→(LD×(Int×Unit))→Option ((LD×(Int×Unit))):=
 fun p x=>
 opt.bnd ((Int×Unit)) _ (G19 p (x.1,())) fun a=>
 opt.ask _ (p.cmp .neq a.1 (0:Int)) (
 opt.ret _ ([],(a.1,()))) (
 opt.bnd ((Bool×Unit)) _ (G56 p ((1:Int),((1099511627776:Int),([[(D.int .i64 x.2.1)]],())))) fun b=>
 opt.ask _ (bif b.1 then Bool.false else Bool.true) (
 opt.ret _ ([],((3:Int),()))) (
 opt.bnd ((LD×(List ((D×D))×(LD×(Nat×(Nat×Unit)))))) _ (G66 p ([[(D.list Bool.false 4 x.1)]],())) fun c=>
 opt.need _ (p.eqN 0 0)<|
 opt.need _ (p.eqN (p.len c.2.2.1) (p.len c.2.2.1))<|
 opt.need _ (p.eqN (p.len c.2.2.1) (p.len c.2.2.1))<|
 opt.bnd ((LD×(List ((D×D))×(LD×(Nat×(Nat×Unit)))))) _ (G70 p (c.1,(c.2.1,(c.2.2.1,(c.2.2.2.1,(c.2.2.2.2.1,())))))) fun d=>
 opt.need _ (p.eqN 0 0)<|
 opt.need _ (p.eqN (p.len d.2.2.1) (p.len d.2.2.1))<|
 opt.need _ (p.eqN (p.len d.2.2.1) (p.len d.2.2.1))<|
 opt.bnd ((Int×(Int×(LD×Unit)))) _ (
 z6j (b31_1 p) (d.1,(d.2.1,(d.2.2.1,(d.2.2.2.1,(d.2.2.2.2.1,((0:Int),((0:Int),(x.1,(x.2.1,(x.1,((p.ofNat (p.len x.1)),((0:Int),()))))))))))))) fun e=>
 opt.bnd ((LD×Unit)) _ (
 z6j (b31_2 p) ([],(e.1,(e.2.1,(e.2.2.1,((p.ofNat (p.len e.2.2.1)),((0:Int),()))))))) fun f=>
 opt.need _ (p.eqN 0 0)<|
 opt.need _ (p.eqN (p.len f.1) (p.len f.1))<|
 opt.ret _ (f.1,((0:Int),()))))
def F31:z0n→Tup (ctr31).scs→Option (z6k (z6i (ctr31).outs)):=
 fun p x=>G31 p x
theorem eq31 (p:z0n) (x:Tup (ctr31).scs):z2r opt p (z0r [] Go.Proofs.Tryz.prog) (z6d opt p (z0r [] Go.Proofs.Tryz.prog) 400 (an31) la31) 400 ctr31 x=G31 p x:=by kernel_rfl
theorem gok31:z5q Go.Proofs.Tryz.prog (gam31):=by
 intro cf h
 simp only [gam31,List.mem_cons,List.not_mem_nil,or_false] at h
 rcases h with rfl|rfl|rfl|rfl|rfl|rfl|rfl|rfl|rfl
 ·exact ok70
 ·exact ok66
 ·exact ok75
 ·exact ok74
 ·exact ok73
 ·exact ok72
 ·exact ok71
 ·exact ok56
 ·exact v3r
theorem enters31:z1m Go.Proofs.Tryz.prog 31:=z0v (b:=_) rfl (by kernel_rfl)
theorem ok31:z27 Go.Proofs.Tryz.prog ctr31 (F31 std):=z0w (z0h z0c) (z1v (z0h z0c) gok31 _) enters31 (fun x=>eq31 std x)
end Go.Am
end
noncomputable section
namespace Go.Am
def ctr137:Ctr:=
 ⟨137,[.map 0, .list 1],[.map],[(.ret,⟨[(0, .int .i64)],[.map],1⟩)]⟩
def la137:List LA:=
 [⟨137,[false,true,false,true],1,⟨⟨[(0, .map 0),(9, .list 1),(10, .int .i64),(11, .int .i64)],[.map],29⟩,[(AX.ret,⟨[(4, .int .i64)],[.map],29⟩),((AX.exit 0),⟨[],[.map],29⟩)]⟩⟩]
def ja137:List JA:=
 [⟨137,[false,true,true,false,false,true,false,true],1,[(AX.ret,⟨[(4, .int .i64)],[.map],29⟩),(AX.normal,⟨[(0, .map 0),(9, .list 1),(10, .int .i64),(11, .int .i64)],[.map],29⟩)]⟩]
def gam137:List CF:=
 []
def an137:y5o:=
 ⟨gam137,ja137,[]⟩
def b137_1 (p:z0n):(List ((D×D))×(LD×(Int×(Int×Unit))))→Option ((List ((D×D))×(LD×(Int×(Int×Unit))))⊕((List ((D×D))×(Int×Unit))⊕(List ((D×D))×Unit))):=
 fun a=>opt.run _ (
 opt.ask _ (p.cmp .lss a.2.2.2.1 a.2.2.1) (
 opt.alt ((List ((D×D))×(Int×Unit))) ((List ((D×D))×(LD×(Int×(Int×Unit))))) _ (
 opt.run (((List ((D×D))×(Int×Unit))⊕(List ((D×D))×(LD×(Int×(Int×Unit)))))) (
 opt.need _ (p.rowOk a.2.1 (p.nat a.2.2.2.1) [ci])<|
 opt.need _ (p.cmp .geq a.2.2.2.1 (0:Int))<|
 opt.need _ (p.mOk a.1 [SK.i] Bool.false (D.int .i64 (p.rdI a.2.1 (p.nat a.2.2.2.1) 0)) Bool.true [ci,ci,ci,CK.bool])<|
 opt.ask _ (p.mhas a.1 [SK.i] Bool.false (D.int .i64 (p.rdI a.2.1 (p.nat a.2.2.2.1) 0))) (
 opt.ask _ (p.mB a.1 [SK.i] Bool.false (D.int .i64 (p.rdI a.2.1 (p.nat a.2.2.2.1) 0)) 3) (
 opt.ret _ (Sum.inl (a.1,((9:Int),())))) (
 opt.ret _ (Sum.inr (a.1,(a.2.1,(a.2.2.1,(a.2.2.2.1,()))))))) (
 opt.ret _ (Sum.inl (a.1,((5:Int),())))))) (fun b=>
 opt.ret _ (Sum.inr (Sum.inl (b.1,(b.2.1,()))))) (fun c=>
 opt.bnd ((List ((D×D))×(LD×(Int×(Int×Unit))))) _ (some c) fun d=>
 opt.ret _ (Sum.inl (d.1,(d.2.1,(d.2.2.1,((p.ar .add .i64 d.2.2.2.1 (1:Int)),()))))))) (
 opt.ret _ (Sum.inr (Sum.inr (a.1,())))))
def G137:(p:z0n)→(List ((D×D))×(LD×Unit))→Option ((List ((D×D))×(Int×Unit))):=
 fun p x=>
 opt.alt ((List ((D×D))×(Int×Unit))) ((List ((D×D))×Unit)) _ (
 z6j (b137_1 p) (x.1,(x.2.1,((p.ofNat (p.len x.2.1)),((0:Int),()))))) (fun a=>
 opt.ret _ (a.1,(a.2.1,()))) (fun b=>
 opt.bnd ((List ((D×D))×Unit)) _ (some b) fun c=>
 opt.ret _ (c.1,((0:Int),())))
def F137:z0n→Tup (ctr137).scs→Option (z6k (z6i (ctr137).outs)):=
 fun p x=>G137 p x
theorem eq137 (p:z0n) (x:Tup (ctr137).scs):z2r opt p (autoEnvD [] Go.Proofs.Tryz.prog) (z6d opt p (autoEnvD [] Go.Proofs.Tryz.prog) 400 (an137) la137) 400 ctr137 x=G137 p x:=by kernel_rfl
theorem gok137:z5q Go.Proofs.Tryz.prog gam137:=fun cf h=>by cases h
theorem enters137:z1m Go.Proofs.Tryz.prog 137:=z0v (b:=_) rfl (by kernel_rfl)
theorem ok137:z27 Go.Proofs.Tryz.prog ctr137 (F137 std):=z0w (autoEnvD_ok z0c) (z1v (autoEnvD_ok z0c) gok137 _) enters137 (fun x=>eq137 std x)
def ctr136:Ctr:=
 ⟨136,[.map 0, .int .i64, .int .i64],[.map],[(.ret,⟨[(0, .int .i64)],[.map],1⟩)]⟩
def la136:List LA:=
 []
def ja136:List JA:=
 []
def gam136:List CF:=
 []
def an136:y5o:=
 ⟨gam136,ja136,[]⟩
def G136:(p:z0n)→(List ((D×D))×(Int×(Int×Unit)))→Option ((List ((D×D))×(Int×Unit))):=
 fun p x=>
 opt.need _ (p.mOk x.1 [SK.i] Bool.false (D.int .i64 x.2.1) Bool.true [ci,ci,ci,CK.bool])<|
 opt.ask _ (p.mhas x.1 [SK.i] Bool.false (D.int .i64 x.2.1)) (
 opt.ask _ (bif (bif (p.cmp .eql (p.mI x.1 [SK.i] Bool.false (D.int .i64 x.2.1) 0) (0:Int)) then (bif (p.cmp .eql (p.mI x.1 [SK.i] Bool.false (D.int .i64 x.2.1) 1) (0:Int)) then (bif (p.cmp .eql (p.mI x.1 [SK.i] Bool.false (D.int .i64 x.2.1) 2) (0:Int)) then (bif (p.bEq (p.mB x.1 [SK.i] Bool.false (D.int .i64 x.2.1) 3) Bool.false) then Bool.true else Bool.false) else Bool.false) else Bool.false) else Bool.false) then Bool.false else Bool.true) (
 opt.ret _ (x.1,((11:Int),()))) (
 opt.need _ (p.mOk x.1 [SK.i] Bool.false (D.int .i64 x.2.1) Bool.true [ci,ci,ci,CK.bool])<|
 opt.ask _ (p.mhas x.1 [SK.i] Bool.false (D.int .i64 x.2.1)) (
 opt.ret _ ((p.mset x.1 (p.nat (p.ofNat (p.mpos x.1 [SK.i] Bool.false (D.int .i64 x.2.1)))) (D.int .i64 x.2.1) (D.agg [(D.int .i64 x.2.1),(D.int .i64 x.2.2.1),(D.int .i64 (0:Int)),(D.bool Bool.false)])),((0:Int),()))) (
 opt.ret _ ((p.madd x.1 (D.int .i64 x.2.1) (D.agg [(D.int .i64 x.2.1),(D.int .i64 x.2.2.1),(D.int .i64 (0:Int)),(D.bool Bool.false)])),((0:Int),()))))) (
 opt.ask _ (bif (bif (p.cmp .eql (0:Int) (0:Int)) then (bif (p.cmp .eql (0:Int) (0:Int)) then (bif (p.cmp .eql (0:Int) (0:Int)) then (bif (p.bEq Bool.false Bool.false) then Bool.true else Bool.false) else Bool.false) else Bool.false) else Bool.false) then Bool.false else Bool.true) (
 opt.ret _ (x.1,((11:Int),()))) (
 opt.need _ (p.mOk x.1 [SK.i] Bool.false (D.int .i64 x.2.1) Bool.true [ci,ci,ci,CK.bool])<|
 opt.ask _ (p.mhas x.1 [SK.i] Bool.false (D.int .i64 x.2.1)) (
 opt.ret _ ((p.mset x.1 (p.nat (p.ofNat (p.mpos x.1 [SK.i] Bool.false (D.int .i64 x.2.1)))) (D.int .i64 x.2.1) (D.agg [(D.int .i64 x.2.1),(D.int .i64 x.2.2.1),(D.int .i64 (0:Int)),(D.bool Bool.false)])),((0:Int),()))) (
 opt.ret _ ((p.madd x.1 (D.int .i64 x.2.1) (D.agg [(D.int .i64 x.2.1),(D.int .i64 x.2.2.1),(D.int .i64 (0:Int)),(D.bool Bool.false)])),((0:Int),())))))
def F136:z0n→Tup (ctr136).scs→Option (z6k (z6i (ctr136).outs)):=
 fun p x=>G136 p x
theorem eq136 (p:z0n) (x:Tup (ctr136).scs):z2r opt p (autoEnvD [] Go.Proofs.Tryz.prog) (z6d opt p (autoEnvD [] Go.Proofs.Tryz.prog) 400 (an136) la136) 400 ctr136 x=G136 p x:=by kernel_rfl
theorem gok136:z5q Go.Proofs.Tryz.prog gam136:=fun cf h=>by cases h
theorem enters136:z1m Go.Proofs.Tryz.prog 136:=z0v (b:=_) rfl (by kernel_rfl)
theorem ok136:z27 Go.Proofs.Tryz.prog ctr136 (F136 std):=z0w (autoEnvD_ok z0c) (z1v (autoEnvD_ok z0c) gok136 _) enters136 (fun x=>eq136 std x)
def ctr140:Ctr:=
 ⟨140,[.bptr 0 0, .int .i64],[.box [.int .i64, .int .i64, .int .i64, .bool]],[(.ret,⟨[(0, .tuple [])],[.box [.int .i64, .int .i64, .int .i64, .bool]],1⟩)]⟩
def la140:List LA:=
 []
def ja140:List JA:=
 []
def gam140:List CF:=
 []
def an140:y5o:=
 ⟨gam140,ja140,[]⟩
def G140:(p:z0n)→(Int×(Int×(Int×(Bool×(Int×Unit)))))→Option ((Int×(Int×(Int×(Bool×Unit))))):=
 fun p x=>
 opt.ret _ (x.1,(x.2.1,(x.2.2.2.2.1,(x.2.2.2.1,()))))
def F140:z0n→Tup (ctr140).scs→Option (z6k (z6i (ctr140).outs)):=
 fun p x=>G140 p x
theorem eq140 (p:z0n) (x:Tup (ctr140).scs):z2r opt p (autoEnvD [] Go.Proofs.Tryz.prog) (z6d opt p (autoEnvD [] Go.Proofs.Tryz.prog) 400 (an140) la140) 400 ctr140 x=G140 p x:=by kernel_rfl
theorem gok140:z5q Go.Proofs.Tryz.prog gam140:=fun cf h=>by cases h
theorem enters140:z1m Go.Proofs.Tryz.prog 140:=z0v (b:=_) rfl (by kernel_rfl)
theorem ok140:z27 Go.Proofs.Tryz.prog ctr140 (F140 std):=z0w (autoEnvD_ok z0c) (z1v (autoEnvD_ok z0c) gok140 _) enters140 (fun x=>eq140 std x)
def ctr139:Ctr:=
 ⟨139,[.map 0, .int .i64, .int .i64, .int .i64, .int .i64, .clo 140 [] []],[.map],[(.ret,⟨[(0, .int .i64)],[.map],1⟩)]⟩
def la139:List LA:=
 []
def ja139:List JA:=
 []
def gam139:List CF:=
 [⟨ctr140,F140⟩,⟨x7b,F56⟩]
def an139:y5o:=
 ⟨gam139,ja139,[]⟩
def G139:(p:z0n)→(List ((D×D))×(Int×(Int×(Int×(Int×Unit)))))→Option ((List ((D×D))×(Int×Unit))):=
 fun p x=>
 opt.bnd ((Bool×Unit)) _ (G56 p (x.2.2.2.1,(x.2.2.2.2.1,([[(D.int .i64 x.2.2.1)]],())))) fun a=>
 opt.ask _ (bif a.1 then Bool.false else Bool.true) (
 opt.ret _ (x.1,((4:Int),()))) (
 opt.need _ (p.mOk x.1 [SK.i] Bool.false (D.int .i64 x.2.1) Bool.true [ci,ci,ci,CK.bool])<|
 opt.ask _ (p.mhas x.1 [SK.i] Bool.false (D.int .i64 x.2.1)) (
 opt.bnd ((Int×(Int×(Int×(Bool×Unit))))) _ (G140 p ((p.mI x.1 [SK.i] Bool.false (D.int .i64 x.2.1) 0),((p.mI x.1 [SK.i] Bool.false (D.int .i64 x.2.1) 1),((p.mI x.1 [SK.i] Bool.false (D.int .i64 x.2.1) 2),((p.mB x.1 [SK.i] Bool.false (D.int .i64 x.2.1) 3),(x.2.2.1,())))))) fun b=>
 opt.need _ (p.mOk x.1 [SK.i] Bool.false (D.int .i64 x.2.1) Bool.true [ci,ci,ci,CK.bool])<|
 opt.ask _ (p.mhas x.1 [SK.i] Bool.false (D.int .i64 x.2.1)) (
 opt.ret _ ((p.mset x.1 (p.nat (p.ofNat (p.mpos x.1 [SK.i] Bool.false (D.int .i64 x.2.1)))) (D.int .i64 x.2.1) (D.agg [(D.int .i64 b.1),(D.int .i64 b.2.1),(D.int .i64 b.2.2.1),(D.bool b.2.2.2.1)])),((0:Int),()))) (
 opt.ret _ ((p.madd x.1 (D.int .i64 x.2.1) (D.agg [(D.int .i64 b.1),(D.int .i64 b.2.1),(D.int .i64 b.2.2.1),(D.bool b.2.2.2.1)])),((0:Int),())))) (
 opt.bnd ((Int×(Int×(Int×(Bool×Unit))))) _ (G140 p ((0:Int),((0:Int),((0:Int),(Bool.false,(x.2.2.1,())))))) fun c=>
 opt.need _ (p.mOk x.1 [SK.i] Bool.false (D.int .i64 x.2.1) Bool.true [ci,ci,ci,CK.bool])<|
 opt.ask _ (p.mhas x.1 [SK.i] Bool.false (D.int .i64 x.2.1)) (
 opt.ret _ ((p.mset x.1 (p.nat (p.ofNat (p.mpos x.1 [SK.i] Bool.false (D.int .i64 x.2.1)))) (D.int .i64 x.2.1) (D.agg [(D.int .i64 c.1),(D.int .i64 c.2.1),(D.int .i64 c.2.2.1),(D.bool c.2.2.2.1)])),((0:Int),()))) (
 opt.ret _ ((p.madd x.1 (D.int .i64 x.2.1) (D.agg [(D.int .i64 c.1),(D.int .i64 c.2.1),(D.int .i64 c.2.2.1),(D.bool c.2.2.2.1)])),((0:Int),())))))
def F139:z0n→Tup (ctr139).scs→Option (z6k (z6i (ctr139).outs)):=
 fun p x=>G139 p x
theorem eq139 (p:z0n) (x:Tup (ctr139).scs):z2r opt p (autoEnvD [] Go.Proofs.Tryz.prog) (z6d opt p (autoEnvD [] Go.Proofs.Tryz.prog) 400 (an139) la139) 400 ctr139 x=G139 p x:=by kernel_rfl
theorem gok139:z5q Go.Proofs.Tryz.prog (gam139):=by
 intro cf h
 simp only [gam139,List.mem_cons,List.not_mem_nil,or_false] at h
 rcases h with rfl|rfl
 ·exact ok140
 ·exact ok56
theorem enters139:z1m Go.Proofs.Tryz.prog 139:=z0v (b:=_) rfl (by kernel_rfl)
theorem ok139:z27 Go.Proofs.Tryz.prog ctr139 (F139 std):=z0w (autoEnvD_ok z0c) (z1v (autoEnvD_ok z0c) gok139 _) enters139 (fun x=>eq139 std x)
def ctr141:Ctr:=
 ⟨141,[.bptr 0 0, .int .i64],[.box [.int .i64, .int .i64, .int .i64, .bool]],[(.ret,⟨[(0, .tuple [])],[.box [.int .i64, .int .i64, .int .i64, .bool]],1⟩)]⟩
def la141:List LA:=
 []
def ja141:List JA:=
 []
def gam141:List CF:=
 []
def an141:y5o:=
 ⟨gam141,ja141,[]⟩
def G141:(p:z0n)→(Int×(Int×(Int×(Bool×(Int×Unit)))))→Option ((Int×(Int×(Int×(Bool×Unit))))):=
 fun p x=>
 opt.ret _ (x.1,(x.2.2.2.2.1,(x.2.2.1,(x.2.2.2.1,()))))
def F141:z0n→Tup (ctr141).scs→Option (z6k (z6i (ctr141).outs)):=
 fun p x=>G141 p x
theorem eq141 (p:z0n) (x:Tup (ctr141).scs):z2r opt p (autoEnvD [] Go.Proofs.Tryz.prog) (z6d opt p (autoEnvD [] Go.Proofs.Tryz.prog) 400 (an141) la141) 400 ctr141 x=G141 p x:=by kernel_rfl
theorem gok141:z5q Go.Proofs.Tryz.prog gam141:=fun cf h=>by cases h
theorem enters141:z1m Go.Proofs.Tryz.prog 141:=z0v (b:=_) rfl (by kernel_rfl)
theorem ok141:z27 Go.Proofs.Tryz.prog ctr141 (F141 std):=z0w (autoEnvD_ok z0c) (z1v (autoEnvD_ok z0c) gok141 _) enters141 (fun x=>eq141 std x)
def ctr139_1:Ctr:=
 ⟨139,[.map 0, .int .i64, .int .i64, .int .i64, .int .i64, .clo 141 [] []],[.map],[(.ret,⟨[(0, .int .i64)],[.map],1⟩)]⟩
def la139_1:List LA:=
 []
def ja139_1:List JA:=
 []
def gam139_1:List CF:=
 [⟨ctr141,F141⟩,⟨x7b,F56⟩]
def an139_1:y5o:=
 ⟨gam139_1,ja139_1,[]⟩
def G139_1:(p:z0n)→(List ((D×D))×(Int×(Int×(Int×(Int×Unit)))))→Option ((List ((D×D))×(Int×Unit))):=
 fun p x=>
 opt.bnd ((Bool×Unit)) _ (G56 p (x.2.2.2.1,(x.2.2.2.2.1,([[(D.int .i64 x.2.2.1)]],())))) fun a=>
 opt.ask _ (bif a.1 then Bool.false else Bool.true) (
 opt.ret _ (x.1,((4:Int),()))) (
 opt.need _ (p.mOk x.1 [SK.i] Bool.false (D.int .i64 x.2.1) Bool.true [ci,ci,ci,CK.bool])<|
 opt.ask _ (p.mhas x.1 [SK.i] Bool.false (D.int .i64 x.2.1)) (
 opt.bnd ((Int×(Int×(Int×(Bool×Unit))))) _ (G141 p ((p.mI x.1 [SK.i] Bool.false (D.int .i64 x.2.1) 0),((p.mI x.1 [SK.i] Bool.false (D.int .i64 x.2.1) 1),((p.mI x.1 [SK.i] Bool.false (D.int .i64 x.2.1) 2),((p.mB x.1 [SK.i] Bool.false (D.int .i64 x.2.1) 3),(x.2.2.1,())))))) fun b=>
 opt.need _ (p.mOk x.1 [SK.i] Bool.false (D.int .i64 x.2.1) Bool.true [ci,ci,ci,CK.bool])<|
 opt.ask _ (p.mhas x.1 [SK.i] Bool.false (D.int .i64 x.2.1)) (
 opt.ret _ ((p.mset x.1 (p.nat (p.ofNat (p.mpos x.1 [SK.i] Bool.false (D.int .i64 x.2.1)))) (D.int .i64 x.2.1) (D.agg [(D.int .i64 b.1),(D.int .i64 b.2.1),(D.int .i64 b.2.2.1),(D.bool b.2.2.2.1)])),((0:Int),()))) (
 opt.ret _ ((p.madd x.1 (D.int .i64 x.2.1) (D.agg [(D.int .i64 b.1),(D.int .i64 b.2.1),(D.int .i64 b.2.2.1),(D.bool b.2.2.2.1)])),((0:Int),())))) (
 opt.bnd ((Int×(Int×(Int×(Bool×Unit))))) _ (G141 p ((0:Int),((0:Int),((0:Int),(Bool.false,(x.2.2.1,())))))) fun c=>
 opt.need _ (p.mOk x.1 [SK.i] Bool.false (D.int .i64 x.2.1) Bool.true [ci,ci,ci,CK.bool])<|
 opt.ask _ (p.mhas x.1 [SK.i] Bool.false (D.int .i64 x.2.1)) (
 opt.ret _ ((p.mset x.1 (p.nat (p.ofNat (p.mpos x.1 [SK.i] Bool.false (D.int .i64 x.2.1)))) (D.int .i64 x.2.1) (D.agg [(D.int .i64 c.1),(D.int .i64 c.2.1),(D.int .i64 c.2.2.1),(D.bool c.2.2.2.1)])),((0:Int),()))) (
 opt.ret _ ((p.madd x.1 (D.int .i64 x.2.1) (D.agg [(D.int .i64 c.1),(D.int .i64 c.2.1),(D.int .i64 c.2.2.1),(D.bool c.2.2.2.1)])),((0:Int),())))))
def F139_1:z0n→Tup (ctr139_1).scs→Option (z6k (z6i (ctr139_1).outs)):=
 fun p x=>G139_1 p x
theorem eq139_1 (p:z0n) (x:Tup (ctr139_1).scs):z2r opt p (autoEnvD [] Go.Proofs.Tryz.prog) (z6d opt p (autoEnvD [] Go.Proofs.Tryz.prog) 400 (an139_1) la139_1) 400 ctr139_1 x=G139_1 p x:=by kernel_rfl
theorem gok139_1:z5q Go.Proofs.Tryz.prog (gam139_1):=by
 intro cf h
 simp only [gam139_1,List.mem_cons,List.not_mem_nil,or_false] at h
 rcases h with rfl|rfl
 ·exact ok141
 ·exact ok56
theorem enters139_1:z1m Go.Proofs.Tryz.prog 139:=z0v (b:=_) rfl (by kernel_rfl)
theorem ok139_1:z27 Go.Proofs.Tryz.prog ctr139_1 (F139_1 std):=z0w (autoEnvD_ok z0c) (z1v (autoEnvD_ok z0c) gok139_1 _) enters139_1 (fun x=>eq139_1 std x)
def ctr138:Ctr:=
 ⟨138,[.bptr 0 0, .int .i64],[.box [.int .i64, .int .i64, .int .i64, .bool]],[(.ret,⟨[(0, .tuple [])],[.box [.int .i64, .int .i64, .int .i64, .bool]],1⟩)]⟩
def la138:List LA:=
 []
def ja138:List JA:=
 []
def gam138:List CF:=
 []
def an138:y5o:=
 ⟨gam138,ja138,[]⟩
def G138:(p:z0n)→(Int×(Int×(Int×(Bool×(Int×Unit)))))→Option ((Int×(Int×(Int×(Bool×Unit))))):=
 fun p x=>
 opt.ret _ (x.1,(x.2.1,(x.2.2.1,(Bool.true,()))))
def F138:z0n→Tup (ctr138).scs→Option (z6k (z6i (ctr138).outs)):=
 fun p x=>G138 p x
theorem eq138 (p:z0n) (x:Tup (ctr138).scs):z2r opt p (autoEnvD [] Go.Proofs.Tryz.prog) (z6d opt p (autoEnvD [] Go.Proofs.Tryz.prog) 400 (an138) la138) 400 ctr138 x=G138 p x:=by kernel_rfl
theorem gok138:z5q Go.Proofs.Tryz.prog gam138:=fun cf h=>by cases h
theorem enters138:z1m Go.Proofs.Tryz.prog 138:=z0v (b:=_) rfl (by kernel_rfl)
theorem ok138:z27 Go.Proofs.Tryz.prog ctr138 (F138 std):=z0w (autoEnvD_ok z0c) (z1v (autoEnvD_ok z0c) gok138 _) enters138 (fun x=>eq138 std x)
def ctr139_2:Ctr:=
 ⟨139,[.map 0, .int .i64, .int .i64, .int .i64, .int .i64, .clo 138 [] []],[.map],[(.ret,⟨[(0, .int .i64)],[.map],1⟩)]⟩
def la139_2:List LA:=
 []
def ja139_2:List JA:=
 []
def gam139_2:List CF:=
 [⟨ctr138,F138⟩,⟨x7b,F56⟩]
def an139_2:y5o:=
 ⟨gam139_2,ja139_2,[]⟩
def G139_2:(p:z0n)→(List ((D×D))×(Int×(Int×(Int×(Int×Unit)))))→Option ((List ((D×D))×(Int×Unit))):=
 fun p x=>
 opt.bnd ((Bool×Unit)) _ (G56 p (x.2.2.2.1,(x.2.2.2.2.1,([[(D.int .i64 x.2.2.1)]],())))) fun a=>
 opt.ask _ (bif a.1 then Bool.false else Bool.true) (
 opt.ret _ (x.1,((4:Int),()))) (
 opt.need _ (p.mOk x.1 [SK.i] Bool.false (D.int .i64 x.2.1) Bool.true [ci,ci,ci,CK.bool])<|
 opt.ask _ (p.mhas x.1 [SK.i] Bool.false (D.int .i64 x.2.1)) (
 opt.bnd ((Int×(Int×(Int×(Bool×Unit))))) _ (G138 p ((p.mI x.1 [SK.i] Bool.false (D.int .i64 x.2.1) 0),((p.mI x.1 [SK.i] Bool.false (D.int .i64 x.2.1) 1),((p.mI x.1 [SK.i] Bool.false (D.int .i64 x.2.1) 2),((p.mB x.1 [SK.i] Bool.false (D.int .i64 x.2.1) 3),(x.2.2.1,())))))) fun b=>
 opt.need _ (p.mOk x.1 [SK.i] Bool.false (D.int .i64 x.2.1) Bool.true [ci,ci,ci,CK.bool])<|
 opt.ask _ (p.mhas x.1 [SK.i] Bool.false (D.int .i64 x.2.1)) (
 opt.ret _ ((p.mset x.1 (p.nat (p.ofNat (p.mpos x.1 [SK.i] Bool.false (D.int .i64 x.2.1)))) (D.int .i64 x.2.1) (D.agg [(D.int .i64 b.1),(D.int .i64 b.2.1),(D.int .i64 b.2.2.1),(D.bool b.2.2.2.1)])),((0:Int),()))) (
 opt.ret _ ((p.madd x.1 (D.int .i64 x.2.1) (D.agg [(D.int .i64 b.1),(D.int .i64 b.2.1),(D.int .i64 b.2.2.1),(D.bool b.2.2.2.1)])),((0:Int),())))) (
 opt.bnd ((Int×(Int×(Int×(Bool×Unit))))) _ (G138 p ((0:Int),((0:Int),((0:Int),(Bool.false,(x.2.2.1,())))))) fun c=>
 opt.need _ (p.mOk x.1 [SK.i] Bool.false (D.int .i64 x.2.1) Bool.true [ci,ci,ci,CK.bool])<|
 opt.ask _ (p.mhas x.1 [SK.i] Bool.false (D.int .i64 x.2.1)) (
 opt.ret _ ((p.mset x.1 (p.nat (p.ofNat (p.mpos x.1 [SK.i] Bool.false (D.int .i64 x.2.1)))) (D.int .i64 x.2.1) (D.agg [(D.int .i64 c.1),(D.int .i64 c.2.1),(D.int .i64 c.2.2.1),(D.bool c.2.2.2.1)])),((0:Int),()))) (
 opt.ret _ ((p.madd x.1 (D.int .i64 x.2.1) (D.agg [(D.int .i64 c.1),(D.int .i64 c.2.1),(D.int .i64 c.2.2.1),(D.bool c.2.2.2.1)])),((0:Int),())))))
def F139_2:z0n→Tup (ctr139_2).scs→Option (z6k (z6i (ctr139_2).outs)):=
 fun p x=>G139_2 p x
theorem eq139_2 (p:z0n) (x:Tup (ctr139_2).scs):z2r opt p (autoEnvD [] Go.Proofs.Tryz.prog) (z6d opt p (autoEnvD [] Go.Proofs.Tryz.prog) 400 (an139_2) la139_2) 400 ctr139_2 x=G139_2 p x:=by kernel_rfl
theorem gok139_2:z5q Go.Proofs.Tryz.prog (gam139_2):=by
 intro cf h
 simp only [gam139_2,List.mem_cons,List.not_mem_nil,or_false] at h
 rcases h with rfl|rfl
 ·exact ok138
 ·exact ok56
theorem enters139_2:z1m Go.Proofs.Tryz.prog 139:=z0v (b:=_) rfl (by kernel_rfl)
theorem ok139_2:z27 Go.Proofs.Tryz.prog ctr139_2 (F139_2 std):=z0w (autoEnvD_ok z0c) (z1v (autoEnvD_ok z0c) gok139_2 _) enters139_2 (fun x=>eq139_2 std x)
def ctr110:Ctr:=
 ⟨110,[.map 0, .agg [.int .i64, .int .i64, .list 1, .int .i64]],[.map],[(.ret,⟨[(0, .int .i64)],[.map],1⟩)]⟩
def la110:List LA:=
 []
def ja110:List JA:=
 [⟨110,[true,false,true,true,true,true],1,[(AX.normal,⟨[(0, .map 0),(3, .bptr 1 0),(5, .int .i64),(6, .list 1)],[.map, .box [.int .i64, .int .i64, .list 1, .int .i64]],135⟩)]⟩,
 ⟨110,[true,true,true,true,true,false,true,true,false,true,true,true,true,true,true,true],1,[(AX.ret,⟨[(4, .int .i64)],[.map],135⟩),(AX.normal,⟨[],[.map],135⟩)]⟩,
 ⟨110,[true,true,true,false,true,true,false,true,true,true,true,true,true,true],1,[(AX.ret,⟨[(4, .int .i64)],[.map],135⟩),(AX.normal,⟨[],[.map],135⟩)]⟩,
 ⟨110,[true,false,true,true,false,true,true,true,true,true,true,true],1,[(AX.ret,⟨[(4, .int .i64)],[.map],135⟩),(AX.normal,⟨[],[.map],135⟩)]⟩,
 ⟨110,[true,true,true,true,true,true,true,false,true,true,false,true,true,true,true,true,true,true],1,[(AX.ret,⟨[(4, .int .i64)],[.map],135⟩),(AX.normal,⟨[],[.map],135⟩)]⟩]
def gam110:List CF:=
 [⟨ctr139_2,F139_2⟩,⟨ctr139_1,F139_1⟩,⟨ctr139,F139⟩,⟨ctr137,F137⟩,⟨ctr136,F136⟩,⟨x7b,F56⟩]
def an110:y5o:=
 ⟨gam110,ja110,[]⟩
def G110:(p:z0n)→(List ((D×D))×(Int×(Int×(LD×(Int×Unit)))))→Option ((List ((D×D))×(Int×Unit))):=
 fun p x=>
 opt.need _ (p.rowOk x.2.2.2.1 (p.nat (0:Int)) [ci])<|
 opt.ask _ (p.cmp .eql x.2.2.1 (1:Int)) (
 opt.bnd ((List ((D×D))×(Int×Unit))) _ (G136 p (x.1,((p.rdI x.2.2.2.1 (p.nat (0:Int)) 0),(x.2.2.2.2.1,())))) fun a=>
 opt.ret _ (a.1,(a.2.1,()))) (
 opt.need _ (p.and (p.cmp .geq (0:Int) (0:Int)) (p.and (p.cmp .leq (0:Int) (p.ofNat (p.len x.2.2.2.1))) (p.and (p.cmp .leq (p.ofNat (p.len x.2.2.2.1)) (p.ofNat (p.len x.2.2.2.1))) (p.cmp .leq (p.ofNat (p.len x.2.2.2.1)) (p.ofNat (p.len x.2.2.2.1))))))<|
 opt.bnd ((List ((D×D))×(Int×(Int×(LD×(Int×(Int×(LD×Unit)))))))) _ (
 opt.run ((List ((D×D))×(Int×(Int×(LD×(Int×(Int×(LD×Unit)))))))) (
 opt.ask _ (p.cmp .eql x.2.2.1 (4:Int)) (
 opt.need _ (p.and (p.cmp .geq (0:Int) (0:Int)) (p.and (p.cmp .leq (0:Int) (1:Int)) (p.cmp .leq (1:Int) (p.ofNat (p.len (p.cut x.2.2.2.1 (p.nat (0:Int)) (p.sub (p.nat (p.ofNat (p.len x.2.2.2.1))) (p.nat (0:Int)))))))))<|
 opt.ret _ (x.1,(x.2.1,(x.2.2.1,(x.2.2.2.1,(x.2.2.2.2.1,((p.rdI x.2.2.2.1 (p.nat (0:Int)) 0),((p.cut (p.cut x.2.2.2.1 (p.nat (0:Int)) (p.sub (p.nat (p.ofNat (p.len x.2.2.2.1))) (p.nat (0:Int)))) (p.nat (0:Int)) (p.sub (p.nat (1:Int)) (p.nat (0:Int)))),())))))))) (
 opt.ret _ (x.1,(x.2.1,(x.2.2.1,(x.2.2.2.1,(x.2.2.2.2.1,((p.rdI x.2.2.2.1 (p.nat (0:Int)) 0),((p.cut x.2.2.2.1 (p.nat (0:Int)) (p.sub (p.nat (p.ofNat (p.len x.2.2.2.1))) (p.nat (0:Int)))),())))))))))) fun b=>
 opt.bnd ((List ((D×D))×(Int×Unit))) _ (G137 p (b.1,(b.2.2.2.2.2.2.1,()))) fun c=>
 opt.ask _ (p.cmp .neq c.2.1 (0:Int)) (
 opt.ret _ (c.1,(c.2.1,()))) (
 opt.need _ (p.mOk c.1 [SK.i] Bool.false (D.int .i64 b.2.2.2.2.2.1) Bool.true [ci,ci,ci,CK.bool])<|
 opt.ask _ (p.mhas c.1 [SK.i] Bool.false (D.int .i64 b.2.2.2.2.2.1)) (
 opt.alt ((List ((D×D))×(Int×Unit))) ((List ((D×D))×Unit)) _ (
 opt.run (((List ((D×D))×(Int×Unit))⊕(List ((D×D))×Unit))) (
 opt.ask _ (p.cmp .eql b.2.2.1 (2:Int)) (
 opt.bnd ((List ((D×D))×(Int×Unit))) _ (G139 p (c.1,(b.2.2.2.2.2.1,((p.ar .add .i64 (p.mI c.1 [SK.i] Bool.false (D.int .i64 b.2.2.2.2.2.1) 2) b.2.2.2.2.1),((0:Int),((10000:Int),())))))) fun d=>
 opt.ret _ (Sum.inl (d.1,(d.2.1,())))) (
 opt.alt ((List ((D×D))×(Int×Unit))) ((List ((D×D))×Unit)) _ (
 opt.run (((List ((D×D))×(Int×Unit))⊕(List ((D×D))×Unit))) (
 opt.ask _ (p.cmp .eql b.2.2.1 (3:Int)) (
 opt.need _ (p.rowOk b.2.2.2.1 (p.nat (1:Int)) [ci])<|
 opt.need _ (p.mOk c.1 [SK.i] Bool.false (D.int .i64 (p.rdI b.2.2.2.1 (p.nat (1:Int)) 0)) Bool.true [ci,ci,ci,CK.bool])<|
 opt.ask _ (p.mhas c.1 [SK.i] Bool.false (D.int .i64 (p.rdI b.2.2.2.1 (p.nat (1:Int)) 0))) (
 opt.need _ (p.cmp .neq (1000:Int) (0:Int))<|
 opt.bnd ((List ((D×D))×(Int×Unit))) _ (G139_1 p (c.1,(b.2.2.2.2.2.1,((p.ar .quo .i64 (p.ar .mul .i64 (p.mI c.1 [SK.i] Bool.false (D.int .i64 (p.rdI b.2.2.2.1 (p.nat (1:Int)) 0)) 1) b.2.2.2.2.1) (1000:Int)),((1:Int),((1000000:Int),())))))) fun e=>
 opt.ret _ (Sum.inl (e.1,(e.2.1,())))) (
 opt.need _ (p.cmp .neq (1000:Int) (0:Int))<|
 opt.bnd ((List ((D×D))×(Int×Unit))) _ (G139_1 p (c.1,(b.2.2.2.2.2.1,((p.ar .quo .i64 (p.ar .mul .i64 (0:Int) b.2.2.2.2.1) (1000:Int)),((1:Int),((1000000:Int),())))))) fun f=>
 opt.ret _ (Sum.inl (f.1,(f.2.1,()))))) (
 opt.alt ((List ((D×D))×(Int×Unit))) ((List ((D×D))×Unit)) _ (
 opt.run (((List ((D×D))×(Int×Unit))⊕(List ((D×D))×Unit))) (
 opt.ask _ (p.cmp .eql b.2.2.1 (4:Int)) (
 opt.need _ (p.rowOk b.2.2.2.1 (p.nat (1:Int)) [ci])<|
 opt.bnd ((List ((D×D))×(Int×Unit))) _ (G136 p (c.1,((p.rdI b.2.2.2.1 (p.nat (1:Int)) 0),((p.mI c.1 [SK.i] Bool.false (D.int .i64 b.2.2.2.2.2.1) 1),())))) fun g=>
 opt.ask _ (p.cmp .neq g.2.1 (0:Int)) (
 opt.ret _ (Sum.inl (g.1,(g.2.1,())))) (
 opt.bnd ((List ((D×D))×(Int×Unit))) _ (G139_2 p (g.1,(b.2.2.2.2.2.1,((0:Int),((0:Int),((0:Int),())))))) fun h=>
 opt.ret _ (Sum.inl (h.1,(h.2.1,()))))) (
 opt.alt ((List ((D×D))×(Int×Unit))) ((List ((D×D))×Unit)) _ (
 opt.run (((List ((D×D))×(Int×Unit))⊕(List ((D×D))×Unit))) (
 opt.ask _ (p.cmp .eql b.2.2.1 (5:Int)) (
 opt.bnd ((List ((D×D))×(Int×Unit))) _ (G139_2 p (c.1,(b.2.2.2.2.2.1,((0:Int),((0:Int),((0:Int),())))))) fun i=>
 opt.ret _ (Sum.inl (i.1,(i.2.1,())))) (
 opt.need _ (p.rowOk b.2.2.2.1 (p.nat (1:Int)) [ci])<|
 opt.need _ (p.mOk c.1 [SK.i] Bool.false (D.int .i64 (p.rdI b.2.2.2.1 (p.nat (1:Int)) 0)) Bool.true [ci,ci,ci,CK.bool])<|
 opt.ask _ (p.mhas c.1 [SK.i] Bool.false (D.int .i64 (p.rdI b.2.2.2.1 (p.nat (1:Int)) 0))) (
 opt.need _ (p.rowOk b.2.2.2.1 (p.nat (2:Int)) [ci])<|
 opt.need _ (p.mOk c.1 [SK.i] Bool.false (D.int .i64 (p.rdI b.2.2.2.1 (p.nat (2:Int)) 0)) Bool.true [ci,ci,ci,CK.bool])<|
 opt.ask _ (p.mhas c.1 [SK.i] Bool.false (D.int .i64 (p.rdI b.2.2.2.1 (p.nat (2:Int)) 0))) (
 opt.bnd ((Bool×Unit)) _ (G56 p ((p.ar .sub .i64 (0:Int) b.2.2.2.2.1),(b.2.2.2.2.1,([[(D.int .i64 (p.ar .sub .i64 (p.ar .add .i64 (p.mI c.1 [SK.i] Bool.false (D.int .i64 b.2.2.2.2.2.1) 1) (p.mI c.1 [SK.i] Bool.false (D.int .i64 (p.rdI b.2.2.2.1 (p.nat (1:Int)) 0)) 1)) (p.mI c.1 [SK.i] Bool.false (D.int .i64 (p.rdI b.2.2.2.1 (p.nat (2:Int)) 0)) 1)))]],())))) fun j=>
 opt.ask _ (bif j.1 then Bool.false else Bool.true) (
 opt.ret _ (Sum.inl (c.1,((23:Int),())))) (
 opt.ret _ (Sum.inr (c.1,())))) (
 opt.bnd ((Bool×Unit)) _ (G56 p ((p.ar .sub .i64 (0:Int) b.2.2.2.2.1),(b.2.2.2.2.1,([[(D.int .i64 (p.ar .sub .i64 (p.ar .add .i64 (p.mI c.1 [SK.i] Bool.false (D.int .i64 b.2.2.2.2.2.1) 1) (p.mI c.1 [SK.i] Bool.false (D.int .i64 (p.rdI b.2.2.2.1 (p.nat (1:Int)) 0)) 1)) (0:Int)))]],())))) fun k=>
 opt.ask _ (bif k.1 then Bool.false else Bool.true) (
 opt.ret _ (Sum.inl (c.1,((23:Int),())))) (
 opt.ret _ (Sum.inr (c.1,()))))) (
 opt.need _ (p.rowOk b.2.2.2.1 (p.nat (2:Int)) [ci])<|
 opt.need _ (p.mOk c.1 [SK.i] Bool.false (D.int .i64 (p.rdI b.2.2.2.1 (p.nat (2:Int)) 0)) Bool.true [ci,ci,ci,CK.bool])<|
 opt.ask _ (p.mhas c.1 [SK.i] Bool.false (D.int .i64 (p.rdI b.2.2.2.1 (p.nat (2:Int)) 0))) (
 opt.bnd ((Bool×Unit)) _ (G56 p ((p.ar .sub .i64 (0:Int) b.2.2.2.2.1),(b.2.2.2.2.1,([[(D.int .i64 (p.ar .sub .i64 (p.ar .add .i64 (p.mI c.1 [SK.i] Bool.false (D.int .i64 b.2.2.2.2.2.1) 1) (0:Int)) (p.mI c.1 [SK.i] Bool.false (D.int .i64 (p.rdI b.2.2.2.1 (p.nat (2:Int)) 0)) 1)))]],())))) fun l=>
 opt.ask _ (bif l.1 then Bool.false else Bool.true) (
 opt.ret _ (Sum.inl (c.1,((23:Int),())))) (
 opt.ret _ (Sum.inr (c.1,())))) (
 opt.bnd ((Bool×Unit)) _ (G56 p ((p.ar .sub .i64 (0:Int) b.2.2.2.2.1),(b.2.2.2.2.1,([[(D.int .i64 (p.ar .sub .i64 (p.ar .add .i64 (p.mI c.1 [SK.i] Bool.false (D.int .i64 b.2.2.2.2.2.1) 1) (0:Int)) (0:Int)))]],())))) fun m=>
 opt.ask _ (bif m.1 then Bool.false else Bool.true) (
 opt.ret _ (Sum.inl (c.1,((23:Int),())))) (
 opt.ret _ (Sum.inr (c.1,())))))))) (fun n=>
 opt.ret _ (Sum.inl (n.1,(n.2.1,())))) (fun o=>
 opt.bnd ((List ((D×D))×Unit)) _ (some o) fun q=>
 opt.ret _ (Sum.inr (q.1,())))))) (fun r=>
 opt.ret _ (Sum.inl (r.1,(r.2.1,())))) (fun t=>
 opt.bnd ((List ((D×D))×Unit)) _ (some t) fun u=>
 opt.ret _ (Sum.inr (u.1,())))))) (fun v=>
 opt.ret _ (Sum.inl (v.1,(v.2.1,())))) (fun w=>
 opt.bnd ((List ((D×D))×Unit)) _ (some w) fun z=>
 opt.ret _ (Sum.inr (z.1,())))))) (fun a1=>
 opt.ret _ (a1.1,(a1.2.1,()))) (fun b1=>
 opt.bnd ((List ((D×D))×Unit)) _ (some b1) fun c1=>
 opt.ret _ (c1.1,((0:Int),())))) (
 opt.alt ((List ((D×D))×(Int×Unit))) ((List ((D×D))×Unit)) _ (
 opt.run (((List ((D×D))×(Int×Unit))⊕(List ((D×D))×Unit))) (
 opt.ask _ (p.cmp .eql b.2.2.1 (2:Int)) (
 opt.bnd ((List ((D×D))×(Int×Unit))) _ (G139 p (c.1,(b.2.2.2.2.2.1,((p.ar .add .i64 (0:Int) b.2.2.2.2.1),((0:Int),((10000:Int),())))))) fun d1=>
 opt.ret _ (Sum.inl (d1.1,(d1.2.1,())))) (
 opt.alt ((List ((D×D))×(Int×Unit))) ((List ((D×D))×Unit)) _ (
 opt.run (((List ((D×D))×(Int×Unit))⊕(List ((D×D))×Unit))) (
 opt.ask _ (p.cmp .eql b.2.2.1 (3:Int)) (
 opt.need _ (p.rowOk b.2.2.2.1 (p.nat (1:Int)) [ci])<|
 opt.need _ (p.mOk c.1 [SK.i] Bool.false (D.int .i64 (p.rdI b.2.2.2.1 (p.nat (1:Int)) 0)) Bool.true [ci,ci,ci,CK.bool])<|
 opt.ask _ (p.mhas c.1 [SK.i] Bool.false (D.int .i64 (p.rdI b.2.2.2.1 (p.nat (1:Int)) 0))) (
 opt.need _ (p.cmp .neq (1000:Int) (0:Int))<|
 opt.bnd ((List ((D×D))×(Int×Unit))) _ (G139_1 p (c.1,(b.2.2.2.2.2.1,((p.ar .quo .i64 (p.ar .mul .i64 (p.mI c.1 [SK.i] Bool.false (D.int .i64 (p.rdI b.2.2.2.1 (p.nat (1:Int)) 0)) 1) b.2.2.2.2.1) (1000:Int)),((1:Int),((1000000:Int),())))))) fun e1=>
 opt.ret _ (Sum.inl (e1.1,(e1.2.1,())))) (
 opt.need _ (p.cmp .neq (1000:Int) (0:Int))<|
 opt.bnd ((List ((D×D))×(Int×Unit))) _ (G139_1 p (c.1,(b.2.2.2.2.2.1,((p.ar .quo .i64 (p.ar .mul .i64 (0:Int) b.2.2.2.2.1) (1000:Int)),((1:Int),((1000000:Int),())))))) fun f1=>
 opt.ret _ (Sum.inl (f1.1,(f1.2.1,()))))) (
 opt.alt ((List ((D×D))×(Int×Unit))) ((List ((D×D))×Unit)) _ (
 opt.run (((List ((D×D))×(Int×Unit))⊕(List ((D×D))×Unit))) (
 opt.ask _ (p.cmp .eql b.2.2.1 (4:Int)) (
 opt.need _ (p.rowOk b.2.2.2.1 (p.nat (1:Int)) [ci])<|
 opt.bnd ((List ((D×D))×(Int×Unit))) _ (G136 p (c.1,((p.rdI b.2.2.2.1 (p.nat (1:Int)) 0),((0:Int),())))) fun g1=>
 opt.ask _ (p.cmp .neq g1.2.1 (0:Int)) (
 opt.ret _ (Sum.inl (g1.1,(g1.2.1,())))) (
 opt.bnd ((List ((D×D))×(Int×Unit))) _ (G139_2 p (g1.1,(b.2.2.2.2.2.1,((0:Int),((0:Int),((0:Int),())))))) fun h1=>
 opt.ret _ (Sum.inl (h1.1,(h1.2.1,()))))) (
 opt.alt ((List ((D×D))×(Int×Unit))) ((List ((D×D))×Unit)) _ (
 opt.run (((List ((D×D))×(Int×Unit))⊕(List ((D×D))×Unit))) (
 opt.ask _ (p.cmp .eql b.2.2.1 (5:Int)) (
 opt.bnd ((List ((D×D))×(Int×Unit))) _ (G139_2 p (c.1,(b.2.2.2.2.2.1,((0:Int),((0:Int),((0:Int),())))))) fun i1=>
 opt.ret _ (Sum.inl (i1.1,(i1.2.1,())))) (
 opt.need _ (p.rowOk b.2.2.2.1 (p.nat (1:Int)) [ci])<|
 opt.need _ (p.mOk c.1 [SK.i] Bool.false (D.int .i64 (p.rdI b.2.2.2.1 (p.nat (1:Int)) 0)) Bool.true [ci,ci,ci,CK.bool])<|
 opt.ask _ (p.mhas c.1 [SK.i] Bool.false (D.int .i64 (p.rdI b.2.2.2.1 (p.nat (1:Int)) 0))) (
 opt.need _ (p.rowOk b.2.2.2.1 (p.nat (2:Int)) [ci])<|
 opt.need _ (p.mOk c.1 [SK.i] Bool.false (D.int .i64 (p.rdI b.2.2.2.1 (p.nat (2:Int)) 0)) Bool.true [ci,ci,ci,CK.bool])<|
 opt.ask _ (p.mhas c.1 [SK.i] Bool.false (D.int .i64 (p.rdI b.2.2.2.1 (p.nat (2:Int)) 0))) (
 opt.bnd ((Bool×Unit)) _ (G56 p ((p.ar .sub .i64 (0:Int) b.2.2.2.2.1),(b.2.2.2.2.1,([[(D.int .i64 (p.ar .sub .i64 (p.ar .add .i64 (0:Int) (p.mI c.1 [SK.i] Bool.false (D.int .i64 (p.rdI b.2.2.2.1 (p.nat (1:Int)) 0)) 1)) (p.mI c.1 [SK.i] Bool.false (D.int .i64 (p.rdI b.2.2.2.1 (p.nat (2:Int)) 0)) 1)))]],())))) fun j1=>
 opt.ask _ (bif j1.1 then Bool.false else Bool.true) (
 opt.ret _ (Sum.inl (c.1,((23:Int),())))) (
 opt.ret _ (Sum.inr (c.1,())))) (
 opt.bnd ((Bool×Unit)) _ (G56 p ((p.ar .sub .i64 (0:Int) b.2.2.2.2.1),(b.2.2.2.2.1,([[(D.int .i64 (p.ar .sub .i64 (p.ar .add .i64 (0:Int) (p.mI c.1 [SK.i] Bool.false (D.int .i64 (p.rdI b.2.2.2.1 (p.nat (1:Int)) 0)) 1)) (0:Int)))]],())))) fun k1=>
 opt.ask _ (bif k1.1 then Bool.false else Bool.true) (
 opt.ret _ (Sum.inl (c.1,((23:Int),())))) (
 opt.ret _ (Sum.inr (c.1,()))))) (
 opt.need _ (p.rowOk b.2.2.2.1 (p.nat (2:Int)) [ci])<|
 opt.need _ (p.mOk c.1 [SK.i] Bool.false (D.int .i64 (p.rdI b.2.2.2.1 (p.nat (2:Int)) 0)) Bool.true [ci,ci,ci,CK.bool])<|
 opt.ask _ (p.mhas c.1 [SK.i] Bool.false (D.int .i64 (p.rdI b.2.2.2.1 (p.nat (2:Int)) 0))) (
 opt.bnd ((Bool×Unit)) _ (G56 p ((p.ar .sub .i64 (0:Int) b.2.2.2.2.1),(b.2.2.2.2.1,([[(D.int .i64 (p.ar .sub .i64 (p.ar .add .i64 (0:Int) (0:Int)) (p.mI c.1 [SK.i] Bool.false (D.int .i64 (p.rdI b.2.2.2.1 (p.nat (2:Int)) 0)) 1)))]],())))) fun l1=>
 opt.ask _ (bif l1.1 then Bool.false else Bool.true) (
 opt.ret _ (Sum.inl (c.1,((23:Int),())))) (
 opt.ret _ (Sum.inr (c.1,())))) (
 opt.bnd ((Bool×Unit)) _ (G56 p ((p.ar .sub .i64 (0:Int) b.2.2.2.2.1),(b.2.2.2.2.1,([[(D.int .i64 (p.ar .sub .i64 (p.ar .add .i64 (0:Int) (0:Int)) (0:Int)))]],())))) fun m1=>
 opt.ask _ (bif m1.1 then Bool.false else Bool.true) (
 opt.ret _ (Sum.inl (c.1,((23:Int),())))) (
 opt.ret _ (Sum.inr (c.1,())))))))) (fun n1=>
 opt.ret _ (Sum.inl (n1.1,(n1.2.1,())))) (fun o1=>
 opt.bnd ((List ((D×D))×Unit)) _ (some o1) fun q1=>
 opt.ret _ (Sum.inr (q1.1,())))))) (fun r1=>
 opt.ret _ (Sum.inl (r1.1,(r1.2.1,())))) (fun t1=>
 opt.bnd ((List ((D×D))×Unit)) _ (some t1) fun u1=>
 opt.ret _ (Sum.inr (u1.1,())))))) (fun v1=>
 opt.ret _ (Sum.inl (v1.1,(v1.2.1,())))) (fun w1=>
 opt.bnd ((List ((D×D))×Unit)) _ (some w1) fun z1=>
 opt.ret _ (Sum.inr (z1.1,())))))) (fun a2=>
 opt.ret _ (a2.1,(a2.2.1,()))) (fun b2=>
 opt.bnd ((List ((D×D))×Unit)) _ (some b2) fun c2=>
 opt.ret _ (c2.1,((0:Int),()))))))
def F110:z0n→Tup (ctr110).scs→Option (z6k (z6i (ctr110).outs)):=
 fun p x=>G110 p x
theorem eq110 (p:z0n) (x:Tup (ctr110).scs):z2r opt p (autoEnvD [] Go.Proofs.Tryz.prog) (z6d opt p (autoEnvD [] Go.Proofs.Tryz.prog) 400 (an110) la110) 400 ctr110 x=G110 p x:=by kernel_rfl
theorem gok110:z5q Go.Proofs.Tryz.prog (gam110):=by
 intro cf h
 simp only [gam110,List.mem_cons,List.not_mem_nil,or_false] at h
 rcases h with rfl|rfl|rfl|rfl|rfl|rfl
 ·exact ok139_2
 ·exact ok139_1
 ·exact ok139
 ·exact ok137
 ·exact ok136
 ·exact ok56
theorem enters110:z1m Go.Proofs.Tryz.prog 110:=z0v (b:=_) rfl (by kernel_rfl)
theorem ok110:z27 Go.Proofs.Tryz.prog ctr110 (F110 std):=z0w (autoEnvD_ok z0c) (z1v (autoEnvD_ok z0c) gok110 _) enters110 (fun x=>eq110 std x)
def ctr61:Ctr:=
 ⟨61,[.list 4],[],[(.ret,⟨[(0, .tuple [.map 0, .vec 1 1])],[.map, .row [ci]],1⟩)]⟩
def la61:List LA:=
 [⟨61,[false,true,false,true,true,true,true],0,⟨⟨[(4, .map 0),(5, .clo 110 [.map 0] []),(6, .vec 1 1),(12, .list 4),(13, .int .i64),(14, .int .i64)],[.map, .row [ci]],27⟩,[((AX.exit 0),⟨[(4, .map 0),(6, .vec 1 1)],[.map, .row [ci]],27⟩)]⟩⟩]
def ja61:List JA:=
 []
def gam61:List CF:=
 [⟨ctr110,F110⟩]
def an61:y5o:=
 ⟨gam61,ja61,[]⟩
def b61_1 (p:z0n):(List ((D×D))×(LD×(LD×(Int×(Int×Unit)))))→Option ((List ((D×D))×(LD×(LD×(Int×(Int×Unit)))))⊕(List ((D×D))×(LD×Unit))):=
 fun a=>opt.run _ (
 opt.ask _ (p.cmp .lss a.2.2.2.2.1 a.2.2.2.1) (
 opt.need _ (p.rowOk a.2.2.1 (p.nat a.2.2.2.2.1) [ci,ci,(CK.list 1),ci])<|
 opt.need _ (p.cmp .geq a.2.2.2.2.1 (0:Int))<|
 opt.bnd ((List ((D×D))×(Int×Unit))) _ (G110 p (a.1,((p.rdI a.2.2.1 (p.nat a.2.2.2.2.1) 0),((p.rdI a.2.2.1 (p.nat a.2.2.2.2.1) 1),((p.rdL a.2.2.1 (p.nat a.2.2.2.2.1) 2),((p.rdI a.2.2.1 (p.nat a.2.2.2.2.1) 3),())))))) fun b=>
 opt.need _ (p.and (p.leN (p.add 0 1) (p.len [[(D.int .i64 b.2.1)]])) (p.and (p.leN (p.add 0 (p.len a.2.1)) (p.len a.2.1)) (p.and (p.leN 1 1) (p.leN (p.add (p.len a.2.1) 1) 1000000))))<|
 opt.need _ (p.eqN 0 0)<|
 opt.need _ (p.eqN (p.add (p.len a.2.1) 1) (p.len (p.app (p.cut a.2.1 0 (p.len a.2.1)) (p.cut [[(D.int .i64 b.2.1)]] 0 1))))<|
 opt.ret _ (Sum.inl (b.1,((p.app (p.cut a.2.1 0 (p.len a.2.1)) (p.cut [[(D.int .i64 b.2.1)]] 0 1)),(a.2.2.1,(a.2.2.2.1,((p.ar .add .i64 a.2.2.2.2.1 (1:Int)),()))))))) (
 opt.need _ (p.eqN 0 0)<|
 opt.need _ (p.eqN (p.len a.2.1) (p.len a.2.1))<|
 opt.ret _ (Sum.inr (a.1,(a.2.1,())))))
def G61:(p:z0n)→(LD×Unit)→Option ((List ((D×D))×(LD×Unit))):=
 fun p x=>
 opt.bnd ((List ((D×D))×(LD×Unit))) _ (
 z6j (b61_1 p) ([],([],(x.1,((p.ofNat (p.len x.1)),((0:Int),())))))) fun a=>
 opt.need _ (p.eqN 0 0)<|
 opt.need _ (p.eqN (p.len a.2.1) (p.len a.2.1))<|
 opt.ret _ (a.1,(a.2.1,()))
def F61:z0n→Tup (ctr61).scs→Option (z6k (z6i (ctr61).outs)):=
 fun p x=>G61 p x
theorem eq61 (p:z0n) (x:Tup (ctr61).scs):z2r opt p (autoEnvD [] Go.Proofs.Tryz.prog) (z6d opt p (autoEnvD [] Go.Proofs.Tryz.prog) 400 (an61) la61) 400 ctr61 x=G61 p x:=by kernel_rfl
theorem gok61:z5q Go.Proofs.Tryz.prog (gam61):=by
 intro cf h
 simp only [gam61,List.mem_cons,List.not_mem_nil,or_false] at h
 rcases h with rfl
 ·exact ok110
theorem enters61:z1m Go.Proofs.Tryz.prog 61:=z0v (b:=_) rfl (by kernel_rfl)
theorem ok61:z27 Go.Proofs.Tryz.prog ctr61 (F61 std):=z0w (autoEnvD_ok z0c) (z1v (autoEnvD_ok z0c) gok61 _) enters61 (fun x=>eq61 std x)
end Go.Am
end
section
namespace Go.Am
open D12
variable {fl fl':List Int→Bool}
def fine (l:List Cd):Bool:=!x9g l&&decide (z5l l=0)
theorem G41_ok (l:List Cd):G41 std (z0u fl l,())=some (fine l,()):=by
 unfold G41 fine
 cases h:x9g l with
 |true=>simp only [z2t,z2u,eq_self,not_true,not_false_eq_true,decide_true,decide_false,Bool.not_true,Bool.not_false,Int.reduceLT,Int.reduceNeg,Int.reduceGT,Int.reduceEq,Int.reduceLE,cond_true,cond_false,ge_iff_le,gt_iff_lt,z0b,w40,h]; simp
 |false=>
  simp only [z2t,z2u,eq_self,not_true,not_false_eq_true,decide_true,decide_false,Bool.not_true,Bool.not_false,Int.reduceLT,Int.reduceNeg,Int.reduceGT,Int.reduceEq,Int.reduceLE,cond_true,cond_false,ge_iff_le,gt_iff_lt,z0b,w40,h,w9y l (x1b h).1]
end Go.Am
end
noncomputable section
namespace Go.Am
def ctr64:Ctr:=
 ⟨64,[.map 0],[.map],[(.ret,⟨[(0, .clo 115 [] [.bptr 1 0])],[.map, .box [.map 0]],1⟩)]⟩
def la64:List LA:=
 []
def ja64:List JA:=
 []
def gam64:List CF:=
 []
def an64:y5o:=
 ⟨gam64,ja64,[]⟩
def G64:(p:z0n)→(List ((D×D))×Unit)→Option ((List ((D×D))×Unit)):=
 fun p x=>
 opt.ret _ (x.1,())
def F64:z0n→Tup (ctr64).scs→Option (z6k (z6i (ctr64).outs)):=
 fun p x=>G64 p x
theorem eq64 (p:z0n) (x:Tup (ctr64).scs):z2r opt p (z0r [] Go.Proofs.Tryz.prog) (z6d opt p (z0r [] Go.Proofs.Tryz.prog) 400 (an64) la64) 400 ctr64 x=G64 p x:=by kernel_rfl
theorem gok64:z5q Go.Proofs.Tryz.prog gam64:=fun cf h=>by cases h
theorem enters64:z1m Go.Proofs.Tryz.prog 64:=z0v (b:=_) rfl (by kernel_rfl)
theorem ok64:z27 Go.Proofs.Tryz.prog ctr64 (F64 std):=z0w (z0h z0c) (z1v (z0h z0c) gok64 _) enters64 (fun x=>eq64 std x)
def ctr23:Ctr:=
 ⟨23,[.list 4],[],[(.ret,⟨[(0, .tuple [.vec 0 4, .int .i64])],[.row [ci,ci,ci,CK.bool]],1⟩)]⟩
def la23:List LA:=
 [⟨23,[false,true,false,true,true,true,true],0,⟨⟨[(5, .map 0),(7, .vec 1 4),(24, .list 1),(25, .int .i64),(26, .int .i64)],[.map, .row [ci,ci,ci,CK.bool]],40⟩,[((AX.exit 0),⟨[(7, .vec 0 4)],[.row [ci,ci,ci,CK.bool]],40⟩)]⟩⟩]
def ja23:List JA:=
 [⟨23,[false,true,true,false,false,true,false,true,true,true,true],0,[(AX.normal,⟨[(5, .map 0),(7, .vec 1 4),(24, .list 1),(25, .int .i64),(26, .int .i64)],[.map, .row [ci,ci,ci,CK.bool]],40⟩)]⟩]
def gam23:List CF:=
 [⟨w3h,F63⟩,⟨ctr64,F64⟩,⟨ctr61,F61⟩,⟨x5k,v4g⟩,⟨x7d,F19⟩]
def an23:y5o:=
 ⟨gam23,ja23,[]⟩
def b23_1 (p:z0n):(List ((D×D))×(LD×(LD×(Int×(Int×Unit)))))→Option ((List ((D×D))×(LD×(LD×(Int×(Int×Unit)))))⊕(LD×Unit)):=
 fun a=>opt.run _ (
 opt.ask _ (p.cmp .lss a.2.2.2.2.1 a.2.2.2.1) (
 opt.bnd ((List ((D×D))×(LD×(LD×(Int×(Int×Unit)))))) _ (
 opt.run ((List ((D×D))×(LD×(LD×(Int×(Int×Unit)))))) (
 opt.need _ (p.rowOk a.2.2.1 (p.nat a.2.2.2.2.1) [ci])<|
 opt.need _ (p.cmp .geq a.2.2.2.2.1 (0:Int))<|
 opt.need _ (p.mOk a.1 [SK.i] Bool.false (D.int .i64 (p.rdI a.2.2.1 (p.nat a.2.2.2.2.1) 0)) Bool.true [ci,ci,ci,CK.bool])<|
 opt.ask _ (p.mhas a.1 [SK.i] Bool.false (D.int .i64 (p.rdI a.2.2.1 (p.nat a.2.2.2.2.1) 0))) (
 opt.need _ (p.and (p.leN (p.add 0 1) (p.len [[(D.int .i64 (p.mI a.1 [SK.i] Bool.false (D.int .i64 (p.rdI a.2.2.1 (p.nat a.2.2.2.2.1) 0)) 0)),(D.int .i64 (p.mI a.1 [SK.i] Bool.false (D.int .i64 (p.rdI a.2.2.1 (p.nat a.2.2.2.2.1) 0)) 1)),(D.int .i64 (p.mI a.1 [SK.i] Bool.false (D.int .i64 (p.rdI a.2.2.1 (p.nat a.2.2.2.2.1) 0)) 2)),(D.bool (p.mB a.1 [SK.i] Bool.false (D.int .i64 (p.rdI a.2.2.1 (p.nat a.2.2.2.2.1) 0)) 3))]])) (p.and (p.leN (p.add 0 (p.len a.2.1)) (p.len a.2.1)) (p.and (p.leN 1 1) (p.leN (p.add (p.len a.2.1) 1) 1000000))))<|
 opt.need _ (p.eqN 0 0)<|
 opt.need _ (p.eqN (p.add (p.len a.2.1) 1) (p.len (p.app (p.cut a.2.1 0 (p.len a.2.1)) (p.cut [[(D.int .i64 (p.mI a.1 [SK.i] Bool.false (D.int .i64 (p.rdI a.2.2.1 (p.nat a.2.2.2.2.1) 0)) 0)),(D.int .i64 (p.mI a.1 [SK.i] Bool.false (D.int .i64 (p.rdI a.2.2.1 (p.nat a.2.2.2.2.1) 0)) 1)),(D.int .i64 (p.mI a.1 [SK.i] Bool.false (D.int .i64 (p.rdI a.2.2.1 (p.nat a.2.2.2.2.1) 0)) 2)),(D.bool (p.mB a.1 [SK.i] Bool.false (D.int .i64 (p.rdI a.2.2.1 (p.nat a.2.2.2.2.1) 0)) 3))]] 0 1))))<|
 opt.ret _ (a.1,((p.app (p.cut a.2.1 0 (p.len a.2.1)) (p.cut [[(D.int .i64 (p.mI a.1 [SK.i] Bool.false (D.int .i64 (p.rdI a.2.2.1 (p.nat a.2.2.2.2.1) 0)) 0)),(D.int .i64 (p.mI a.1 [SK.i] Bool.false (D.int .i64 (p.rdI a.2.2.1 (p.nat a.2.2.2.2.1) 0)) 1)),(D.int .i64 (p.mI a.1 [SK.i] Bool.false (D.int .i64 (p.rdI a.2.2.1 (p.nat a.2.2.2.2.1) 0)) 2)),(D.bool (p.mB a.1 [SK.i] Bool.false (D.int .i64 (p.rdI a.2.2.1 (p.nat a.2.2.2.2.1) 0)) 3))]] 0 1)),(a.2.2.1,(a.2.2.2.1,(a.2.2.2.2.1,())))))) (
 opt.need _ (p.and (p.leN (p.add 0 1) (p.len [[(D.int .i64 (0:Int)),(D.int .i64 (0:Int)),(D.int .i64 (0:Int)),(D.bool Bool.false)]])) (p.and (p.leN (p.add 0 (p.len a.2.1)) (p.len a.2.1)) (p.and (p.leN 1 1) (p.leN (p.add (p.len a.2.1) 1) 1000000))))<|
 opt.need _ (p.eqN 0 0)<|
 opt.need _ (p.eqN (p.add (p.len a.2.1) 1) (p.len (p.app (p.cut a.2.1 0 (p.len a.2.1)) (p.cut [[(D.int .i64 (0:Int)),(D.int .i64 (0:Int)),(D.int .i64 (0:Int)),(D.bool Bool.false)]] 0 1))))<|
 opt.ret _ (a.1,((p.app (p.cut a.2.1 0 (p.len a.2.1)) (p.cut [[(D.int .i64 (0:Int)),(D.int .i64 (0:Int)),(D.int .i64 (0:Int)),(D.bool Bool.false)]] 0 1)),(a.2.2.1,(a.2.2.2.1,(a.2.2.2.2.1,())))))))) fun b=>
 opt.need _ (p.eqN 0 0)<|
 opt.need _ (p.eqN (p.len b.2.1) (p.len b.2.1))<|
 opt.ret _ (Sum.inl (b.1,(b.2.1,(b.2.2.1,(b.2.2.2.1,((p.ar .add .i64 b.2.2.2.2.1 (1:Int)),()))))))) (
 opt.need _ (p.eqN 0 0)<|
 opt.need _ (p.eqN (p.len a.2.1) (p.len a.2.1))<|
 opt.ret _ (Sum.inr (a.2.1,()))))
def G23:(p:z0n)→(LD×Unit)→Option ((LD×(Int×Unit))):=
 fun p x=>
 opt.bnd ((Int×Unit)) _ (G19 p (x.1,())) fun a=>
 opt.ask _ (p.cmp .neq a.1 (0:Int)) (
 opt.ret _ ([],(a.1,()))) (
 opt.bnd ((List ((D×D))×(LD×Unit))) _ (G61 p (x.1,())) fun b=>
 opt.bnd ((List ((D×D))×Unit)) _ (G64 p (b.1,())) fun c=>
 opt.bnd ((List ((D×D))×(LD×Unit))) _ (G63 p (c.1,())) fun d=>
 opt.bnd ((LD×Unit)) _ (v3b p (d.2.1,())) fun e=>
 opt.bnd ((LD×Unit)) _ (
 z6j (b23_1 p) (d.1,([],(e.1,((p.ofNat (p.len e.1)),((0:Int),())))))) fun f=>
 opt.need _ (p.eqN 0 0)<|
 opt.need _ (p.eqN (p.len f.1) (p.len f.1))<|
 opt.ret _ (f.1,((0:Int),())))
def F23:z0n→Tup (ctr23).scs→Option (z6k (z6i (ctr23).outs)):=
 fun p x=>G23 p x
theorem eq23 (p:z0n) (x:Tup (ctr23).scs):z2r opt p (z0r [] Go.Proofs.Tryz.prog) (z6d opt p (z0r [] Go.Proofs.Tryz.prog) 400 (an23) la23) 400 ctr23 x=G23 p x:=by kernel_rfl
theorem gok23:z5q Go.Proofs.Tryz.prog (gam23):=by
 intro cf h
 simp only [gam23,List.mem_cons,List.not_mem_nil,or_false] at h
 rcases h with rfl|rfl|rfl|rfl|rfl
 ·exact ok63
 ·exact ok64
 ·exact ok61
 ·exact v05
 ·exact v3r
theorem enters23:z1m Go.Proofs.Tryz.prog 23:=z0v (b:=_) rfl (by kernel_rfl)
theorem ok23:z27 Go.Proofs.Tryz.prog ctr23 (F23 std):=z0w (z0h z0c) (z1v (z0h z0c) gok23 _) enters23 (fun x=>eq23 std x)
end Go.Am
end
noncomputable section
namespace Go.Am
def ctr45:Ctr:=
 ⟨45,[.list 4, .int .i64],[],[(.ret,⟨[(0, .agg [.int .i64, .int .i64, .int .i64, .bool])],[],1⟩)]⟩
def la45:List LA:=
 [⟨45,[false,true,false,true],0,⟨⟨[(0, .list 4),(1, .int .i64),(4, .bptr 0 0),(5, .int .i64)],[.box [.int .i64, .int .i64, .int .i64, .bool]],24⟩,[(AX.ret,⟨[(4, .bptr 0 0)],[.box [.int .i64, .int .i64, .int .i64, .bool]],24⟩),((AX.exit 0),⟨[(4, .bptr 0 0)],[.box [.int .i64, .int .i64, .int .i64, .bool]],24⟩)]⟩⟩]
def ja45:List JA:=
 []
def gam45:List CF:=
 []
def an45:y5o:=
 ⟨gam45,ja45,[]⟩
def b45_1 (p:z0n):(Int×(Int×(Int×(Bool×(LD×(Int×(Int×Unit)))))))→Option ((Int×(Int×(Int×(Bool×(LD×(Int×(Int×Unit)))))))⊕((Int×(Int×(Int×(Bool×Unit))))⊕(Int×(Int×(Int×(Bool×Unit)))))):=
 fun a=>opt.run _ (
 opt.ask _ (p.cmp .lss a.2.2.2.2.2.2.1 (p.ofNat (p.len a.2.2.2.2.1))) (
 opt.need _ (p.rowOk a.2.2.2.2.1 (p.nat a.2.2.2.2.2.2.1) [ci,ci,ci,CK.bool])<|
 opt.need _ (p.cmp .geq a.2.2.2.2.2.2.1 (0:Int))<|
 opt.ask _ (p.cmp .eql (p.rdI a.2.2.2.2.1 (p.nat a.2.2.2.2.2.2.1) 0) a.2.2.2.2.2.1) (
 opt.need _ (p.rowOk a.2.2.2.2.1 (p.nat a.2.2.2.2.2.2.1) [ci,ci,ci,CK.bool])<|
 opt.need _ (p.cmp .geq a.2.2.2.2.2.2.1 (0:Int))<|
 opt.ret _ (Sum.inr (Sum.inl ((p.rdI a.2.2.2.2.1 (p.nat a.2.2.2.2.2.2.1) 0),((p.rdI a.2.2.2.2.1 (p.nat a.2.2.2.2.2.2.1) 1),((p.rdI a.2.2.2.2.1 (p.nat a.2.2.2.2.2.2.1) 2),((p.rdB a.2.2.2.2.1 (p.nat a.2.2.2.2.2.2.1) 3),()))))))) (
 opt.ret _ (Sum.inl (a.1,(a.2.1,(a.2.2.1,(a.2.2.2.1,(a.2.2.2.2.1,(a.2.2.2.2.2.1,((p.ar .add .i64 a.2.2.2.2.2.2.1 (1:Int)),())))))))))) (
 opt.ret _ (Sum.inr (Sum.inr (a.1,(a.2.1,(a.2.2.1,(a.2.2.2.1,()))))))))
def G45:(p:z0n)→(LD×(Int×Unit))→Option ((Int×(Int×(Int×(Bool×Unit))))):=
 fun p x=>
 opt.alt ((Int×(Int×(Int×(Bool×Unit))))) ((Int×(Int×(Int×(Bool×Unit))))) _ (
 z6j (b45_1 p) ((0:Int),((0:Int),((0:Int),(Bool.false,(x.1,(x.2.1,((0:Int),())))))))) (fun a=>
 opt.ret _ (a.1,(a.2.1,(a.2.2.1,(a.2.2.2.1,()))))) (fun b=>
 opt.bnd ((Int×(Int×(Int×(Bool×Unit))))) _ (some b) fun c=>
 opt.ret _ ((0:Int),((0:Int),((0:Int),(Bool.false,())))))
def F45:z0n→Tup (ctr45).scs→Option (z6k (z6i (ctr45).outs)):=
 fun p x=>G45 p x
theorem eq45 (p:z0n) (x:Tup (ctr45).scs):z2r opt p (z0r [] Go.Proofs.Tryz.prog) (z6d opt p (z0r [] Go.Proofs.Tryz.prog) 400 (an45) la45) 400 ctr45 x=G45 p x:=by kernel_rfl
theorem gok45:z5q Go.Proofs.Tryz.prog gam45:=fun cf h=>by cases h
theorem enters45:z1m Go.Proofs.Tryz.prog 45:=z0v (b:=_) rfl (by kernel_rfl)
theorem ok45:z27 Go.Proofs.Tryz.prog ctr45 (F45 std):=z0w (z0h z0c) (z1v (z0h z0c) gok45 _) enters45 (fun x=>eq45 std x)
end Go.Am
end
noncomputable section
namespace Go.Am
def ctr10:Ctr:=
 ⟨10,[.list 4, .int .u8, .int .u8],[],[(.ret,⟨[(0, .bool)],[],1⟩)]⟩
def la10:List LA:=
 [⟨10,[false,true,false,true,true,true,true,true,true,true,true,true,true],0,⟨⟨[(0, .list 4),(8, .int .i64),(9, .list 4),(13, .vec 0 4),(15, .vec 1 4),(17, .int .i64)],[.row [ci,ci,ci,CK.bool], .row [ci,ci,ci,CK.bool]],144⟩,[(AX.ret,⟨[(6, .bool)],[],144⟩),((AX.exit 0),⟨[(8, .int .i64),(13, .vec 0 4),(15, .vec 1 4)],[.row [ci,ci,ci,CK.bool], .row [ci,ci,ci,CK.bool]],144⟩)]⟩⟩,
 ⟨10,[false,true,false,false,true,false,false,true,false,true,true,true,true,true,true,true,true,true,true],0,⟨⟨[(0, .list 4),(8, .int .i64),(9, .list 4),(13, .vec 0 4),(15, .vec 1 4),(17, .int .i64),(18, .int .i64)],[.row [ci,ci,ci,CK.bool], .row [ci,ci,ci,CK.bool]],144⟩,[(AX.ret,⟨[(6, .bool)],[],144⟩),((AX.exit 2),⟨[(0, .list 4),(8, .int .i64),(9, .list 4),(13, .vec 0 4),(15, .vec 1 4),(17, .int .i64)],[.row [ci,ci,ci,CK.bool], .row [ci,ci,ci,CK.bool]],144⟩)]⟩⟩]
def ja10:List JA:=
 [⟨10,[false,true,true,true,true,true,true,true,true,true,true,true],0,[(AX.normal,⟨[(6, .bool)],[],144⟩)]⟩,
 ⟨10,[false,false,true,true,true,true,true],0,[(AX.normal,⟨[(0, .list 4),(8, .int .i64),(9, .list 4),(58, .bool)],[],144⟩)]⟩,
 ⟨10,[false,false,true,true,true,true,true,true,true,true,true],0,[(AX.normal,⟨[(0, .list 4),(8, .int .i64),(9, .list 4),(13, .vec 0 4),(15, .vec 1 4),(90, .bool)],[.row [ci,ci,ci,CK.bool], .row [ci,ci,ci,CK.bool]],144⟩)]⟩,
 ⟨10,[false,true,false,false,true,false,false,true,false,false,true,false,true,true,true,true,true,true,true,true,true,true],0,[(AX.ret,⟨[(6, .bool)],[],144⟩),(AX.normal,⟨[(0, .list 4),(8, .int .i64),(9, .list 4),(13, .vec 0 4),(15, .vec 1 4),(17, .int .i64),(18, .int .i64)],[.row [ci,ci,ci,CK.bool], .row [ci,ci,ci,CK.bool]],144⟩)]⟩,
 ⟨10,[false,false,true],0,[(AX.normal,⟨[(0, .list 4),(1, .int .u8),(2, .int .u8),(26, .bool)],[],144⟩)]⟩]
def gam10:List CF:=
 [⟨ctr23,F23⟩,⟨ctr31,F31⟩,⟨ctr45,F45⟩,⟨ctr43,F43⟩,⟨ctr44,F44⟩,⟨ctr34,F34⟩,⟨w3j,F16⟩,⟨ctr41,F41⟩]
def an10:y5o:=
 ⟨gam10,ja10,[⟨10,[false,false,true,true,true,true,true],⟨[(0, .list 4),(8, .int .i64),(9, .list 4),(10, .int .i64)],[],144⟩⟩,⟨10,[false,true,true,true,true,true,true,true],⟨[(0, .list 4),(8, .int .i64),(9, .list 4),(11, .list 4),(12, .int .i64)],[],144⟩⟩]⟩
def b10_2 (p:z0n):(LD×(LD×(LD×(Int×(LD×(Int×(Int×Unit)))))))→Option ((LD×(LD×(LD×(Int×(LD×(Int×(Int×Unit)))))))⊕((Bool×Unit)⊕(LD×(LD×(LD×(Int×(LD×(Int×Unit)))))))):=
 fun a=>opt.run _ (
 opt.ask _ (p.cmp .lss a.2.2.2.2.2.2.1 (p.ofNat (p.len a.2.2.1))) (
 opt.alt ((Bool×Unit)) ((LD×(LD×(LD×(Int×(LD×(Int×(Int×Unit)))))))) _ (
 opt.run (((Bool×Unit)⊕(LD×(LD×(LD×(Int×(LD×(Int×(Int×Unit))))))))) (
 opt.need _ (p.rowOk a.2.2.1 (p.nat a.2.2.2.2.2.1) [ci,ci,(CK.list 1),ci])<|
 opt.need _ (p.cmp .geq a.2.2.2.2.2.1 (0:Int))<|
 opt.need _ (p.rowOk a.2.2.1 (p.nat a.2.2.2.2.2.2.1) [ci,ci,(CK.list 1),ci])<|
 opt.need _ (p.cmp .geq a.2.2.2.2.2.2.1 (0:Int))<|
 opt.bnd ((Bool×Unit)) _ (G44 p ((p.rdI a.2.2.1 (p.nat a.2.2.2.2.2.1) 0),((p.rdI a.2.2.1 (p.nat a.2.2.2.2.2.1) 1),((p.rdL a.2.2.1 (p.nat a.2.2.2.2.2.1) 2),((p.rdI a.2.2.1 (p.nat a.2.2.2.2.2.1) 3),((p.rdI a.2.2.1 (p.nat a.2.2.2.2.2.2.1) 0),((p.rdI a.2.2.1 (p.nat a.2.2.2.2.2.2.1) 1),((p.rdL a.2.2.1 (p.nat a.2.2.2.2.2.2.1) 2),((p.rdI a.2.2.1 (p.nat a.2.2.2.2.2.2.1) 3),()))))))))) fun b=>
 opt.ask _ b.1 (
 opt.need _ (p.rowOk a.2.2.1 (p.nat a.2.2.2.2.2.2.1) [ci,ci,(CK.list 1),ci])<|
 opt.need _ (p.cmp .geq a.2.2.2.2.2.2.1 (0:Int))<|
 opt.bnd ((Int×Unit)) _ (G43 p (a.2.2.2.2.1,((p.rdI a.2.2.1 (p.nat a.2.2.2.2.2.2.1) 0),()))) fun c=>
 opt.ask _ (p.cmp .geq c.1 (0:Int)) (
 opt.need _ (p.rowOk a.2.2.1 (p.nat a.2.2.2.2.2.1) [ci,ci,(CK.list 1),ci])<|
 opt.need _ (p.cmp .geq a.2.2.2.2.2.1 (0:Int))<|
 opt.bnd ((Int×Unit)) _ (G43 p (a.2.2.2.2.1,((p.rdI a.2.2.1 (p.nat a.2.2.2.2.2.1) 0),()))) fun d=>
 opt.ask _ (p.cmp .lss d.1 (0:Int)) (
 opt.ret _ (Sum.inl (Bool.false,()))) (
 opt.need _ (p.eqN 0 0)<|
 opt.need _ (p.eqN (p.len a.1) (p.len a.1))<|
 opt.need _ (p.eqN 0 0)<|
 opt.need _ (p.eqN (p.len a.2.1) (p.len a.2.1))<|
 opt.ret _ (Sum.inr (a.1,(a.2.1,(a.2.2.1,(a.2.2.2.1,(a.2.2.2.2.1,(a.2.2.2.2.2.1,(a.2.2.2.2.2.2.1,())))))))))) (
 opt.need _ (p.eqN 0 0)<|
 opt.need _ (p.eqN (p.len a.1) (p.len a.1))<|
 opt.need _ (p.eqN 0 0)<|
 opt.need _ (p.eqN (p.len a.2.1) (p.len a.2.1))<|
 opt.ret _ (Sum.inr (a.1,(a.2.1,(a.2.2.1,(a.2.2.2.1,(a.2.2.2.2.1,(a.2.2.2.2.2.1,(a.2.2.2.2.2.2.1,())))))))))) (
 opt.need _ (p.eqN 0 0)<|
 opt.need _ (p.eqN (p.len a.1) (p.len a.1))<|
 opt.need _ (p.eqN 0 0)<|
 opt.need _ (p.eqN (p.len a.2.1) (p.len a.2.1))<|
 opt.ret _ (Sum.inr (a.1,(a.2.1,(a.2.2.1,(a.2.2.2.1,(a.2.2.2.2.1,(a.2.2.2.2.2.1,(a.2.2.2.2.2.2.1,()))))))))))) (fun e=>
 opt.ret _ (Sum.inr (Sum.inl (e.1,())))) (fun f=>
 opt.bnd ((LD×(LD×(LD×(Int×(LD×(Int×(Int×Unit)))))))) _ (some f) fun g=>
 opt.need _ (p.eqN 0 0)<|
 opt.need _ (p.eqN (p.len g.1) (p.len g.1))<|
 opt.need _ (p.eqN 0 0)<|
 opt.need _ (p.eqN (p.len g.2.1) (p.len g.2.1))<|
 opt.ret _ (Sum.inl (g.1,(g.2.1,(g.2.2.1,(g.2.2.2.1,(g.2.2.2.2.1,(g.2.2.2.2.2.1,((p.ar .add .i64 g.2.2.2.2.2.2.1 (1:Int)),())))))))))) (
 opt.need _ (p.eqN 0 0)<|
 opt.need _ (p.eqN (p.len a.1) (p.len a.1))<|
 opt.need _ (p.eqN 0 0)<|
 opt.need _ (p.eqN (p.len a.2.1) (p.len a.2.1))<|
 opt.ret _ (Sum.inr (Sum.inr (a.1,(a.2.1,(a.2.2.1,(a.2.2.2.1,(a.2.2.2.2.1,(a.2.2.2.2.2.1,()))))))))))
def b10_1 (p:z0n):(LD×(LD×(LD×(Int×(LD×(Int×Unit))))))→Option ((LD×(LD×(LD×(Int×(LD×(Int×Unit))))))⊕((Bool×Unit)⊕(LD×(LD×(Int×Unit))))):=
 fun a=>opt.run _ (
 opt.ask _ (p.cmp .lss a.2.2.2.2.2.1 (p.ofNat (p.len a.2.2.1))) (
 opt.need _ (p.eqN 0 0)<|
 opt.need _ (p.eqN (p.len a.1) (p.len a.1))<|
 opt.need _ (p.eqN 0 0)<|
 opt.need _ (p.eqN (p.len a.2.1) (p.len a.2.1))<|
 opt.alt ((Bool×Unit)) ((LD×(LD×(LD×(Int×(LD×(Int×Unit))))))) _ (
 z6j (b10_2 p) (a.1,(a.2.1,(a.2.2.1,(a.2.2.2.1,(a.2.2.2.2.1,(a.2.2.2.2.2.1,((p.ar .add .i64 a.2.2.2.2.2.1 (1:Int)),())))))))) (fun b=>
 opt.ret _ (Sum.inr (Sum.inl (b.1,())))) (fun c=>
 opt.bnd ((LD×(LD×(LD×(Int×(LD×(Int×Unit))))))) _ (some c) fun d=>
 opt.need _ (p.eqN 0 0)<|
 opt.need _ (p.eqN (p.len d.1) (p.len d.1))<|
 opt.need _ (p.eqN 0 0)<|
 opt.need _ (p.eqN (p.len d.2.1) (p.len d.2.1))<|
 opt.ret _ (Sum.inl (d.1,(d.2.1,(d.2.2.1,(d.2.2.2.1,(d.2.2.2.2.1,((p.ar .add .i64 d.2.2.2.2.2.1 (1:Int)),()))))))))) (
 opt.need _ (p.eqN 0 0)<|
 opt.need _ (p.eqN (p.len a.1) (p.len a.1))<|
 opt.need _ (p.eqN 0 0)<|
 opt.need _ (p.eqN (p.len a.2.1) (p.len a.2.1))<|
 opt.ret _ (Sum.inr (Sum.inr (a.1,(a.2.1,(a.2.2.2.1,())))))))
def G10:(p:z0n)→(LD×(Int×(Int×Unit)))→Option ((Bool×Unit)):=
 fun p x=>
 opt.bnd ((LD×(Int×(Int×(Bool×Unit))))) _ (
 opt.run ((LD×(Int×(Int×(Bool×Unit))))) (
 opt.bnd ((Bool×Unit)) _ (G41 p (x.1,())) fun a=>
 opt.ask _ (bif a.1 then Bool.false else Bool.true) (
 opt.ret _ (x.1,(x.2.1,(x.2.2.1,(Bool.true,()))))) (
 opt.ret _ (x.1,(x.2.1,(x.2.2.1,((p.cmp .eql (p.ofNat (p.len x.1)) (0:Int)),()))))))) fun b=>
 opt.ask _ b.2.2.2.1 (
 opt.bnd ((Bool×Unit)) _ (G16 p ()) fun c=>
 opt.ret _ (c.1,())) (
 opt.need _ (p.cmp .neq (p.ofNat (p.len b.1)) (0:Int))<|
 opt.need _ (p.rowOk b.1 (p.nat (p.ar .rem .i64 (p.cvt .i64 b.2.1) (p.ofNat (p.len b.1)))) [ci,ci,(CK.list 1),ci])<|
 opt.need _ (p.cmp .geq (p.ar .rem .i64 (p.cvt .i64 b.2.1) (p.ofNat (p.len b.1))) (0:Int))<|
 opt.need _ (p.cmp .neq (p.ofNat (p.len (p.rdL b.1 (p.nat (p.ar .rem .i64 (p.cvt .i64 b.2.1) (p.ofNat (p.len b.1)))) 2))) (0:Int))<|
 opt.need _ (p.rowOk (p.rdL b.1 (p.nat (p.ar .rem .i64 (p.cvt .i64 b.2.1) (p.ofNat (p.len b.1)))) 2) (p.nat (p.ar .rem .i64 (p.cvt .i64 b.2.2.1) (p.ofNat (p.len (p.rdL b.1 (p.nat (p.ar .rem .i64 (p.cvt .i64 b.2.1) (p.ofNat (p.len b.1)))) 2))))) [ci])<|
 opt.need _ (p.cmp .geq (p.ar .rem .i64 (p.cvt .i64 b.2.2.1) (p.ofNat (p.len (p.rdL b.1 (p.nat (p.ar .rem .i64 (p.cvt .i64 b.2.1) (p.ofNat (p.len b.1)))) 2)))) (0:Int))<|
 opt.bnd ((LD×(Int×Unit))) _ (G31 p (b.1,((p.rdI (p.rdL b.1 (p.nat (p.ar .rem .i64 (p.cvt .i64 b.2.1) (p.ofNat (p.len b.1)))) 2) (p.nat (p.ar .rem .i64 (p.cvt .i64 b.2.2.1) (p.ofNat (p.len (p.rdL b.1 (p.nat (p.ar .rem .i64 (p.cvt .i64 b.2.1) (p.ofNat (p.len b.1)))) 2))))) 0),()))) fun d=>
 opt.bnd ((LD×(Int×(LD×(Bool×Unit))))) _ (
 opt.run ((LD×(Int×(LD×(Bool×Unit))))) (
 opt.need _ (p.leN (p.add 0 (p.len d.1)) (p.len d.1))<|
 opt.ask _ (p.cmp .neq d.2.1 (0:Int)) (
 opt.ret _ (b.1,((p.rdI (p.rdL b.1 (p.nat (p.ar .rem .i64 (p.cvt .i64 b.2.1) (p.ofNat (p.len b.1)))) 2) (p.nat (p.ar .rem .i64 (p.cvt .i64 b.2.2.1) (p.ofNat (p.len (p.rdL b.1 (p.nat (p.ar .rem .i64 (p.cvt .i64 b.2.1) (p.ofNat (p.len b.1)))) 2))))) 0),((p.cut d.1 0 (p.len d.1)),(Bool.true,()))))) (
 opt.bnd ((Bool×Unit)) _ (G41 p ((p.cut d.1 0 (p.len d.1)),())) fun e=>
 opt.ret _ (b.1,((p.rdI (p.rdL b.1 (p.nat (p.ar .rem .i64 (p.cvt .i64 b.2.1) (p.ofNat (p.len b.1)))) 2) (p.nat (p.ar .rem .i64 (p.cvt .i64 b.2.2.1) (p.ofNat (p.len (p.rdL b.1 (p.nat (p.ar .rem .i64 (p.cvt .i64 b.2.1) (p.ofNat (p.len b.1)))) 2))))) 0),((p.cut d.1 0 (p.len d.1)),((bif e.1 then Bool.false else Bool.true),()))))))) fun f=>
 opt.ask _ f.2.2.2.1 (
 opt.ret _ (Bool.false,())) (
 opt.bnd ((LD×(Int×Unit))) _ (G31 p (f.2.2.1,(f.2.1,()))) fun g=>
 opt.need _ (p.leN (p.add 0 (p.len g.1)) (p.len g.1))<|
 opt.bnd ((LD×(Int×Unit))) _ (G23 p (f.1,())) fun h=>
 opt.bnd ((LD×(Int×Unit))) _ (G23 p (f.2.2.1,())) fun i=>
 opt.bnd ((LD×(LD×(LD×(Int×(LD×(Bool×Unit))))))) _ (
 opt.run ((LD×(LD×(LD×(Int×(LD×(Bool×Unit))))))) (
 opt.ask _ (p.cmp .neq g.2.1 (0:Int)) (
 opt.need _ (p.eqN 0 0)<|
 opt.need _ (p.eqN (p.len h.1) (p.len h.1))<|
 opt.need _ (p.eqN 0 0)<|
 opt.need _ (p.eqN (p.len i.1) (p.len i.1))<|
 opt.ret _ (h.1,(i.1,(f.1,(f.2.1,(f.2.2.1,(Bool.true,()))))))) (
 opt.ask _ (p.cmp .neq h.2.1 (0:Int)) (
 opt.need _ (p.eqN 0 0)<|
 opt.need _ (p.eqN (p.len h.1) (p.len h.1))<|
 opt.need _ (p.eqN 0 0)<|
 opt.need _ (p.eqN (p.len i.1) (p.len i.1))<|
 opt.ret _ (h.1,(i.1,(f.1,(f.2.1,(f.2.2.1,(Bool.true,()))))))) (
 opt.ask _ (p.cmp .neq i.2.1 (0:Int)) (
 opt.need _ (p.eqN 0 0)<|
 opt.need _ (p.eqN (p.len h.1) (p.len h.1))<|
 opt.need _ (p.eqN 0 0)<|
 opt.need _ (p.eqN (p.len i.1) (p.len i.1))<|
 opt.ret _ (h.1,(i.1,(f.1,(f.2.1,(f.2.2.1,(Bool.true,()))))))) (
 opt.bnd ((Bool×Unit)) _ (G34 p (f.2.2.1,((p.cut g.1 0 (p.len g.1)),()))) fun j=>
 opt.need _ (p.eqN 0 0)<|
 opt.need _ (p.eqN (p.len h.1) (p.len h.1))<|
 opt.need _ (p.eqN 0 0)<|
 opt.need _ (p.eqN (p.len i.1) (p.len i.1))<|
 opt.ret _ (h.1,(i.1,(f.1,(f.2.1,(f.2.2.1,((bif j.1 then Bool.false else Bool.true),()))))))))))) fun k=>
 opt.ask _ k.2.2.2.2.2.1 (
 opt.ret _ (Bool.false,())) (
 opt.need _ (p.eqN 0 0)<|
 opt.need _ (p.eqN (p.len k.1) (p.len k.1))<|
 opt.need _ (p.eqN 0 0)<|
 opt.need _ (p.eqN (p.len k.2.1) (p.len k.2.1))<|
 opt.alt ((Bool×Unit)) ((LD×(LD×(Int×Unit)))) _ (
 z6j (b10_1 p) (k.1,(k.2.1,(k.2.2.1,(k.2.2.2.1,(k.2.2.2.2.1,((0:Int),()))))))) (fun l=>
 opt.ret _ (l.1,())) (fun m=>
 opt.bnd ((LD×(LD×(Int×Unit)))) _ (some m) fun n=>
 opt.bnd ((Bool×Unit)) _ (
 opt.run ((Bool×Unit)) (
 opt.need _ (p.and (p.leN (p.add 0 (p.len n.1)) (p.len n.1)) (p.and Bool.true Bool.true))<|
 opt.bnd ((Int×(Int×(Int×(Bool×Unit))))) _ (G45 p ((p.cut n.1 0 (p.len n.1)),(n.2.2.1,()))) fun o=>
 opt.need _ (p.and (p.leN (p.add 0 (p.len n.2.1)) (p.len n.2.1)) (p.and Bool.true Bool.true))<|
 opt.bnd ((Int×(Int×(Int×(Bool×Unit))))) _ (G45 p ((p.cut n.2.1 0 (p.len n.2.1)),(n.2.2.1,()))) fun q=>
 opt.ask _ (bif (p.cmp .eql o.1 q.1) then (bif (p.cmp .eql o.2.1 q.2.1) then (bif (p.cmp .eql o.2.2.1 q.2.2.1) then (bif (p.bEq o.2.2.2.1 q.2.2.2.1) then Bool.true else Bool.false) else Bool.false) else Bool.false) else Bool.false) (
 opt.bnd ((Bool×Unit)) _ (G16 p ()) fun r=>
 opt.ret _ (r.1,())) (
 opt.ret _ (Bool.false,())))) fun t=>
 opt.ret _ (t.1,())))))
def F10:z0n→Tup (ctr10).scs→Option (z6k (z6i (ctr10).outs)):=
 fun p x=>G10 p x
theorem eq10 (p:z0n) (x:Tup (ctr10).scs):z2r opt p (z0r [] Go.Proofs.Tryz.prog) (z6d opt p (z0r [] Go.Proofs.Tryz.prog) 400 (an10) la10) 400 ctr10 x=G10 p x:=by kernel_rfl
theorem gok10:z5q Go.Proofs.Tryz.prog (gam10):=by
 intro cf h
 simp only [gam10,List.mem_cons,List.not_mem_nil,or_false] at h
 rcases h with rfl|rfl|rfl|rfl|rfl|rfl|rfl|rfl
 ·exact ok23
 ·exact ok31
 ·exact ok45
 ·exact ok43
 ·exact ok44
 ·exact ok34
 ·exact ok16
 ·exact ok41
theorem enters10:z1m Go.Proofs.Tryz.prog 10:=z0v (b:=_) rfl (by kernel_rfl)
theorem ok10:z27 Go.Proofs.Tryz.prog ctr10 (F10 std):=z0w (z0h z0c) (z1v (z0h z0c) gok10 _) enters10 (fun x=>eq10 std x)
end Go.Am
end
section
namespace Go.Am
namespace D12
structure Sg where
 a:Nat
 b:Nat
 ha:a<2 ^ 64
 hb:b<2 ^ 64
def Sg.has (s:Sg) (i:Nat):Bool:=if i<64 then s.a.testBit i else s.b.testBit (i - 64)
def Sg.none:Sg:=⟨0,0,by omega,by omega⟩
def Sg.wth (s:Sg) (k:Nat):Sg:=
 if h:k<64 then ⟨s.a|||2 ^ k,s.b,Nat.or_lt_two_pow s.ha (Nat.pow_lt_pow_right (by omega) h),s.hb⟩
 else if h:k<128 then ⟨s.a,s.b|||2 ^ (k - 64),s.ha,Nat.or_lt_two_pow s.hb (Nat.pow_lt_pow_right (by omega) (by omega))⟩
 else s
def Sg.or (s t:Sg):Sg:=⟨s.a|||t.a,s.b|||t.b,Nat.or_lt_two_pow s.ha t.ha,Nat.or_lt_two_pow s.hb t.hb⟩
def Sg.and (s t:Sg):Sg:=⟨s.a&&&t.a,s.b&&&t.b,Nat.lt_of_le_of_lt Nat.and_le_left s.ha,Nat.lt_of_le_of_lt Nat.and_le_left s.hb⟩
theorem Sg.has_none (i:Nat):Sg.none.has i=false:=by
 unfold Sg.has Sg.none; split<;>exact Nat.zero_testBit _
theorem Sg.has_wth (s:Sg) {k:Nat} (hk:k<128) (i:Nat):(s.wth k).has i=(s.has i||decide (i=k)):=by
 unfold Sg.wth
 by_cases h:k<64
 ·rw [dif_pos h]
  unfold Sg.has
  simp only
  by_cases hi:i<64
  ·rw [if_pos hi,if_pos hi,Nat.testBit_or,Nat.testBit_two_pow]
   congr 1
   exact decide_eq_decide.2 ⟨fun h=>h.symm,fun h=>h.symm⟩
  ·rw [if_neg hi,if_neg hi]
   have:¬ i=k:=by omega
   simp [this]
 ·rw [dif_neg h,dif_pos hk]
  unfold Sg.has
  simp only
  by_cases hi:i<64
  ·rw [if_pos hi,if_pos hi]
   have:¬ i=k:=by omega
   simp [this]
  ·rw [if_neg hi,if_neg hi,Nat.testBit_or,Nat.testBit_two_pow]
   congr 1
   exact decide_eq_decide.2 (by omega)
theorem Sg.has_or (s t:Sg) (i:Nat):(s.or t).has i=(s.has i||t.has i):=by
 unfold Sg.has Sg.or
 simp only
 split<;>exact Nat.testBit_or ..
end D12
theorem wrapU64 {n:Nat} (h:n<2 ^ 64):IntKind.u64.wrap (n:Int)=(n:Int):=by
 have e:IntKind.u64.wrap (n:Int)=(n:Int) % 18446744073709551616:=by
  unfold IntKind.wrap
  simp [IntKind.signed,IntKind.bits]
 rw [e]
 omega
theorem ofI (n:Nat):BitVec.ofInt 64 (n:Int)=BitVec.ofNat 64 n:=by simp
theorem u_or {a b:Nat} (ha:a<2 ^ 64) (hb:b<2 ^ 64):std.ar .or .u64 (a:Int) (b:Int)=((a|||b:Nat):Int):=by
 show IntKind.u64.wrap (((BitVec.ofInt 64 (a:Int)|||BitVec.ofInt 64 (b:Int)).toNat:Nat):Int)=_
 rw [ofI,ofI,BitVec.toNat_or,BitVec.toNat_ofNat,BitVec.toNat_ofNat,Nat.mod_eq_of_lt ha,Nat.mod_eq_of_lt hb,wrapU64 (Nat.or_lt_two_pow ha hb)]
theorem u_and {a b:Nat} (ha:a<2 ^ 64) (hb:b<2 ^ 64):std.ar .and .u64 (a:Int) (b:Int)=((a&&&b:Nat):Int):=by
 show IntKind.u64.wrap (((BitVec.ofInt 64 (a:Int)&&&BitVec.ofInt 64 (b:Int)).toNat:Nat):Int)=_
 rw [ofI,ofI,BitVec.toNat_and,BitVec.toNat_ofNat,BitVec.toNat_ofNat,Nat.mod_eq_of_lt ha,Nat.mod_eq_of_lt hb,wrapU64 (Nat.lt_of_le_of_lt Nat.and_le_left ha)]
theorem u_shl {i:Nat} (h:i<64):std.ar .shl .u64 1 (i:Int)=((2 ^ i:Nat):Int):=by
 show IntKind.u64.wrap (1*2 ^ (min ((i:Int)).toNat 64))=_
 have:min ((i:Int)).toNat 64=i:=by omega
 rw [this,Int.one_mul]
 have e:((2:Int) ^ i)=((2 ^ i:Nat):Int):=by simp
 rw [e,wrapU64 (Nat.pow_lt_pow_right (by omega) h)]
theorem u_bit {a i:Nat} (ha:a<2 ^ 64) (h:i<64):std.cmp .eql (std.ar .and .u64 (std.ar .shr .u64 (a:Int) (i:Int)) 1) 1=a.testBit i:=by
 have e1:std.ar .shr .u64 (a:Int) (i:Int)=((a / 2 ^ i:Nat):Int):=by
  show Int.fdiv (a:Int) (2 ^ (min ((i:Int)).toNat 64))=_
  have:min ((i:Int)).toNat 64=i:=by omega
  rw [this]
  have e:((2:Int) ^ i)=((2 ^ i:Nat):Int):=by simp
  rw [e,Int.fdiv_eq_ediv_of_nonneg _ (Int.natCast_nonneg _)]
  exact (Int.natCast_ediv ..).symm
 have hd:a / 2 ^ i<2 ^ 64:=Nat.lt_of_le_of_lt (Nat.div_le_self ..) ha
 rw [e1,show (1:Int)=((1:Nat):Int) from rfl,u_and hd (by omega),Nat.and_one_is_mod,std_eql,Nat.testBit_eq_decide_div_mod_eq]
 exact decide_eq_decide.2 (by omega)
theorem i_quo {i:Nat} (h:i<128):std.ar .quo .i64 (i:Int) 64=if i<64 then 0 else 1:=by
 rw [std_ar_quo,Int.tdiv_eq_ediv_of_nonneg (by omega),w4a _ (by omega) (by omega)]
 split<;>omega
theorem i_rem {i:Nat} (h:i<128):std.ar .rem .i64 (i:Int) 64=((if i<64 then i else i - 64:Nat):Int):=by
 rw [std_ar_rem,Int.tmod_eq_emod_of_nonneg (by omega)]
 split<;>omega
end Go.Am
end
section
namespace Go.Am
section
variable {κ ν:Type} [DecidableEq κ]
def aIdx:List (κ×ν)→κ→Nat→Option (Nat×ν)
 |[],_,_=>none
 |(k',v)::r,k,i=>if k=k' then some (i,v) else aIdx r k (i+1)
def aVal:List (κ×ν)→κ→Option ν
 |[],_=>none
 |(k',v)::r,k=>if k=k' then some v else aVal r k
def aSet:List (κ×ν)→κ→ν→List (κ×ν)
 |[],_,_=>[]
 |(k',w)::r,k,v=>if k=k' then (k,v)::r else (k',w)::aSet r k v
def aPut (m:List (κ×ν)) (k:κ) (v:ν):List (κ×ν):=match aVal m k with
 |some _=>aSet m k v
 |none=>m++[(k,v)]
theorem aIdx_val (k:κ):∀ (m:List (κ×ν)) (i:Nat),(aIdx m k i).map (·.2)=aVal m k
 |[],i=>rfl
 |(k',v)::r,i=>by
  simp only [aIdx,aVal]
  split
  ·rfl
  ·exact aIdx_val k r (i+1)
theorem aIdx_ge {k:κ}:∀ {m:List (κ×ν)} {i j:Nat} {v:ν},aIdx m k i=some (j,v)→i≤j∧j<i+m.length
 |(k',w)::r,i,j,v,h=>by
  simp only [aIdx] at h
  split at h
  ·cases h; simp
  ·have:=aIdx_ge h; simp only [List.length_cons]; omega
theorem aIdx_set {k:κ}:∀ {m:List (κ×ν)} {i j:Nat} {v:ν},aIdx m k i=some (j,v)→∀ w,m.set (j - i) (k,w)=aSet m k w
 |(k',u)::r,i,j,v,h,w=>by
  simp only [aIdx] at h
  simp only [aSet]
  split at h
  ·rename_i e; cases h; rw [if_pos e,Nat.sub_self]; rfl
  ·rename_i e
   have:=aIdx_ge h
   rw [if_neg e, ←aIdx_set h w]
   have:j - i=(j - (i+1))+1:=by omega
   rw [this]; rfl
theorem aVal_set (k:κ) (v:ν) (k':κ):∀ m:List (κ×ν),aVal (aSet m k v) k'=if k'=k then (aVal m k).map fun _=>v else aVal m k'
 |[]=>by simp [aSet,aVal]
 |(x,w)::r=>by
  have ih:=aVal_set k v k' r
  simp only [aSet]
  by_cases h:k=x
  ·rw [if_pos h]; subst h
   by_cases h':k'=k
   ·simp [aVal,h']
   ·simp [aVal,h']
  ·rw [if_neg h]
   simp only [aVal]
   rw [ih]
   by_cases h':k'=x
   ·subst h'
    rw [if_pos rfl,if_neg (fun e=>h e.symm)]
    simp
   ·rw [if_neg h']
    by_cases h'':k'=k
    ·subst h''; rw [if_pos rfl,if_pos rfl,if_neg h]
    ·rw [if_neg h'',if_neg h'',if_neg h']
theorem aVal_append (k':κ) (l:List (κ×ν)):∀ m:List (κ×ν),aVal (m++l) k'=(aVal m k').or (aVal l k')
 |[]=>by simp [aVal]
 |(x,w)::r=>by
  simp only [List.cons_append,aVal,aVal_append k' l r]
  split<;>rfl
theorem aVal_put (m:List (κ×ν)) (k:κ) (v:ν) (k':κ):aVal (aPut m k v) k'=if k'=k then some v else aVal m k':=by
 unfold aPut
 cases h:aVal m k with
 |some w=>simp only [aVal_set,h,Option.map_some]
 |none=>
  simp only [aVal_append,aVal]
  by_cases e:k'=k
  ·subst e; simp [h]
  ·simp [e]
end
structure MEnc (κ ν:Type) where
 ke:κ→D
 ve:ν→D
 ks:List SK
 ka:Bool
 va:Bool
 ck:List CK
structure MEnc.Ok {κ ν:Type} [DecidableEq κ] (E:MEnc κ ν):Prop where
 agg:∀ k,z1s (E.ke k)=E.ka
 kinds:∀ k,z1d E.ks (z0x (E.ke k))=true
 eq:∀ a b,z90 E.ks (z0x (E.ke a)) (z0x (E.ke b))=some (decide (a=b))
 vagg:∀ v,z1s (E.ve v)=E.va
 vok:∀ v,z5p E.ck (z0x (E.ve v))=true
def MEnc.enc {κ ν:Type} (E:MEnc κ ν) (m:List (κ×ν)):List (D×D):=m.map fun e=>(E.ke e.1,E.ve e.2)
section
variable {κ ν:Type} [DecidableEq κ] {E:MEnc κ ν} (h:E.Ok)
include h
theorem findS_enc (k:κ):∀ (m:List (κ×ν)) (i:Nat),x07 E.ks E.ka (E.ke k) (E.enc m) i=some ((aIdx m k i).map fun x=>(x.1,E.ve x.2))
 |[],i=>rfl
 |(k',v)::r,i=>by
  have ih:=findS_enc k r (i+1)
  unfold MEnc.enc at ih⊢
  simp only [List.map_cons,x07,h.agg,beq_self_eq_true,Bool.and_self,cond_true,h.eq,aIdx]
  by_cases e:k=k'
  ·simp [e]
  ·simp [e,ih]
theorem mOk_enc (m:List (κ×ν)) (k:κ):std.mOk (E.enc m) E.ks E.ka (E.ke k) E.va E.ck=true:=by
 show ((z1s (E.ke k)==E.ka)&&z1d E.ks (z0x (E.ke k))&&match x07 E.ks E.ka (E.ke k) (E.enc m) 0 with|some none=>true|some (some (_,v))=>(z1s v==E.va)&&z5p E.ck (z0x v)|none=>false)=true
 rw [findS_enc h,h.agg,h.kinds]
 cases aIdx m k 0 with
 |none=>simp
 |some x=>simp [h.vagg,h.vok]
theorem mget_enc (m:List (κ×ν)) (k:κ):w5v (E.enc m) E.ks E.ka (E.ke k)=(aIdx m k 0).map fun x=>(x.1,E.ve x.2):=by
 unfold w5v; rw [findS_enc h]; rfl
theorem mhas_enc (m:List (κ×ν)) (k:κ):std.mhas (E.enc m) E.ks E.ka (E.ke k)=(aVal m k).isSome:=by
 show (w5v _ _ _ _).isSome=_
 rw [mget_enc h, ←aIdx_val k m 0]; simp
theorem mcell_enc (m:List (κ×ν)) (k:κ) (j:Nat) {v:ν} (hv:aVal m k=some v):x23 (E.enc m) E.ks E.ka (E.ke k) j=((z0x (E.ve v))[j]?).getD .nilp:=by
 unfold x23
 rw [mget_enc h]
 rw [←aIdx_val k m 0] at hv
 cases ha:aIdx m k 0 with
 |none=>rw [ha] at hv; cases hv
 |some x=>rw [ha] at hv; cases hv; rfl
theorem mI_enc (m:List (κ×ν)) (k:κ) (j:Nat) {v:ν} (hv:aVal m k=some v):std.mI (E.enc m) E.ks E.ka (E.ke k) j=dI (((z0x (E.ve v))[j]?).getD .nilp):=by
 show dI (x23 _ _ _ _ _)=_
 rw [mcell_enc h m k j hv]
theorem mB_enc (m:List (κ×ν)) (k:κ) (j:Nat) {v:ν} (hv:aVal m k=some v):std.mB (E.enc m) E.ks E.ka (E.ke k) j=dB (((z0x (E.ve v))[j]?).getD .nilp):=by
 show dB (x23 _ _ _ _ _)=_
 rw [mcell_enc h m k j hv]
theorem mset_enc (m:List (κ×ν)) (k:κ) {v:ν} (hv:aVal m k=some v) (w:ν):std.mset (E.enc m) (std.nat (std.ofNat (std.mpos (E.enc m) E.ks E.ka (E.ke k)))) (E.ke k) (E.ve w)=E.enc (aPut m k w):=by
 show (E.enc m).set (Int.toNat ((((w5v (E.enc m) E.ks E.ka (E.ke k)).map (·.1)).getD 0:Nat):Int)) (E.ke k,E.ve w)=_
 rw [mget_enc h]
 have hv':=hv
 rw [←aIdx_val k m 0] at hv
 cases ha:aIdx m k 0 with
 |none=>rw [ha] at hv; cases hv
 |some x=>
  obtain ⟨j,u⟩:=x
  simp only [Option.map_some,Option.getD_some,Int.toNat_natCast,aPut,hv',MEnc.enc]
  rw [←aIdx_set ha w,Nat.sub_zero,List.map_set]
theorem madd_enc (m:List (κ×ν)) (k:κ) (hv:aVal m k=none) (w:ν):std.madd (E.enc m) (E.ke k) (E.ve w)=E.enc (aPut m k w):=by
 show E.enc m++[(E.ke k,E.ve w)]=_
 simp [aPut,hv,MEnc.enc]
end
end Go.Am
end
section
namespace Go.Am
open D12
variable {fl fl':List Int→Bool}
theorem G74_ok (s:Sg) (i:Nat) (h:i<128):G74 std ((s.a:Int),((s.b:Int),((i:Int),())))=some (s.has i,()):=by
 have q:=i_quo h
 have r:=i_rem h
 unfold G74 Sg.has
 by_cases h6:i<64
 ·rw [if_pos h6] at q r⊢
  have hb:=u_bit s.ha h6
  rw [std_eql] at hb
  have r0:(0:Int)≤((i:Nat):Int):=by omega
  simp [z2t,z2u,eq_self,not_true,not_false_eq_true,decide_true,decide_false,Bool.not_true,Bool.not_false,Int.reduceLT,Int.reduceNeg,Int.reduceGT,Int.reduceEq,Int.reduceLE,cond_true,cond_false,ge_iff_le,gt_iff_lt,z0b,q,r,hb,r0]
 ·rw [if_neg h6] at q r⊢
  have hb:=u_bit s.hb (show i - 64<64 by omega)
  rw [std_eql] at hb
  have r0:(0:Int)≤((i - 64:Nat):Int):=by omega
  simp [z2t,z2u,eq_self,not_true,not_false_eq_true,decide_true,decide_false,Bool.not_true,Bool.not_false,Int.reduceLT,Int.reduceNeg,Int.reduceGT,Int.reduceEq,Int.reduceLE,cond_true,cond_false,ge_iff_le,gt_iff_lt,z0b,q,r,hb,r0]
theorem G72_ok (s:Sg) (i:Nat) (h:i<128):G72 std ((s.a:Int),((s.b:Int),((i:Int),())))=some (((s.wth i).a:Int),(((s.wth i).b:Int),())):=by
 have q:=i_quo h
 have r:=i_rem h
 unfold G72 Sg.wth
 by_cases h6:i<64
 ·rw [if_pos h6] at q r
  rw [dif_pos h6]
  have hb:=u_or s.ha (Nat.pow_lt_pow_right (by omega) h6:2 ^ i<2 ^ 64)
  have hs:=u_shl h6
  have r0:(0:Int)≤((i:Nat):Int):=by omega
  have t0:(0:Int)<((2:Nat):Int):=by omega
  have t1:(1:Int)<((2:Nat):Int):=by omega
  simp only [z2t,z2u,eq_self,not_true,not_false_eq_true,decide_true,decide_false,Bool.not_true,Bool.not_false,Int.reduceLT,Int.reduceNeg,Int.reduceGT,Int.reduceEq,Int.reduceLE,cond_true,cond_false,ge_iff_le,gt_iff_lt,z0b,q,r,hs,hb,r0,t0,t1]
 ·rw [if_neg h6] at q r
  rw [dif_neg h6,dif_pos h]
  have h7:i - 64<64:=by omega
  have hb:=u_or s.hb (Nat.pow_lt_pow_right (by omega) h7:2 ^ (i - 64)<2 ^ 64)
  have hs:=u_shl h7
  have r0:(0:Int)≤((i - 64:Nat):Int):=by omega
  have t0:(0:Int)<((2:Nat):Int):=by omega
  have t1:(1:Int)<((2:Nat):Int):=by omega
  simp only [z2t,z2u,eq_self,not_true,not_false_eq_true,decide_true,decide_false,Bool.not_true,Bool.not_false,Int.reduceLT,Int.reduceNeg,Int.reduceGT,Int.reduceEq,Int.reduceLE,cond_true,cond_false,ge_iff_le,gt_iff_lt,z0b,q,r,hs,hb,r0,t0,t1]
theorem b73_0 (a b c d e f:Int):b73_1 std (a,(b,(c,(d,(e,(f,((0:Int),())))))))=some (.inl (std.ar .or .u64 a c,(b,(c,(d,(e,(f,((1:Int),())))))))):=rfl
theorem b73_o (a b c d e f:Int):b73_1 std (a,(b,(c,(d,(e,(f,((1:Int),())))))))=some (.inl (a,(std.ar .or .u64 b d,(c,(d,(e,(f,((2:Int),())))))))):=rfl
theorem b73_t (a b c d e f:Int):b73_1 std (a,(b,(c,(d,(e,(f,((2:Int),())))))))=some (.inr (a,(b,(e,(f,()))))):=rfl
theorem G73_ok (s t:Sg):G73 std ((s.a:Int),((s.b:Int),((t.a:Int),((t.b:Int),()))))=some (((s.or t).a:Int),(((s.or t).b:Int),())):=by
 unfold G73
 rw [z8f,b73_0]
 simp only []
 rw [z8f,b73_o]
 simp only []
 rw [z8f,b73_t,u_or s.ha t.ha,u_or s.hb t.hb]
 rfl
theorem G117_ok (l:List Int) (h1:1≤l.length) (h2:l.length≤1000000):G117 std (z1j l,())=some (z1j l,()):=by
 unfold G117
 have e0:(z1j l).length=l.length:=z08 l
 have h3:¬ l.length≤0:=by omega
 have h4:(z1j l).take l.length=z1j l:=by rw [←e0,List.take_length]
 simp only [z2t,z2u,eq_self,not_true,not_false_eq_true,decide_true,decide_false,Bool.not_true,Bool.not_false,Int.reduceLT,Int.reduceNeg,Int.reduceGT,Int.reduceEq,Int.reduceLE,cond_true,cond_false,ge_iff_le,gt_iff_lt,z0b,e0,h1,h2,h3,List.take_nil,List.drop_nil,List.nil_append,List.drop_zero,Nat.zero_add,Nat.le_refl,Nat.add_zero,h4]
theorem G75_ok (c:Cd) (h1:1≤c.t.length) (h2:c.t.length≤1000000):G75 std (c.n,(c.k,(z1j c.t,(c.a,()))))=some (c.n,(c.k,(z1j c.t,(c.a,())))):=by
 unfold G75
 have:=G117_ok c.t h1 h2
 simp only [z2t,z2u,this]
def eS (s:Sg):List D:=[.int .u64 (s.a:Int), .int .u64 (s.b:Int)]
def encG (l:List Sg):List (List D):=l.map eS
theorem encG_len (l:List Sg):(encG l).length=l.length:=by simp [encG]
theorem cells_eS (s:Sg):z5p [CK.int IntKind.u64,CK.int IntKind.u64] (eS s)=true:=rfl
theorem dI_eS0 (s:Sg):dI ((eS s)[0]?.getD D.nilp)=(s.a:Int):=rfl
theorem dI_eS1 (s:Sg):dI ((eS s)[1]?.getD D.nilp)=(s.b:Int):=rfl
theorem encG_set (l:List Sg) (i:Nat) (s:Sg):(encG l).set i (eS s)=encG (l.set i s):=by simp [encG,List.map_set]
def EX:MEnc Int Nat:=⟨fun k=> .int .i64 k,fun v=> .int .i64 (v:Int),[.i],false,false,[.int .i64]⟩
theorem EX_ok:EX.Ok where
 agg _:=rfl
 kinds _:=rfl
 eq:=fun a b=>by
  show (bif IntKind.i64==IntKind.i64 then (some (z4d .eql a b&&true)) else none)=_
  rw [Bool.and_true]; rfl
 vagg _:=rfl
 vok _:=rfl
def encX (m:List (Int×Nat)):List (D×D):=EX.enc m
section
variable (m:List (Int×Nat)) (x:Int)
theorem X_ok:std.mOk (encX m) [SK.i] false (.int .i64 x) false [.int .i64]=true:=mOk_enc EX_ok m x
theorem X_has:std.mhas (encX m) [SK.i] false (.int .i64 x)=(aVal m x).isSome:=mhas_enc EX_ok m x
variable {m x}
theorem X_get {v:Nat} (h:aVal m x=some v):std.mI (encX m) [SK.i] false (.int .i64 x) 0=(v:Int):=mI_enc EX_ok m x 0 h
theorem X_set {v:Nat} (h:aVal m x=some v) (w:Nat):std.mset (encX m) (std.mpos (encX m) [SK.i] false (.int .i64 x)) (.int .i64 x) (.int .i64 (w:Int))=encX (aPut m x w):=mset_enc EX_ok m x h w
theorem X_add (h:aVal m x=none) (w:Nat):std.madd (encX m) (.int .i64 x) (.int .i64 (w:Int))=encX (aPut m x w):=madd_enc EX_ok m x h w
end
end Go.Am
end
section
namespace Go.Am
theorem iter_fold {S R τ α:Type} {b:S→Option (S⊕R)} (l:List α) (e:τ→Nat→S) (f:τ→α→τ) (I:τ→Nat→Prop) (r:τ→R)
  (step:∀ t i x,l[i]?=some x→I t i→b (e t i)=some (.inl (e (f t x) (i+1)))∧I (f t x) (i+1))
  (stop:∀ t,I t l.length→b (e t l.length)=some (.inr (r t))) (t:τ) (h:I t 0):z6j b (e t 0)=some (r (l.foldl f t))∧I (l.foldl f t) l.length:=by
 have key:∀ (q:List α) (i:Nat) (t:τ),l.drop i=q→i≤l.length→I t i→z6j b (e t i)=some (r (q.foldl f t))∧I (q.foldl f t) l.length:=by
  intro q
  induction q with
  |nil=>
   intro i t hq hi hI
   have:i=l.length:=by have:=List.drop_eq_nil_iff.1 hq; omega
   subst this
   rw [z8f,stop t hI]
   exact ⟨rfl,hI⟩
  |cons x q ih=>
   intro i t hq hi hI
   have hx:l[i]?=some x:=by rw [←List.head?_drop,hq]; rfl
   have hlt:i<l.length:=(List.getElem?_eq_some_iff.1 hx).1
   obtain ⟨h1,h2⟩:=step t i x hx hI
   have hq':l.drop (i+1)=q:=by rw [←List.drop_drop,hq]; rfl
   rw [z8f,h1]
   exact ih (i+1) (f t x) hq' hlt h2
 exact key l 0 t rfl (Nat.zero_le _) h
namespace D12
def addC (g:List Cd) (c:Cd):List Cd:=if (g.any fun d=>decide (d.n=c.n))=true then g else g++[c]
def cardsOf (dks:List (List Cd)):List Cd:=dks.foldl (fun g l=>l.foldl addC g) []
def ixM (g:List Cd):List (Int×Nat):=(g.map (·.n)).zipIdx
def gi (g:List Cd) (c:Cd):Nat:=(g.map (·.n)).idxOf c.n
theorem aVal_zip (x:Int):∀ (l:List Int) (k:Nat),aVal (l.zipIdx k) x=if x∈l then some (k+l.idxOf x) else none
 |[],k=>by simp [aVal]
 |y::l,k=>by
  rw [List.zipIdx_cons]
  simp only [aVal,aVal_zip x l (k+1),List.mem_cons,List.idxOf_cons]
  by_cases h:x=y
  ·subst h; simp
  ·have h':(y==x)=false:=by simpa using fun e=>h e.symm
   simp only [h,if_false,false_or,h',cond_false]
   split
   ·simp; omega
   ·rfl
theorem ix_val (g:List Cd) (x:Int):aVal (ixM g) x=if x∈g.map (·.n) then some ((g.map (·.n)).idxOf x) else none:=by
 unfold ixM; rw [aVal_zip]; simp
theorem ix_some {g:List Cd} {c:Cd} (h:c∈g):aVal (ixM g) c.n=some (gi g c):=by
 rw [ix_val,if_pos (List.mem_map_of_mem h)]; rfl
theorem ix_any (g:List Cd) (x:Int):(aVal (ixM g) x).isSome=g.any fun d=>decide (d.n=x):=by
 rw [ix_val,Bool.eq_iff_iff]
 by_cases h:x∈g.map (·.n)
 ·rw [if_pos h]
  obtain ⟨d,h1,h2⟩:=List.mem_map.1 h
  simp only [Option.isSome_some,List.any_eq_true,true_iff,decide_eq_true_eq]
  exact ⟨d,h1,h2⟩
 ·rw [if_neg h]
  simp only [Option.isSome_none,List.any_eq_true,decide_eq_true_eq,Bool.false_eq_true,false_iff]
  rintro ⟨d,h1,h2⟩
  exact h (List.mem_map.2 ⟨d,h1,h2⟩)
theorem ix_add {g:List Cd} {c:Cd} (h:aVal (ixM g) c.n=none):aPut (ixM g) c.n g.length=ixM (g++[c]):=by
 unfold aPut; rw [h]
 unfold ixM
 rw [List.map_append,List.zipIdx_append]
 simp
theorem gi_lt {g:List Cd} {c:Cd} (h:c∈g):gi g c<g.length:=by
 have:=List.idxOf_lt_length_of_mem (List.mem_map_of_mem (f:=fun c:Cd=>c.n) h)
 rwa [List.length_map] at this
theorem gi_get {g:List Cd} {c:Cd} (hi:Inj g) (h:c∈g):g[gi g c]?=some c:=by
 have hl:=gi_lt h
 rw [List.getElem?_eq_getElem hl]
 congr 1
 refine hi _ (List.getElem_mem hl) _ h ?_
 have e:=List.getElem_idxOf (List.idxOf_lt_length_of_mem (List.mem_map_of_mem (f:=fun c:Cd=>c.n) h))
 rw [List.getElem_map] at e
 exact e
theorem gi_of {g:List Cd} {c:Cd} {i:Nat} (hn:(g.map (·.n)).Nodup) (h:g[i]?=some c):gi g c=i:=by
 obtain ⟨h1,h2⟩:=List.getElem?_eq_some_iff.1 h
 have hi:=inj_of_map hn
 have hm:c∈g:=List.mem_of_getElem? h
 have:=gi_get hi hm
 obtain ⟨h3,h4⟩:=List.getElem?_eq_some_iff.1 this
 have:=(List.getElem_inj (nodup_of_map hn) (h₀:=h3) (h₁:=h1)).1 (h4.trans h2.symm)
 exact this
def Rp (ss:List Sg) (g:List Cd) (B:Cd→Cd→Bool):Prop:=
 ss.length=g.length∧∀ i c,g[i]?=some c→∀ k,(ss.getD i Sg.none).has k=match g[k]? with|some d=>B d c|none=>false
theorem rp_none (g:List Cd):Rp (List.replicate g.length Sg.none) g fun _ _=>false:=by
 refine ⟨by simp,fun i c hc k=>?_⟩
 have:(List.replicate g.length Sg.none).getD i Sg.none=Sg.none:=by
  rw [List.getD_eq_getElem?_getD,List.getElem?_replicate]; split<;>rfl
 rw [this,Sg.has_none]
 split<;>rfl
theorem Rp.congr {ss:List Sg} {g:List Cd} {B C:Cd→Cd→Bool} (h:Rp ss g B) (hc:∀ d∈g,∀ c∈g,B d c=C d c):Rp ss g C:=by
 refine ⟨h.1,fun i c hi k=>?_⟩
 rw [h.2 i c hi k]
 cases hk:g[k]? with
 |none=>rfl
 |some d=>exact hc d (List.mem_of_getElem? hk) c (List.mem_of_getElem? hi)
def thStep (i:Nat) (s:List (Int×Nat)×List Sg) (x:Int):List (Int×Nat)×List Sg:=
 (aPut s.1 x i,match aVal s.1 x with|some k=>s.2.set i ((s.2.getD i Sg.none).wth k)|none=>s.2)
theorem gD_set_ne {α:Type} {l:List α} {i j:Nat} {a d:α} (h:j≠i):(l.set i a).getD j d=l.getD j d:=by
 rw [List.getD_eq_getElem?_getD,List.getD_eq_getElem?_getD,List.getElem?_set_ne (fun e=>h e.symm)]
theorem gD_set_eq {α:Type} {l:List α} {i:Nat} {a d:α} (h:i<l.length):(l.set i a).getD i d=a:=by
 rw [List.getD_eq_getElem?_getD,List.getElem?_set_self h]; rfl
theorem th_fold (i:Nat):∀ (t:List Int) (L:List (Int×Nat)) (ss:List Sg),t.Nodup→i<ss.length→(∀ x k,aVal L x=some k→k<128)→i<128→
  (∀ x,aVal (t.foldl (thStep i) (L,ss)).1 x=if x∈t then some i else aVal L x)∧(t.foldl (thStep i) (L,ss)).2.length=ss.length∧
  (∀ j,j≠i→(t.foldl (thStep i) (L,ss)).2.getD j Sg.none=ss.getD j Sg.none)∧
  ∀ k,((t.foldl (thStep i) (L,ss)).2.getD i Sg.none).has k=((ss.getD i Sg.none).has k||t.any fun x=>decide (aVal L x=some k))
 |[],L,ss,_,_,_,_=>⟨fun x=>by simp,rfl,fun _ _=>rfl,fun k=>by simp⟩
 |x::t,L,ss,hn,hi,hL,h128=>by
  simp only [List.foldl_cons]
  have hn':=List.nodup_cons.1 hn
  have hs:(thStep i (L,ss) x).2.length=ss.length:=by
   unfold thStep; simp only; cases aVal L x<;>simp
  have ih:=th_fold i t (thStep i (L,ss) x).1 (thStep i (L,ss) x).2 hn'.2 (by rw [hs]; exact hi) (by
   intro y k hy
   unfold thStep at hy
   simp only [aVal_put] at hy
   split at hy
   ·cases hy; exact h128
   ·exact hL y k hy) h128
  obtain ⟨h1,h2,h3,h4⟩:=ih
  refine ⟨fun y=>?_,h2.trans hs,fun j hj=>?_,fun k=>?_⟩
  ·rw [h1 y]
   simp only [thStep,aVal_put,List.mem_cons]
   by_cases hy:y∈t
   ·simp [hy]
   ·by_cases hx:y=x
    ·simp [hx]
    ·simp [hy,hx]
  ·rw [h3 j hj]
   simp only [thStep]
   cases aVal L x with
   |none=>rfl
   |some k=>exact gD_set_ne hj
  ·rw [h4 k]
   have e1:((thStep i (L,ss) x).2.getD i Sg.none).has k=((ss.getD i Sg.none).has k||decide (aVal L x=some k)):=by
    simp only [thStep]
    cases hv:aVal L x with
    |none=>simp
    |some m=>
     simp only
     rw [gD_set_eq hi,Sg.has_wth _ (hL x m hv)]
     congr 1
     exact decide_eq_decide.2 ⟨fun h=>by rw [h],fun h=>by cases h; rfl⟩
   have e2:(t.any fun y=>decide (aVal (thStep i (L,ss) x).1 y=some k))=t.any fun y=>decide (aVal L y=some k):=by
    have:∀ y∈t,decide (aVal (thStep i (L,ss) x).1 y=some k)=decide (aVal L y=some k):=by
     intro y hy
     simp only [thStep,aVal_put]
     have:y≠x:=fun e=>hn'.1 (e▸hy)
     simp [this]
    rw [Bool.eq_iff_iff,List.any_eq_true,List.any_eq_true]
    constructor
    ·rintro ⟨y,hy,h⟩; exact ⟨y,hy,by rw [←this y hy]; exact h⟩
    ·rintro ⟨y,hy,h⟩; exact ⟨y,hy,by rw [this y hy]; exact h⟩
   rw [e1,e2,List.any_cons,Bool.or_assoc]
def cdStep (g:List Cd) (s:List (Int×Nat)×List Sg) (c:Cd):List (Int×Nat)×List Sg:=c.t.foldl (thStep (gi g c)) s
structure CdInv (g:List Cd) (B0:Cd→Cd→Bool) (p:List Cd) (s:List (Int×Nat)×List Sg):Prop where
 last:∀ x,aVal s.1 x=(on x p).getLast?.map (gi g)
 rel:Rp s.2 g fun d c=>B0 d c||ltc p d c
theorem pre_snoc {p:List Cd} {c e:Cd} (h:e∈p):pre (p++[c]) e=pre p e:=by
 unfold pre
 have h1:=List.idxOf_lt_length_of_mem h
 rw [List.idxOf_append,if_pos h,List.take_append_of_le_length (by omega)]
theorem cd_step {g:List Cd} {B0:Cd→Cd→Bool} (hg:(g.map (·.n)).Nodup) (hl:g.length≤128) {p:List Cd} {c:Cd} (hp:∀ d∈p,d∈g) (hc:c∈g) (hcp:c∉p) (ht:c.t.Nodup)
  {s:List (Int×Nat)×List Sg} (h:CdInv g B0 p s):CdInv g B0 (p++[c]) (cdStep g s c):=by
 have hi:=inj_of_map hg
 have hgl:=gi_lt hc
 obtain ⟨h1,h2,h3,h4⟩:=th_fold (gi g c) c.t s.1 s.2 ht (by rw [h.rel.1]; exact hgl) (by
  intro x k hx
  rw [h.last x] at hx
  cases hq:(on x p).getLast? with
  |none=>rw [hq] at hx; cases hx
  |some d=>
   rw [hq] at hx
   cases hx
   have:=gi_lt (hp d (on_sub (List.mem_of_getLast? hq)))
   omega) (by omega)
 refine ⟨fun x=>?_,?_,?_⟩
 ·show aVal (c.t.foldl (thStep (gi g c)) s).1 x=_
  rw [h1 x,on_append,h.last x]
  by_cases hx:x∈c.t
  ·rw [if_pos hx]
   have:on x [c]=[c]:=by rw [on_cons hx]; rfl
   rw [this]; simp
  ·rw [if_neg hx]
   have:on x [c]=[]:=by simp [on,hx]
   rw [this]; simp
 ·show (c.t.foldl (thStep (gi g c)) s).2.length=_
  rw [h2,h.rel.1]
 ·intro i e he k
  show ((c.t.foldl (thStep (gi g c)) s).2.getD i Sg.none).has k=_
  have hie:=gi_of hg he
  have hem:e∈g:=List.mem_of_getElem? he
  by_cases hec:e=c
  ·subst hec
   have h4':=h4 k
   rw [hie] at h4'⊢
   refine h4'.trans ?_
   rw [h.rel.2 i e he k]
   cases hk:g[k]? with
   |none=>
    simp only [Bool.false_or]
    rw [List.any_eq_false]
    intro x hx
    simp only [decide_eq_true_eq]
    intro hv
    have hv:aVal s.1 x=some k:=hv
    rw [h.last x] at hv
    cases hq:(on x p).getLast? with
    |none=>rw [hq] at hv; cases hv
    |some d=>
     rw [hq] at hv
     cases hv
     rw [gi_get hi (hp d (on_sub (List.mem_of_getLast? hq)))] at hk
     cases hk
   |some d=>
    simp only
    rw [Bool.or_assoc]
    congr 1
    have hl0:ltc p d e=false:=by
     cases hq:ltc p d e with
     |false=>rfl
     |true=>exact absurd (ltc_iff.1 hq).1 hcp
    rw [hl0,Bool.false_or,Bool.eq_iff_iff,List.any_eq_true,ltc_iff,pre_split (p:=p) (r:=[]) rfl hcp]
    constructor
    ·rintro ⟨x,hx,hv⟩
     have hv:aVal s.1 x=some k:=by simpa using hv
     rw [h.last x] at hv
     refine ⟨by simp,x,hx,?_⟩
     cases hq:(on x p).getLast? with
     |none=>rw [hq] at hv; cases hv
     |some d'=>
      rw [hq] at hv
      cases hv
      rw [gi_get hi (hp d' (on_sub (List.mem_of_getLast? hq)))] at hk
      exact hk
    ·rintro ⟨_,x,hx,hv⟩
     refine ⟨x,hx,?_⟩
     have:aVal s.1 x=some k:=by
      rw [h.last x,hv]
      exact congrArg some (gi_of hg hk)
     simpa using this
  ·have hne:i≠gi g c:=by
    rintro rfl
    rw [gi_get hi hc] at he
    exact hec (Option.some.inj he).symm
   have h3':=congrArg (fun z=>z.has k) (h3 i hne)
   refine h3'.trans ?_
   simp only []
   rw [h.rel.2 i e he k]
   cases hk:g[k]? with
   |none=>rfl
   |some d=>
    simp only
    congr 1
    rw [Bool.eq_iff_iff,ltc_iff,ltc_iff]
    constructor
    ·rintro ⟨hm,x,hx,hv⟩
     exact ⟨List.mem_append_left _ hm,x,hx,by rw [pre_snoc hm]; exact hv⟩
    ·rintro ⟨hm,x,hx,hv⟩
     have hm':e∈p:=by
      rcases List.mem_append.1 hm with h|h
      ·exact h
      ·exact absurd (List.mem_singleton.1 h) hec
     exact ⟨hm',x,hx,by rw [pre_snoc hm'] at hv; exact hv⟩
theorem cd_fold {g:List Cd} {B0:Cd→Cd→Bool} (hg:(g.map (·.n)).Nodup) (hl:g.length≤128):∀ (q p:List Cd) (s:List (Int×Nat)×List Sg),(∀ d∈p++q,d∈g)→(p++q).Nodup→(∀ c∈q,c.t.Nodup)→CdInv g B0 p s→CdInv g B0 (p++q) (q.foldl (cdStep g) s)
 |[],p,s,_,_,_,h=>by simpa using h
 |c::q,p,s,hm,hn,ht,h=>by
  have hs:=cd_step hg hl (fun d hd=>hm d (List.mem_append_left _ hd)) (hm c (by simp)) (fun hc=>(List.nodup_append.1 hn).2.2 c hc c (List.mem_cons_self ..) rfl) (ht c (List.mem_cons_self ..)) h
  have e:p++c::q=(p++[c])++q:=by simp
  rw [e]
  exact cd_fold hg hl q (p++[c]) _ (by rw [←e]; exact hm) (by rw [←e]; exact hn) (fun d hd=>ht d (List.mem_cons_of_mem _ hd)) hs
def dkStep (g:List Cd) (ss:List Sg) (l:List Cd):List Sg:=(l.foldl (cdStep g) ([],ss)).2
def sets (g:List Cd) (dks:List (List Cd)):List Sg:=dks.foldl (dkStep g) (List.replicate g.length Sg.none)
theorem dk_fold {g:List Cd} (hg:(g.map (·.n)).Nodup) (hl:g.length≤128):∀ (dks:List (List Cd)) (B0:Cd→Cd→Bool) (ss:List Sg),(∀ l∈dks,(∀ d∈l,d∈g)∧l.Nodup∧∀ c∈l,c.t.Nodup)→Rp ss g B0→
  Rp (dks.foldl (dkStep g) ss) g fun d c=>B0 d c||dks.any fun l=>ltc l d c
 |[],B0,ss,_,h=>h.congr fun _ _ _ _=>by simp
 |l::dks,B0,ss,hd,h=>by
  obtain ⟨h1,h2,h3⟩:=hd l (List.mem_cons_self ..)
  have hf:=cd_fold (B0:=B0) hg hl l [] ([],ss) (by simpa using h1) (by simpa using h2) h3 ⟨fun x=>by simp [aVal,on],h.congr fun d _ c _=>by
   have:ltc [] d c=false:=by
    cases hq:ltc [] d c with
    |false=>rfl
    |true=>exact absurd (ltc_iff.1 hq).1 (by simp)
   rw [this,Bool.or_false]⟩
  have:=dk_fold hg hl dks _ _ (fun l hl=>hd l (List.mem_cons_of_mem _ hl)) hf.rel
  refine (show Rp ((l::dks).foldl (dkStep g) ss) g _ from this).congr fun d _ c _=>?_
  simp only [List.nil_append,List.any_cons,Bool.or_assoc]
theorem sets_ok {g:List Cd} (hg:(g.map (·.n)).Nodup) (hl:g.length≤128) {dks:List (List Cd)} (hd:∀ l∈dks,(∀ d∈l,d∈g)∧l.Nodup∧∀ c∈l,c.t.Nodup):Rp (sets g dks) g fun d c=>dks.any fun l=>ltc l d c:=
 (dk_fold hg hl dks _ _ hd (rp_none g)).congr fun _ _ _ _=>by simp
end D12
end Go.Am
end
section
namespace Go.Am
open D12
variable {fl fl':List Int→Bool}
theorem b66_5_ok (C lc DK:List (List D)) (IX:List (D×D)) (off len i n:Nat) (nd kd nl kl:Int) (t:List Int) (L:List (Int×Nat)) (ss:List Sg) (hn:n≤128) (hi:i<n) (hs:ss.length=n) (hL:∀ x k,aVal L x=some k→k<128) (ht:t.length≤1000000):
  z6j (b66_5 std) (encX L,(C,(IX,(encG ss,(off,(len,((i:Int),(DK,(nd,(kd,(lc,(nl,(kl,(z1j t,((t.length:Int),((0:Int),()))))))))))))))))=
   some (encX (t.foldl (thStep i) (L,ss)).1,(C,(IX,(encG (t.foldl (thStep i) (L,ss)).2,(off,(len,(DK,(nd,(kd,(lc,(nl,(kl,())))))))))))):=by
 have key:=iter_fold (b:=b66_5 std) t (fun (s:List (Int×Nat)×List Sg) j=>(encX s.1,(C,(IX,(encG s.2,(off,(len,((i:Int),(DK,(nd,(kd,(lc,(nl,(kl,(z1j t,((t.length:Int),((j:Int),()))))))))))))))))) (thStep i)
  (fun s _=>s.2.length=n∧∀ x k,aVal s.1 x=some k→k<128) (fun s=>(encX s.1,(C,(IX,(encG s.2,(off,(len,(DK,(nd,(kd,(lc,(nl,(kl,())))))))))))))
  (fun s j x hx hI=>by
   obtain ⟨hs,hL⟩:=hI
   have hj:j<t.length:=(List.getElem?_eq_some_iff.1 hx).1
   obtain ⟨hw,h0⟩:=stp j (by omega)
   have hlt:(j:Int)<t.length:=by omega
   have hlen:(encG s.2).length=n:=by rw [encG_len,hs]
   have hin:(i:Int)<(n:Int):=by omega
   have hi0:(0:Int)≤(i:Int):=by omega
   have hti:((i:Int)).toNat=i:=by omega
   have hget:s.2[i]?=some (s.2.getD i Sg.none):=by rw [List.getD_eq_getElem?_getD,List.getElem?_eq_getElem (by omega)]; rfl
   have hinv:(thStep i s x).2.length=n∧∀ y k,aVal (thStep i s x).1 y=some k→k<128:=by
    refine ⟨?_,fun y k hy=>?_⟩
    ·unfold thStep; simp only; cases aVal s.1 x<;>simp [hs]
    ·simp only [thStep,aVal_put] at hy
     split at hy
     ·cases hy; omega
     ·exact hL y k hy
   refine ⟨?_,hinv⟩
   cases hv:aVal s.1 x with
   |none=>
    have hh:(aVal s.1 x).isSome=false:=by rw [hv]; rfl
    have ha:=X_add hv i
    simp only [b66_5,z2t,z2u,z1j,z09,z5x,eq_self,not_true,not_false_eq_true,decide_true,decide_false,Bool.not_true,Bool.not_false,Int.reduceLT,Int.reduceNeg,Int.reduceGT,Int.reduceEq,Int.reduceLE,cond_true,cond_false,ge_iff_le,gt_iff_lt,z0b,hx,hlt,h0,hw,X_ok,X_has,hh,ha,hti,List.getElem?_map,Option.map_some,thStep,hv,Option.isSome_none,Option.isSome_some]
   |some k=>
    have hh:(aVal s.1 x).isSome=true:=by rw [hv]; rfl
    have ha:=X_set hv i
    have hg:=X_get hv
    have h72:=G72_ok (s.2.getD i Sg.none) k (hL x k hv)
    have hset:=encG_set s.2 i ((s.2.getD i Sg.none).wth k)
    have hl2:(encG (s.2.set i ((s.2.getD i Sg.none).wth k))).length=(encG s.2).length:=by simp [encG]
    simp only [show ∀ z:Sg,eS z=[.int .u64 (z.a:Int), .int .u64 (z.b:Int)] from fun _=>rfl] at hset
    have hrow:(encG s.2)[i]?=some (eS (s.2.getD i Sg.none)):=by unfold encG; rw [List.getElem?_map,hget]; rfl
    rw [←hlen] at hin
    simp only [b66_5,z2t,z2u,z1j,z09,z5x,eq_self,not_true,not_false_eq_true,decide_true,decide_false,Bool.not_true,Bool.not_false,Int.reduceLT,Int.reduceNeg,Int.reduceGT,Int.reduceEq,Int.reduceLE,cond_true,cond_false,ge_iff_le,gt_iff_lt,z0b,hx,hlt,h0,hw,X_ok,X_has,hh,ha,hg,hti,hrow,cells_eS,dI_eS0,dI_eS1,h72,hin,hi0,List.getElem?_map,Option.map_some,thStep,hv,Option.isSome_none,Option.isSome_some,hset,hl2])
  (fun s _=>by
   have hno:¬ (t.length:Int)<t.length:=by omega
   simp only [b66_5,z2t,z2u,hno,if_false,eq_self,not_true,not_false_eq_true,decide_true,decide_false,Bool.not_true,Bool.not_false,Int.reduceLT,Int.reduceNeg,Int.reduceGT,Int.reduceEq,Int.reduceLE,cond_true,cond_false,ge_iff_le,gt_iff_lt,z0b]) (L,ss) ⟨hs,hL⟩
 exact key.1
theorem b66_4_ok (C DK:List (List D)) (off len:Nat) (nd kd:Int) (g l:List Cd) (hg:(g.map (·.n)).Nodup) (hgl:g.length≤128) (hm:∀ c∈l,c∈g) (ss:List Sg) (hs:ss.length=g.length) (hll:l.length≤1000000) (hf:Few l):
  z6j (b66_4 std) ([],(C,(encX (ixM g),(encG ss,(off,(len,(DK,(nd,(kd,(z0u fl l,((l.length:Int),((0:Int),()))))))))))))=
   some (C,(encX (ixM g),(encG (dkStep g ss l),(off,(len,(DK,(nd,(kd,())))))))):=by
 have key:=iter_fold (b:=b66_4 std) l (fun (s:List (Int×Nat)×List Sg) j=>(encX s.1,(C,(encX (ixM g),(encG s.2,(off,(len,(DK,(nd,(kd,(z0u fl l,((l.length:Int),((j:Int),()))))))))))))) (cdStep g)
  (fun s _=>s.2.length=g.length∧∀ x k,aVal s.1 x=some k→k<128) (fun s=>(C,(encX (ixM g),(encG s.2,(off,(len,(DK,(nd,(kd,())))))))))
  (fun s j c hx hI=>by
   obtain ⟨hs,hL⟩:=hI
   have hj:j<l.length:=(List.getElem?_eq_some_iff.1 hx).1
   have hc:=List.mem_of_getElem? hx
   obtain ⟨hw,h0⟩:=stp j (by omega)
   have hlt:(j:Int)<l.length:=by omega
   have hgi:=gi_lt (hm c hc)
   have hv:=ix_some (hm c hc)
   have hh:(aVal (ixM g) c.n).isSome=true:=by rw [hv]; rfl
   have hge:=X_get hv
   have h5:=b66_5_ok C (z0u fl l) DK (encX (ixM g)) off len (gi g c) g.length nd kd l.length j c.t s.1 s.2 hgl hgi hs hL (hf c hc)
   have hinv:∀ (t:List Int) (s:List (Int×Nat)×List Sg),s.2.length=g.length→(∀ x k,aVal s.1 x=some k→k<128)→(t.foldl (thStep (gi g c)) s).2.length=g.length∧∀ y k,aVal (t.foldl (thStep (gi g c)) s).1 y=some k→k<128:=by
    intro t
    induction t with
    |nil=>intro s h1 h2; exact ⟨h1,h2⟩
    |cons x t ih=>
     intro s h1 h2
     refine ih _ ?_ ?_
     ·unfold thStep; simp only; cases aVal s.1 x<;>simp [h1]
     ·intro y k hy
      simp only [thStep,aVal_put] at hy
      split at hy
      ·cases hy; omega
      ·exact h2 y k hy
   refine ⟨?_,hinv c.t s hs hL⟩
   simp only [z0u,z1j] at h5
   have hrow:(l.map (eC fl))[j]?=some (eC fl c):=by rw [List.getElem?_map,hx]; rfl
   have hle:(l.map (eC fl)).length=l.length:=by simp
   have hti:(c.t.map eI).length=c.t.length:=by simp
   simp only [b66_4,z2t,z2u,z0u,z1j,z6l,z1k,z3o,z3n,z3l,z3m,z3p,z09,z5x,z00,z17,z16,z15,z18,z0u,z1j,eq_self,not_true,not_false_eq_true,decide_true,decide_false,Bool.not_true,Bool.not_false,Int.reduceLT,Int.reduceNeg,Int.reduceGT,Int.reduceEq,Int.reduceLE,cond_true,cond_false,ge_iff_le,gt_iff_lt,z0b,hlt,h0,hw,hrow,hx,X_ok,X_has,hh,hge,h5,hti,hle,y1c,cdStep])
  (fun s _=>by
   have hno:¬ (l.length:Int)<l.length:=by omega
   simp only [b66_4,z2t,z2u,hno,if_false,eq_self,not_true,not_false_eq_true,decide_true,decide_false,Bool.not_true,Bool.not_false,Int.reduceLT,Int.reduceNeg,Int.reduceGT,Int.reduceEq,Int.reduceLE,cond_true,cond_false,ge_iff_le,gt_iff_lt,z0b]) ([],ss) ⟨hs,fun x k h=>by cases h⟩
 exact key.1
def eDk (fl:List Int→Bool) (l:List Cd):List D:=[.list false 4 (z0u fl l)]
def encDk (fl:List Int→Bool) (d:List (List Cd)):List (List D):=d.map (eDk fl)
theorem cells_eDk (l:List Cd):z5p [CK.list 4] (eDk fl l)=true:=rfl
theorem dL_eDk (l:List Cd):dL ((eDk fl l)[0]?.getD D.nilp)=z0u fl l:=rfl
theorem b66_3_ok (C:List (List D)) (off len:Nat) (g:List Cd) (hg:(g.map (·.n)).Nodup) (hgl:g.length≤128) (dks:List (List Cd)) (hm:∀ l∈dks,∀ c∈l,c∈g) (ss:List Sg) (hs:ss.length=g.length) (hdl:dks.length≤1000000) (hll:∀ l∈dks,l.length≤1000000) (hf:∀ l∈dks,Few l):
  z6j (b66_3 std) (C,(encX (ixM g),(encG ss,(off,(len,(encDk fl dks,((dks.length:Int),((0:Int),()))))))))=some (C,(encX (ixM g),(encG (dks.foldl (dkStep g) ss),(off,(len,()))))):=by
 have key:=iter_fold (b:=b66_3 std) dks (fun (s:List Sg) j=>(C,(encX (ixM g),(encG s,(off,(len,(encDk fl dks,((dks.length:Int),((j:Int),()))))))))) (dkStep g)
  (fun s _=>s.length=g.length) (fun s=>(C,(encX (ixM g),(encG s,(off,(len,()))))))
  (fun s j l hx hI=>by
   have hj:j<dks.length:=(List.getElem?_eq_some_iff.1 hx).1
   have hl:=List.mem_of_getElem? hx
   obtain ⟨hw,h0⟩:=stp j (by omega)
   have hlt:(j:Int)<dks.length:=by omega
   have h4:=b66_4_ok (fl:=fl) C (encDk fl dks) off len dks.length j g l hg hgl (hm l hl) s hI (hll l hl) (hf l hl)
   have hinv:(dkStep g s l).length=g.length:=by
    have:∀ (q:List Cd) (s:List (Int×Nat)×List Sg),(q.foldl (cdStep g) s).2.length=s.2.length:=by
     intro q
     induction q with
     |nil=>intro s; rfl
     |cons c q ih=>
      intro s
      rw [List.foldl_cons,ih]
      have:∀ (t:List Int) (s:List (Int×Nat)×List Sg),(t.foldl (thStep (gi g c)) s).2.length=s.2.length:=by
       intro t
       induction t with
       |nil=>intro s; rfl
       |cons x t ih=>
        intro s
        rw [List.foldl_cons,ih]
        unfold thStep; simp only; cases aVal s.1 x<;>simp
      exact this c.t s
    exact (this l ([],s)).trans hI
   refine ⟨?_,hinv⟩
   have hrow:(dks.map (eDk fl))[j]?=some (eDk fl l):=by rw [List.getElem?_map,hx]; rfl
   have hle:(l.map (eC fl)).length=l.length:=by simp
   simp only [encDk,z0u] at h4
   simp only [b66_3,z2t,z2u,cells_eDk,dL_eDk,encDk,z0u,eq_self,not_true,not_false_eq_true,decide_true,decide_false,Bool.not_true,Bool.not_false,Int.reduceLT,Int.reduceNeg,Int.reduceGT,Int.reduceEq,Int.reduceLE,cond_true,cond_false,ge_iff_le,gt_iff_lt,z0b,hlt,h0,hw,hrow,hx,h4,hle])
  (fun s _=>by
   have hno:¬ (dks.length:Int)<dks.length:=by omega
   simp only [b66_3,z2t,z2u,hno,if_false,eq_self,not_true,not_false_eq_true,decide_true,decide_false,Bool.not_true,Bool.not_false,Int.reduceLT,Int.reduceNeg,Int.reduceGT,Int.reduceEq,Int.reduceLE,cond_true,cond_false,ge_iff_le,gt_iff_lt,z0b]) ss hs
 exact key.1
theorem addC_len (g:List Cd) (c:Cd):(addC g c).length≤g.length+1:=by unfold addC; split<;>simp
theorem b66_2_ok (DK DK':List (List D)) (nd kd:Int) (g l:List Cd) (hgl:g.length+l.length≤1000) (hf:Few l):
  z6j (b66_2 std) (z0u fl g,(encX (ixM g),(0,(g.length,(DK,(DK',(nd,(kd,(z0u fl l,((l.length:Int),((0:Int),())))))))))))=
   some (z0u fl (l.foldl addC g),(encX (ixM (l.foldl addC g)),(0,((l.foldl addC g).length,(DK,(DK',(nd,(kd,())))))))):=by
 have key:=iter_fold (b:=b66_2 std) l (fun (g:List Cd) j=>(z0u fl g,(encX (ixM g),(0,(g.length,(DK,(DK',(nd,(kd,(z0u fl l,((l.length:Int),((j:Int),())))))))))))) addC
  (fun h j=>h.length≤g.length+j) (fun g=>(z0u fl g,(encX (ixM g),(0,(g.length,(DK,(DK',(nd,(kd,())))))))))
  (fun h j c hx hI=>by
   have hj:j<l.length:=(List.getElem?_eq_some_iff.1 hx).1
   have hc:=List.mem_of_getElem? hx
   obtain ⟨hw,h0⟩:=stp j (by omega)
   have hlt:(j:Int)<l.length:=by omega
   refine ⟨?_,by have:=addC_len h c; omega⟩
   have hany:=ix_any h c.n
   have hrow:(l.map (eC fl))[j]?=some (eC fl c):=by rw [List.getElem?_map,hx]; rfl
   have hle:(l.map (eC fl)).length=l.length:=by simp
   cases hq:h.any (fun d=>decide (d.n=c.n)) with
   |true=>
    rw [hq] at hany
    simp only [b66_2,z2t,z2u,z0u,z1j,z6l,z1k,z3o,z3n,z3l,z3m,z3p,z09,z5x,z00,z17,z16,z15,z18,z0u,eq_self,not_true,not_false_eq_true,decide_true,decide_false,Bool.not_true,Bool.not_false,Int.reduceLT,Int.reduceNeg,Int.reduceGT,Int.reduceEq,Int.reduceLE,cond_true,cond_false,ge_iff_le,gt_iff_lt,z0b,hlt,h0,hw,hrow,hx,X_ok,X_has,hany,hle,addC,hq]
   |false=>
    rw [hq] at hany
    have hno:aVal (ixM h) c.n=none:=by cases hz:aVal (ixM h) c.n with|none=>rfl|some _=>rw [hz] at hany; cases hany
    have ha:=X_add hno h.length
    rw [ix_add hno] at ha
    have e1:(0:Int)≤(h.length:Int):=by omega
    have e2:¬ h.length+1≤h.length:=by omega
    have e3:h.length+1≤1000000:=by omega
    have e4:(h.map (eC fl)).length=h.length:=by simp
    have e5:(h.map (eC fl)).take h.length=h.map (eC fl):=by rw [←e4,List.take_length]
    simp only [b66_2,z2t,z2u,z0u,z1j,z6l,z1k,z3o,z3n,z3l,z3m,z3p,z09,z5x,z00,z17,z16,z15,z18,z0u,eq_self,not_true,not_false_eq_true,decide_true,decide_false,Bool.not_true,Bool.not_false,Int.reduceLT,Int.reduceNeg,Int.reduceGT,Int.reduceEq,Int.reduceLE,cond_true,cond_false,ge_iff_le,gt_iff_lt,z0b,hlt,h0,hw,hrow,hx,X_ok,X_has,hany,hle,addC,hq,ha,e1,e2,e3,e4,e5,Nat.sub_zero,Nat.add_zero,Int.toNat_zero,Nat.le_refl,Int.le_refl,List.drop_zero]
    have hF:std.rdF (l.map (eC fl)) j 2 1=fl c.t:=by
     show dF 1 (((l.map (eC fl))[j]?.bind fun r=>r[2]?).getD .nilp)=_
     rw [hrow]; exact z3p c
    rw [hF]
    simp [eC,z1j])
  (fun s _=>by
   have hno:¬ (l.length:Int)<l.length:=by omega
   simp only [b66_2,z2t,z2u,hno,if_false,eq_self,not_true,not_false_eq_true,decide_true,decide_false,Bool.not_true,Bool.not_false,Int.reduceLT,Int.reduceNeg,Int.reduceGT,Int.reduceEq,Int.reduceLE,cond_true,cond_false,ge_iff_le,gt_iff_lt,z0b]) g (Nat.le_refl _)
 exact key.1
theorem foldl_addC_len:∀ (l g:List Cd),(l.foldl addC g).length≤g.length+l.length
 |[],g=>by simp
 |c::l,g=>by
  have:=foldl_addC_len l (addC g c)
  have:=addC_len g c
  simp only [List.foldl_cons,List.length_cons]; omega
theorem b66_1_ok (dks:List (List Cd)) (hdl:dks.length≤2) (hll:∀ l∈dks,l.length≤60) (hf:∀ l∈dks,Few l):
  z6j (b66_1 std) ([],([],(0,(0,(encDk fl dks,(encDk fl dks,((dks.length:Int),((0:Int),()))))))))=some (z0u fl (cardsOf dks),(encX (ixM (cardsOf dks)),(0,((cardsOf dks).length,(encDk fl dks,())))))∧(cardsOf dks).length≤dks.length*60:=by
 have key:=iter_fold (b:=b66_1 std) dks (fun (g:List Cd) j=>(encX (ixM g),(z0u fl g,(0,(g.length,(encDk fl dks,(encDk fl dks,((dks.length:Int),((j:Int),()))))))))) (fun g l=>l.foldl addC g)
  (fun h j=>h.length≤j*60) (fun g=>(z0u fl g,(encX (ixM g),(0,(g.length,(encDk fl dks,()))))))
  (fun h j l hx hI=>by
   have hj:j<dks.length:=(List.getElem?_eq_some_iff.1 hx).1
   have hl:=List.mem_of_getElem? hx
   obtain ⟨hw,h0⟩:=stp j (by omega)
   have hlt:(j:Int)<dks.length:=by omega
   have h60:=hll l hl
   have h2:=b66_2_ok (fl:=fl) (encDk fl dks) (encDk fl dks) dks.length j h l (by omega) (hf l hl)
   refine ⟨?_,by have:=foldl_addC_len l h; omega⟩
   have hrow:(dks.map (eDk fl))[j]?=some (eDk fl l):=by rw [List.getElem?_map,hx]; rfl
   have hle:(l.map (eC fl)).length=l.length:=by simp
   simp only [encDk,z0u] at h2
   simp only [b66_1,z2t,z2u,cells_eDk,dL_eDk,encDk,z0u,eq_self,not_true,not_false_eq_true,decide_true,decide_false,Bool.not_true,Bool.not_false,Int.reduceLT,Int.reduceNeg,Int.reduceGT,Int.reduceEq,Int.reduceLE,cond_true,cond_false,ge_iff_le,gt_iff_lt,z0b,hlt,h0,hw,hrow,hx,h2,hle])
  (fun s _=>by
   have hno:¬ (dks.length:Int)<dks.length:=by omega
   simp only [b66_1,z2t,z2u,hno,if_false,eq_self,not_true,not_false_eq_true,decide_true,decide_false,Bool.not_true,Bool.not_false,Int.reduceLT,Int.reduceNeg,Int.reduceGT,Int.reduceEq,Int.reduceLE,cond_true,cond_false,ge_iff_le,gt_iff_lt,z0b]) [] (by simp)
 exact key
structure GrOk (g:List Cd) (dks:List (List Cd)):Prop where
 nums:(g.map (·.n)).Nodup
 mem:∀ l∈dks,∀ c∈l,c∈g
 wf:∀ l∈dks,l.length≤60∧l.Nodup∧∀ c∈l,c.t.Nodup∧c.t.length≤1000000
theorem G66_ok (dks:List (List Cd)) (hdl:dks.length≤2) (hk:GrOk (cardsOf dks) dks):
  G66 std (encDk fl dks,())=some (z0u fl (cardsOf dks),(encX (ixM (cardsOf dks)),(encG (sets (cardsOf dks) dks),(0,((cardsOf dks).length,()))))):=by
 obtain ⟨h1,hlen⟩:=b66_1_ok (fl:=fl) dks hdl (fun l hl=>(hk.wf l hl).1) (fun l hl c hc=>((hk.wf l hl).2.2 c hc).2)
 generalize cardsOf dks=g at*
 have hgl:g.length≤128:=by omega
 have h3:=b66_3_ok (fl:=fl) (z0u fl g) 0 g.length g hk.nums hgl dks hk.mem (List.replicate g.length Sg.none) (by simp) (by omega) (fun l hl=>by have:=(hk.wf l hl).1; omega) (fun l hl c hc=>((hk.wf l hl).2.2 c hc).2)
 have hrep:List.replicate g.length [D.int .u64 0,D.int .u64 0]=encG (List.replicate g.length Sg.none):=by
  unfold encG; rw [List.map_replicate]; rfl
 unfold G66 sets
 have hd:(encDk fl dks).length=dks.length:=by simp [encDk]
 have e0:(0:Int)≤(g.length:Int):=by omega
 have e1:(g.length:Int)≤1000000:=by omega
 have e2:(encG (List.replicate g.length Sg.none)).length=g.length:=by simp [encG]
 simp only [z2t,z2u,eq_self,not_true,not_false_eq_true,decide_true,decide_false,Bool.not_true,Bool.not_false,Int.reduceLT,Int.reduceNeg,Int.reduceGT,Int.reduceEq,Int.reduceLE,cond_true,cond_false,ge_iff_le,gt_iff_lt,z0b,hd,h1,h3,hrep,e0,e1,e2,Int.le_refl]
end Go.Am
end
section
namespace Go.Am
open D12
variable {fl fl':List Int→Bool}
def via (k:Cd) (B:Cd→Cd→Bool):Cd→Cd→Bool:=fun i j=>B i j||(B i k&&B k j)
theorem clo_foldl:∀ (ks:List Cd) (B:Cd→Cd→Bool),clo B ks=ks.foldl (fun B k=>via k B) B
 |[],_=>rfl
 |k::ks,B=>by rw [clo,List.foldl_cons,clo_foldl ks]; rfl
def MidR (ss:List Sg) (g:List Cd) (B:Cd→Cd→Bool) (k:Cd) (m:Nat):Prop:=
 ss.length=g.length∧∀ i c,g[i]?=some c→∀ x,(ss.getD i Sg.none).has x=match g[x]? with|some d=>if i<m then via k B d c else B d c|none=>false
theorem mid_self {ss:List Sg} {g:List Cd} {B:Cd→Cd→Bool} {k:Cd} {m:Nat} (h:MidR ss g B k m) {i:Nat} (hk:g[i]?=some k) (x:Nat):(ss.getD i Sg.none).has x=match g[x]? with|some d=>B d k|none=>false:=by
 rw [h.2 i k hk x]
 cases g[x]? with
 |none=>rfl
 |some d=>
  simp only
  split
  ·unfold via; cases B d k<;>simp
  ·rfl
theorem b70_2_ok (C:List (List D)) (IX:List (D×D)) (off:Nat) (g:List Cd) (hgl:g.length≤128) {B:Cd→Cd→Bool} (ss:List Sg) (hr:Rp ss g B) (k:Nat) {K:Cd} (hk:g[k]?=some K) (n6 n7:Int):
  ∃ ss',z6j (b70_2 std) (C,(IX,(encG ss,(off,(g.length,((k:Int),(n6,(n7,((g.length:Int),((0:Int),()))))))))))=some (C,(IX,(encG ss',(off,(g.length,(n6,(n7,())))))))∧Rp ss' g (via K B):=by
 have hkl:k<g.length:=(List.getElem?_eq_some_iff.1 hk).1
 have key:=y64 (b:=b70_2 std) g.length (fun (ss:List Sg) i=>(C,(IX,(encG ss,(off,(g.length,((k:Int),(n6,(n7,((g.length:Int),((i:Int),())))))))))))
  (fun ss i=>MidR ss g B K i) (fun r=>∃ ss',r=(C,(IX,(encG ss',(off,(g.length,(n6,(n7,())))))))∧Rp ss' g (via K B))
  (fun ss i hi hM=> .inl (by
   obtain ⟨c,hc⟩:=z2b hi
   obtain ⟨hw,h0⟩:=stp i (by omega)
   have hlt:(i:Int)<g.length:=by omega
   have hk1:(0:Int)≤(k:Int):=by omega
   have hk2:(k:Int)<(g.length:Int):=by omega
   have hget:∀ j,j<g.length→(ss.map eS)[j]?=some (eS (ss.getD j Sg.none)):=fun j hj=>by
    rw [List.getElem?_map,List.getD_eq_getElem?_getD,List.getElem?_eq_getElem (by rw [hM.1]; exact hj)]; rfl
   have hrow:=hget i hi
   have hkr:=hget k hkl
   have hbl:(ss.map eS).length=g.length:=by rw [List.length_map,hM.1]
   have h74:=G74_ok (ss.getD i Sg.none) k (by omega)
   have hhas:=hM.2 i c hc k
   rw [hk] at hhas
   simp only [Nat.lt_irrefl,if_false] at hhas
   rw [hhas] at h74
   have h73:=G73_ok (ss.getD i Sg.none) (ss.getD k Sg.none)
   cases hB:B K c with
   |true=>
    rw [hB] at h74
    refine ⟨ss.set i ((ss.getD i Sg.none).or (ss.getD k Sg.none)),?_,by rw [List.length_set,hM.1],fun j d hj x=>?_⟩
    ·have hset:=encG_set ss i ((ss.getD i Sg.none).or (ss.getD k Sg.none))
     simp only [show ∀ z:Sg,eS z=[.int .u64 (z.a:Int), .int .u64 (z.b:Int)] from fun _=>rfl,encG] at hset
     have hl2:((ss.set i ((ss.getD i Sg.none).or (ss.getD k Sg.none))).map eS).length=g.length:=by rw [List.length_map,List.length_set,hM.1]
     simp only [b70_2,z2t,z2u,encG,cells_eS,dI_eS0,dI_eS1,eq_self,not_true,not_false_eq_true,decide_true,decide_false,Bool.not_true,Bool.not_false,Int.reduceLT,Int.reduceNeg,Int.reduceGT,Int.reduceEq,Int.reduceLE,cond_true,cond_false,ge_iff_le,gt_iff_lt,z0b,hlt,h0,hw,hrow,hkr,hbl,h74,h73,hk1,hk2,hset,hl2]
    ·by_cases e:j=i
     ·subst e
      rw [hc] at hj; cases hj
      rw [gD_set_eq (by rw [hM.1]; exact hi),Sg.has_or,hM.2 j c hc x,mid_self hM hk x]
      cases g[x]? with
      |none=>rfl
      |some d=>
       simp only [Nat.lt_irrefl,if_false,Nat.lt_succ_self,if_true,via,hB,Bool.and_true]
     ·rw [gD_set_ne e,hM.2 j d hj x]
      have:(j<i+1)↔j<i:=by omega
      simp only [this]
   |false=>
    rw [hB] at h74
    refine ⟨ss,?_,hM.1,fun j d hj x=>?_⟩
    ·simp only [b70_2,z2t,z2u,encG,cells_eS,dI_eS0,dI_eS1,eq_self,not_true,not_false_eq_true,decide_true,decide_false,Bool.not_true,Bool.not_false,Int.reduceLT,Int.reduceNeg,Int.reduceGT,Int.reduceEq,Int.reduceLE,cond_true,cond_false,ge_iff_le,gt_iff_lt,z0b,hlt,h0,hw,hrow,hkr,hbl,h74]
    ·by_cases e:j=i
     ·subst e
      rw [hc] at hj; cases hj
      rw [hM.2 j c hc x]
      cases g[x]? with
      |none=>rfl
      |some d=>simp only [Nat.lt_irrefl,if_false,Nat.lt_succ_self,if_true,via,hB,Bool.and_false,Bool.or_false]
     ·rw [hM.2 j d hj x]
      have:(j<i+1)↔j<i:=by omega
      simp only [this]))
  (fun ss hM=>by
   have hno:¬ (g.length:Int)<g.length:=by omega
   refine ⟨(C,(IX,(encG ss,(off,(g.length,(n6,(n7,()))))))),by simp only [b70_2,z2t,z2u,hno,if_false,eq_self,not_true,not_false_eq_true,decide_true,decide_false,Bool.not_true,Bool.not_false,Int.reduceLT,Int.reduceNeg,Int.reduceGT,Int.reduceEq,Int.reduceLE,cond_true,cond_false,ge_iff_le,gt_iff_lt,z0b],ss,rfl,hM.1,fun i c hc x=>?_⟩
   have hi:i<g.length:=(List.getElem?_eq_some_iff.1 hc).1
   rw [hM.2 i c hc x]
   cases g[x]? with
   |none=>rfl
   |some d=>simp only [hi,if_true]) ss 0 (Nat.zero_le _) ⟨hr.1,fun i c hc x=>by
    rw [hr.2 i c hc x]
    cases g[x]? with
    |none=>rfl
    |some d=>simp⟩
 obtain ⟨r,h1,ss',rfl,h2⟩:=key
 exact ⟨ss',h1,h2⟩
theorem G70_ok (C:List (List D)) (IX:List (D×D)) (off:Nat) (g:List Cd) (hgl:g.length≤128) {B:Cd→Cd→Bool} (ss:List Sg) (hr:Rp ss g B):
  ∃ ss',G70 std (C,(IX,(encG ss,(off,(g.length,())))))=some (C,(IX,(encG ss',(off,(g.length,())))))∧Rp ss' g (clo B g):=by
 have key:=y64 (b:=b70_1 std) g.length (fun (ss:List Sg) k=>(C,(IX,(encG ss,(off,(g.length,((g.length:Int),((k:Int),()))))))))
  (fun ss k=>Rp ss g ((g.take k).foldl (fun B k=>via k B) B)) (fun r=>∃ ss',r=(C,(IX,(encG ss',(off,(g.length,())))))∧Rp ss' g (clo B g))
  (fun ss k hk hR=> .inl (by
   obtain ⟨K,hK⟩:=z2b hk
   obtain ⟨hw,h0⟩:=stp k (by omega)
   have hlt:(k:Int)<g.length:=by omega
   obtain ⟨ss',h2,hR'⟩:=b70_2_ok C IX off g hgl ss hR k hK g.length k
   refine ⟨ss',by simp only [b70_1,z2t,z2u,eq_self,not_true,not_false_eq_true,decide_true,decide_false,Bool.not_true,Bool.not_false,Int.reduceLT,Int.reduceNeg,Int.reduceGT,Int.reduceEq,Int.reduceLE,cond_true,cond_false,ge_iff_le,gt_iff_lt,z0b,hlt,h0,hw,h2],?_⟩
   rw [List.take_add_one,hK,List.foldl_append]
   exact hR'))
  (fun ss hR=>by
   have hno:¬ (g.length:Int)<g.length:=by omega
   rw [List.take_length] at hR
   exact ⟨(C,(IX,(encG ss,(off,(g.length,()))))),by simp only [b70_1,z2t,z2u,hno,if_false,eq_self,not_true,not_false_eq_true,decide_true,decide_false,Bool.not_true,Bool.not_false,Int.reduceLT,Int.reduceNeg,Int.reduceGT,Int.reduceEq,Int.reduceLE,cond_true,cond_false,ge_iff_le,gt_iff_lt,z0b],ss,rfl,by rw [clo_foldl]; exact hR⟩) ss 0 (Nat.zero_le _) hr
 obtain ⟨r,h1,ss',rfl,h2⟩:=key
 have h1:z6j (b70_1 std) (C,(IX,(encG ss,(off,(g.length,((g.length:Int),((0:Int),())))))))=_:=h1
 refine ⟨ss',?_,h2⟩
 unfold G70
 simp only [z2t,z2u,h1]
end Go.Am
end
section
namespace Go.Am.D12
theorem tc_ord {l:List Cd} (hn:l.Nodup) {x y:Cd}:Tc (ltc l) x y→Tc (ord l) x y:=fun h=>h.mono fun u v h=> .one (ltc_ord h).1
theorem ord_mem {l:List Cd} {x y:Cd} (hy:y∈l) (h:ord l x y=true):x∈l:=by
 have h1:=(x2v.1 h).2
 have h2:=List.idxOf_lt_length_of_mem hy
 exact List.idxOf_lt_length_iff.1 (by omega)
theorem tc_ltc {l:List Cd} (hn:l.Nodup) {x y:Cd} (hy:y∈l) (h:Tc (ord l) x y):Tc (ltc l) x y:=by
 induction h with
 |one h=>exact ord_tcl hn _ _ _ (ord_mem hy h) hy (Nat.le_refl _) h
 |step _ h ih=>exact (ih (ord_mem hy h)).trans (ord_tcl hn _ _ _ (ord_mem hy h) hy (Nat.le_refl _) h)
theorem past_way {x:Int} {l:List Cd} (hn:l.Nodup):∀ (s p:List Cd),l=p++s→∀ c∈pastL x s,∃ e∈s,x∈e.t∧(c=e∨Tc (ord l) c e)
 |[],_,_,c,h=>by cases h
 |d::s,p,hl,c,h=>by
  have ih:=past_way (x:=x) hn s (p++[d]) (by simp [hl])
  simp only [pastL] at h
  split at h
  ·rename_i hd
   rcases List.mem_cons.1 h with rfl|h
   ·rcases Bool.or_eq_true _ _▸hd with hd|hd
    ·exact ⟨c,List.mem_cons_self ..,by simpa using hd, .inl rfl⟩
    ·obtain ⟨f,hf,ht⟩:=List.any_eq_true.1 hd
     obtain ⟨e,he,hx,hw⟩:=ih f hf
     have hfs:f∈s:=(pastL_sub x s).subset hf
     have hnn:=hn
     rw [hl] at hnn
     have hcf:ord l c f=true:=by
      rw [x2v]
      refine ⟨ht,?_⟩
      have h1:=List.nodup_append.1 hnn
      have h2:=List.nodup_cons.1 h1.2.1
      have hcp:c∉p:=fun h=>h1.2.2 c h c (List.mem_cons_self ..) rfl
      have hfp:f∉p:=fun h=>h1.2.2 f h f (List.mem_cons_of_mem _ hfs) rfl
      have hne:c≠f:=fun e=>h2.1 (e▸hfs)
      rw [hl,idx_at hcp,List.idxOf_append,if_neg hfp,List.idxOf_cons]
      have:(c==f)=false:=by simpa using hne
      rw [this]; simp
     refine ⟨e,List.mem_cons_of_mem _ he,hx, .inr ?_⟩
     rcases hw with rfl|hw
     ·exact .one hcf
     ·exact (Tc.one hcf).trans hw
   ·obtain ⟨e,he,r⟩:=ih c h
    exact ⟨e,List.mem_cons_of_mem _ he,r⟩
  ·obtain ⟨e,he,r⟩:=ih c h
   exact ⟨e,List.mem_cons_of_mem _ he,r⟩
theorem past_back {x:Int} {l:List Cd} (hn:l.Nodup) {c e:Cd} (he:e∈pastL x l) (h:Tc (ord l) c e):c∈pastL x l:=by
 have one:∀ y z:Cd,z∈pastL x l→ord l y z=true→y∈pastL x l:=by
  intro y z hz ho
  have hzl:=(pastL_sub x l).subset hz
  have hyl:=ord_mem hzl ho
  obtain ⟨r,hr⟩:=split_at hzl
  have hyp:y∈pre l z:=(mem_pre hyl).2 (x2v.1 ho).2
  have:=past_closed x hn (pre l z) z r hr (by simpa using hz) y hyp (x2v.1 ho).1
  simpa using this
 induction h with
 |one h=>exact one _ _ he h
 |step _ h ih=>exact ih (one _ _ he h)
theorem past_iff {x:Int} {l:List Cd} (hn:l.Nodup) {c:Cd} (hc:c∈l):c∈pastL x l↔∃ e∈l,x∈e.t∧(c=e∨Tc (ltc l) c e):=by
 constructor
 ·intro h
  obtain ⟨e,he,hx,hw⟩:=past_way hn l [] rfl c h
  refine ⟨e,he,hx,?_⟩
  rcases hw with h|h
  ·exact .inl h
  ·exact .inr (tc_ltc hn he h)
 ·rintro ⟨e,he,hx,rfl|hw⟩
  ·exact pastL_touch he hx
  ·exact past_back hn (pastL_touch he hx) (tc_ord hn hw)
end Go.Am.D12
end
section
namespace Go.Am
open D12
variable {fl fl':List Int→Bool}
theorem G71_ok (l:List Int) (x:Int) (hl:l.length≤1000000):G71 std (z1j l,(x,()))=some (l.contains x,()):=by
 have key:=z7r (b:=b116_1 std) l.length (fun i=>(z1j l,(x,((l.length:Int),((i:Int),()))))) (fun i=>decide (x=l.getD i default)) (fun i=> .inl ((i:Int),())) (.inr ()) (fun i hi=>by
  obtain ⟨y,hy⟩:=z2b hi
  obtain ⟨hw,h0⟩:=stp i (by omega)
  have hlt:(i:Int)<l.length:=by omega
  by_cases e:x=y
  ·subst e
   simp only [z2x hy,b116_1,z2t,z2u,z1j,z09,z5x,eq_self,not_true,not_false_eq_true,decide_true,decide_false,Bool.not_true,Bool.not_false,Int.reduceLT,Int.reduceNeg,Int.reduceGT,Int.reduceEq,Int.reduceLE,cond_true,cond_false,ge_iff_le,gt_iff_lt,z0b,hy,hlt,h0,hw,List.getElem?_map,Option.map_some]
  ·simp only [z2x hy,b116_1,z2t,z2u,z1j,z09,z5x,eq_self,not_true,not_false_eq_true,decide_true,decide_false,Bool.not_true,Bool.not_false,Int.reduceLT,Int.reduceNeg,Int.reduceGT,Int.reduceEq,Int.reduceLE,cond_true,cond_false,ge_iff_le,gt_iff_lt,z0b,hy,hlt,h0,hw,e,List.getElem?_map,Option.map_some]) (by
  have hn:¬ (l.length:Int)<l.length:=by omega
  simp only [b116_1,z2t,z2u,hn,if_false])
 have key:z6j (b116_1 std) (z1j l,(x,((l.length:Int),((0:Int),()))))=_:=key
 unfold G71 G116
 have hlen:(z1j l).length=l.length:=by simp [z1j]
 have e:=x45 l default fun y=>decide (x=y)
 have hc:l.contains x=(l.find? fun y=>decide (x=y)).isSome:=by
  rw [Bool.eq_iff_iff,List.find?_isSome]; simp
 rw [hc, ←e]
 simp only [z2t,z2u,hlen,key]
 cases hq:(List.range l.length).find? fun i=>decide (x=l.getD i default) with
 |none=>simp
 |some i=>simp
theorem cardsOf_one {l:List Cd} (h:(l.map (·.n)).Nodup):cardsOf [l]=l:=by
 have:∀ (q p:List Cd),((p++q).map (·.n)).Nodup→q.foldl addC p=p++q:=by
  intro q
  induction q with
  |nil=>intro p _; simp
  |cons c q ih=>
   intro p hp
   have hno:(p.any fun d=>decide (d.n=c.n))=false:=by
    rw [List.any_eq_false]
    intro d hd
    simp only [decide_eq_true_eq]
    rw [List.map_append,List.nodup_append] at hp
    exact fun e=>hp.2.2 d.n (List.mem_map_of_mem hd) c.n (by simp) e
   have e:p++c::q=(p++[c])++q:=by simp
   rw [List.foldl_cons]
   have:addC p c=p++[c]:=by unfold addC; rw [hno]; rfl
   rw [this,e]
   exact ih _ (by rw [←e]; exact hp)
 exact this l [] (by simpa using h)
theorem dock_facts {l:List Cd} (h:z5l l=0):l.length≤60∧(l.map (·.n)).Nodup∧l.Nodup∧(∀ c∈l,z3x c=0)∧(∀ c∈l,1≤c.t.length∧c.t.length≤3∧c.t.Nodup):=by
 obtain ⟨h1,h2,h3⟩:=dockSt_zero.1 h
 refine ⟨h1,h3,nodup_of_map h3,h2,fun c hc=>?_⟩
 obtain ⟨a,b,c1,d,e,f⟩:=cardSt_zero.1 (h2 c hc)
 refine ⟨?_,?_,e⟩
 ·omega
 ·have:z3u c.k≤3:=by unfold z3u; split<;>(try split)<;>(try split)<;>omega
  omega
theorem grOk_one {l:List Cd} (h:z5l l=0):GrOk (cardsOf [l]) [l]:=by
 obtain ⟨h1,h2,h3,h4,h5⟩:=dock_facts h
 refine ⟨by rw [cardsOf_one h2]; exact h2,fun m hm c hc=>?_,fun m hm=>?_⟩
 ·rw [List.mem_singleton.1 hm] at hc; rw [cardsOf_one h2]; exact hc
 ·rw [List.mem_singleton.1 hm]; exact ⟨h1,h3,fun c hc=>⟨(h5 c hc).2.2,by have:=(h5 c hc).2.1; omega⟩⟩
theorem graph_one {l:List Cd} (h:z5l l=0):∃ ss,G66 std ([[.list false 4 (z0u fl l)]],())=some (z0u fl l,(encX (ixM l),(encG ss,(0,(l.length,())))))∧Rp ss l (ltc l):=by
 obtain ⟨h1,h2,h3,h4,h5⟩:=dock_facts h
 have g:=G66_ok (fl:=fl) [l] (by simp) (grOk_one h)
 have hs:=sets_ok (g:=cardsOf [l]) (dks:=[l]) (grOk_one h).nums (by rw [cardsOf_one h2]; omega) (fun m hm=>⟨(grOk_one h).mem m hm,((grOk_one h).wf m hm).2.1,fun c hc=>(((grOk_one h).wf m hm).2.2 c hc).1⟩)
 rw [cardsOf_one h2] at g hs
 exact ⟨_,g,hs.congr fun d _ c _=>by simp⟩
def InP (x:Int) (l:List Cd) (R:Cd→Cd→Bool) (i:Nat) (s:Sg):Prop:=
 ∀ k d,l[k]?=some d→(s.has k=true↔∃ j e,j<i∧l[j]?=some e∧x∈e.t∧(k=j∨R d e=true))
theorem b31_1_ok (C:List (List D)) (IX:List (D×D)) (off len:Nat) (l:List Cd) (x:Int) (hl:l.length≤60) (hf:Few l) (ss:List Sg) {R:Cd→Cd→Bool} (hr:Rp ss l R):
  ∃ s:Sg,z6j (b31_1 std) (C,(IX,(encG ss,(off,(len,((0:Int),((0:Int),(z0u fl l,(x,(z0u fl l,((l.length:Int),((0:Int),()))))))))))))=some ((s.a:Int),((s.b:Int),(z0u fl l,())))∧InP x l R l.length s:=by
 have key:=y64 (b:=b31_1 std) l.length (fun (s:Sg) i=>(C,(IX,(encG ss,(off,(len,((s.a:Int),((s.b:Int),(z0u fl l,(x,(z0u fl l,((l.length:Int),((i:Int),())))))))))))))
  (fun s i=>InP x l R i s) (fun r=>∃ s:Sg,r=((s.a:Int),((s.b:Int),(z0u fl l,())))∧InP x l R l.length s)
  (fun s i hi hI=> .inl (by
   obtain ⟨c,hc⟩:=z2b hi
   obtain ⟨hw,h0⟩:=stp i (by omega)
   have hlt:(i:Int)<l.length:=by omega
   have hrow:(l.map (eC fl))[i]?=some (eC fl c):=by rw [List.getElem?_map,hc]; rfl
   have h71:=G71_ok c.t x (hf c (List.mem_of_getElem? hc))
   have hbl:(ss.map eS).length=l.length:=by rw [List.length_map,hr.1]
   have hsr:(ss.map eS)[i]?=some (eS (ss.getD i Sg.none)):=by
    rw [List.getElem?_map,List.getD_eq_getElem?_getD,List.getElem?_eq_getElem (by rw [hr.1]; exact hi)]; rfl
   simp only [z1j] at h71
   by_cases hx:x∈c.t
   ·have hct:c.t.contains x=true:=by simpa using hx
    rw [hct] at h71
    have h72:=G72_ok s i (by omega)
    have h73:=G73_ok (s.wth i) (ss.getD i Sg.none)
    refine ⟨(s.wth i).or (ss.getD i Sg.none),?_,fun k d hk=>?_⟩
    ·simp only [b31_1,z2t,z2u,z0u,z1j,z6l,z1k,z3o,z3n,z3l,z3m,z3p,z09,z5x,z00,z17,z16,z15,z18,encG,z0u,z1j,cells_eS,dI_eS0,dI_eS1,eq_self,not_true,not_false_eq_true,decide_true,decide_false,Bool.not_true,Bool.not_false,Int.reduceLT,Int.reduceNeg,Int.reduceGT,Int.reduceEq,Int.reduceLE,cond_true,cond_false,ge_iff_le,gt_iff_lt,z0b,hlt,h0,hw,hrow,h71,hbl,hsr,h72,h73]
    ·rw [Sg.has_or,Sg.has_wth _ (by omega),hr.2 i c hc k,hk]
     simp only [Bool.or_eq_true,decide_eq_true_eq]
     rw [hI k d hk]
     constructor
     ·rintro ((⟨j,e,h1,h2,h3,h4⟩|rfl)|h)
      ·exact ⟨j,e,by omega,h2,h3,h4⟩
      ·exact ⟨k,c,by omega,hc,hx, .inl rfl⟩
      ·exact ⟨i,c,by omega,hc,hx, .inr h⟩
     ·rintro ⟨j,e,h1,h2,h3,h4⟩
      by_cases e1:j=i
      ·subst e1
       rw [hc] at h2; cases h2
       rcases h4 with rfl|h4
       ·exact .inl (.inr rfl)
       ·exact .inr h4
      ·exact .inl (.inl ⟨j,e,by omega,h2,h3,h4⟩)
   ·have hct:c.t.contains x=false:=by simpa using hx
    rw [hct] at h71
    refine ⟨s,?_,fun k d hk=>?_⟩
    ·simp only [b31_1,z2t,z2u,z0u,z1j,z6l,z1k,z3o,z3n,z3l,z3m,z3p,z09,z5x,z00,z17,z16,z15,z18,encG,z0u,z1j,cells_eS,dI_eS0,dI_eS1,eq_self,not_true,not_false_eq_true,decide_true,decide_false,Bool.not_true,Bool.not_false,Int.reduceLT,Int.reduceNeg,Int.reduceGT,Int.reduceEq,Int.reduceLE,cond_true,cond_false,ge_iff_le,gt_iff_lt,z0b,hlt,h0,hw,hrow,h71]
    ·rw [hI k d hk]
     constructor
     ·rintro ⟨j,e,h1,h2,h3,h4⟩; exact ⟨j,e,by omega,h2,h3,h4⟩
     ·rintro ⟨j,e,h1,h2,h3,h4⟩
      refine ⟨j,e,?_,h2,h3,h4⟩
      rcases Nat.lt_or_ge j i with h|h
      ·exact h
      ·have:j=i:=by omega
       subst this
       rw [hc] at h2; cases h2
       exact absurd h3 hx))
  (fun s hI=>by
   have hno:¬ (l.length:Int)<l.length:=by omega
   exact ⟨((s.a:Int),((s.b:Int),(z0u fl l,()))),by simp only [b31_1,z2t,z2u,hno,if_false,eq_self,not_true,not_false_eq_true,decide_true,decide_false,Bool.not_true,Bool.not_false,Int.reduceLT,Int.reduceNeg,Int.reduceGT,Int.reduceEq,Int.reduceLE,cond_true,cond_false,ge_iff_le,gt_iff_lt,z0b],s,rfl,hI⟩) Sg.none 0 (Nat.zero_le _) (fun k d hk=>by rw [Sg.has_none]; simp)
 obtain ⟨r,h1,s,rfl,h2⟩:=key
 exact ⟨s,h1,h2⟩
theorem take_filter {l:List Cd} {P:Cd→Bool} {i:Nat} {c:Cd} (h:l[i]?=some c):(l.take (i+1)).filter P=(l.take i).filter P++(if P c=true then [c] else []):=by
 rw [List.take_add_one,h,List.filter_append]
 congr 1
 simp [List.filter_cons]
theorem b31_2_ok (l:List Cd) (s:Sg) (P:Cd→Bool) (hl:l.length≤60) (hw:∀ c∈l,1≤c.t.length∧c.t.length≤1000000) (hP:∀ k d,l[k]?=some d→s.has k=P d):
  z6j (b31_2 std) ([],((s.a:Int),((s.b:Int),(z0u fl l,((l.length:Int),((0:Int),()))))))=some (z0u (fun _=>false) (l.filter P),()):=by
 have key:=y64 (b:=b31_2 std) l.length (fun (_:Unit) i=>(z0u (fun _=>false) ((l.take i).filter P),((s.a:Int),((s.b:Int),(z0u fl l,((l.length:Int),((i:Int),())))))))
  (fun _ _=>True) (fun r=>r=(z0u (fun _=>false) (l.filter P),()))
  (fun _ i hi _=> .inl ⟨(),by
   obtain ⟨c,hc⟩:=z2b hi
   obtain ⟨hw2,h0⟩:=stp i (by omega)
   have hlt:(i:Int)<l.length:=by omega
   have hrow:(l.map (eC fl))[i]?=some (eC fl c):=by rw [List.getElem?_map,hc]; rfl
   have h74:=G74_ok s i (by omega)
   rw [hP i c hc] at h74
   have hcc:=hw c (List.mem_of_getElem? hc)
   have h75:=G75_ok c hcc.1 hcc.2
   have hlen:((l.take i).filter P).length≤60:=Nat.le_trans (List.length_filter_le _ _) (by rw [List.length_take]; omega)
   rw [take_filter hc]
   generalize (l.take i).filter P=O at*
   simp only [z1j] at h75
   cases hq:P c with
   |false=>
    rw [hq] at h74
    simp only [b31_2,z2t,z2u,z0u,z1j,z6l,z1k,z3o,z3n,z3l,z3m,z3p,z09,z5x,z00,z17,z16,z15,z18,z0u,eq_self,not_true,not_false_eq_true,decide_true,decide_false,Bool.not_true,Bool.not_false,Int.reduceLT,Int.reduceNeg,Int.reduceGT,Int.reduceEq,Int.reduceLE,cond_true,cond_false,ge_iff_le,gt_iff_lt,z0b,hlt,h0,hw2,hrow,h74,List.append_nil]
   |true=>
    rw [hq] at h74
    have e1:O.length+1≤1000000:=by omega
    have e5:(O.map (eC fun _=>false)).take O.length=O.map (eC fun _=>false):=List.take_of_length_le (by simp)
    simp only [b31_2,z2t,z2u,z0u,z1j,z6l,z1k,z3o,z3n,z3l,z3m,z3p,z09,z5x,z00,z17,z16,z15,z18,z0u,z1j,eq_self,not_true,not_false_eq_true,decide_true,decide_false,Bool.not_true,Bool.not_false,Int.reduceLT,Int.reduceNeg,Int.reduceGT,Int.reduceEq,Int.reduceLE,cond_true,cond_false,ge_iff_le,gt_iff_lt,z0b,hlt,h0,hw2,hrow,h74,h75,e1,e5,Nat.le_refl,List.drop_zero]
    simp [eC,z1j,e5,e1]
    simpa using hw2,trivial⟩)
  (fun _ _=>⟨(z0u (fun _=>false) (l.filter P),()),by
   have hno:¬ (l.length:Int)<l.length:=by omega
   rw [List.take_length]
   simp only [b31_2,z2t,z2u,hno,if_false,eq_self,not_true,not_false_eq_true,decide_true,decide_false,Bool.not_true,Bool.not_false,Int.reduceLT,Int.reduceNeg,Int.reduceGT,Int.reduceEq,Int.reduceLE,cond_true,cond_false,ge_iff_le,gt_iff_lt,z0b],rfl⟩) () 0 (Nat.zero_le _) trivial
 obtain ⟨r,h1,rfl⟩:=key
 exact h1
def pastSt (l:List Cd) (x:Int):Int:=if z5l l≠0 then z5l l else if z7m x then 0 else 3
theorem G31_ok (l:List Cd) (x:Int) (hf:Few l):G31 std (z0u fl l,(x,()))=some ((if pastSt l x=0 then z0u (fun _=>false) (pastL x l) else []),(pastSt l x,())):=by
 have h19:=w4x (fl:=fl) l hf
 have h56:=w00 1 1099511627776 [x] (by simp)
 have e56:z1j [x]=[[D.int .i64 x]]:=rfl
 rw [e56] at h56
 unfold G31 pastSt
 by_cases h:z5l l=0
 ·by_cases hx:z7m x
  ·have hq:(!([x].any fun n=>decide (n<1∨n>1099511627776)))=true:=by unfold z7m at hx; simp; omega
   rw [hq] at h56
   obtain ⟨h1,h2,h3,h4,h5⟩:=dock_facts h
   obtain ⟨ss,g66,hr⟩:=graph_one (fl:=fl) h
   obtain ⟨ss',g70,hr'⟩:=G70_ok (z0u fl l) (encX (ixM l)) 0 l (by omega) ss hr
   obtain ⟨s,hb1,hI⟩:=b31_1_ok (fl:=fl) (z0u fl l) (encX (ixM l)) 0 l.length l x h1 hf ss' hr'
   have hP:∀ k d,l[k]?=some d→s.has k=decide (d∈pastL x l):=by
    intro k d hk
    have hd:=List.mem_of_getElem? hk
    rw [Bool.eq_iff_iff,hI k d hk,decide_eq_true_eq,past_iff h3 hd]
    constructor
    ·rintro ⟨j,e,hj,he,hx,hkj⟩
     refine ⟨e,List.mem_of_getElem? he,hx,?_⟩
     rcases hkj with rfl|h
     ·rw [hk] at he; exact .inl (Option.some.inj he)
     ·exact .inr ((clo_iff fun u v huv=>(ltc_ord huv).2).1 h)
    ·rintro ⟨e,he,hx,hde⟩
     obtain ⟨j,hj,hje⟩:=List.mem_iff_getElem.1 he
     refine ⟨j,e,hj,by rw [List.getElem?_eq_getElem hj,hje],hx,?_⟩
     rcases hde with rfl|h
     ·left
      have hj':l[j]?=some d:=by rw [List.getElem?_eq_getElem hj,hje]
      exact (gi_of h2 hk).symm.trans (gi_of h2 hj')
     ·exact .inr ((clo_iff fun u v huv=>(ltc_ord huv).2).2 h)
   have hb2:=b31_2_ok (fl:=fl) l s (fun d=>decide (d∈pastL x l)) h1 (fun c hc=>⟨(h5 c hc).1,by have:=(h5 c hc).2.1; omega⟩) hP
   rw [pastL_filter x h3] at hb2
   have hle:(z0u fl l).length=l.length:=z2y l
   simp only [z2t,z2u,eq_self,not_true,not_false_eq_true,decide_true,decide_false,Bool.not_true,Bool.not_false,Int.reduceLT,Int.reduceNeg,Int.reduceGT,Int.reduceEq,Int.reduceLE,cond_true,cond_false,ge_iff_le,gt_iff_lt,z0b,h19,h,h56,g66,g70,hb1,hb2,hle,hx,ne_eq]
  ·have hq:(!([x].any fun n=>decide (n<1∨n>1099511627776)))=false:=by unfold z7m at hx; simp; omega
   rw [hq] at h56
   simp only [z2t,z2u,eq_self,not_true,not_false_eq_true,decide_true,decide_false,Bool.not_true,Bool.not_false,Int.reduceLT,Int.reduceNeg,Int.reduceGT,Int.reduceEq,Int.reduceLE,cond_true,cond_false,ge_iff_le,gt_iff_lt,z0b,h19,h,h56,hx,ne_eq]
 ·simp only [z2t,z2u,eq_self,not_true,not_false_eq_true,decide_true,decide_false,Bool.not_true,Bool.not_false,Int.reduceLT,Int.reduceNeg,Int.reduceGT,Int.reduceEq,Int.reduceLE,cond_true,cond_false,ge_iff_le,gt_iff_lt,z0b,h19,h,ne_eq]
end Go.Am
end
section
namespace Go.Am
open D12
variable {fl fl':List Int→Bool}
def ixO (b:List Th) (x:Int):Option Nat:=(List.range b.length).find? fun i=>decide ((b.getD i default).num=x)
theorem ixO_fnd (b:List Th) (x:Int):(ixO b x).map (fun i=>b.getD i default)=fnd b x:=x45 b default fun t=>decide (t.num=x)
theorem ixO_some {b:List Th} {x:Int} {i:Nat} (h:ixO b x=some i):∃ t,b[i]?=some t∧t.num=x∧fnd b x=some t∧i<b.length:=by
 have h1:=List.find?_some h
 have h2:=List.mem_range.1 (List.mem_of_find?_eq_some h)
 obtain ⟨t,ht⟩:=z2b h2
 have e:b.getD i default=t:=z2x ht
 rw [e] at h1
 refine ⟨t,ht,by simpa using h1,?_,h2⟩
 rw [←ixO_fnd,h]
 simp only [Option.map_some,e]
theorem ixO_none {b:List Th} {x:Int} (h:ixO b x=none):fnd b x=none:=by rw [←ixO_fnd,h]; rfl
theorem fnd_ix {b:List Th} {x:Int} {t:Th} (h:fnd b x=some t):∃ i,ixO b x=some i∧b[i]?=some t∧t.num=x∧i<b.length:=by
 cases hq:ixO b x with
 |none=>rw [ixO_none hq] at h; cases h
 |some i=>
  obtain ⟨t',h1,h2,h3,h4⟩:=ixO_some hq
  rw [h] at h3; cases h3
  exact ⟨i,rfl,h1,h2,h4⟩
end Go.Am
end
section
namespace Go.Am
open D12
variable {fl fl':List Int→Bool}
def BookOk (b:List Th):Prop:=b.length≤1000∧(b.map (·.num)).Nodup∧∀ t∈b,0≤t.val∧t.val≤1000000∧0≤t.hrs∧t.hrs≤10000
theorem needErr_find (s:Sf) (l:List Int):x22 s l=match l.find? fun x=>!decide (w7u s x=0) with
 |some x=>w7u s x
 |none=>0:=by
 induction l with
 |nil=>rfl
 |cons x l ih=>
  unfold x22
  by_cases h:w7u s x=0
  ·simp only [h,if_true,List.find?_cons,decide_true,Bool.not_true]; exact ih
  ·simp [h]
theorem upd_set {b:List Th} {x:Int} {i:Nat} {t:Th} {f:Th→Th} (hn:(b.map (·.num)).Nodup) (hi:b[i]?=some t) (ht:t.num=x):upd b x f=b.set i (f t):=by
 unfold upd
 apply List.ext_getElem?
 intro j
 have hil:i<b.length:=(List.getElem?_eq_some_iff.1 hi).1
 rw [List.getElem?_map,List.getElem?_set]
 by_cases hj:i=j
 ·subst hj
  have e1:b[i]=t:=(List.getElem?_eq_some_iff.1 hi).2
  simp [hi,ht,hil,e1]
 ·rw [if_neg hj]
  cases hq:b[j]? with
  |none=>rfl
  |some u=>
   have hu:u.num≠x:=by
    intro e
    have hjl:j<b.length:=(List.getElem?_eq_some_iff.1 hq).1
    have e1:b[i]=t:=(List.getElem?_eq_some_iff.1 hi).2
    have e2:b[j]=u:=(List.getElem?_eq_some_iff.1 hq).2
    exact hj ((List.getElem_inj (xs:=b.map (·.num)) (i:=i) (j:=j) (h₀:=by simpa using hil) (h₁:=by simpa using hjl) hn).1 (by simp [e1,e2,ht,e]))
   simp [hu]
end Go.Am
end
section
namespace Go.Am
open D12
theorem thErr_zero {s:Sf} {x:Int} (h:w7u s x=0):∃ t,s x=some t∧t.out=false:=by
 unfold w7u at h
 cases hq:s x with
 |none=>rw [hq] at h; simp at h
 |some t=>
  rw [hq] at h
  cases ho:t.out with
  |true=>simp [ho] at h
  |false=>exact ⟨t,rfl,ho⟩
theorem need_zero {s:Sf}:∀ {l:List Int},x22 s l=0→∀ x∈l,w7u s x=0
 |[],_,x,hx=>by cases hx
 |y::l,h,x,hx=>by
  unfold x22 at h
  by_cases hy:w7u s y=0
  ·rw [if_pos hy] at h
   rcases List.mem_cons.1 hx with rfl|hx
   ·exact hy
   ·exact need_zero h x hx
  ·rw [if_neg hy] at h; exact absurd h hy
theorem quo_wrap {v a:Int} (hv0:0≤v) (hv:v≤1000000) (ha0:0≤a) (ha:a≤100000):IntKind.i64.wrap (v*a)=v*a∧0≤v*a∧v*a≤100000000000:=by
 have h1:0≤v*a:=Int.mul_nonneg hv0 ha0
 have h2:v*a≤1000000*100000:=Int.mul_le_mul hv ha ha0 (by omega)
 exact ⟨w4a _ (by omega) (by omega),h1,by omega⟩
theorem upd_id {b:List Th} {x:Int} {f:Th→Th} (h:∀ t,f t=t):upd b x f=b:=by
 unfold upd
 conv=>rhs; rw [←List.map_id b]
 apply List.map_congr_left
 intro t _
 simp [h]
end Go.Am
end
section
namespace Go.Am
open D12
variable {fl fl':List Int→Bool}
def BookN (m:Nat) (b:List Th):Prop:=b.length≤m∧(b.map (·.num)).Nodup∧∀ t∈b,0≤t.val∧t.val≤1000000∧0≤t.hrs∧t.hrs≤10000
theorem BookN.ok {m:Nat} {b:List Th} (h:BookN m b) (hm:m≤1000):BookOk b:=⟨by have:=h.1; omega,h.2⟩
theorem fnd_notin {b:List Th} {x:Int} (h:fnd b x=none):x∉b.map (·.num):=by
 intro hx
 obtain ⟨t,ht,rfl⟩:=List.mem_map.1 hx
 have:=List.find?_eq_none.1 h t ht
 simp at this
theorem upd_nums {b:List Th} {x:Int} {f:Th→Th} (hf:∀ t,(f t).num=t.num):(upd b x f).map (·.num)=b.map (·.num):=by
 unfold upd
 rw [List.map_map]
 apply List.map_congr_left
 intro t _
 simp only [Function.comp_def]
 split
 ·exact hf t
 ·rfl
theorem val_le {m:Nat} {b:List Th} (hb:BookN m b) (x:Int):0≤w03 (fnd b) x∧w03 (fnd b) x≤1000000:=by
 unfold w03
 cases hq:fnd b x with
 |none=>simp
 |some t=>
  have:=hb.2.2 t (List.mem_of_find?_eq_some hq)
  simp; omega
theorem play_ok {m:Nat} {b:List Th} {c:Cd} (hb:BookN m b) (hc:z3x c=0):BookN (m+1) (play b c):=by
 obtain ⟨_,hk,hlen,_,hnd,hfit⟩:=cardSt_zero.1 hc
 obtain ⟨h1,h2,h3⟩:=hb
 unfold play
 split
 ·exact ⟨by omega,h2,h3⟩
 ·rename_i he
  have he:errC (fnd b) c=0:=by simpa using he
  split
  ·rename_i hk1
   have hn:fnd b (x0 c)=none:=by
    unfold errC at he
    rw [if_pos hk1] at he
    cases hq:fnd b (x0 c) with
    |none=>rfl
    |some t=>rw [hq] at he; simp at he
   have ha:1≤c.a∧c.a≤1000000:=by unfold w2o at hfit; omega
   refine ⟨by simp; omega,?_,fun t ht=>?_⟩
   ·rw [List.map_append,List.nodup_append]
    refine ⟨h2,by simp,fun a ha b' hb'=>?_⟩
    simp at hb'
    subst hb'
    exact fun e=>fnd_notin hn (e▸ha)
   ·rcases List.mem_append.1 ht with ht|ht
    ·exact h3 t ht
    ·simp at ht; subst ht; simp; omega
  ·rename_i hk1
   have turn_ok:∀ t∈upd b (x0 c) (v3l (fnd b) c),0≤t.val∧t.val≤1000000∧0≤t.hrs∧t.hrs≤10000:=by
    intro t ht
    unfold upd at ht
    obtain ⟨u,hu,rfl⟩:=List.mem_map.1 ht
    have hu3:=h3 u hu
    split
    ·rename_i hx
     unfold v3l
     split
     ·rename_i hk2
      have hfu:fnd b (x0 c)=some u:=by
       cases hq:fnd b (x0 c) with
       |none=>exact absurd (hx▸List.mem_map.2 ⟨u,hu,rfl⟩) (fnd_notin hq)
       |some v=>
        obtain ⟨i,_,hbi,hnum,_⟩:=fnd_ix hq
        obtain ⟨j,hj,hju⟩:=List.mem_iff_getElem.1 hu
        have hil:i<b.length:=(List.getElem?_eq_some_iff.1 hbi).1
        have hiv:b[i]=v:=(List.getElem?_eq_some_iff.1 hbi).2
        have:=(List.getElem_inj (xs:=b.map (·.num)) (i:=i) (j:=j) (h₀:=by simpa using hil) (h₁:=by simpa using hj) h2).1 (by simp [hiv,hju,hnum,hx])
        subst this
        rw [←hiv,hju]
      have ha:1≤c.a∧c.a≤10000:=by unfold w2o at hfit; omega
      have hh:hrsS (fnd b) (x0 c)=u.hrs:=by simp [hrsS,hfu]
      have:¬ 10000<u.hrs+c.a:=by
       intro h4
       unfold errC at he
       rw [if_neg hk1] at he
       split at he
       ·rename_i hne; exact hne he
       ·first|(rw [if_pos hk2,hh,if_pos h4] at he; omega)|(rw [hh,if_pos h4] at he; omega)
      simp; omega
     ·split
      ·rename_i hk2 hk3
       have h4:¬ ((w03 (fnd b) (x1 c)*c.a).tdiv 1000<1∨1000000<(w03 (fnd b) (x1 c)*c.a).tdiv 1000):=by
        intro h4
        unfold errC at he
        rw [if_neg hk1] at he
        split at he
        ·rename_i hne; exact hne he
        ·first|(rw [if_neg hk2,if_pos hk3,if_pos h4] at he; omega)|omega
       simp only [not_or] at h4
       simp; omega
      ·split
       ·simpa using hu3
       ·exact hu3
    ·exact hu3
   split
   ·rename_i hk4
    have hn:fnd b (x1 c)=none:=by
     unfold errC at he
     rw [if_neg hk1] at he
     split at he
     ·rename_i hne; exact absurd he hne
     ·simp only [hk4,Int.reduceEq,if_false,if_true] at he
      cases hq:fnd b (x1 c) with
      |none=>rfl
      |some t=>rw [hq] at he; simp at he
    refine ⟨by simp [upd]; omega,?_,fun t ht=>?_⟩
    ·rw [List.map_append,List.nodup_append,upd_nums (turn_num _ _)]
     refine ⟨h2,by simp,fun a ha b' hb'=>?_⟩
     simp at hb'
     subst hb'
     exact fun e=>fnd_notin hn (e▸ha)
    ·rcases List.mem_append.1 ht with ht|ht
     ·exact turn_ok t ht
     ·simp at ht; subst ht
      have:=val_le (m:=m) ⟨h1,h2,h3⟩ (x0 c)
      simp; omega
   ·exact ⟨by simp [upd]; omega,by rw [upd_nums (turn_num _ _)]; exact h2,turn_ok⟩
theorem book_snoc (p:List Cd) (c:Cd):bookOf (p++[c])=play (bookOf p) c:=by simp [bookOf]
theorem book_rev:∀ (l:List Cd),(∀ c∈l,z3x c=0)→BookN l.length (bookOf l)∧fnd (bookOf l)=st l:=by
 intro l
 induction hn:l.length generalizing l with
 |zero=>intro _; have:l=[]:=List.length_eq_zero_iff.1 hn; subst this; exact ⟨⟨by simp [bookOf],by simp [bookOf],by simp [bookOf]⟩,rfl⟩
 |succ n ih=>
  intro h
  obtain ⟨p,c,rfl⟩:∃ p c,l=p++[c]:=by
   have hne:l≠[]:=by intro e; rw [e] at hn; simp at hn
   exact ⟨l.dropLast,l.getLast hne,(List.dropLast_concat_getLast hne).symm⟩
  have hc:=h c (by simp)
  obtain ⟨h1,h2⟩:=ih p (by simpa using hn) fun d hd=>h d (by simp [hd])
  have hw:=wf_of hc
  rw [book_snoc,st_snoc, ←h2]
  exact ⟨play_ok h1 hc,fnd_play _ _ hw.1 fun h4=>x01_ne hw (by unfold z3u; simp [h4])⟩
theorem errs_snoc (s:Sf) (p:List Cd) (c:Cd):errs s (p++[c])=errs s p++[errC (p.foldl after s) c]:=by
 induction p generalizing s with
 |nil=>rfl
 |cons d p ih=>simp [errs,ih]
def no:Sf:=fun _=>none
theorem st_eq (l:List Cd):l.foldl after no=st l:=rfl
end Go.Am
end
section
namespace Go.Am
open D12
variable {fl fl':List Int→Bool}
def EB:MEnc Int Th:=⟨fun k=> .int .i64 k,fun t=> .agg (eTh t),[.i],false,true,[.int .i64, .int .i64, .int .i64, .bool]⟩
theorem EB_ok:EB.Ok where
 agg:=fun _=>rfl
 kinds:=fun _=>rfl
 eq:=fun a b=>by
  show (bif IntKind.i64==IntKind.i64 then (some (z4d .eql a b&&true)) else none)=_
  rw [Bool.and_true]; rfl
 vagg:=fun _=>rfl
 vok:=fun _=>rfl
def mb (b:List Th):List (Int×Th):=b.map fun t=>(t.num,t)
def encB (b:List Th):List (D×D):=EB.enc (mb b)
theorem aVal_mb (x:Int):∀ b:List Th,aVal (mb b) x=fnd b x
 |[]=>rfl
 |t::b=>by
  have ih:=aVal_mb x b
  unfold fnd at*
  simp only [mb,List.map_cons,aVal,List.find?_cons] at ih⊢
  by_cases h:t.num=x
  ·simp [h]
  ·have h':¬ x=t.num:=fun e=>h e.symm
   simp [h,h',ih]
theorem put_new {b:List Th} {w:Th} (h:fnd b w.num=none):aPut (mb b) w.num w=mb (b++[w]):=by
 unfold aPut
 rw [aVal_mb,h]
 simp [mb]
theorem put_old {b:List Th} {x:Int} {t w:Th} (hn:(b.map (·.num)).Nodup) (h:fnd b x=some t) (hw:w.num=x):aPut (mb b) x w=mb (upd b x fun _=>w):=by
 unfold aPut
 rw [aVal_mb,h]
 have key:∀ b:List Th,(b.map (·.num)).Nodup→(fnd b x).isSome=true→aSet (mb b) x w=mb (upd b x fun _=>w):=by
  intro b
  induction b with
  |nil=>intro _ h; simp [fnd] at h
  |cons u b ih=>
   intro hn h
   simp only [List.map_cons,List.nodup_cons] at hn
   unfold fnd at h ih
   simp only [mb,upd,List.map_cons,aSet,List.find?_cons] at h ih⊢
   by_cases he:u.num=x
   ·have:∀ v∈b,v.num≠x:=fun v hv e=>hn.1 (he▸e▸List.mem_map.2 ⟨v,hv,rfl⟩)
    have e2:(b.map fun t=>if t.num=x then w else t)=b:=by
     conv=>rhs; rw [←List.map_id b]
     exact List.map_congr_left fun v hv=>by simp [this v hv]
    simp [he,hw,e2]
   ·have he':¬ x=u.num:=fun e=>he e.symm
    simp [he,he'] at h⊢
    have:=ih hn.2 (by simpa using h)
    simpa [mb,upd] using this
 exact key b hn (by rw [h]; rfl)
section
variable (b:List Th) (x:Int)
theorem B_ok:std.mOk (encB b) [SK.i] false (.int .i64 x) true [.int .i64, .int .i64, .int .i64, .bool]=true:=mOk_enc EB_ok (mb b) x
theorem B_has:std.mhas (encB b) [SK.i] false (.int .i64 x)=(fnd b x).isSome:=by rw [←aVal_mb]; exact mhas_enc EB_ok (mb b) x
variable {b x} {t:Th} (h:fnd b x=some t)
include h
theorem B_0:std.mI (encB b) [SK.i] false (.int .i64 x) 0=t.num:=mI_enc EB_ok (mb b) x 0 (by rw [aVal_mb]; exact h)
theorem B_1:std.mI (encB b) [SK.i] false (.int .i64 x) 1=t.val:=mI_enc EB_ok (mb b) x 1 (by rw [aVal_mb]; exact h)
theorem B_2:std.mI (encB b) [SK.i] false (.int .i64 x) 2=t.hrs:=mI_enc EB_ok (mb b) x 2 (by rw [aVal_mb]; exact h)
theorem B_3:std.mB (encB b) [SK.i] false (.int .i64 x) 3=t.out:=mB_enc EB_ok (mb b) x 3 (by rw [aVal_mb]; exact h)
theorem B_set (hn:(b.map (·.num)).Nodup) (n v r:Int) (o:Bool) (hw:n=x):
  std.mset (encB b) (std.mpos (encB b) [SK.i] false (.int .i64 x)) (.int .i64 x) (.agg [.int .i64 n, .int .i64 v, .int .i64 r, .bool o])=encB (upd b x fun _=>⟨n,v,r,o⟩):=by
 have:=mset_enc EB_ok (mb b) x (by rw [aVal_mb]; exact h) ⟨n,v,r,o⟩
 rw [put_old hn h hw] at this
 exact this
end
theorem B_add {b:List Th} {x:Int} (h:fnd b x=none) (v r:Int) (o:Bool):std.madd (encB b) (.int .i64 x) (.agg [.int .i64 x, .int .i64 v, .int .i64 r, .bool o])=encB (b++[⟨x,v,r,o⟩]):=by
 have:=madd_enc EB_ok (mb b) x (by rw [aVal_mb]; exact h) ⟨x,v,r,o⟩
 have e:=put_new (w:=⟨x,v,r,o⟩) h
 simp only at e
 rw [e] at this
 exact this
theorem G137_ok (b:List Th) (l:List Int) (hl:l.length≤1000):G137 std (encB b,(z1j l,()))=some (encB b,(x22 (fnd b) l,())):=by
 unfold G137
 have key:=z7r (b:=b137_1 std) l.length (fun i=>(encB b,(z1j l,((l.length:Int),((i:Int),()))))) (fun i=>!decide (w7u (fnd b) (l.getD i default)=0)) (fun i=> .inl (encB b,(w7u (fnd b) (l.getD i default),()))) (.inr (encB b,())) (fun i hi=>by
  obtain ⟨y,hy⟩:=z2b hi
  obtain ⟨hw,h0⟩:=stp i (by omega)
  have hlt:(i:Int)<l.length:=by omega
  cases hq:fnd b y with
  |none=>
   have he:w7u (fnd b) y=5:=by simp [w7u,hq]
   have hh:(fnd b y).isSome=false:=by rw [hq]; rfl
   simp only [z2x hy,b137_1,z2t,z2u,z1j,z09,z5x,eq_self,not_true,not_false_eq_true,decide_true,decide_false,Bool.not_true,Bool.not_false,Int.reduceLT,Int.reduceNeg,Int.reduceGT,Int.reduceEq,Int.reduceLE,cond_true,cond_false,ge_iff_le,gt_iff_lt,z0b,hy,hlt,h0,hw,B_ok,B_has,hh,he,List.getElem?_map,Option.map_some]
  |some t=>
   have hh:(fnd b y).isSome=true:=by rw [hq]; rfl
   have h3:=B_3 hq
   cases ho:t.out with
   |true=>
    have he:w7u (fnd b) y=9:=by simp [w7u,hq,ho]
    rw [ho] at h3
    simp only [z2x hy,b137_1,z2t,z2u,z1j,z09,z5x,eq_self,not_true,not_false_eq_true,decide_true,decide_false,Bool.not_true,Bool.not_false,Int.reduceLT,Int.reduceNeg,Int.reduceGT,Int.reduceEq,Int.reduceLE,cond_true,cond_false,ge_iff_le,gt_iff_lt,z0b,hy,hlt,h0,hw,B_ok,B_has,hh,he,h3,List.getElem?_map,Option.map_some]
   |false=>
    have he:w7u (fnd b) y=0:=by simp [w7u,hq,ho]
    rw [ho] at h3
    simp only [z2x hy,b137_1,z2t,z2u,z1j,z09,z5x,eq_self,not_true,not_false_eq_true,decide_true,decide_false,Bool.not_true,Bool.not_false,Int.reduceLT,Int.reduceNeg,Int.reduceGT,Int.reduceEq,Int.reduceLE,cond_true,cond_false,ge_iff_le,gt_iff_lt,z0b,hy,hlt,h0,hw,B_ok,B_has,hh,he,h3,List.getElem?_map,Option.map_some]) (by
  have hn:¬ (l.length:Int)<l.length:=by omega
  simp only [b137_1,z2t,z2u,hn,if_false])
 have key:z6j (b137_1 std) (encB b,(z1j l,((l.length:Int),((0:Int),()))))=_:=key
 have e:=x45 l default fun x=>!decide (w7u (fnd b) x=0)
 rw [needErr_find, ←e]
 have hlen:(z1j l).length=l.length:=by simp [z1j]
 simp only [z2t,z2u,hlen,key]
 cases hq:(List.range l.length).find? fun i=>!decide (w7u (fnd b) (l.getD i default)=0) with
 |none=>simp
 |some i=>simp
theorem fnd_num {b:List Th} {x:Int} {t:Th} (h:fnd b x=some t):t.num=x:=by
 have:=List.find?_some h
 simpa using this
theorem G136_ok (b:List Th) (x v:Int) (hx:x≠0):G136 std (encB b,(x,(v,())))=some (if (fnd b x).isSome=true then (encB b,(11,())) else (encB (b++[⟨x,v,0,false⟩]),(0,()))):=by
 unfold G136
 cases hq:fnd b x with
 |none=>
  have hh:(fnd b x).isSome=false:=by rw [hq]; rfl
  have ha:=B_add hq v 0 false
  simp only [z2t,z2u,eq_self,not_true,not_false_eq_true,decide_true,decide_false,Bool.not_true,Bool.not_false,Int.reduceLT,Int.reduceNeg,Int.reduceGT,Int.reduceEq,Int.reduceLE,cond_true,cond_false,ge_iff_le,gt_iff_lt,z0b,B_ok,B_has,hh,ha,std_bEq]
  simp
 |some t=>
  have hh:(fnd b x).isSome=true:=by rw [hq]; rfl
  have h0:=B_0 hq
  have hn:=fnd_num hq
  have hn0:¬ t.num=0:=by omega
  simp only [z2t,z2u,eq_self,not_true,not_false_eq_true,decide_true,decide_false,Bool.not_true,Bool.not_false,Int.reduceLT,Int.reduceNeg,Int.reduceGT,Int.reduceEq,Int.reduceLE,cond_true,cond_false,ge_iff_le,gt_iff_lt,z0b,B_ok,B_has,hh,h0,hn0]
  simp [hn0]
theorem G139_ok (b:List Th) (x r lo hi:Int) (hn:(b.map (·.num)).Nodup) {t:Th} (h:fnd b x=some t):G139 std (encB b,(x,(r,(lo,(hi,())))))=some (if lo≤r∧r≤hi then (encB (upd b x fun _=>{ t with hrs:=r }),(0,())) else (encB b,(4,()))):=by
 unfold G139 G140
 have h56:=w00 lo hi [r] (by simp)
 have h56:G56 std (lo,(hi,([eI r],())))=some (!(decide (r<lo∨r>hi)||false),()):=h56
 have hh:(fnd b x).isSome=true:=by rw [h]; rfl
 have h0:=B_0 h
 have h1:=B_1 h
 have h2:=B_2 h
 have h3:=B_3 h
 have hs:=B_set h hn t.num t.val r t.out (fnd_num h)
 simp only [eI] at h56
 by_cases hb:lo≤r∧r≤hi
 ·have hd:decide (r<lo∨r>hi)=false:=by simp; omega
  rw [hd] at h56
  simp only [z2t,z2u,eq_self,not_true,not_false_eq_true,decide_true,decide_false,Bool.not_true,Bool.not_false,Int.reduceLT,Int.reduceNeg,Int.reduceGT,Int.reduceEq,Int.reduceLE,cond_true,cond_false,ge_iff_le,gt_iff_lt,z0b,B_ok,B_has,hh,h0,h1,h2,h3,h56,hs]
  simp [hb]
 ·have hd:decide (r<lo∨r>hi)=true:=by simp; omega
  rw [hd] at h56
  simp only [z2t,z2u,eq_self,not_true,not_false_eq_true,decide_true,decide_false,Bool.not_true,Bool.not_false,Int.reduceLT,Int.reduceNeg,Int.reduceGT,Int.reduceEq,Int.reduceLE,cond_true,cond_false,ge_iff_le,gt_iff_lt,z0b,B_ok,B_has,hh,h0,h1,h2,h3,h56,hs]
  simp [hb]
theorem G139_1_ok (b:List Th) (x r lo hi:Int) (hn:(b.map (·.num)).Nodup) {t:Th} (h:fnd b x=some t):G139_1 std (encB b,(x,(r,(lo,(hi,())))))=some (if lo≤r∧r≤hi then (encB (upd b x fun _=>{ t with val:=r }),(0,())) else (encB b,(4,()))):=by
 unfold G139_1 G141
 have h56:=w00 lo hi [r] (by simp)
 have h56:G56 std (lo,(hi,([eI r],())))=some (!(decide (r<lo∨r>hi)||false),()):=h56
 have hh:(fnd b x).isSome=true:=by rw [h]; rfl
 have h0:=B_0 h
 have h1:=B_1 h
 have h2:=B_2 h
 have h3:=B_3 h
 have hs:=B_set h hn t.num r t.hrs t.out (fnd_num h)
 simp only [eI] at h56
 by_cases hb:lo≤r∧r≤hi
 ·have hd:decide (r<lo∨r>hi)=false:=by simp; omega
  rw [hd] at h56
  simp only [z2t,z2u,eq_self,not_true,not_false_eq_true,decide_true,decide_false,Bool.not_true,Bool.not_false,Int.reduceLT,Int.reduceNeg,Int.reduceGT,Int.reduceEq,Int.reduceLE,cond_true,cond_false,ge_iff_le,gt_iff_lt,z0b,B_ok,B_has,hh,h0,h1,h2,h3,h56,hs]
  simp [hb]
 ·have hd:decide (r<lo∨r>hi)=true:=by simp; omega
  rw [hd] at h56
  simp only [z2t,z2u,eq_self,not_true,not_false_eq_true,decide_true,decide_false,Bool.not_true,Bool.not_false,Int.reduceLT,Int.reduceNeg,Int.reduceGT,Int.reduceEq,Int.reduceLE,cond_true,cond_false,ge_iff_le,gt_iff_lt,z0b,B_ok,B_has,hh,h0,h1,h2,h3,h56,hs]
  simp [hb]
theorem G139_2_ok (b:List Th) (x:Int) (hn:(b.map (·.num)).Nodup) {t:Th} (h:fnd b x=some t):G139_2 std (encB b,(x,(0,(0,(0,())))))=some (encB (upd b x fun _=>{ t with out:=true }),(0,())):=by
 unfold G139_2 G138
 have h56:=w00 0 0 [0] (by simp)
 have h56:G56 std (0,(0,([eI 0],())))=some (true,()):=h56
 have hh:(fnd b x).isSome=true:=by rw [h]; rfl
 have h0:=B_0 h
 have h1:=B_1 h
 have h2:=B_2 h
 have h3:=B_3 h
 have hs:=B_set h hn t.num t.val t.hrs true (fnd_num h)
 simp only [eI] at h56
 simp only [z2t,z2u,eq_self,not_true,not_false_eq_true,decide_true,decide_false,Bool.not_true,Bool.not_false,Int.reduceLT,Int.reduceNeg,Int.reduceGT,Int.reduceEq,Int.reduceLE,cond_true,cond_false,ge_iff_le,gt_iff_lt,z0b,B_ok,B_has,hh,h0,h1,h2,h3,h56,hs]
end Go.Am
end
section
namespace Go.Am
open D12
variable {fl fl':List Int→Bool}
theorem upd_const {b:List Th} {x:Int} {t:Th} {f:Th→Th} (hn:(b.map (·.num)).Nodup) (h:fnd b x=some t):upd b x f=upd b x fun _=>f t:=by
 obtain ⟨i,_,hbi,hnum,_⟩:=fnd_ix h
 rw [upd_set hn hbi hnum,upd_set hn hbi hnum]
theorem G110_1 (b:List Th) (n x a:Int) (hx:x≠0):G110 std (encB b,(n,(1,(z1j [x],(a,())))))=some (encB (play b ⟨n,1,[x],a⟩),(errC (fnd b) ⟨n,1,[x],a⟩,())):=by
 have h:=G136_ok b x a hx
 have he:errC (fnd b) ⟨n,1,[x],a⟩=if (fnd b x).isSome then 11 else 0:=by unfold errC x0; simp
 have hp:play b ⟨n,1,[x],a⟩=if (fnd b x).isSome then b else b++[⟨x,a,0,false⟩]:=by
  unfold play
  rw [he]
  cases (fnd b x).isSome<;>simp [x0]
 rw [he,hp]
 unfold G110
 cases hh:(fnd b x).isSome with
 |true=>
  rw [hh] at h
  simp only [z2t,z2u,z1j,z09,z5x,eq_self,not_true,not_false_eq_true,decide_true,decide_false,Bool.not_true,Bool.not_false,Int.reduceLT,Int.reduceNeg,Int.reduceGT,Int.reduceEq,Int.reduceLE,cond_true,cond_false,ge_iff_le,gt_iff_lt,z0b,List.map_cons,List.map_nil]
  simp [h,z09,z5x]
 |false=>
  rw [hh] at h
  simp only [z2t,z2u,z1j,z09,z5x,eq_self,not_true,not_false_eq_true,decide_true,decide_false,Bool.not_true,Bool.not_false,Int.reduceLT,Int.reduceNeg,Int.reduceGT,Int.reduceEq,Int.reduceLE,cond_true,cond_false,ge_iff_le,gt_iff_lt,z0b,List.map_cons,List.map_nil]
  simp [h,z09,z5x]
set_option maxHeartbeats 2000000 in
theorem G110_2 (b:List Th) (n x a:Int) (hb:BookOk b) (ha:1≤a∧a≤10000):G110 std (encB b,(n,(2,(z1j [x],(a,())))))=some (encB (play b ⟨n,2,[x],a⟩),(errC (fnd b) ⟨n,2,[x],a⟩,())):=by
 have hN:=G137_ok b [x] (by simp)
 have hnx:x22 (fnd b) [x]=w7u (fnd b) x:=by simp [x22]; intro h; exact h.symm
 have hn2:x22 (fnd b) (D12.needs ⟨n,2,[x],a⟩)=w7u (fnd b) x:=by simpa [D12.needs] using hnx
 rw [hnx] at hN
 have hN:G137 std (encB b,([eI x],()))=some (encB b,(w7u (fnd b) x,())):=hN
 by_cases he:w7u (fnd b) x=0
 ·obtain ⟨t,ht,_⟩:=thErr_zero he
  have htm:=List.mem_of_find?_eq_some ht
  obtain ⟨v1,v2,v3,v4⟩:=hb.2.2 t htm
  have hw:IntKind.i64.wrap (t.hrs+a)=t.hrs+a:=w4a _ (by omega) (by omega)
  have hhr:hrsS (fnd b) x=t.hrs:=by simp [hrsS,ht]
  have h139:=G139_ok b x (t.hrs+a) 0 10000 hb.2.1 ht
  have hh:(fnd b x).isSome=true:=by rw [ht]; rfl
  have h2:=B_2 ht
  have hep:errC (fnd b) ⟨n,2,[x],a⟩=if 10000<t.hrs+a then 4 else 0:=by
   unfold errC
   simp [hn2,he,x0,hhr]
  have hpp:play b ⟨n,2,[x],a⟩=if 10000<t.hrs+a then b else upd b x fun _=>{ t with hrs:=t.hrs+a }:=by
   unfold play
   rw [hep]
   by_cases h4:10000<t.hrs+a
   ·simp [h4]
   ·simp [h4,x0]
    rw [upd_const hb.2.1 ht]
    simp [v3l]
  rw [hep,hpp]
  rw [he] at hN
  unfold G110
  by_cases h4:10000<t.hrs+a
  ·have hlo:¬ (0≤t.hrs+a∧t.hrs+a≤10000):=by omega
   rw [if_neg hlo] at h139
   simp only [z2t,z2u,z1j,z09,z5x,eq_self,not_true,not_false_eq_true,decide_true,decide_false,Bool.not_true,Bool.not_false,Int.reduceLT,Int.reduceNeg,Int.reduceGT,Int.reduceEq,Int.reduceLE,cond_true,cond_false,ge_iff_le,gt_iff_lt,z0b,List.map_cons,List.map_nil]
   simp [hN,z09,z5x,B_ok,B_has,hh,h2,hw,h139,h4]
  ·have hlo:0≤t.hrs+a∧t.hrs+a≤10000:=by omega
   rw [if_pos hlo] at h139
   simp only [z2t,z2u,z1j,z09,z5x,eq_self,not_true,not_false_eq_true,decide_true,decide_false,Bool.not_true,Bool.not_false,Int.reduceLT,Int.reduceNeg,Int.reduceGT,Int.reduceEq,Int.reduceLE,cond_true,cond_false,ge_iff_le,gt_iff_lt,z0b,List.map_cons,List.map_nil]
   simp [hN,z09,z5x,B_ok,B_has,hh,h2,hw,h139,h4]
 ·have hep:errC (fnd b) ⟨n,2,[x],a⟩=w7u (fnd b) x:=by
   unfold errC
   simp [hn2,he]
  have hpp:play b ⟨n,2,[x],a⟩=b:=by
   unfold play
   rw [hep,if_pos he]
  rw [hep,hpp]
  unfold G110
  simp only [z2t,z2u,z1j,z09,z5x,eq_self,not_true,not_false_eq_true,decide_true,decide_false,Bool.not_true,Bool.not_false,Int.reduceLT,Int.reduceNeg,Int.reduceGT,Int.reduceEq,Int.reduceLE,cond_true,cond_false,ge_iff_le,gt_iff_lt,z0b,List.map_cons,List.map_nil]
  simp [hN,z09,z5x,he]
set_option maxHeartbeats 2000000 in
theorem G110_5 (b:List Th) (n x:Int) (hb:BookOk b):G110 std (encB b,(n,(5,(z1j [x],(0,())))))=some (encB (play b ⟨n,5,[x],0⟩),(errC (fnd b) ⟨n,5,[x],0⟩,())):=by
 have hN:=G137_ok b [x] (by simp)
 have hnx:x22 (fnd b) [x]=w7u (fnd b) x:=by simp [x22]; intro h; exact h.symm
 have hn2:x22 (fnd b) (D12.needs ⟨n,5,[x],0⟩)=w7u (fnd b) x:=by simpa [D12.needs] using hnx
 rw [hnx] at hN
 have hN:G137 std (encB b,([eI x],()))=some (encB b,(w7u (fnd b) x,())):=hN
 by_cases he:w7u (fnd b) x=0
 ·obtain ⟨t,ht,_⟩:=thErr_zero he
  have h139:=G139_2_ok b x hb.2.1 ht
  have hh:(fnd b x).isSome=true:=by rw [ht]; rfl
  have hep:errC (fnd b) ⟨n,5,[x],0⟩=0:=by
   unfold errC
   simp [hn2,he]
  have hpp:play b ⟨n,5,[x],0⟩=upd b x fun _=>{ t with out:=true }:=by
   unfold play
   rw [hep]
   simp [x0]
   rw [upd_const hb.2.1 ht]
   simp [v3l]
  rw [hep,hpp]
  rw [he] at hN
  unfold G110
  simp only [z2t,z2u,z1j,z09,z5x,eq_self,not_true,not_false_eq_true,decide_true,decide_false,Bool.not_true,Bool.not_false,Int.reduceLT,Int.reduceNeg,Int.reduceGT,Int.reduceEq,Int.reduceLE,cond_true,cond_false,ge_iff_le,gt_iff_lt,z0b,List.map_cons,List.map_nil]
  simp [hN,z09,z5x,B_ok,B_has,hh,h139]
 ·have hep:errC (fnd b) ⟨n,5,[x],0⟩=w7u (fnd b) x:=by
   unfold errC
   simp [hn2,he]
  have hpp:play b ⟨n,5,[x],0⟩=b:=by
   unfold play
   rw [hep,if_pos he]
  rw [hep,hpp]
  unfold G110
  simp only [z2t,z2u,z1j,z09,z5x,eq_self,not_true,not_false_eq_true,decide_true,decide_false,Bool.not_true,Bool.not_false,Int.reduceLT,Int.reduceNeg,Int.reduceGT,Int.reduceEq,Int.reduceLE,cond_true,cond_false,ge_iff_le,gt_iff_lt,z0b,List.map_cons,List.map_nil]
  simp [hN,z09,z5x,he]
set_option maxHeartbeats 2000000 in
theorem G110_3 (b:List Th) (n x y a:Int) (hb:BookOk b) (ha:1≤a∧a≤100000):G110 std (encB b,(n,(3,(z1j [x,y],(a,())))))=some (encB (play b ⟨n,3,[x,y],a⟩),(errC (fnd b) ⟨n,3,[x,y],a⟩,())):=by
 have hN:=G137_ok b [x,y] (by simp)
 have hn2:D12.needs ⟨n,3,[x,y],a⟩=[x,y]:=rfl
 have hN:G137 std (encB b,([eI x,eI y],()))=some (encB b,(x22 (fnd b) [x,y],())):=hN
 by_cases he:x22 (fnd b) [x,y]=0
 ·obtain ⟨t,ht,_⟩:=thErr_zero (need_zero he x (by simp))
  obtain ⟨u,hu,_⟩:=thErr_zero (need_zero he y (by simp))
  obtain ⟨v1,v2,_,_⟩:=hb.2.2 u (List.mem_of_find?_eq_some hu)
  obtain ⟨hw,w1,w2⟩:=quo_wrap v1 v2 (by omega:0≤a) ha.2
  have hvy:w03 (fnd b) y=u.val:=by simp [w03,hu]
  have hq:IntKind.i64.wrap ((u.val*a).tdiv 1000)=(u.val*a).tdiv 1000:=w4a _ (by rw [Int.tdiv_eq_ediv_of_nonneg w1]; omega) (by rw [Int.tdiv_eq_ediv_of_nonneg w1]; omega)
  have hqq:std.ar .quo .i64 (std.ar .mul .i64 u.val a) 1000=(u.val*a).tdiv 1000:=by rw [std_ar_mul,std_ar_quo,hw,hq]
  have h139:=G139_1_ok b x ((u.val*a).tdiv 1000) 1 1000000 hb.2.1 ht
  have hh:(fnd b x).isSome=true:=by rw [ht]; rfl
  have hhy:(fnd b y).isSome=true:=by rw [hu]; rfl
  have h1:=B_1 hu
  have hep:errC (fnd b) ⟨n,3,[x,y],a⟩=if (u.val*a).tdiv 1000<1∨1000000<(u.val*a).tdiv 1000 then 4 else 0:=by
   unfold errC
   simp [hn2,he,x1,hvy]
  have hpp:play b ⟨n,3,[x,y],a⟩=if (u.val*a).tdiv 1000<1∨1000000<(u.val*a).tdiv 1000 then b else upd b x fun _=>{ t with val:=(u.val*a).tdiv 1000 }:=by
   unfold play
   rw [hep]
   by_cases h4:(u.val*a).tdiv 1000<1∨1000000<(u.val*a).tdiv 1000
   ·simp [h4]
   ·have hc:=upd_const (f:=v3l (fnd b) ⟨n,3,[x,y],a⟩) hb.2.1 ht
    have htt:v3l (fnd b) ⟨n,3,[x,y],a⟩ t={ t with val:=(u.val*a).tdiv 1000 }:=by simp [v3l,x1,hvy]
    rw [htt] at hc
    simp [h4,x0]
    exact hc
  rw [hep,hpp]
  rw [he] at hN
  generalize (u.val*a).tdiv 1000=q at*
  unfold G110
  by_cases h4:q<1∨1000000<q
  ·have hlo:¬ (1≤q∧q≤1000000):=by omega
   rw [if_neg hlo] at h139
   simp only [z2t,z2u,z1j,z09,z5x,eq_self,not_true,not_false_eq_true,decide_true,decide_false,Bool.not_true,Bool.not_false,Int.reduceLT,Int.reduceNeg,Int.reduceGT,Int.reduceEq,Int.reduceLE,cond_true,cond_false,ge_iff_le,gt_iff_lt,z0b,List.map_cons,List.map_nil]
   simp [hN,z09,z5x,B_ok,B_has,hh,hhy,h1,hqq,h139,h4]
  ·have hlo:1≤q∧q≤1000000:=by omega
   rw [if_pos hlo] at h139
   simp only [z2t,z2u,z1j,z09,z5x,eq_self,not_true,not_false_eq_true,decide_true,decide_false,Bool.not_true,Bool.not_false,Int.reduceLT,Int.reduceNeg,Int.reduceGT,Int.reduceEq,Int.reduceLE,cond_true,cond_false,ge_iff_le,gt_iff_lt,z0b,List.map_cons,List.map_nil]
   simp [hN,z09,z5x,B_ok,B_has,hh,hhy,h1,hqq,h139,h4]
 ·have hep:errC (fnd b) ⟨n,3,[x,y],a⟩=x22 (fnd b) [x,y]:=by
   unfold errC
   simp [hn2,he]
  have hpp:play b ⟨n,3,[x,y],a⟩=b:=by
   unfold play
   rw [hep,if_pos he]
  rw [hep,hpp]
  unfold G110
  simp only [z2t,z2u,z1j,z09,z5x,eq_self,not_true,not_false_eq_true,decide_true,decide_false,Bool.not_true,Bool.not_false,Int.reduceLT,Int.reduceNeg,Int.reduceGT,Int.reduceEq,Int.reduceLE,cond_true,cond_false,ge_iff_le,gt_iff_lt,z0b,List.map_cons,List.map_nil]
  simp [hN,z09,z5x,he]
set_option maxHeartbeats 2000000 in
theorem G110_6 (b:List Th) (n x y z a:Int) (hb:BookOk b) (ha:0≤a∧a≤1000000):G110 std (encB b,(n,(6,(z1j [x,y,z],(a,())))))=some (encB (play b ⟨n,6,[x,y,z],a⟩),(errC (fnd b) ⟨n,6,[x,y,z],a⟩,())):=by
 have hN:=G137_ok b [x,y,z] (by simp)
 have hn2:D12.needs ⟨n,6,[x,y,z],a⟩=[x,y,z]:=rfl
 have hN:G137 std (encB b,([eI x,eI y,eI z],()))=some (encB b,(x22 (fnd b) [x,y,z],())):=hN
 by_cases he:x22 (fnd b) [x,y,z]=0
 ·obtain ⟨t,ht,_⟩:=thErr_zero (need_zero he x (by simp))
  obtain ⟨u,hu,_⟩:=thErr_zero (need_zero he y (by simp))
  obtain ⟨v,hv,_⟩:=thErr_zero (need_zero he z (by simp))
  obtain ⟨t1,t2,_,_⟩:=hb.2.2 t (List.mem_of_find?_eq_some ht)
  obtain ⟨u1,u2,_,_⟩:=hb.2.2 u (List.mem_of_find?_eq_some hu)
  obtain ⟨v1,v2,_,_⟩:=hb.2.2 v (List.mem_of_find?_eq_some hv)
  have e1:w03 (fnd b) x=t.val:=by simp [w03,ht]
  have e2:w03 (fnd b) y=u.val:=by simp [w03,hu]
  have e3:w03 (fnd b) z=v.val:=by simp [w03,hv]
  have hx:(fnd b x).isSome=true:=by rw [ht]; rfl
  have hy:(fnd b y).isSome=true:=by rw [hu]; rfl
  have hz:(fnd b z).isSome=true:=by rw [hv]; rfl
  have b1:=B_1 ht
  have b2:=B_1 hu
  have b3:=B_1 hv
  have hep:errC (fnd b) ⟨n,6,[x,y,z],a⟩=if a<t.val+u.val - v.val∨a< -(t.val+u.val - v.val) then 23 else 0:=by
   unfold errC
   simp [hn2,he,x0,x1,x2,e1,e2,e3]
  have hpp:play b ⟨n,6,[x,y,z],a⟩=b:=by
   unfold play
   rw [hep]
   split
   ·rfl
   ·simp
    exact upd_id fun t=>by simp [v3l]
  rw [hep,hpp]
  rw [he] at hN
  have q1:std.ar .sub .i64 (IntKind.i64.wrap (t.val+u.val)) v.val=t.val+u.val - v.val:=by
   rw [z9r,w4a (t.val+u.val) (by omega) (by omega),w4a _ (by omega) (by omega)]
  have q2:std.ar .sub .i64 0 a= -a:=by
   rw [z9r,w4a _ (by omega) (by omega)]; omega
  have h56:=w00 (-a) a [t.val+u.val - v.val] (by simp)
  generalize t.val+u.val - v.val=q at*
  have h56:G56 std (-a,(a,([[.int .i64 q]],())))=some (!(decide (q< -a∨q>a)||false),()):=h56
  unfold G110
  by_cases h4:a<q∨a< -q
  ·have hd:decide (q< -a∨q>a)=true:=by simp; omega
   rw [hd] at h56
   simp only [z2t,z2u,z1j,z09,z5x,eq_self,not_true,not_false_eq_true,decide_true,decide_false,Bool.not_true,Bool.not_false,Int.reduceLT,Int.reduceNeg,Int.reduceGT,Int.reduceEq,Int.reduceLE,cond_true,cond_false,ge_iff_le,gt_iff_lt,z0b,List.map_cons,List.map_nil]
   simp [hN,z09,z5x,B_ok,B_has,hx,hy,hz,b1,b2,b3,q1,q2,h56,h4]
  ·have hd:decide (q< -a∨q>a)=false:=by simp; omega
   rw [hd] at h56
   simp only [z2t,z2u,z1j,z09,z5x,eq_self,not_true,not_false_eq_true,decide_true,decide_false,Bool.not_true,Bool.not_false,Int.reduceLT,Int.reduceNeg,Int.reduceGT,Int.reduceEq,Int.reduceLE,cond_true,cond_false,ge_iff_le,gt_iff_lt,z0b,List.map_cons,List.map_nil]
   simp [hN,z09,z5x,B_ok,B_has,hx,hy,hz,b1,b2,b3,q1,q2,h56,h4]
 ·have hep:errC (fnd b) ⟨n,6,[x,y,z],a⟩=x22 (fnd b) [x,y,z]:=by
   unfold errC
   simp [hn2,he]
  have hpp:play b ⟨n,6,[x,y,z],a⟩=b:=by
   unfold play
   rw [hep,if_pos he]
  rw [hep,hpp]
  unfold G110
  simp only [z2t,z2u,z1j,z09,z5x,eq_self,not_true,not_false_eq_true,decide_true,decide_false,Bool.not_true,Bool.not_false,Int.reduceLT,Int.reduceNeg,Int.reduceGT,Int.reduceEq,Int.reduceLE,cond_true,cond_false,ge_iff_le,gt_iff_lt,z0b,List.map_cons,List.map_nil]
  simp [hN,z09,z5x,he]
theorem upd_append (a b:List Th) (x:Int) (f:Th→Th):upd (a++b) x f=upd a x f++upd b x f:=by simp [upd]
set_option maxHeartbeats 2000000 in
theorem G110_4 (b:List Th) (n x y:Int) (hb:BookOk b) (hxy:x≠y) (hy0:y≠0):G110 std (encB b,(n,(4,(z1j [x,y],(0,())))))=some (encB (play b ⟨n,4,[x,y],0⟩),(errC (fnd b) ⟨n,4,[x,y],0⟩,())):=by
 have hN:=G137_ok b [x] (by simp)
 have hnx:x22 (fnd b) [x]=w7u (fnd b) x:=by simp [x22]; intro h; exact h.symm
 have hn2:x22 (fnd b) (D12.needs ⟨n,4,[x,y],0⟩)=w7u (fnd b) x:=by simpa [D12.needs] using hnx
 rw [hnx] at hN
 have hN:G137 std (encB b,([eI x],()))=some (encB b,(w7u (fnd b) x,())):=hN
 by_cases he:w7u (fnd b) x=0
 ·obtain ⟨t,ht,_⟩:=thErr_zero he
  have hh:(fnd b x).isSome=true:=by rw [ht]; rfl
  have h1:=B_1 ht
  have h136:=G136_ok b y t.val hy0
  have hvx:w03 (fnd b) x=t.val:=by simp [w03,ht]
  have hep:errC (fnd b) ⟨n,4,[x,y],0⟩=if (fnd b y).isSome=true then 11 else 0:=by
   unfold errC
   simp [hn2,he,x1]
  rw [he] at hN
  cases hy:(fnd b y).isSome with
  |true=>
   rw [hy] at h136 hep
   have hep:errC (fnd b) ⟨n,4,[x,y],0⟩=11:=by rw [hep]; rfl
   have hpp:play b ⟨n,4,[x,y],0⟩=b:=by unfold play; rw [hep]; rfl
   have h136:G136 std (encB b,(y,(t.val,())))=some (encB b,(11,())):=h136
   rw [hep,hpp]
   unfold G110
   simp only [z2t,z2u,z1j,z09,z5x,eq_self,not_true,not_false_eq_true,decide_true,decide_false,Bool.not_true,Bool.not_false,Int.reduceLT,Int.reduceNeg,Int.reduceGT,Int.reduceEq,Int.reduceLE,cond_true,cond_false,ge_iff_le,gt_iff_lt,z0b,List.map_cons,List.map_nil]
   simp [hN,z09,z5x,B_ok,B_has,hh,h1,h136]
  |false=>
   rw [hy] at h136 hep
   have hep:errC (fnd b) ⟨n,4,[x,y],0⟩=0:=by rw [hep]; rfl
   have hyn:fnd b y=none:=by
    cases hq:fnd b y with
    |none=>rfl
    |some u=>rw [hq] at hy; cases hy
   have h136:G136 std (encB b,(y,(t.val,())))=some (encB (b++[⟨y,t.val,0,false⟩]),(0,())):=h136
   have hpp:play b ⟨n,4,[x,y],0⟩=upd (b++[⟨y,t.val,0,false⟩]) x fun _=>{ t with out:=true }:=by
    unfold play
    rw [hep,upd_append]
    have e1:upd [⟨y,t.val,0,false⟩] x (fun _=>{ t with out:=true })=[⟨y,t.val,0,false⟩]:=by
     simp [upd]; intro e; exact absurd e.symm hxy
    rw [e1]
    have hc:=upd_const (f:=v3l (fnd b) ⟨n,4,[x,y],0⟩) hb.2.1 ht
    have htt:v3l (fnd b) ⟨n,4,[x,y],0⟩ t={ t with out:=true }:=by simp [v3l]
    rw [htt] at hc
    simp [x0,x1,hvx,hc]
   have hnd:((b++[⟨y,t.val,0,false⟩]:List Th).map (·.num)).Nodup:=by
    rw [List.map_append,List.nodup_append]
    refine ⟨hb.2.1,by simp,fun a ha b' hb'=>?_⟩
    simp at hb'
    subst hb'
    exact fun e=>fnd_notin hyn (e▸ha)
   have hfx:fnd (b++[⟨y,t.val,0,false⟩]) x=some t:=by
    rw [fnd_app (t:=⟨y,t.val,0,false⟩) hyn,if_neg hxy]; exact ht
   have h139:=G139_2_ok (b++[⟨y,t.val,0,false⟩]) x hnd hfx
   rw [hep,hpp]
   unfold G110
   simp only [z2t,z2u,z1j,z09,z5x,eq_self,not_true,not_false_eq_true,decide_true,decide_false,Bool.not_true,Bool.not_false,Int.reduceLT,Int.reduceNeg,Int.reduceGT,Int.reduceEq,Int.reduceLE,cond_true,cond_false,ge_iff_le,gt_iff_lt,z0b,List.map_cons,List.map_nil]
   simp [hN,z09,z5x,B_ok,B_has,hh,h1,h136,h139]
 ·have hep:errC (fnd b) ⟨n,4,[x,y],0⟩=w7u (fnd b) x:=by
   unfold errC
   simp [hn2,he]
  have hpp:play b ⟨n,4,[x,y],0⟩=b:=by
   unfold play
   rw [hep,if_pos he]
  rw [hep,hpp]
  unfold G110
  simp only [z2t,z2u,z1j,z09,z5x,eq_self,not_true,not_false_eq_true,decide_true,decide_false,Bool.not_true,Bool.not_false,Int.reduceLT,Int.reduceNeg,Int.reduceGT,Int.reduceEq,Int.reduceLE,cond_true,cond_false,ge_iff_le,gt_iff_lt,z0b,List.map_cons,List.map_nil]
  simp [hN,z09,z5x,he]
end Go.Am
end
section
namespace Go.Am
open D12
variable {fl fl':List Int→Bool}
theorem G110_ok (b:List Th) (c:Cd) (hb:BookOk b) (hc:z3x c=0):G110 std (encB b,(c.n,(c.k,(z1j c.t,(c.a,())))))=some (encB (play b c),(errC (fnd b) c,())):=by
 have hw:=wf_of hc
 obtain ⟨_,hk,hlen,hnum,hnd,hfit⟩:=cardSt_zero.1 hc
 obtain ⟨n,k,t,a⟩:=c
 simp only at hk hlen hfit hnum hnd⊢
 have nz:∀ x∈t,x≠0:=fun x hx=>by have:=hnum x hx; unfold z7m at this; omega
 rcases y4s hk with ⟨hks,hm⟩|⟨hks,hm⟩|⟨rfl,hm⟩
 ·rw [hm] at hlen
  obtain ⟨x,rfl⟩:=List.length_eq_one_iff.1 hlen
  rcases hks with rfl|rfl|rfl
  ·exact G110_1 b n x a (nz x (by simp))
  ·exact G110_2 b n x a hb (by unfold w2o at hfit; omega)
  ·have ha:a=0:=by unfold w2o at hfit; omega
   subst ha
   exact G110_5 b n x hb
 ·rw [hm] at hlen
  obtain ⟨x,y,rfl⟩:∃ x y,t=[x,y]:=by
   match t,hlen with
   |[x,y],_=>exact ⟨x,y,rfl⟩
  rcases hks with rfl|rfl
  ·exact G110_3 b n x y a hb (by unfold w2o at hfit; omega)
  ·have ha:a=0:=by unfold w2o at hfit; omega
   subst ha
   have hxy:x≠y:=by simpa using hnd
   exact G110_4 b n x y hb hxy (nz y (by simp))
 ·rw [hm] at hlen
  obtain ⟨x,y,z,rfl⟩:∃ x y z,t=[x,y,z]:=by
   match t,hlen with
   |[x,y,z],_=>exact ⟨x,y,z,rfl⟩
  exact G110_6 b n x y z a hb (by unfold w2o at hfit; omega)
theorem b61_1_ok (l:List Cd) (hl:l.length≤60) (hc:∀ c∈l,z3x c=0) (hf:Few l):z6j (b61_1 std) ([],([],(z0u fl l,((l.length:Int),((0:Int),())))))=some (encB (bookOf l),(z1j (errs no l),())):=by
 have key:=y64 (b:=b61_1 std) l.length (fun (_:Unit) i=>(encB (bookOf (l.take i)),(z1j (errs no (l.take i)),(z0u fl l,((l.length:Int),((i:Int),())))))) (fun _ _=>True) (fun r=>r=(encB (bookOf l),(z1j (errs no l),())))
  (fun _ i hi _=> .inl ⟨(),by
   obtain ⟨c,hm⟩:=z2b hi
   obtain ⟨hw,h0⟩:=stp i (by omega)
   have hlt:(i:Int)<l.length:=by omega
   have hcm:=List.mem_of_getElem? hm
   obtain ⟨k1,k2⟩:=book_rev (l.take i) fun d hd=>hc d (List.mem_of_mem_take hd)
   have h62:=G110_ok (bookOf (l.take i)) c (k1.ok (by simp; omega)) (hc c hcm)
   have ht:l.take (i+1)=l.take i++[c]:=by rw [List.take_add_one,hm]; rfl
   have he:errs no (l.take (i+1))=errs no (l.take i)++[errC (fnd (bookOf (l.take i))) c]:=by rw [ht,errs_snoc,st_eq,k2]
   have hen:z1j (errs no (l.take (i+1)))=z1j (errs no (l.take i))++[[.int .i64 (errC (fnd (bookOf (l.take i))) c)]]:=by rw [he]; simp [z1j,eI]
   have hel:(z1j (errs no (l.take i))).length≤60:=by simp [z1j,errs_length]; omega
   have hbk:bookOf (l.take (i+1))=play (bookOf (l.take i)) c:=by rw [ht,book_snoc]
   rw [hen,hbk]
   generalize z1j (errs no (l.take i))=E at*
   have e1:E.length+1≤1000000:=by omega
   have et:List.take E.length (List.drop 0 E)=E:=by rw [List.drop_zero,List.take_length]
   simp only [z1j] at h62
   simp only [z2x hm,b61_1,z2t,z2u,z0u,z1j,z1k,z3o,z3n,z3l,z3m,eq_self,not_true,not_false_eq_true,decide_true,decide_false,Bool.not_true,Bool.not_false,Int.reduceLT,Int.reduceNeg,Int.reduceGT,Int.reduceEq,Int.reduceLE,cond_true,cond_false,ge_iff_le,gt_iff_lt,z0b,hm,hlt,h0,hw,h62,e1,et,List.getElem?_map,Option.map_some]
   simp [et,e1],trivial⟩)
  (fun _ _=>⟨_,by
   have hn:¬ (l.length:Int)<l.length:=by omega
   simp only [b61_1,z2t,z2u,z2y,hn,if_false,Nat.le_refl,eq_self,not_true,not_false_eq_true,decide_true,decide_false,Bool.not_true,Bool.not_false,Int.reduceLT,Int.reduceNeg,Int.reduceGT,Int.reduceEq,Int.reduceLE,cond_true,cond_false,ge_iff_le,gt_iff_lt,z0b,List.take_length],rfl⟩) () 0 (Nat.zero_le _) trivial
 obtain ⟨r,h1,rfl⟩:=key
 exact h1
theorem G61_ok (l:List Cd) (hl:l.length≤60) (hc:∀ c∈l,z3x c=0) (hf:Few l):G61 std (z0u fl l,())=some (encB (bookOf l),(z1j (errs no l),())):=by
 unfold G61
 have hk:=b61_1_ok (fl:=fl) l hl hc hf
 simp only [z2t,z2u,eq_self,not_true,not_false_eq_true,decide_true,decide_false,Bool.not_true,Bool.not_false,Int.reduceLT,Int.reduceNeg,Int.reduceGT,Int.reduceEq,Int.reduceLE,cond_true,cond_false,ge_iff_le,gt_iff_lt,z0b,z2y,hk]
end Go.Am
end
section
namespace Go.Am
open D12
variable {fl fl':List Int→Bool}
def nums (b:List Th):List Int:=b.map (·.num)
def things (b:List Th):List Th:=(srt (nums b)).map fun x=>(fnd b x).getD default
def GoodN (b:List Th):Prop:=b.length≤1000∧(nums b).Nodup∧∀ t∈b,z7m t.num
theorem keysI_B (b:List Th):y51 (encB b)=nums b:=by
 unfold y51 encB MEnc.enc mb nums
 rw [List.map_map,List.map_map]; rfl
theorem G63_ok (b:List Th) (hb:GoodN b):G63 std (encB b,())=some (encB b,(y50 (nums b),())):=by
 unfold G63
 have hg:z8e (encB b)=true:=by
  unfold z8e
  rw [Bool.and_eq_true]
  refine ⟨?_,?_⟩
  ·exact Nat.ble_eq_true_of_le (by unfold encB MEnc.enc mb; rw [List.length_map,List.length_map]; have:=hb.1; omega)
  ·rw [Bool.and_eq_true]
   refine ⟨?_,by rw [keysI_B]; exact z9g.2 hb.2.1⟩
   rw [List.all_eq_true]
   intro e he
   unfold encB MEnc.enc mb at he
   rw [List.map_map] at he
   obtain ⟨t,ht,rfl⟩:=List.mem_map.1 he
   have hn:=hb.2.2 t ht
   unfold z7m at hn
   show (Lit.int .i64 t.num).wf=true
   simp only [Lit.wf,IntKind.min,IntKind.max,IntKind.signed,IntKind.bits]
   simp
   omega
 rw [hg,keysI_B]
 rfl
theorem G57p_ok (b:List Th) (hb:GoodN b):v3b std (y50 (nums b),())=some (z1j (srt (nums b)),()):=by
 unfold v3b
 have h1:y8y (y50 (nums b))=some (nums b):=x6i (nums b)
 have h2:z8l (nums b)=true:=z9g.2 hb.2.1
 have h3:Nat.ble (nums b).length 1000000=true:=Nat.ble_eq_true_of_le (by unfold nums; rw [List.length_map]; have:=hb.1; omega)
 simp only [h1,h2,h3,Bool.and_self,cond_true]
 rfl
theorem fnd_mem {b:List Th} {x:Int} (h:x∈nums b):∃ t,fnd b x=some t:=by
 cases hq:fnd b x with
 |none=>exact absurd h (fnd_notin hq)
 |some t=>exact ⟨t,rfl⟩
theorem b23_1_ok (b:List Th) (hb:GoodN b):z6j (b23_1 std) (encB b,([],(z1j (srt (nums b)),(((srt (nums b)).length:Int),((0:Int),())))))=some (z6l (things b),()):=by
 have hsl:(srt (nums b)).length≤1000:=by rw [(srt_perm _).length_eq]; unfold nums; rw [List.length_map]; exact hb.1
 have hmem:∀ x∈srt (nums b),∃ t,fnd b x=some t:=fun x hx=>fnd_mem ((srt_perm _).mem_iff.1 hx)
 unfold things
 generalize srt (nums b)=S at*
 have key:=y64 (b:=b23_1 std) S.length (fun (_:Unit) i=>(encB b,(z6l ((S.take i).map fun x=>(fnd b x).getD default),(z1j S,((S.length:Int),((i:Int),())))))) (fun _ _=>True) (fun r=>r=(z6l (S.map fun x=>(fnd b x).getD default),()))
  (fun _ i hi _=> .inl ⟨(),by
   obtain ⟨x,hm⟩:=z2b hi
   obtain ⟨hw,h0⟩:=stp i (by omega)
   have hlt:(i:Int)<S.length:=by omega
   obtain ⟨t,hx⟩:=hmem x (List.mem_of_getElem? hm)
   have ht:S.take (i+1)=S.take i++[x]:=by rw [List.take_add_one,hm]; rfl
   have hen:z6l ((S.take (i+1)).map fun x=>(fnd b x).getD default)=z6l ((S.take i).map fun x=>(fnd b x).getD default)++[eTh t]:=by rw [ht]; simp [z6l,hx]
   have hel:(z6l ((S.take i).map fun x=>(fnd b x).getD default)).length≤1000:=by simp [z6l]; omega
   have hh:(fnd b x).isSome=true:=by rw [hx]; rfl
   have q0:=B_0 hx
   have q1:=B_1 hx
   have q2:=B_2 hx
   have q3:=B_3 hx
   rw [hen]
   generalize z6l ((S.take i).map fun x=>(fnd b x).getD default)=E at*
   have e1:E.length+1≤1000000:=by omega
   have et:List.take E.length (List.drop 0 E)=E:=by rw [List.drop_zero,List.take_length]
   simp only [b23_1,z2t,z2u,z1j,z09,z5x,eq_self,not_true,not_false_eq_true,decide_true,decide_false,Bool.not_true,Bool.not_false,Int.reduceLT,Int.reduceNeg,Int.reduceGT,Int.reduceEq,Int.reduceLE,cond_true,cond_false,ge_iff_le,gt_iff_lt,z0b,hm,hlt,h0,hw,B_ok,B_has,hh,q0,q1,q2,q3,e1,et,List.getElem?_map,Option.map_some]
   simp [et,e1,eTh]
   simpa using hw,trivial⟩)
  (fun _ _=>⟨_,by
   have hn:¬ (S.length:Int)<S.length:=by omega
   simp only [b23_1,z2t,z2u,hn,if_false,Nat.le_refl,eq_self,not_true,not_false_eq_true,decide_true,decide_false,Bool.not_true,Bool.not_false,Int.reduceLT,Int.reduceNeg,Int.reduceGT,Int.reduceEq,Int.reduceLE,cond_true,cond_false,ge_iff_le,gt_iff_lt,z0b,List.take_length],rfl⟩) () 0 (Nat.zero_le _) trivial
 obtain ⟨r,h1,rfl⟩:=key
 exact h1
theorem play_nums {b:List Th} {c:Cd} (hc:z3x c=0) (hb:∀ t∈b,z7m t.num):∀ t∈play b c,z7m t.num:=by
 have hw:=wf_of hc
 obtain ⟨_,hk,hlen,hnum,_,_⟩:=cardSt_zero.1 hc
 have hu:∀ t∈upd b (x0 c) (v3l (fnd b) c),z7m t.num:=by
  intro t ht
  unfold upd at ht
  obtain ⟨u,hu,rfl⟩:=List.mem_map.1 ht
  split
  ·rw [turn_num]; exact hb u hu
  ·exact hb u hu
 unfold play
 split
 ·exact hb
 ·split
  ·intro t ht
   rcases List.mem_append.1 ht with ht|ht
   ·exact hb t ht
   ·simp at ht; subst ht; exact hnum _ (x0_mem hw)
  ·split
   ·rename_i h4
    intro t ht
    rcases List.mem_append.1 ht with ht|ht
    ·exact hu t ht
    ·simp at ht; subst ht; exact hnum _ (x1_mem hw (by unfold z3u; simp [h4]))
   ·exact hu
theorem book_good (l:List Cd) (hl:l.length≤60) (h:∀ c∈l,z3x c=0):GoodN (bookOf l):=by
 obtain ⟨h1,_⟩:=book_rev l h
 refine ⟨by have:=h1.1; omega,h1.2.1,?_⟩
 have key:∀ (l:List Cd) (b:List Th),(∀ c∈l,z3x c=0)→(∀ t∈b,z7m t.num)→∀ t∈l.foldl play b,z7m t.num:=by
  intro l
  induction l with
  |nil=>intro b _ hb; exact hb
  |cons c l ih=>intro b hc hb; exact ih _ (fun d hd=>hc d (List.mem_cons_of_mem _ hd)) (play_nums (hc c (List.mem_cons_self ..)) hb)
 exact key l [] h (by simp)
theorem G23_ok (l:List Cd) (hf:Few l):G23 std (z0u fl l,())=some ((if z5l l=0 then z6l (things (bookOf l)) else []),(z5l l,())):=by
 unfold G23 G64
 by_cases hd:z5l l=0
 ·obtain ⟨h1,h2,_⟩:=dockSt_zero.1 hd
  have hk:=G61_ok (fl:=fl) l h1 h2 hf
  have hg:=book_good l h1 h2
  have h63:=G63_ok _ hg
  have h57:=G57p_ok _ hg
  have h23:=b23_1_ok _ hg
  have hlen:(z1j (srt (nums (bookOf l)))).length=(srt (nums (bookOf l))).length:=by simp [z1j]
  simp only [z2t,z2u,eq_self,not_true,not_false_eq_true,decide_true,decide_false,Bool.not_true,Bool.not_false,Int.reduceLT,Int.reduceNeg,Int.reduceGT,Int.reduceEq,Int.reduceLE,cond_true,cond_false,ge_iff_le,gt_iff_lt,z0b,w4x l hf,hd,hk,h63,h57,hlen,h23]
 ·simp only [z2t,z2u,eq_self,not_true,not_false_eq_true,decide_true,decide_false,Bool.not_true,Bool.not_false,Int.reduceLT,Int.reduceNeg,Int.reduceGT,Int.reduceEq,Int.reduceLE,cond_true,cond_false,ge_iff_le,gt_iff_lt,z0b,w4x l hf,hd]
  try simp [hd]
end Go.Am
end
section
namespace Go.Am
open D12
variable {fl fl':List Int→Bool}
theorem atI_none {l:List Cd} {x:Int} (h:∀ c∈l,c.n≠x):atI l x= -1:=by
 unfold atI atO
 have:(List.range l.length).find? (fun i=>decide ((l.getD i default).n=x))=none:=by
  rw [List.find?_eq_none]
  intro i hi
  have hi:=List.mem_range.1 hi
  obtain ⟨m,hm⟩:=z2b hi
  rw [z2x hm]
  simpa using h m (List.mem_of_getElem? hm)
 rw [this]
theorem atI_neg {l m:List Cd} {c:Cd} (hn:(m.map (·.n)).Nodup) (hs:∀ x∈l,x∈m) (hc:c∈m):(0≤atI l c.n↔c∈l):=by
 by_cases h:c∈l
 ·simp only [h,iff_true]
  unfold atI atO
  cases hq:(List.range l.length).find? (fun i=>decide ((l.getD i default).n=c.n)) with
  |none=>
   rw [List.find?_eq_none] at hq
   obtain ⟨i,hi,he⟩:=List.mem_iff_getElem.1 h
   have:=hq i (List.mem_range.2 hi)
   rw [z2x (by rw [List.getElem?_eq_getElem hi,he])] at this
   simp at this
  |some j=>simp only; omega
 ·simp only [h,iff_false]
  rw [atI_none fun d hd e=>h (by rw [←inj_of_map hn d (hs d hd) c hc e]; exact hd)]
  omega
theorem dockSt_sub {l m:List Cd} (h:z5l l=0) (hs:m.Sublist l):z5l m=0:=by
 obtain ⟨h1,h2,h3⟩:=dockSt_zero.1 h
 exact dockSt_zero.2 ⟨Nat.le_trans hs.length_le h1,fun c hc=>h2 c (hs.subset hc),h3.sublist (hs.map _)⟩
theorem fine_iff {l:List Cd}:fine l=true↔z5l l=0:=by
 unfold fine
 simp only [Bool.and_eq_true,Bool.not_eq_true',decide_eq_true_eq]
 constructor
 ·exact fun h=>h.2
 ·intro h
  refine ⟨?_,h⟩
  obtain ⟨h1,_,_,_,h5⟩:=dock_facts h
  unfold x9g
  simp only [Bool.or_eq_false_iff,decide_eq_false_iff_not,List.any_eq_false,decide_eq_true_eq]
  exact ⟨by omega,fun c hc=>by have:=(h5 c hc).2.1; omega⟩
theorem few_of {l:List Cd} (h:z5l l=0):Few l:=fun c hc=>by have:=((dock_facts h).2.2.2.2 c hc).2.1; omega
def thAt (l:List Th) (x:Int):Th:=(fnd l x).getD ⟨0,0,0,false⟩
theorem G45_ok (l:List Th) (x:Int) (hl:l.length≤1000000):G45 std (z6l l,(x,()))=some ((thAt l x).num,((thAt l x).val,((thAt l x).hrs,((thAt l x).out,())))):=by
 have key:=z7r (b:=b45_1 std) l.length (fun i=>((0:Int),((0:Int),((0:Int),(false,(z6l l,(x,((i:Int),())))))))) (fun i=>decide ((l.getD i default).num=x)) (fun i=> .inl ((l.getD i default).num,((l.getD i default).val,((l.getD i default).hrs,((l.getD i default).out,()))))) (.inr ((0:Int),((0:Int),((0:Int),(false,()))))) (fun i hi=>by
  obtain ⟨m,hm⟩:=z2b hi
  obtain ⟨hw,h0⟩:=stp i (by omega)
  have hlt:(i:Int)<l.length:=by omega
  have hrow:(l.map eTh)[i]?=some (eTh m):=by rw [List.getElem?_map,hm]; rfl
  have hB:std.rdB (l.map eTh) i 3=m.out:=by
   show dB (rdD (l.map eTh) i 3)=_
   unfold rdD; rw [hrow]; rfl
  have hlen:(l.map eTh).length=l.length:=by simp
  by_cases e:m.num=x
  ·simp only [z2x hm,b45_1,z2t,z2u,z0u,z1j,z6l,z1k,z3o,z3n,z3l,z3m,z3p,z09,z5x,z00,z17,z16,z15,z18,z6l,eq_self,not_true,not_false_eq_true,decide_true,decide_false,Bool.not_true,Bool.not_false,Int.reduceLT,Int.reduceNeg,Int.reduceGT,Int.reduceEq,Int.reduceLE,cond_true,cond_false,ge_iff_le,gt_iff_lt,z0b,hrow,hlt,h0,hw,hB,e,hlen]
  ·simp only [z2x hm,b45_1,z2t,z2u,z0u,z1j,z6l,z1k,z3o,z3n,z3l,z3m,z3p,z09,z5x,z00,z17,z16,z15,z18,z6l,eq_self,not_true,not_false_eq_true,decide_true,decide_false,Bool.not_true,Bool.not_false,Int.reduceLT,Int.reduceNeg,Int.reduceGT,Int.reduceEq,Int.reduceLE,cond_true,cond_false,ge_iff_le,gt_iff_lt,z0b,hrow,hlt,h0,hw,hB,e,hlen]) (by
  have hn:¬ (l.length:Int)<l.length:=by omega
  have hlen:(z6l l).length=l.length:=encTh_len l
  simp only [b45_1,z2t,z2u,hn,hlen,if_false])
 have key:z6j (b45_1 std) ((0:Int),((0:Int),((0:Int),(false,(z6l l,(x,((0:Int),())))))))=_:=key
 have e:=x45 l default fun t=>decide (t.num=x)
 unfold G45 thAt fnd
 rw [←e]
 simp only [z2t,z2u,key]
 cases (List.range l.length).find? fun i=>decide ((l.getD i default).num=x)<;>rfl
theorem fnd_things {b:List Th} (hb:(nums b).Nodup) (x:Int):fnd (things b) x=fnd b x:=by
 unfold things
 have hm:∀ y∈srt (nums b),∃ t,fnd b y=some t:=fun y hy=>fnd_mem ((srt_perm _).mem_iff.1 hy)
 have key:∀ S:List Int,(∀ y∈S,∃ t,fnd b y=some t)→fnd (S.map fun x=>(fnd b x).getD default) x=if x∈S then fnd b x else none:=by
  intro S
  induction S with
  |nil=>intro _; rfl
  |cons y S ih=>
   intro h
   obtain ⟨t,ht⟩:=h y (List.mem_cons_self ..)
   have hty:=fnd_num ht
   have ih:=ih fun z hz=>h z (List.mem_cons_of_mem _ hz)
   unfold fnd at ih⊢
   rw [List.map_cons,List.find?_cons]
   by_cases e:x=y
   ·subst e
    unfold fnd at ht
    simp [ht,hty]
   ·have hne:decide (((fnd b y).getD default).num=x)=false:=by
     rw [ht]; simp; omega
    unfold fnd at hne
    rw [hne,ih]
    simp [e]
 rw [key _ hm]
 split
 ·rfl
 ·rename_i h
  cases hq:fnd b x with
  |none=>rfl
  |some t=>
   exfalso
   apply h
   rw [(srt_perm _).mem_iff]
   unfold fnd at hq
   have h1:=List.mem_of_find?_eq_some hq
   have h2:=List.find?_some hq
   simp only [decide_eq_true_eq] at h2
   rw [←h2]
   exact List.mem_map_of_mem h1
theorem things_len {b:List Th} (hb:GoodN b):(things b).length≤1000:=by
 unfold things; rw [List.length_map,(srt_perm _).length_eq]; unfold nums; rw [List.length_map]; exact hb.1
theorem thAt_st {l:List Cd} (h:z5l l=0) (x:Int):thAt (things (bookOf l)) x=(st l x).getD ⟨0,0,0,false⟩:=by
 obtain ⟨h1,h2,h3,h4,h5⟩:=dock_facts h
 have hg:=book_good l h1 h4
 unfold thAt
 rw [fnd_things hg.2.1,(book_rev l h4).2]
theorem b10_2_ok (S T:List (List D)) (x:Int) (l p:List Cd) (hl:l.length≤60) (hp:p.length≤60) (hf:∀ c∈l,c.t.length≤1000000)
  (hcl:∀ (i k:Nat) (a b:Cd),i<k→l[i]?=some a→l[k]?=some b→tch a b=true→0≤atI p b.n→¬ atI p a.n<0) (i:Nat) (hi:i<l.length):
  z6j (b10_2 std) (S,(T,(z0u fl l,(x,(z0u fl' p,((i:Int),(((i+1:Nat):Int),())))))))=some (.inr (S,(T,(z0u fl l,(x,(z0u fl' p,((i:Int),()))))))):=by
 obtain ⟨a,ha⟩:=z2b hi
 have key:=y64 (b:=b10_2 std) l.length (fun (_:Unit) k=>(S,(T,(z0u fl l,(x,(z0u fl' p,((i:Int),((k:Int),())))))))) (fun _ k=>i<k) (fun r=>r= .inr (S,(T,(z0u fl l,(x,(z0u fl' p,((i:Int),())))))))
  (fun _ k hk hik=> .inl ⟨(),by
   obtain ⟨b,hb⟩:=z2b hk
   obtain ⟨hw,h0⟩:=stp k (by omega)
   have hi0:(0:Int)≤(i:Int):=by omega
   have hlt:(k:Int)<l.length:=by omega
   have hra:(l.map (eC fl))[i]?=some (eC fl a):=by rw [List.getElem?_map,ha]; rfl
   have hrb:(l.map (eC fl))[k]?=some (eC fl b):=by rw [List.getElem?_map,hb]; rfl
   have hle:(l.map (eC fl)).length=l.length:=by simp
   have h44:=G44_ok a b (hf a (List.mem_of_getElem? ha)) (hf b (List.mem_of_getElem? hb))
   have g1:=G43_ok (fl:=fl') p b.n (by omega)
   have g2:=G43_ok (fl:=fl') p a.n (by omega)
   have hno:=hcl i k a b hik ha hb
   simp only [z1j,z0u] at h44 g1 g2
   cases ht:tch a b with
   |false=>
    rw [ht] at h44
    simp only [b10_2,z2t,z2u,z0u,z1j,z6l,z1k,z3o,z3n,z3l,z3m,z3p,z09,z5x,z00,z17,z16,z15,z18,z0u,z1j,eq_self,not_true,not_false_eq_true,decide_true,decide_false,Bool.not_true,Bool.not_false,Int.reduceLT,Int.reduceNeg,Int.reduceGT,Int.reduceEq,Int.reduceLE,cond_true,cond_false,ge_iff_le,gt_iff_lt,z0b,hlt,h0,hi0,hw,hra,hrb,hle,h44]
   |true=>
    rw [ht] at h44
    by_cases hz:0≤atI p b.n
    ·have hno:=hno ht hz
     simp only [b10_2,z2t,z2u,z0u,z1j,z6l,z1k,z3o,z3n,z3l,z3m,z3p,z09,z5x,z00,z17,z16,z15,z18,z0u,z1j,eq_self,not_true,not_false_eq_true,decide_true,decide_false,Bool.not_true,Bool.not_false,Int.reduceLT,Int.reduceNeg,Int.reduceGT,Int.reduceEq,Int.reduceLE,cond_true,cond_false,ge_iff_le,gt_iff_lt,z0b,hlt,h0,hi0,hw,hra,hrb,hle,h44,g1,g2,hz,hno]
    ·simp only [b10_2,z2t,z2u,z0u,z1j,z6l,z1k,z3o,z3n,z3l,z3m,z3p,z09,z5x,z00,z17,z16,z15,z18,z0u,z1j,eq_self,not_true,not_false_eq_true,decide_true,decide_false,Bool.not_true,Bool.not_false,Int.reduceLT,Int.reduceNeg,Int.reduceGT,Int.reduceEq,Int.reduceLE,cond_true,cond_false,ge_iff_le,gt_iff_lt,z0b,hlt,h0,hi0,hw,hra,hrb,hle,h44,g1,g2,hz],by omega⟩)
  (fun _ _=>⟨.inr (S,(T,(z0u fl l,(x,(z0u fl' p,((i:Int),())))))),by
   have hno:¬ (l.length:Int)<l.length:=by omega
   have hle:(z0u fl l).length=l.length:=z2y l
   simp only [b10_2,z2t,z2u,hno,hle,if_false,eq_self,not_true,not_false_eq_true,decide_true,decide_false,Bool.not_true,Bool.not_false,Int.reduceLT,Int.reduceNeg,Int.reduceGT,Int.reduceEq,Int.reduceLE,cond_true,cond_false,ge_iff_le,gt_iff_lt,z0b],rfl⟩) () (i+1) hi (by omega)
 obtain ⟨r,h1,rfl⟩:=key
 exact h1
theorem b10_1_ok (S T : List (List D)) (x : Int) (l p : List Cd) (hl : l.length ≤ 60) (hp : p.length ≤ 60) (hf : ∀ c ∈ l, c.t.length ≤ 1000000)
    (hcl : ∀ (i k : Nat) (a b : Cd), i < k → l[i]? = some a → l[k]? = some b → tch a b = true → 0 ≤ atI p b.n → ¬ atI p a.n < 0) :
    z6j (b10_1 std) (S, (T, (z0u fl l, (x, (z0u fl' p, ((0 : Int), ())))))) = some (.inr (S, (T, (x, ())))) := by
  have key := w2e (b := b10_1 std) l.length (fun i => (S, (T, (z0u fl l, (x, (z0u fl' p, ((i : Int), ()))))))) (.inr (S, (T, (x, ()))))
    (fun i hi => by
      obtain ⟨hw, h0⟩ := stp i (by omega)
      have hlt : (i : Int) < l.length := by omega
      have hle : (z0u fl l).length = l.length := z2y l
      have h2 := b10_2_ok (fl := fl) (fl' := fl') S T x l p hl hp hf hcl i hi
      simp only [b10_1, z2t, z2u, eq_self, not_true, not_false_eq_true, decide_true, decide_false, Bool.not_true, Bool.not_false, Int.reduceLT, Int.reduceNeg, Int.reduceGT, Int.reduceEq, Int.reduceLE, cond_true, cond_false, ge_iff_le, gt_iff_lt, z0b, hlt, h0, hw, hle, h2])
    (by
      have hno : ¬ (l.length : Int) < l.length := by omega
      have hle : (z0u fl l).length = l.length := z2y l
      simp only [b10_1, z2t, z2u, hno, hle, if_false, eq_self, not_true, not_false_eq_true, decide_true, decide_false, Bool.not_true, Bool.not_false, Int.reduceLT, Int.reduceNeg, Int.reduceGT, Int.reduceEq, Int.reduceLE, cond_true, cond_false, ge_iff_le, gt_iff_lt, z0b])
  exact key
theorem past_closed_i (x:Int) {l:List Cd} (hm:(l.map (·.n)).Nodup):∀ (i k:Nat) (a b:Cd),i<k→l[i]?=some a→l[k]?=some b→tch a b=true→0≤atI (pastL x l) b.n→¬ atI (pastL x l) a.n<0:=by
 intro i k a b hik ha hb ht h0 hneg
 have hn:=nodup_of_map hm
 have hs:∀ c∈pastL x l,c∈l:=fun c hc=>(pastL_sub x l).subset hc
 have hbm:=(atI_neg hm hs (List.mem_of_getElem? hb)).1 h0
 have hk:k<l.length:=(List.getElem?_eq_some_iff.1 hb).1
 have hsp:l=l.take k++b::l.drop (k+1):=by
  conv=>lhs; rw [←List.take_append_drop k l,drop_get hb]
 have hat:a∈l.take k:=List.mem_of_getElem? (i:=i) (by rw [List.getElem?_take,if_pos hik]; exact ha)
 have:=past_closed x hn _ b _ hsp (by simpa using hbm) a hat ht
 have:=(atI_neg hm hs (List.mem_of_getElem? ha)).2 (by simpa using this)
 omega
theorem G10_ok (l : List Cd) (c w : Int) (hc : 0 ≤ c ∧ c ≤ 255) (hw : 0 ≤ w ∧ w ≤ 255) : G10 std (z0u fl l, (c, (w, ()))) = some (true, ()) := by
  unfold G10
  by_cases hf : fine l = true
  · have h := fine_iff.1 hf
    obtain ⟨h1, h2, h3, h4, h5⟩ := dock_facts h
    have g41 := G41_ok (fl := fl) l
    rw [hf] at g41
    have hle : (z0u fl l).length = l.length := z2y l
    by_cases h0 : l.length = 0
    · have h0' : (l.length : Int) = 0 := by omega
      simp only [z2t, z2u, eq_self, not_true, not_false_eq_true, decide_true, decide_false, Bool.not_true, Bool.not_false, Int.reduceLT, Int.reduceNeg, Int.reduceGT, Int.reduceEq, Int.reduceLE, cond_true, cond_false, ge_iff_le, gt_iff_lt, z0b, g41, hle, h0', G16]
    · have hn0 : ¬ (l.length : Int) = 0 := by omega
      obtain ⟨cn, rfl⟩ := Int.eq_ofNat_of_zero_le hc.1
      obtain ⟨wn, rfl⟩ := Int.eq_ofNat_of_zero_le hw.1
      have wc : IntKind.i64.wrap (cn : Int) = (cn : Int) := w4a _ (by omega) (by omega)
      have ww : IntKind.i64.wrap (wn : Int) = (wn : Int) := w4a _ (by omega) (by omega)
      have r1 : ∀ (u v : Nat), std.ar .rem .i64 (u : Int) (v : Int) = ((u % v : Nat) : Int) := fun u v => by
        rw [std_ar_rem, Int.tmod_eq_emod_of_nonneg (by omega)]; omega
      have p1 : ∀ u : Nat, (0 : Int) ≤ (u : Int) := fun u => by omega
      have hi : cn % l.length < l.length := Nat.mod_lt _ (by omega)
      obtain ⟨d, hd⟩ := z2b hi
      have hdm := List.mem_of_getElem? hd
      have hrow : (l.map (eC fl))[cn % l.length]? = some (eC fl d) := by rw [List.getElem?_map, hd]; rfl
      have hd5 := h5 d hdm
      have hj : wn % d.t.length < d.t.length := Nat.mod_lt _ (by omega)
      obtain ⟨x, hx⟩ := z2b hj
      have hxm := List.mem_of_getElem? hx
      have hxr : (d.t.map eI)[wn % d.t.length]? = some (eI x) := by rw [List.getElem?_map, hx]; rfl
      have htl : (d.t.map eI).length = d.t.length := by simp
      have hnt : ¬ (d.t.length : Int) = 0 := by omega
      have hnum : z7m x := (cardSt_zero.1 (h4 d hdm)).2.2.2.1 x hxm
      have hps : pastSt l x = 0 := by unfold pastSt; simp [h, hnum]
      have hp := dockSt_sub h (pastL_sub x l)
      have hps2 : pastSt (pastL x l) x = 0 := by unfold pastSt; simp [hp, hnum]
      have g31 := G31_ok (fl := fl) l x (few_of h)
      rw [hps, if_pos rfl] at g31
      have hfp := fine_iff.2 hp
      have g41' := G41_ok (fl := fun _ => false) (pastL x l)
      rw [hfp] at g41'
      have g31' := G31_ok (fl := fun _ => false) (pastL x l) x (few_of hp)
      rw [hps2, if_pos rfl, pastL_idem] at g31'
      have g23 := G23_ok (fl := fl) l (few_of h)
      rw [h, if_pos rfl] at g23
      have g23' := G23_ok (fl := fun _ => false) (pastL x l) (few_of hp)
      rw [hp, if_pos rfl] at g23'
      obtain ⟨q1, q2, q3, q4, q5⟩ := dock_facts hp
      have g34 := G34_ok (fl := fun _ => false) (fl' := fun _ => false) (pastL x l) (pastL x l) (by omega) (few_of hp)
      rw [decide_eq_true rfl] at g34
      have hb := b10_1_ok (fl := fl) (fl' := fun _ => false) (z6l (things (bookOf l))) (z6l (things (bookOf (pastL x l)))) x l (pastL x l) h1 q1 (few_of h) (past_closed_i x h2)
      have g45 := G45_ok (things (bookOf l)) x (by have := things_len (book_good l h1 h4); omega)
      have g45' := G45_ok (things (bookOf (pastL x l))) x (by have := things_len (book_good (pastL x l) q1 q4); omega)
      rw [thAt_st h x, past_st x h3 (fun c hc => wf_of (h4 c hc))] at g45
      rw [thAt_st hp x] at g45'
      have tS : ∀ E : List (List D), E.take E.length = E := fun E => List.take_length
      simp only [z0u, z1j, z6l] at g41 g41' g31 g31' g23 g23' g34 hb hle g45 g45'
      have bq : ∀ b : Bool, std.bEq b b = true := fun b => by cases b <;> rfl
      simp only [z2t, z2u, z0u, z1j, z6l, z1k, z3o, z3n, z3l, z3m, z3p, z09, z5x, z00, z17, z16, z15, z18, z0u, z1j, eq_self, not_true, not_false_eq_true, decide_true, decide_false, Bool.not_true, Bool.not_false, Int.reduceLT, Int.reduceNeg, Int.reduceGT, Int.reduceEq, Int.reduceLE, cond_true, cond_false, ge_iff_le, gt_iff_lt, z0b, g41, g41', hle, hn0, wc, ww, r1, p1, hrow, htl, hnt, hxr, z09, z5x, g31, g31', g23, g23', g34, hb, g45, g45', tS, Nat.zero_add, Nat.le_refl, List.drop_zero, bq, G16, Int.toNat_natCast]
  · have hf : fine l = false := by simpa using hf
    have g41 := G41_ok (fl := fl) l
    rw [hf] at g41
    simp only [z2t, z2u, eq_self, not_true, not_false_eq_true, decide_true, decide_false, Bool.not_true, Bool.not_false, Int.reduceLT, Int.reduceNeg, Int.reduceGT, Int.reduceEq, Int.reduceLE, cond_true, cond_false, ge_iff_le, gt_iff_lt, z0b, g41, G16]
end Go.Am
end
