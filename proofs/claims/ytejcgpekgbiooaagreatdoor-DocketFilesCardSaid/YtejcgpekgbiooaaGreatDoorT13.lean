/- Texts of this claim. -/
import Derived.Test.YtejcgpekgbiooaaGreatDoorT12
import Derived.Test.YtejcgpekgbiooaaGreatDoorProg
import Derived.KernelRfl
set_option linter.unusedVariables false
set_option linter.unusedSimpArgs false
set_option linter.unusedSectionVars false
set_option maxRecDepth 100000
set_option maxHeartbeats 0
open Nat renaming zero_le → eAv
open List renaming mem_of_getElem? → eAu
open Bool renaming false_eq_true → eAi
open Go.Proofs.Tryz renaming prog → PG
section
namespace Go.Am
open Go Go.RowKit Go.Proofs
theorem w9w:z7y (w2g v2m orcU 400 16 []) (.d (.bool true))=true:=by kernel_rfl
def w18:Ctr:=⟨16,[],[],[(.ret,⟨[(0, .bool)],[],1⟩)]⟩
def G16 (_:Prim) (_:Unit):Option (Bool×Unit):=some (true,())
def F16:Prim→Tup (w18).scs→Option (STup (scss (w18).outs)):=fun p x=>G16 p x
theorem ok16:CtrOk Tryz.prog w18 (F16 std):=by
 refine ⟨enters_of Tryz.func16 rfl rfl,fun x y hy=>?_⟩
 cases hy
 refine ⟨eAv _,?_⟩
 show z2z _ 16 [] [] (.d (.bool true)) []
 exact x45 (y4s follows_mixed) (x7r w5d _ _) w9w
end Go.Am
end
noncomputable section
namespace Go.Am
def ctr3:Ctr:=
 ⟨3,[.list 4],[],[(.ret,⟨[(0, .bool)],[],1⟩)]⟩
def la3:List LA:=
 [⟨3,[fU,tU,fU,tU,tU],0,⟨⟨[(0, .list 4),(3, .int .i64)],[],32⟩,[(AX.ret,⟨[(2, .bool)],[],32⟩),((AX.exit 0),⟨[(0, .list 4)],[],32⟩)]⟩⟩]
def ja3:List JA:=
 [⟨3,[fU,tU,tU,tU],0,[(AX.normal,⟨[(2, .bool)],[],32⟩)]⟩]
def gam3:List CF:=
 [⟨w8f,G20⟩,⟨w8g,G19⟩,⟨w5x,G18⟩,⟨w5y,G17⟩,⟨w18,F16⟩,⟨w8h,G15⟩]
def an3:Anns:=
 ⟨gam3,ja3,[]⟩
def w6i (p:Prim):V11v→Option (V11v⊕(V2v⊕V7v)):=
 fun a=>let B:=p.nat a.2.1;let A:=((p.rdI a.1 B 0),((p.rdI a.1 B 1),((p.rdL a.1 B 2),((p.rdI a.1 B 3),()))));let C:=p.rowOk a.1 B [ci,ci,(CK.list 1),ci];let E:=p.cmp .geq a.2.1 (0:Int); opt.run _ (
 opt.ask _ (p.cmp .lss a.2.1 (p.ofNat (p.len a.1))) (
 opt.need _ C<|
 opt.need _ E<|
 opt.bnd (V0v) _ (G17 p A) fun b=>
 opt.need _ C<|
 opt.need _ E<|
 opt.bnd (V0v) _ (G18 p A) fun c=>
 opt.ask _ (p.cmp .neq b.1 c.1) (
 opt.ret _ (Sum.inr (Sum.inl (Bool.false,())))) (
 opt.ret _ (Sum.inl (a.1,((p.ar .add .i64 a.2.1 (1:Int)),()))))) (
 opt.ret _ (Sum.inr (Sum.inr (a.1,())))))
def G3:(p:Prim)→V7v→Option (V2v):=
 fun p x=>
 opt.bnd (V2v) _ (G15 p x) fun a=>
 opt.ask _ a.1 (
 opt.bnd (V2v) _ (G16 p ()) fun b=>
 opt.ret _ b) (
 opt.alt (V2v) (V7v) _ (
 z5r (w6i p) (x.1,((0:Int),()))) (fun c=>
 opt.ret _ c) (fun d=>
 opt.bnd (V7v) _ (some d) fun e=>
 opt.bnd (V2v) _ (
 opt.run (V2v) (
 opt.bnd (V0v) _ (G19 p e) fun f=>
 opt.bnd (V0v) _ (G20 p e) fun g=>
 opt.ask _ (p.cmp .eql f.1 g.1) (
 opt.bnd (V2v) _ (G16 p ()) fun h=>
 opt.ret _ h) (
 opt.ret _ (Bool.false,())))) fun i=>
 opt.ret _ i))
theorem ok3:CtrOk PG ctr3 (G3 std):=okF vE (a:=an3) (l:=la3) (gC ok20 (gC v2d (gC v2e (gC v2f (gC ok16 (gC ok15 (gN)))))))
end Go.Am
end
section
namespace Go.Am
open Go Go.RowKit Go.Proofs D12
variable {fl:List Int→Bool}
theorem w52 (l:List Cd) (hl:l.length≤1000000) (hf:Few l):
  z5r (w6i std) (z0p fl l,((0:Int),()))=some (.inr (z0p fl l,())):=by
 have key:=z62 (b:=w6i std) l.length (fun i=>(z0p fl l,((i:Int),()))) (fun i=>false) (fun i=> .inr (z0p fl l,())) (.inr (z0p fl l,())) (fun i hi=>by
  obtain ⟨m,hm⟩:=z1v hi
  obtain ⟨hw,h0⟩:=stp i (by omega)
  have hlt:(i:Int)<l.length:=by omega
  have h18:=w3r m (hf m (eAu hm))
  have h17:=w3s m (hf m (eAu hm))
  simp only [z1a] at h18 h17
  simp only [z2h hm,w6i,z2d,z2e,z0p,z1a,z5s,y4y,z4b,Int.reduceLT,Int.reduceEq,Int.reduceLE,hm,hlt,h0,hw,h18,h17,ne_eq,eAi,if_false]) (by
  have hn:¬ (l.length:Int)<l.length:=by omega
  simp only [w6i,z2d,z2e,z0p,z1a,z5s,y4y,hn])
 have key:z5r (w6i std) (z0p fl l,((0:Int),()))=_:=key
 rw [key]
 have:(List.range l.length).find? (fun _=>false)=none:=by simp
 rw [this]
theorem v1z (l:List Cd):G3 std (z0p fl l,())=some (true,()):=by
 unfold G3
 cases h:x8g l with
 |true=>simp only [z2d,z2e,z4b,Int.reduceLT,Int.reduceEq,Int.reduceLE,w3t,h,G16]
 |false=>
  obtain ⟨h1,h2,_⟩:=x0p h
  have h3:=w52 (fl:=fl) l (by omega) h1
  simp only [z2d,z2e,z4b,Int.reduceLT,Int.reduceEq,Int.reduceLE,w3t,h,G16,h3,w3q l h1,w8x l h1]
end Go.Am
end
