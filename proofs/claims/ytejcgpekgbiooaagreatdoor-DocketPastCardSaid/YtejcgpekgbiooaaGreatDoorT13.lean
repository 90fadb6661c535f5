/- Texts of this claim. -/
import Derived.Test.YtejcgpekgbiooaaGreatDoorT12
import Derived.Test.YtejcgpekgbiooaaGreatDoorProg
import Derived.KernelRfl
set_option linter.unusedVariables false
set_option linter.unusedSimpArgs false
set_option linter.unusedSectionVars false
set_option maxRecDepth 100000
set_option maxHeartbeats 0
section
namespace Go.Am
open Go Go.RowKit Go.Proofs
theorem v0x:z8q (w3q v30 orcU 400 16 []) (.d (.bool true))=true:=by kernel_rfl
def w3j:Ctr:=⟨16,[],[],[(.ret,⟨[(0, .bool)],[],1⟩)]⟩
def G16 (_:z0n) (_:Unit):Option (Bool×Unit):=some (true,())
def F16:z0n→Tup (w3j).scs→Option (z6k (z6i (w3j).outs)):=fun p x=>G16 p x
theorem ok16:z27 Tryz.prog w3j (F16 std):=by
 refine ⟨enters_of Tryz.func16 rfl rfl,fun x y hy=>?_⟩
 cases hy
 refine ⟨Nat.zero_le _,?_⟩
 show z3r _ 16 [] [] (.d (.bool true)) []
 exact x5v (y5g z0c) (x8r w6m _ _) v0x
end Go.Am
end
noncomputable section
namespace Go.Am
def w9i:Ctr:=
 ⟨3,[.list 4],[],[(.ret,⟨[(0, .bool)],[],1⟩)]⟩
def la3:List LA:=
 [⟨3,[false,true,false,true,true],0,⟨⟨[(0, .list 4),(3, .int .i64)],[],32⟩,[(AX.ret,⟨[(2, .bool)],[],32⟩),((AX.exit 0),⟨[(0, .list 4)],[],32⟩)]⟩⟩]
def ja3:List JA:=
 [⟨3,[false,true,true,true],0,[(AX.normal,⟨[(2, .bool)],[],32⟩)]⟩]
def v2e:List CF:=
 [⟨x7c,F20⟩,⟨x7d,F19⟩,⟨x3m,F18⟩,⟨x3n,F17⟩,⟨w3j,F16⟩,⟨x7e,F15⟩]
def an3:y5o:=
 ⟨v2e,ja3,[]⟩
def w7q (p:z0n):(LD×T3)→Option ((LD×T3)⊕((Bool×Unit)⊕(LD×Unit))):=
 fun a=>opt.run _ (
 opt.ask _ (p.cmp .lss a.2.1 (p.ofNat (p.len a.1))) (
 opt.need _ (p.rowOk a.1 (p.nat a.2.1) [ci,ci,(CK.list 1),ci])<|
 opt.need _ (p.cmp .geq a.2.1 (0:Int))<|
 opt.bnd T0 _ (G17 p ((p.rdI a.1 (p.nat a.2.1) 0),((p.rdI a.1 (p.nat a.2.1) 1),((p.rdL a.1 (p.nat a.2.1) 2),((p.rdI a.1 (p.nat a.2.1) 3),()))))) fun b=>
 opt.need _ (p.rowOk a.1 (p.nat a.2.1) [ci,ci,(CK.list 1),ci])<|
 opt.need _ (p.cmp .geq a.2.1 (0:Int))<|
 opt.bnd T0 _ (G18 p ((p.rdI a.1 (p.nat a.2.1) 0),((p.rdI a.1 (p.nat a.2.1) 1),((p.rdL a.1 (p.nat a.2.1) 2),((p.rdI a.1 (p.nat a.2.1) 3),()))))) fun c=>
 opt.ask _ (p.cmp .neq b.1 c.1) (
 opt.ret _ (Sum.inr (Sum.inl (Bool.false,())))) (
 opt.ret _ (Sum.inl (a.1,((p.ar .add .i64 a.2.1 (1:Int)),()))))) (
 opt.ret _ (Sum.inr (Sum.inr (a.1,())))))
def G3:(p:z0n)→(LD×Unit)→Option T1:=
 fun p x=>
 opt.bnd T1 _ (G15 p (x.1,())) fun a=>
 opt.ask _ a.1 (
 opt.bnd T1 _ (G16 p ()) fun b=>
 opt.ret _ (b.1,())) (
 opt.alt T1 ((LD×Unit)) _ (
 z6j (w7q p) (x.1,((0:Int),()))) (fun c=>
 opt.ret _ (c.1,())) (fun d=>
 opt.bnd ((LD×Unit)) _ (some d) fun e=>
 opt.bnd T1 _ (
 opt.run T1 (
 opt.bnd T0 _ (G19 p (e.1,())) fun f=>
 opt.bnd T0 _ (G20 p (e.1,())) fun g=>
 opt.ask _ (p.cmp .eql f.1 g.1) (
 opt.bnd T1 _ (G16 p ()) fun h=>
 opt.ret _ (h.1,())) (
 opt.ret _ (Bool.false,())))) fun i=>
 opt.ret _ (i.1,())))
def F3:z0n→Tup (w9i).scs→Option (z6k (z6i (w9i).outs)):=
 fun p x=>G3 p x
theorem eq3 (p:z0n) (x:Tup (w9i).scs):z2r opt p (z0r [] Go.Proofs.Tryz.prog) (z6d opt p (z0r [] Go.Proofs.Tryz.prog) 400 (an3) la3) 400 w9i x=G3 p x:=by kernel_rfl
theorem gok3:z5q Go.Proofs.Tryz.prog (v2e):=by
 intro cf h
 simp only [v2e,List.mem_cons,List.not_mem_nil,or_false] at h
 rcases h with rfl|rfl|rfl|rfl|rfl|rfl
 ·exact ok20
 ·exact v3r
 ·exact v3s
 ·exact v3t
 ·exact ok16
 ·exact ok15
theorem w63:z1m Go.Proofs.Tryz.prog 3:=z0v (b:=_) rfl (by kernel_rfl)
theorem ok3:z27 Go.Proofs.Tryz.prog w9i (F3 std):=z0w (z0h z0c) (z1v (z0h z0c) gok3 _) w63 (fun x=>eq3 std x)
end Go.Am
end
section
namespace Go.Am
open Go Go.RowKit Go.Proofs D12
variable {fl:List Int→Bool}
theorem w7a (l:List Cd) (hl:l.length≤1000000) (hf:Few l):
  z6j (w7q std) (z0u fl l,((0:Int),()))=some (.inr (z0u fl l,())):=by
 have key:=z7r (b:=w7q std) l.length (fun i=>(z0u fl l,((i:Int),()))) (fun i=>false) (fun i=> .inr (z0u fl l,())) (.inr (z0u fl l,())) (fun i hi=>by
  obtain ⟨m,hm⟩:=z2b hi
  obtain ⟨hw,h0⟩:=stp i (by omega)
  have hlt:(i:Int)<l.length:=by omega
  have h18:=w4y m (hf m (List.mem_of_getElem? hm))
  have h17:=w4z m (hf m (List.mem_of_getElem? hm))
  simp only [z1j] at h18 h17
  simp only [z2x hm,w7q,z2t,z2u,z0u,z1j,z6l,z1k,z3o,z3n,z3l,z3m,z3p,z09,z5x,z00,z17,z16,z15,z18,eq_self,not_true,not_false_eq_true,decide_true,decide_false,Bool.not_true,Bool.not_false,Int.reduceLT,Int.reduceNeg,Int.reduceGT,Int.reduceEq,Int.reduceLE,cond_true,cond_false,ge_iff_le,gt_iff_lt,z0b,hm,hlt,h0,hw,h18,h17,ne_eq,Bool.false_eq_true,if_false]) (by
  have hn:¬ (l.length:Int)<l.length:=by omega
  simp only [w7q,z2t,z2u,z0u,z1j,z6l,z1k,z3o,z3n,z3l,z3m,z3p,z09,z5x,z00,z17,z16,z15,z18,hn])
 have key:z6j (w7q std) (z0u fl l,((0:Int),()))=_:=key
 rw [key]
 have:(List.range l.length).find? (fun _=>false)=none:=by simp
 rw [this]
theorem v3c (l:List Cd):G3 std (z0u fl l,())=some (true,()):=by
 unfold G3
 cases h:x9g l with
 |true=>simp only [z2t,z2u,eq_self,not_true,not_false_eq_true,decide_true,decide_false,Bool.not_true,Bool.not_false,Int.reduceLT,Int.reduceNeg,Int.reduceGT,Int.reduceEq,Int.reduceLE,cond_true,cond_false,ge_iff_le,gt_iff_lt,z0b,w40,h,G16]
 |false=>
  obtain ⟨h1,h2,_⟩:=x1b h
  have h3:=w7a (fl:=fl) l (by omega) h1
  simp only [z2t,z2u,eq_self,not_true,not_false_eq_true,decide_true,decide_false,Bool.not_true,Bool.not_false,Int.reduceLT,Int.reduceNeg,Int.reduceGT,Int.reduceEq,Int.reduceLE,cond_true,cond_false,ge_iff_le,gt_iff_lt,z0b,w40,h,G16,h3,w4x l h1,w9y l h1]
end Go.Am
end
