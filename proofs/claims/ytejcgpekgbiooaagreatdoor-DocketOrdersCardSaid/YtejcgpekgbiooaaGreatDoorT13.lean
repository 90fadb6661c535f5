/- Texts of this claim. -/
import Derived.Test.YtejcgpekgbiooaaGreatDoorT12
set_option linter.unusedVariables false
set_option linter.unusedSimpArgs false
set_option linter.unusedSectionVars false
set_option maxRecDepth 100000
set_option maxHeartbeats 0
open Nat renaming zero_le → eAo
open Bool renaming and_eq_true → eAc
open List renaming mem_append → eCb,mem_cons → eAm,not_mem_nil → eBg
section
namespace Go.Am
open Go Go.RowKit Go.Proofs D12
theorem v9a:z9t (w8x 35 [cdA z90,cdA [d1,d0,d2,d3]]) (.d (.int .i64 0))=true:=by kernel_rfl
end Go.Am
end
section
namespace Go.Am
open Go Go.RowKit Go.Proofs D12
def eqI (a b:Int):Bool:=decide (a=b)
theorem u0j {a b:Int} (h:eqI a b=true):a=b:=of_decide_eq_true h
def x97:Ctr:=⟨27,[.list 4],[],[(.ret,⟨[(0, .tuple [.list 1, .int .i64])],[],1⟩)]⟩
def t1f (x:(List (List D)×Unit)):Option (List (List D)×(Int×Unit)):=bif z1i x.1 z90 then some (R27,(0,())) else none
def t2q:Prim→Tup (x97).scs→Option (STup (scss (x97).outs)):=fun _ x=>t1f x
theorem u6d:CtrOk Tryz.prog x97 (t2q std):=by
 refine ⟨enters_of Tryz.func27 rfl rfl,fun (x:(List (List D)×Unit)) y a=>?_⟩
 obtain ⟨c,u⟩:=x
 change t1f (c,u)=_ at a
 unfold t1f at a
 cases b:(z1i c z90) with
 |true=>
  simp only [b,cond_true] at a
  cases a
  refine ⟨eAo _,?_⟩
  show z3m _ 27 [.d (.list false 4 c)] [] (.tuple [.d (.list false 1 R27), .d (.int .i64 0)]) []
  exact z6g (z7g u5s) (v7q b [])
 |false=>
  simp only [b,cond_false] at a
  cases a
def x96:Ctr:=⟨29,[.list 4],[],[(.ret,⟨[(0, .tuple [.list 4, .int .i64])],[],1⟩)]⟩
def t1e (x:(List (List D)×Unit)):Option (List (List D)×(Int×Unit)):=bif z1i x.1 z90 then some (z0a ff [d1,d0,d2,d3],(0,())) else none
def t2p:Prim→Tup (x96).scs→Option (STup (scss (x96).outs)):=fun _ x=>t1e x
theorem u6c:CtrOk Tryz.prog x96 (t2p std):=by
 refine ⟨enters_of Tryz.func29 rfl rfl,fun (x:(List (List D)×Unit)) y a=>?_⟩
 obtain ⟨c,u⟩:=x
 change t1e (c,u)=_ at a
 unfold t1e at a
 cases b:(z1i c z90) with
 |true=>
  simp only [b,cond_true] at a
  cases a
  refine ⟨eAo _,?_⟩
  show z3m _ 29 [.d (.list false 4 c)] [] (.tuple [cdA [d1,d0,d2,d3], .d (.int .i64 0)]) []
  exact z6g (z7g u5r) (v7q b [])
 |false=>
  simp only [b,cond_false] at a
  cases a
def x95:Ctr:=⟨31,[.list 4, .int .i64],[],[(.ret,⟨[(0, .tuple [.list 4, .int .i64])],[],1⟩)]⟩
def t1d (x:(List (List D)×(Int×Unit))):Option (List (List D)×(Int×Unit)):=bif z1i x.1 z90&&eqI x.2.1 2 then some (z0a ff [d0,d1,d2],(0,())) else none
def t2o:Prim→Tup (x95).scs→Option (STup (scss (x95).outs)):=fun _ x=>t1d x
theorem u6b:CtrOk Tryz.prog x95 (t2o std):=by
 refine ⟨enters_of Tryz.func31 rfl rfl,fun (x:(List (List D)×(Int×Unit))) y a=>?_⟩
 obtain ⟨e,c,u⟩:=x
 change t1d (e,c,u)=_ at a
 unfold t1d at a
 cases b:(z1i e z90&&eqI c 2) with
 |true=>
  simp only [b,cond_true] at a
  cases a
  simp only [eAc] at b
  refine ⟨eAo _,?_⟩
  show z3m _ 31 [.d (.list false 4 e), .d (.int .i64 c)] [] (.tuple [cdA [d0,d1,d2], .d (.int .i64 0)]) []
  rw [u0j b.2]
  exact z6g (z7g u5q) (v7q b.1 _)
 |false=>
  simp only [b,cond_false] at a
  cases a
def x93:Ctr:=⟨46,[.list 4, .list 4],[],[(.ret,⟨[(0, .tuple [.list 4, .int .i64])],[],1⟩)]⟩
def t1b (x:(List (List D)×(List (List D)×Unit))):Option (List (List D)×(Int×Unit)):=bif z1i x.1 [d0,d2]&&z1i x.2.1 [d1,d2] then some (z0a ff [d1,d0,d2],(0,())) else bif z1i x.1 [d0]&&z1i x.2.1 [d3] then some (z0a ff [],(16,())) else none
def t2m:Prim→Tup (x93).scs→Option (STup (scss (x93).outs)):=fun _ x=>t1b x
theorem u5z:CtrOk Tryz.prog x93 (t2m std):=by
 refine ⟨enters_of Tryz.func46 rfl rfl,fun (x:(List (List D)×(List (List D)×Unit))) y a=>?_⟩
 obtain ⟨f,e,u⟩:=x
 change t1b (f,e,u)=_ at a
 unfold t1b at a
 cases b:(z1i f [d0,d2]&&z1i e [d1,d2]) with
 |true=>
  simp only [b,cond_true] at a
  cases a
  simp only [eAc] at b
  refine ⟨eAo _,?_⟩
  show z3m _ 46 [.d (.list false 4 f), .d (.list false 4 e)] [] (.tuple [cdA [d1,d0,d2], .d (.int .i64 0)]) []
  exact z6g (z7g v89) (x5s b.1 b.2)
 |false=>
  cases c:(z1i f [d0]&&z1i e [d3]) with
  |true=>
   simp only [c,b,cond_true,cond_false] at a
   cases a
   simp only [eAc] at c
   refine ⟨eAo _,?_⟩
   show z3m _ 46 [.d (.list false 4 f), .d (.list false 4 e)] [] (.tuple [cdA [], .d (.int .i64 16)]) []
   exact z6g (z7g v88) (x5s c.1 c.2)
  |false=>
   simp only [b,c,cond_false] at a
   cases a
def x92:Ctr:=⟨48,[.list 4, .list 4],[],[(.ret,⟨[(0, .tuple [.list 1, .int .i64])],[],1⟩)]⟩
def t1a (x:(List (List D)×(List (List D)×Unit))):Option (List (List D)×(Int×Unit)):=bif z1i x.1 z90&&z1i x.2.1 [d1,d0,d3,d2] then some (z0e [4,9,4],(0,())) else none
def t2l:Prim→Tup (x92).scs→Option (STup (scss (x92).outs)):=fun _ x=>t1a x
theorem u5y:CtrOk Tryz.prog x92 (t2l std):=by
 refine ⟨enters_of Tryz.func48 rfl rfl,fun (x:(List (List D)×(List (List D)×Unit))) y a=>?_⟩
 obtain ⟨e,c,u⟩:=x
 change t1a (e,c,u)=_ at a
 unfold t1a at a
 cases b:(z1i e z90&&z1i c [d1,d0,d3,d2]) with
 |true=>
  simp only [b,cond_true] at a
  cases a
  simp only [eAc] at b
  refine ⟨eAo _,?_⟩
  show z3m _ 48 [.d (.list false 4 e), .d (.list false 4 c)] [] (.tuple [.d (.list false 1 (z0e [4,9,4])), .d (.int .i64 0)]) []
  exact z6g (z7g u5p) (x5s b.1 b.2)
 |false=>
  simp only [b,cond_false] at a
  cases a
def x94:Ctr:=⟨35,[.list 4, .list 4],[],[(.ret,⟨[(0, .int .i64)],[],1⟩)]⟩
def t1c (x:(List (List D)×(List (List D)×Unit))):Option (Int×Unit):=bif z1i x.1 z90&&z1i x.2.1 [d1,d0,d3,d2] then some (24,()) else bif z1i x.1 z90&&z1i x.2.1 [d1,d0,d2,d3] then some (0,()) else none
def t2n:Prim→Tup (x94).scs→Option (STup (scss (x94).outs)):=fun _ x=>t1c x
theorem u6a:CtrOk Tryz.prog x94 (t2n std):=by
 refine ⟨enters_of Tryz.func35 rfl rfl,fun (x:(List (List D)×(List (List D)×Unit))) y a=>?_⟩
 obtain ⟨f,e,u⟩:=x
 change t1c (f,e,u)=_ at a
 unfold t1c at a
 cases b:(z1i f z90&&z1i e [d1,d0,d3,d2]) with
 |true=>
  simp only [b,cond_true] at a
  cases a
  simp only [eAc] at b
  refine ⟨eAo _,?_⟩
  show z3m _ 35 [.d (.list false 4 f), .d (.list false 4 e)] [] (.d (.int .i64 24)) []
  exact z6g (z7g v9b) (x5s b.1 b.2)
 |false=>
  cases c:(z1i f z90&&z1i e [d1,d0,d2,d3]) with
  |true=>
   simp only [c,b,cond_true,cond_false] at a
   cases a
   simp only [eAc] at c
   refine ⟨eAo _,?_⟩
   show z3m _ 35 [.d (.list false 4 f), .d (.list false 4 e)] [] (.d (.int .i64 0)) []
   exact z6g (z7g v9a) (x5s c.1 c.2)
  |false=>
   simp only [b,c,cond_false] at a
   cases a
noncomputable def t2d:List CF:=[⟨x97,t2q⟩,⟨x96,t2p⟩,⟨x95,t2o⟩,⟨x93,t2m⟩,⟨x92,t2l⟩,⟨x94,t2n⟩]++u4t
theorem v6m:GamOk Tryz.prog t2d:=by
 intro cf h
 rcases eCb.1 h with h|h
 ·simp only [eAm,eBg,or_false] at h
  rcases h with rfl|rfl|rfl|rfl|rfl|rfl
  ·exact u6d
  ·exact u6c
  ·exact u6b
  ·exact u5z
  ·exact u5y
  ·exact u6a
 ·exact w5o cf h
noncomputable def orcU:Orc opt:=u4m opt std t2d v3u [(88,[false,true,true,true,true,true,true,true]),(16,[])]
end Go.Am
end
