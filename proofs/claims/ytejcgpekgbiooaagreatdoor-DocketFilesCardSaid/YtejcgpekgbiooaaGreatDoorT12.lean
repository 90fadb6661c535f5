/- Texts of this claim. -/
import Derived.Test.YtejcgpekgbiooaaGreatDoorT11
set_option linter.unusedVariables false
set_option linter.unusedSimpArgs false
set_option linter.unusedSectionVars false
set_option maxRecDepth 100000
set_option maxHeartbeats 0
open Nat renaming zero_le → eAv
open Bool renaming and_eq_true → eAb
open List renaming mem_append → eBj,mem_cons → eAz
section
namespace Go.Am
open Go Go.RowKit Go.Proofs D12
theorem w6w:z7y (w0r 35 [cdA z77,cdA [d1,d0,d2,d3]]) (.d (.int .i64 0))=true:=by kernel_rfl
end Go.Am
end
section
namespace Go.Am
open Go Go.RowKit Go.Proofs D12
def eqI (a b:Int):Bool:=decide (a=b)
theorem w7u {a b:Int} (h:eqI a b=true):a=b:=of_decide_eq_true h
def x4t:Ctr:=⟨27,[.list 4],[],[(.ret,⟨[(0, .tuple [.list 1, .int .i64])],[],1⟩)]⟩
def v1x (x:(List (List D)×Unit)):Option (List (List D)×(Int×Unit)):=bif z0y x.1 z77 then some (R27,(0,())) else none
def v2v:Prim→Tup (x4t).scs→Option (STup (scss (x4t).outs)):=fun _ x=>v1x x
theorem w93:CtrOk Tryz.prog x4t (v2v std):=by
 refine ⟨enters_of Tryz.func27 rfl rfl,fun (x:(List (List D)×Unit)) y hy=>?_⟩
 obtain ⟨e0,u⟩:=x
 change v1x (e0,u)=_ at hy
 unfold v1x at hy
 cases h0:(z0y e0 z77) with
 |true=>
  simp only [h0,cond_true] at hy
  cases hy
  refine ⟨eAv _,?_⟩
  show z2z _ 27 [.d (.list false 4 e0)] [] (.tuple [.d (.list false 1 R27), .d (.int .i64 0)]) []
  exact z40 (z5y w9v) (w53 h0 [])
 |false=>
  simp only [h0,cond_false] at hy
  cases hy
def x4s:Ctr:=⟨29,[.list 4],[],[(.ret,⟨[(0, .tuple [.list 4, .int .i64])],[],1⟩)]⟩
def v1w (x:(List (List D)×Unit)):Option (List (List D)×(Int×Unit)):=bif z0y x.1 z77 then some (z0p ff [d1,d0,d2,d3],(0,())) else none
def v2u:Prim→Tup (x4s).scs→Option (STup (scss (x4s).outs)):=fun _ x=>v1w x
theorem w92:CtrOk Tryz.prog x4s (v2u std):=by
 refine ⟨enters_of Tryz.func29 rfl rfl,fun (x:(List (List D)×Unit)) y hy=>?_⟩
 obtain ⟨e0,u⟩:=x
 change v1w (e0,u)=_ at hy
 unfold v1w at hy
 cases h0:(z0y e0 z77) with
 |true=>
  simp only [h0,cond_true] at hy
  cases hy
  refine ⟨eAv _,?_⟩
  show z2z _ 29 [.d (.list false 4 e0)] [] (.tuple [cdA [d1,d0,d2,d3], .d (.int .i64 0)]) []
  exact z40 (z5y w9u) (w53 h0 [])
 |false=>
  simp only [h0,cond_false] at hy
  cases hy
def x4r:Ctr:=⟨31,[.list 4, .int .i64],[],[(.ret,⟨[(0, .tuple [.list 4, .int .i64])],[],1⟩)]⟩
def v1v (x:(List (List D)×(Int×Unit))):Option (List (List D)×(Int×Unit)):=bif z0y x.1 z77&&eqI x.2.1 2 then some (z0p ff [d0,d1,d2],(0,())) else none
def v2t:Prim→Tup (x4r).scs→Option (STup (scss (x4r).outs)):=fun _ x=>v1v x
theorem w91:CtrOk Tryz.prog x4r (v2t std):=by
 refine ⟨enters_of Tryz.func31 rfl rfl,fun (x:(List (List D)×(Int×Unit))) y hy=>?_⟩
 obtain ⟨e0,e1,u⟩:=x
 change v1v (e0,e1,u)=_ at hy
 unfold v1v at hy
 cases h0:(z0y e0 z77&&eqI e1 2) with
 |true=>
  simp only [h0,cond_true] at hy
  cases hy
  simp only [eAb] at h0
  refine ⟨eAv _,?_⟩
  show z2z _ 31 [.d (.list false 4 e0), .d (.int .i64 e1)] [] (.tuple [cdA [d0,d1,d2], .d (.int .i64 0)]) []
  rw [w7u h0.2]
  exact z40 (z5y w9t) (w53 h0.1 _)
 |false=>
  simp only [h0,cond_false] at hy
  cases hy
def x4p:Ctr:=⟨46,[.list 4, .list 4],[],[(.ret,⟨[(0, .tuple [.list 4, .int .i64])],[],1⟩)]⟩
def v1t (x:(List (List D)×(List (List D)×Unit))):Option (List (List D)×(Int×Unit)):=bif z0y x.1 [d0,d2]&&z0y x.2.1 [d1,d2] then some (z0p ff [d1,d0,d2],(0,())) else bif z0y x.1 [d0]&&z0y x.2.1 [d3] then some (z0p ff [],(16,())) else none
def v2r:Prim→Tup (x4p).scs→Option (STup (scss (x4p).outs)):=fun _ x=>v1t x
theorem w9z:CtrOk Tryz.prog x4p (v2r std):=by
 refine ⟨enters_of Tryz.func46 rfl rfl,fun (x:(List (List D)×(List (List D)×Unit))) y hy=>?_⟩
 obtain ⟨e0,e1,u⟩:=x
 change v1t (e0,e1,u)=_ at hy
 unfold v1t at hy
 cases h0:(z0y e0 [d0,d2]&&z0y e1 [d1,d2]) with
 |true=>
  simp only [h0,cond_true] at hy
  cases hy
  simp only [eAb] at h0
  refine ⟨eAv _,?_⟩
  show z2z _ 46 [.d (.list false 4 e0), .d (.list false 4 e1)] [] (.tuple [cdA [d1,d0,d2], .d (.int .i64 0)]) []
  exact z40 (z5y w6v) (x1c h0.1 h0.2)
 |false=>
  cases h1:(z0y e0 [d0]&&z0y e1 [d3]) with
  |true=>
   simp only [h1,h0,cond_true,cond_false] at hy
   cases hy
   simp only [eAb] at h1
   refine ⟨eAv _,?_⟩
   show z2z _ 46 [.d (.list false 4 e0), .d (.list false 4 e1)] [] (.tuple [cdA [], .d (.int .i64 16)]) []
   exact z40 (z5y w6u) (x1c h1.1 h1.2)
  |false=>
   simp only [h0,h1,cond_false] at hy
   cases hy
def x4o:Ctr:=⟨48,[.list 4, .list 4],[],[(.ret,⟨[(0, .tuple [.list 1, .int .i64])],[],1⟩)]⟩
def v1s (x:(List (List D)×(List (List D)×Unit))):Option (List (List D)×(Int×Unit)):=bif z0y x.1 z77&&z0y x.2.1 [d1,d0,d3,d2] then some (z1a [4,9,4],(0,())) else none
def v2q:Prim→Tup (x4o).scs→Option (STup (scss (x4o).outs)):=fun _ x=>v1s x
theorem w9y:CtrOk Tryz.prog x4o (v2q std):=by
 refine ⟨enters_of Tryz.func48 rfl rfl,fun (x:(List (List D)×(List (List D)×Unit))) y hy=>?_⟩
 obtain ⟨e0,e1,u⟩:=x
 change v1s (e0,e1,u)=_ at hy
 unfold v1s at hy
 cases h0:(z0y e0 z77&&z0y e1 [d1,d0,d3,d2]) with
 |true=>
  simp only [h0,cond_true] at hy
  cases hy
  simp only [eAb] at h0
  refine ⟨eAv _,?_⟩
  show z2z _ 48 [.d (.list false 4 e0), .d (.list false 4 e1)] [] (.tuple [.d (.list false 1 (z1a [4,9,4])), .d (.int .i64 0)]) []
  exact z40 (z5y w9s) (x1c h0.1 h0.2)
 |false=>
  simp only [h0,cond_false] at hy
  cases hy
def x4q:Ctr:=⟨35,[.list 4, .list 4],[],[(.ret,⟨[(0, .int .i64)],[],1⟩)]⟩
def v1u (x:(List (List D)×(List (List D)×Unit))):Option (Int×Unit):=bif z0y x.1 z77&&z0y x.2.1 [d1,d0,d3,d2] then some (24,()) else bif z0y x.1 z77&&z0y x.2.1 [d1,d0,d2,d3] then some (0,()) else none
def v2s:Prim→Tup (x4q).scs→Option (STup (scss (x4q).outs)):=fun _ x=>v1u x
theorem w90:CtrOk Tryz.prog x4q (v2s std):=by
 refine ⟨enters_of Tryz.func35 rfl rfl,fun (x:(List (List D)×(List (List D)×Unit))) y hy=>?_⟩
 obtain ⟨e0,e1,u⟩:=x
 change v1u (e0,e1,u)=_ at hy
 unfold v1u at hy
 cases h0:(z0y e0 z77&&z0y e1 [d1,d0,d3,d2]) with
 |true=>
  simp only [h0,cond_true] at hy
  cases hy
  simp only [eAb] at h0
  refine ⟨eAv _,?_⟩
  show z2z _ 35 [.d (.list false 4 e0), .d (.list false 4 e1)] [] (.d (.int .i64 24)) []
  exact z40 (z5y w6x) (x1c h0.1 h0.2)
 |false=>
  cases h1:(z0y e0 z77&&z0y e1 [d1,d0,d2,d3]) with
  |true=>
   simp only [h1,h0,cond_true,cond_false] at hy
   cases hy
   simp only [eAb] at h1
   refine ⟨eAv _,?_⟩
   show z2z _ 35 [.d (.list false 4 e0), .d (.list false 4 e1)] [] (.d (.int .i64 0)) []
   exact z40 (z5y w6w) (x1c h1.1 h1.2)
  |false=>
   simp only [h0,h1,cond_false] at hy
   cases hy
noncomputable def v2l:List CF:=[⟨x4t,v2v⟩,⟨x4s,v2u⟩,⟨x4r,v2t⟩,⟨x4p,v2r⟩,⟨x4o,v2q⟩,⟨x4q,v2s⟩]++w9d
theorem w5d:GamOk Tryz.prog v2l:=by
 intro cf h
 rcases eBj.1 h with h|h
 ·simp only [eAz,List.not_mem_nil,or_false] at h
  rcases h with rfl|rfl|rfl|rfl|rfl|rfl
  ·exact w93
  ·exact w92
  ·exact w91
  ·exact w9z
  ·exact w9y
  ·exact w90
 ·exact x8j cf h
noncomputable def orcU:Orc opt:=w88 opt std v2l w3j [(88,[false,true,true,true,true,true,true,true]),(16,[])]
end Go.Am
end
