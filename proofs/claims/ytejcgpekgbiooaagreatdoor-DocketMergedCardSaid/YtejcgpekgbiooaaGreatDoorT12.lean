/- Texts of this claim. -/
import Derived.Test.YtejcgpekgbiooaaGreatDoorT11
set_option linter.unusedVariables false
set_option linter.unusedSimpArgs false
set_option linter.unusedSectionVars false
set_option maxRecDepth 100000
set_option maxHeartbeats 0
open Nat renaming zero_le → eAv
open Bool renaming and_eq_true → eAb
open List renaming mem_append → eBj,mem_cons → eAz
section
namespace Go.Am
open Go Go.RowKit Go.Proofs D12
theorem w6h:z7w (w0f 35 [cdA z73,cdA [d1,d0,d2,d3]]) (.d (.int .i64 0))=true:=by kernel_rfl
end Go.Am
end
section
namespace Go.Am
open Go Go.RowKit Go.Proofs D12
def eqI (a b:Int):Bool:=decide (a=b)
theorem w7f {a b:Int} (h:eqI a b=true):a=b:=of_decide_eq_true h
def x4k:Ctr:=⟨27,[.list 4],[],[(.ret,⟨[(0, .tuple [.list 1, .int .i64])],[],1⟩)]⟩
def v1h (x:(List (List D)×Unit)):Option (List (List D)×(Int×Unit)):=bif z0y x.1 z73 then some (R27,(0,())) else none
def v2f:Prim→Tup (x4k).scs→Option (STup (scss (x4k).outs)):=fun _ x=>v1h x
theorem w9n:CtrOk Tryz.prog x4k (v2f std):=by
 refine ⟨enters_of Tryz.func27 rfl rfl,fun (x:(List (List D)×Unit)) y hy=>?_⟩
 obtain ⟨e0,u⟩:=x
 change v1h (e0,u)=_ at hy
 unfold v1h at hy
 cases h0:(z0y e0 z73) with
 |true=>
  simp only [h0,cond_true] at hy
  cases hy
  refine ⟨eAv _,?_⟩
  show z2w _ 27 [.d (.list false 4 e0)] [] (.tuple [.d (.list false 1 R27), .d (.int .i64 0)]) []
  exact z4z (z5w w9f) (w5p h0 [])
 |false=>
  simp only [h0,cond_false] at hy
  cases hy
def x4j:Ctr:=⟨29,[.list 4],[],[(.ret,⟨[(0, .tuple [.list 4, .int .i64])],[],1⟩)]⟩
def v1g (x:(List (List D)×Unit)):Option (List (List D)×(Int×Unit)):=bif z0y x.1 z73 then some (z0p ff [d1,d0,d2,d3],(0,())) else none
def v2e:Prim→Tup (x4j).scs→Option (STup (scss (x4j).outs)):=fun _ x=>v1g x
theorem w9m:CtrOk Tryz.prog x4j (v2e std):=by
 refine ⟨enters_of Tryz.func29 rfl rfl,fun (x:(List (List D)×Unit)) y hy=>?_⟩
 obtain ⟨e0,u⟩:=x
 change v1g (e0,u)=_ at hy
 unfold v1g at hy
 cases h0:(z0y e0 z73) with
 |true=>
  simp only [h0,cond_true] at hy
  cases hy
  refine ⟨eAv _,?_⟩
  show z2w _ 29 [.d (.list false 4 e0)] [] (.tuple [cdA [d1,d0,d2,d3], .d (.int .i64 0)]) []
  exact z4z (z5w w9e) (w5p h0 [])
 |false=>
  simp only [h0,cond_false] at hy
  cases hy
def x4i:Ctr:=⟨31,[.list 4, .int .i64],[],[(.ret,⟨[(0, .tuple [.list 4, .int .i64])],[],1⟩)]⟩
def v1f (x:(List (List D)×(Int×Unit))):Option (List (List D)×(Int×Unit)):=bif z0y x.1 z73&&eqI x.2.1 2 then some (z0p ff [d0,d1,d2],(0,())) else none
def v2d:Prim→Tup (x4i).scs→Option (STup (scss (x4i).outs)):=fun _ x=>v1f x
theorem w9l:CtrOk Tryz.prog x4i (v2d std):=by
 refine ⟨enters_of Tryz.func31 rfl rfl,fun (x:(List (List D)×(Int×Unit))) y hy=>?_⟩
 obtain ⟨e0,e1,u⟩:=x
 change v1f (e0,e1,u)=_ at hy
 unfold v1f at hy
 cases h0:(z0y e0 z73&&eqI e1 2) with
 |true=>
  simp only [h0,cond_true] at hy
  cases hy
  simp only [eAb] at h0
  refine ⟨eAv _,?_⟩
  show z2w _ 31 [.d (.list false 4 e0), .d (.int .i64 e1)] [] (.tuple [cdA [d0,d1,d2], .d (.int .i64 0)]) []
  rw [w7f h0.2]
  exact z4z (z5w w9d) (w5p h0.1 _)
 |false=>
  simp only [h0,cond_false] at hy
  cases hy
def x4g:Ctr:=⟨46,[.list 4, .list 4],[],[(.ret,⟨[(0, .tuple [.list 4, .int .i64])],[],1⟩)]⟩
def v1d (x:(List (List D)×(List (List D)×Unit))):Option (List (List D)×(Int×Unit)):=bif z0y x.1 [d0,d2]&&z0y x.2.1 [d1,d2] then some (z0p ff [d1,d0,d2],(0,())) else bif z0y x.1 [d0]&&z0y x.2.1 [d3] then some (z0p ff [],(16,())) else none
def v2b:Prim→Tup (x4g).scs→Option (STup (scss (x4g).outs)):=fun _ x=>v1d x
theorem w9j:CtrOk Tryz.prog x4g (v2b std):=by
 refine ⟨enters_of Tryz.func46 rfl rfl,fun (x:(List (List D)×(List (List D)×Unit))) y hy=>?_⟩
 obtain ⟨e0,e1,u⟩:=x
 change v1d (e0,e1,u)=_ at hy
 unfold v1d at hy
 cases h0:(z0y e0 [d0,d2]&&z0y e1 [d1,d2]) with
 |true=>
  simp only [h0,cond_true] at hy
  cases hy
  simp only [eAb] at h0
  refine ⟨eAv _,?_⟩
  show z2w _ 46 [.d (.list false 4 e0), .d (.list false 4 e1)] [] (.tuple [cdA [d1,d0,d2], .d (.int .i64 0)]) []
  exact z4z (z5w w6g) (x04 h0.1 h0.2)
 |false=>
  cases h1:(z0y e0 [d0]&&z0y e1 [d3]) with
  |true=>
   simp only [h1,h0,cond_true,cond_false] at hy
   cases hy
   simp only [eAb] at h1
   refine ⟨eAv _,?_⟩
   show z2w _ 46 [.d (.list false 4 e0), .d (.list false 4 e1)] [] (.tuple [cdA [], .d (.int .i64 16)]) []
   exact z4z (z5w w6f) (x04 h1.1 h1.2)
  |false=>
   simp only [h0,h1,cond_false] at hy
   cases hy
def x4f:Ctr:=⟨48,[.list 4, .list 4],[],[(.ret,⟨[(0, .tuple [.list 1, .int .i64])],[],1⟩)]⟩
def v1c (x:(List (List D)×(List (List D)×Unit))):Option (List (List D)×(Int×Unit)):=bif z0y x.1 z73&&z0y x.2.1 [d1,d0,d3,d2] then some (z09 [4,9,4],(0,())) else none
def v2a:Prim→Tup (x4f).scs→Option (STup (scss (x4f).outs)):=fun _ x=>v1c x
theorem w9i:CtrOk Tryz.prog x4f (v2a std):=by
 refine ⟨enters_of Tryz.func48 rfl rfl,fun (x:(List (List D)×(List (List D)×Unit))) y hy=>?_⟩
 obtain ⟨e0,e1,u⟩:=x
 change v1c (e0,e1,u)=_ at hy
 unfold v1c at hy
 cases h0:(z0y e0 z73&&z0y e1 [d1,d0,d3,d2]) with
 |true=>
  simp only [h0,cond_true] at hy
  cases hy
  simp only [eAb] at h0
  refine ⟨eAv _,?_⟩
  show z2w _ 48 [.d (.list false 4 e0), .d (.list false 4 e1)] [] (.tuple [.d (.list false 1 (z09 [4,9,4])), .d (.int .i64 0)]) []
  exact z4z (z5w w9c) (x04 h0.1 h0.2)
 |false=>
  simp only [h0,cond_false] at hy
  cases hy
def x4h:Ctr:=⟨35,[.list 4, .list 4],[],[(.ret,⟨[(0, .int .i64)],[],1⟩)]⟩
def v1e (x:(List (List D)×(List (List D)×Unit))):Option (Int×Unit):=bif z0y x.1 z73&&z0y x.2.1 [d1,d0,d3,d2] then some (24,()) else bif z0y x.1 z73&&z0y x.2.1 [d1,d0,d2,d3] then some (0,()) else none
def v2c:Prim→Tup (x4h).scs→Option (STup (scss (x4h).outs)):=fun _ x=>v1e x
theorem w9k:CtrOk Tryz.prog x4h (v2c std):=by
 refine ⟨enters_of Tryz.func35 rfl rfl,fun (x:(List (List D)×(List (List D)×Unit))) y hy=>?_⟩
 obtain ⟨e0,e1,u⟩:=x
 change v1e (e0,e1,u)=_ at hy
 unfold v1e at hy
 cases h0:(z0y e0 z73&&z0y e1 [d1,d0,d3,d2]) with
 |true=>
  simp only [h0,cond_true] at hy
  cases hy
  simp only [eAb] at h0
  refine ⟨eAv _,?_⟩
  show z2w _ 35 [.d (.list false 4 e0), .d (.list false 4 e1)] [] (.d (.int .i64 24)) []
  exact z4z (z5w w6i) (x04 h0.1 h0.2)
 |false=>
  cases h1:(z0y e0 z73&&z0y e1 [d1,d0,d2,d3]) with
  |true=>
   simp only [h1,h0,cond_true,cond_false] at hy
   cases hy
   simp only [eAb] at h1
   refine ⟨eAv _,?_⟩
   show z2w _ 35 [.d (.list false 4 e0), .d (.list false 4 e1)] [] (.d (.int .i64 0)) []
   exact z4z (z5w w6h) (x04 h1.1 h1.2)
  |false=>
   simp only [h0,h1,cond_false] at hy
   cases hy
noncomputable def v15:List CF:=[⟨x4k,v2f⟩,⟨x4j,v2e⟩,⟨x4i,v2d⟩,⟨x4g,v2b⟩,⟨x4f,v2a⟩,⟨x4h,v2c⟩]++w8y
theorem w4z:GamOk Tryz.prog v15:=by
 intro cf h
 rcases eBj.1 h with h|h
 ·simp only [eAz,List.not_mem_nil,or_false] at h
  rcases h with rfl|rfl|rfl|rfl|rfl|rfl
  ·exact w9n
  ·exact w9m
  ·exact w9l
  ·exact w9j
  ·exact w9i
  ·exact w9k
 ·exact x8b cf h
noncomputable def orcU:Orc opt:=w8t opt std v15 w25 [(88,[false,true,true,true,true,true,true,true]),(16,[])]
end Go.Am
end
