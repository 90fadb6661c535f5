/- Texts of this claim. -/
import Derived.Test.YtejcgpekgbiooaaGreatDoorT11
set_option linter.unusedVariables false
set_option linter.unusedSimpArgs false
set_option linter.unusedSectionVars false
set_option maxRecDepth 100000
set_option maxHeartbeats 0
section
namespace Go.Am
open Go Go.RowKit Go.Proofs D12
theorem w73:z8q (w1r 35 [cdA z8v,cdA [d1,d0,d2,d3]]) (.d (.int .i64 0))=true:=by kernel_rfl
end Go.Am
end
section
namespace Go.Am
open Go Go.RowKit Go.Proofs D12
def eqI (a b:Int):Bool:=decide (a=b)
theorem w86 {a b:Int} (h:eqI a b=true):a=b:=of_decide_eq_true h
def x5j:Ctr:=⟨27,[.list 4],[],[(.ret,⟨[(0, .tuple [.list 1, .int .i64])],[],1⟩)]⟩
def v3a (x:(List (List D)×Unit)):Option (List (List D)×(Int×Unit)):=bif z06 x.1 z8v then some (R27,(0,())) else none
def v4f:z0n→Tup (x5j).scs→Option (z6k (z6i (x5j).outs)):=fun _ x=>v3a x
theorem v04:z27 Tryz.prog x5j (v4f std):=by
 refine ⟨enters_of Tryz.func27 rfl rfl,fun (x:(List (List D)×Unit)) y hy=>?_⟩
 obtain ⟨e0,u⟩:=x
 change v3a (e0,u)=_ at hy
 unfold v3a at hy
 cases h0:(z06 e0 z8v) with
 |true=>
  simp only [h0,cond_true] at hy
  cases hy
  refine ⟨Nat.zero_le _,?_⟩
  show z3r _ 27 [.d (.list false 4 e0)] [] (.tuple [.d (.list false 1 R27), .d (.int .i64 0)]) []
  exact z5n (z6q v0w) (w7b h0 [])
 |false=>
  simp only [h0,cond_false] at hy
  cases hy
def x5i:Ctr:=⟨29,[.list 4],[],[(.ret,⟨[(0, .tuple [.list 4, .int .i64])],[],1⟩)]⟩
def v29 (x:(List (List D)×Unit)):Option (List (List D)×(Int×Unit)):=bif z06 x.1 z8v then some (z0u ff [d1,d0,d2,d3],(0,())) else none
def v4e:z0n→Tup (x5i).scs→Option (z6k (z6i (x5i).outs)):=fun _ x=>v29 x
theorem v03:z27 Tryz.prog x5i (v4e std):=by
 refine ⟨enters_of Tryz.func29 rfl rfl,fun (x:(List (List D)×Unit)) y hy=>?_⟩
 obtain ⟨e0,u⟩:=x
 change v29 (e0,u)=_ at hy
 unfold v29 at hy
 cases h0:(z06 e0 z8v) with
 |true=>
  simp only [h0,cond_true] at hy
  cases hy
  refine ⟨Nat.zero_le _,?_⟩
  show z3r _ 29 [.d (.list false 4 e0)] [] (.tuple [cdA [d1,d0,d2,d3], .d (.int .i64 0)]) []
  exact z5n (z6q v0v) (w7b h0 [])
 |false=>
  simp only [h0,cond_false] at hy
  cases hy
def x5h:Ctr:=⟨31,[.list 4, .int .i64],[],[(.ret,⟨[(0, .tuple [.list 4, .int .i64])],[],1⟩)]⟩
def v27 (x:(List (List D)×(Int×Unit))):Option (List (List D)×(Int×Unit)):=bif z06 x.1 z8v&&eqI x.2.1 2 then some (z0u ff [d0,d1,d2],(0,())) else none
def v4d:z0n→Tup (x5h).scs→Option (z6k (z6i (x5h).outs)):=fun _ x=>v27 x
theorem v02:z27 Tryz.prog x5h (v4d std):=by
 refine ⟨enters_of Tryz.func31 rfl rfl,fun (x:(List (List D)×(Int×Unit))) y hy=>?_⟩
 obtain ⟨e0,e1,u⟩:=x
 change v27 (e0,e1,u)=_ at hy
 unfold v27 at hy
 cases h0:(z06 e0 z8v&&eqI e1 2) with
 |true=>
  simp only [h0,cond_true] at hy
  cases hy
  simp only [Bool.and_eq_true] at h0
  refine ⟨Nat.zero_le _,?_⟩
  show z3r _ 31 [.d (.list false 4 e0), .d (.int .i64 e1)] [] (.tuple [cdA [d0,d1,d2], .d (.int .i64 0)]) []
  rw [w86 h0.2]
  exact z5n (z6q v0u) (w7b h0.1 _)
 |false=>
  simp only [h0,cond_false] at hy
  cases hy
def x5f:Ctr:=⟨46,[.list 4, .list 4],[],[(.ret,⟨[(0, .tuple [.list 4, .int .i64])],[],1⟩)]⟩
def v2y (x:(List (List D)×(List (List D)×Unit))):Option (List (List D)×(Int×Unit)):=bif z06 x.1 [d0,d2]&&z06 x.2.1 [d1,d2] then some (z0u ff [d1,d0,d2],(0,())) else bif z06 x.1 [d0]&&z06 x.2.1 [d3] then some (z0u ff [],(16,())) else none
def v4b:z0n→Tup (x5f).scs→Option (z6k (z6i (x5f).outs)):=fun _ x=>v2y x
theorem v00:z27 Tryz.prog x5f (v4b std):=by
 refine ⟨enters_of Tryz.func46 rfl rfl,fun (x:(List (List D)×(List (List D)×Unit))) y hy=>?_⟩
 obtain ⟨e0,e1,u⟩:=x
 change v2y (e0,e1,u)=_ at hy
 unfold v2y at hy
 cases h0:(z06 e0 [d0,d2]&&z06 e1 [d1,d2]) with
 |true=>
  simp only [h0,cond_true] at hy
  cases hy
  simp only [Bool.and_eq_true] at h0
  refine ⟨Nat.zero_le _,?_⟩
  show z3r _ 46 [.d (.list false 4 e0), .d (.list false 4 e1)] [] (.tuple [cdA [d1,d0,d2], .d (.int .i64 0)]) []
  exact z5n (z6q w72) (x1y h0.1 h0.2)
 |false=>
  cases h1:(z06 e0 [d0]&&z06 e1 [d3]) with
  |true=>
   simp only [h1,h0,cond_true,cond_false] at hy
   cases hy
   simp only [Bool.and_eq_true] at h1
   refine ⟨Nat.zero_le _,?_⟩
   show z3r _ 46 [.d (.list false 4 e0), .d (.list false 4 e1)] [] (.tuple [cdA [], .d (.int .i64 16)]) []
   exact z5n (z6q w71) (x1y h1.1 h1.2)
  |false=>
   simp only [h0,h1,cond_false] at hy
   cases hy
def x5e:Ctr:=⟨48,[.list 4, .list 4],[],[(.ret,⟨[(0, .tuple [.list 1, .int .i64])],[],1⟩)]⟩
def v2x (x:(List (List D)×(List (List D)×Unit))):Option (List (List D)×(Int×Unit)):=bif z06 x.1 z8v&&z06 x.2.1 [d1,d0,d3,d2] then some (z1j [4,9,4],(0,())) else none
def v4a:z0n→Tup (x5e).scs→Option (z6k (z6i (x5e).outs)):=fun _ x=>v2x x
theorem v0z:z27 Tryz.prog x5e (v4a std):=by
 refine ⟨enters_of Tryz.func48 rfl rfl,fun (x:(List (List D)×(List (List D)×Unit))) y hy=>?_⟩
 obtain ⟨e0,e1,u⟩:=x
 change v2x (e0,e1,u)=_ at hy
 unfold v2x at hy
 cases h0:(z06 e0 z8v&&z06 e1 [d1,d0,d3,d2]) with
 |true=>
  simp only [h0,cond_true] at hy
  cases hy
  simp only [Bool.and_eq_true] at h0
  refine ⟨Nat.zero_le _,?_⟩
  show z3r _ 48 [.d (.list false 4 e0), .d (.list false 4 e1)] [] (.tuple [.d (.list false 1 (z1j [4,9,4])), .d (.int .i64 0)]) []
  exact z5n (z6q v0t) (x1y h0.1 h0.2)
 |false=>
  simp only [h0,cond_false] at hy
  cases hy
def x5g:Ctr:=⟨35,[.list 4, .list 4],[],[(.ret,⟨[(0, .int .i64)],[],1⟩)]⟩
def v2z (x:(List (List D)×(List (List D)×Unit))):Option (Int×Unit):=bif z06 x.1 z8v&&z06 x.2.1 [d1,d0,d3,d2] then some (24,()) else bif z06 x.1 z8v&&z06 x.2.1 [d1,d0,d2,d3] then some (0,()) else none
def v4c:z0n→Tup (x5g).scs→Option (z6k (z6i (x5g).outs)):=fun _ x=>v2z x
theorem v01:z27 Tryz.prog x5g (v4c std):=by
 refine ⟨enters_of Tryz.func35 rfl rfl,fun (x:(List (List D)×(List (List D)×Unit))) y hy=>?_⟩
 obtain ⟨e0,e1,u⟩:=x
 change v2z (e0,e1,u)=_ at hy
 unfold v2z at hy
 cases h0:(z06 e0 z8v&&z06 e1 [d1,d0,d3,d2]) with
 |true=>
  simp only [h0,cond_true] at hy
  cases hy
  simp only [Bool.and_eq_true] at h0
  refine ⟨Nat.zero_le _,?_⟩
  show z3r _ 35 [.d (.list false 4 e0), .d (.list false 4 e1)] [] (.d (.int .i64 24)) []
  exact z5n (z6q w74) (x1y h0.1 h0.2)
 |false=>
  cases h1:(z06 e0 z8v&&z06 e1 [d1,d0,d2,d3]) with
  |true=>
   simp only [h1,h0,cond_true,cond_false] at hy
   cases hy
   simp only [Bool.and_eq_true] at h1
   refine ⟨Nat.zero_le _,?_⟩
   show z3r _ 35 [.d (.list false 4 e0), .d (.list false 4 e1)] [] (.d (.int .i64 0)) []
   exact z5n (z6q w73) (x1y h1.1 h1.2)
  |false=>
   simp only [h0,h1,cond_false] at hy
   cases hy
noncomputable def v3z:List CF:=[⟨x5j,v4f⟩,⟨x5i,v4e⟩,⟨x5h,v4d⟩,⟨x5f,v4b⟩,⟨x5e,v4a⟩,⟨x5g,v4c⟩]++v0f
theorem w6m:z5q Tryz.prog v3z:=by
 intro cf h
 rcases List.mem_append.1 h with h|h
 ·simp only [List.mem_cons,List.not_mem_nil,or_false] at h
  rcases h with rfl|rfl|rfl|rfl|rfl|rfl
  ·exact v04
  ·exact v03
  ·exact v02
  ·exact v00
  ·exact v0z
  ·exact v01
 ·exact x9j cf h
noncomputable def orcU:Orc opt:=v0a opt std v3z w4q [(88,[false,true,true,true,true,true,true,true]),(16,[])]
end Go.Am
end
